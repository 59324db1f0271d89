import Derived.Test.YtmppebmaeckklaaGreatDoorV0
import Derived.Laws.MakeOwn
import Derived.ArgAppend
import Derived.MapKept
import Derived.WideKeyRuns
import Derived.Lib.AppendStr
import Derived.Laws.IdiomStrings
import Derived.Orders
set_option linter.all false
namespace Go.GP
variable {α:Type}{us:List α}{L:List α}{p:Nat}
theorem ug(h:p+us.length<=L.length)(i:Nat):
  (cO p us L)[i]? =if i<p then L[i]? else if i<p+us.length then us[i -p]? else L[i]?:=by
 unfold cO;rw[F5];by_cases h1:i<p
 .rw[if_pos h1,O7 F8,Z9,if_pos h1]
 .rw[if_neg h1,F6 F8];have e:(L.take p).length=p:=by simp;omega
  rw[e];by_cases h2:i<p+us.length
  .rw[if_pos h2,O7 l7]
  .rw[if_neg h2,F6 l7,O0];congr 1;omega
theorem yP(h:p+us.length<=L.length):(cO p us L).length=L.length:=by unfold cO;simp;omega
variable {b:Nat}{n:Nat}
theorem a4K(h:p+us.length<=L.length)(hd:b+n<=p\/p+us.length<=b):((cO p us L).drop b).take n=(L.drop b).take n:=by
 apply au;intro i;rw[Z9,Z9];split
 .rw[O0,O0,ug h];rcases hd with hd|hd
  .rw[if_pos l7]
  .rw[if_neg l7,if_neg l7]
 .rfl
variable {off:Nat}
theorem RI(h:b+n<=L.length)(ho:off+us.length<=n):((cO (b+off) us L).drop b).take n=cO off us ((L.drop b).take n):=by
 have hl:((L.drop b).take n).length=n:=by simp;omega
 apply au;intro i;rw[Z9,ug (by rw[hl];exact ho)];by_cases hi:i<n
 .rw[if_pos hi,O0,ug l7,Z9,if_pos hi,O0];by_cases h1:i<off
  .rw[if_pos l7,if_pos h1]
  .rw[if_neg l7,if_neg h1];by_cases h2:i<off+us.length
   .rw[if_pos l7,if_pos h2];congr 1;omega
   .rw[if_neg l7,if_neg h2]
 .rw[if_neg hi,if_neg l7,if_neg l7,Z9,if_neg hi]
variable {blk:Nat}
theorem Ll{w:World}{c:Array Value}{T:TypeId}{f:Nat×Nat}(hb:w.heap[blk]? =some (.cells c T f))(L:c5A)(off n:Nat)(h:off+n<=L.length):
  dJ (w.setRow blk L.toArray).heap blk off n=some ((L.drop off).take n):=by
 rw[kE (setRow_heap w blk c L.toArray T f hb) off n (by simpa using h)]
theorem a8I{a b:Nat}(h:a<b):Nat.blt a b=true:=by unfold Nat.blt;exact mO h
theorem a8H{a b:Nat}(h:¬a<b):Nat.blt a b=false:=by
 cases e:Nat.blt a b
 .rfl
 .exact absurd (FP e) h
theorem qy{α:Type} :∀{Os:List (List α)} {i:Nat} {O1 P O2:List α},Os[i]? =some (O1++P++O2)->Os.flatten.Perm ((Os.set i (O1++O2)).flatten++P)
 |[],i,_,_,_,h=>by simp at h|A::Os,0,O1,P,O2,h=>by simp at h;subst h;simp only[List.set_cons_zero,List.flatten_cons,F5];refine rf O1 ?_;have:=(jR (l₁:=P) (l₂:=O2++Os.flatten));simpa using this|A::Os,i+1,O1,P,O2,h=>by simp at h;simp only[List.set_cons_succ,List.flatten_cons,F5];exact rf A (qy (by simpa using h))
variable {Op:c5B}{idx:Nat}{Q:α->Sm->Prop}{t:TypeId}{md:M}{xs:List md.den}{K:Cmd α}{bx:Nat}{u:Value}{i:Nat}{k:Option Nat}{sz:Nat}{q:Nat}{x:Operand}
section
variable {X:Fx} {cl ch:Nat} {S:Sm} {m:Mp} {ok:Nat->Ty->Prop} {a:Act} {w:World} {o:Oper}
theorem b6N{h h' :Array Obj}{ok:Nat->Ty->Prop}{m:Mp}(k:∀b t,ok b t->h'[b]? =h[b]?){cs:List V}{vs:c5A}(hr:gX ⟨h,ok,m⟩ cs vs):gX ⟨h',ok,m⟩ cs vs:=
 Fh (C:=⟨h,ok,m⟩) (D:=⟨h',ok,m⟩) ⟨λ_ _ h=>h,k,λ_ _ h=>h⟩ hr
theorem IM{α:Type}{Q:α->Sm->Prop}{S:Sm}{h:Array Obj}{ok:Nat->Ty->Prop} :∀(md:M) (off:Nat) {x:md.den} {es:c5A} {O:c5B} {K:V->Cmd α} (hr:nG h ok md none x es O)
  (hK:∀v l ks u O1 Op O2,O=O1++Op++O2->nG h ok md (some off) x es (O1++O2)->es[off]? =some u->l.view none u->
   (∀mp n,BB ⟨h,ok,mi mp n l ks⟩ n v/\P5 (mi mp n l ks) n v=Op/\mi mp n l ks n=some l)->v≠.undef->(K v).post S Q),
  (SQ md off x K .fail).post S Q
 | .own t,off,x,es,O,K,hr,hK=>by unfold SQ;refine bV λhb=>?_;have:=fJ hb;subst this;obtain⟨l,v,rfl,hv,ha,rfl⟩:=wO.1 hr;refine hK _ l [] v [] l.blks [] A7 ⟨v,rfl,lV hv,rfl⟩ rfl hv (λmp n=>⟨⟨l,A7,DR ha⟩,?_,A7⟩) A7;cases l<;>first|(simp[P5,Loc.blks];done)|cases ha
 | .owns md,off,x,es,O,K,hr,hK=>by unfold SQ;refine bV λhb=>?_;have:=fJ hb;subst this;obtain⟨he,l,v,Os,rfl,hv,ha,rfl⟩:=yA.1 hr;refine hK _ l Os.flatten v [] (l.blks++Os.flatten) [] A7 ⟨v,rfl,lV hv,rfl⟩ rfl hv (λmp n=>⟨⟨he,l,Os,A7,⟨ha,trivial⟩,A7⟩,?_,A7⟩) A7;cases l<;>first|(simp[P5,Loc.blks];done)|cases ha
 | .pair p q,off,x,es,O,K,hr,hK=>by
  unfold SQ;obtain⟨c,d,O1,O2,rfl,rfl,h1,h2⟩:=hr;have hc:=bf h1;by_cases hlt:off<p.size
  .have hb:Nat.blt off p.size=true:=a8I hlt;simp only[hb,cond_true];refine IM p off h1 λv l ks u A Op B e1 e2 e3 e4 e5 e6=>?_;refine hK v l ks u A Op (B++O2) (by subst e1;simp) ⟨c,d,A++B,O2,rfl,A7,?_,?_⟩ (by rw[O7 (by rw[hc];exact hlt)];exact e3) e4 e5 e6
   .simp only[hlt,if_true];exact e2
   .simp only[hlt,if_true];exact h2
  .have hb:Nat.blt off p.size=false:=a8H hlt;simp only[hb,cond_false];refine IM q (off -p.size) h2 λv l ks u A Op B e1 e2 e3 e4 e5 e6=>?_;refine hK v l ks u (O1++A) Op B (by subst e1;simp) ⟨c,d,O1,A++B,rfl,A7,?_,?_⟩ (by rw[F6 l7,hc];exact e3) e4 e5 e6
   .simp only[hlt,if_false];exact h1
   .simp only[hlt,if_false];exact e2
 | .dat _,_,_,_,_,_,_,_=>trivial| .unit,_,_,_,_,_,_,_=>trivial| .box _,_,_,_,_,_,_,_=>trivial| .ownb _,_,_,_,_,_,_,_=>trivial| .cell _,_,_,_,_,_,_,_=>trivial| .fr _,_,_,_,_,_,_,_=>trivial| .sbx _ _,_,_,_,_,_,_,_=>trivial| .lp _,_,_,_,_,_,_,_=>trivial| .dv ..,_,_,_,_,_,_,_=>trivial| .ownr ..,_,_,_,_,_,_,_=>trivial| .sit,_,_,_,_,_,_,_=>trivial| .rp _,_,_,_,_,_,_,_=>trivial| .fn _ _,_,_,_,_,_,_,_=>trivial| .ifc _ _,_,_,_,_,_,_,_=>trivial
def Qs(h:Array Obj)(ok:Nat->Ty->Prop)(v:V)(u:Value)(Op:c5B):Prop:=
 (v= .nl/\u= .slice none 0 0/\Op=[])\/(∃t ys l,v= .barr t ys/\l.view none u/\arrOk ⟨h,ok,nom⟩ t ys l/\Op=l.blks)\/
 (∃md ys l Os,v= .barrs md ys none/\md.el=true/\l.view none u/\vC h md.size (λ_ x es O=>nG h ok md none x es O) ys Os l/\Op=l.blks++Os.flatten)
theorem Qs.one{h:Array Obj}{v:V}(k:Qs h ok v u Op):u.oneCell' =true:=by
 rcases k with⟨_,rfl,_⟩|⟨_,_,l,_,hv,_⟩|⟨_,_,l,_,_,_,hv,_⟩
 .rfl
 .exact lV hv
 .exact lV hv
theorem GL{α:Type}{Q:α->Sm->Prop}{S:Sm}{h:Array Obj}{ok:Nat->Ty->Prop}{v:V}{u:Value}{Op:c5B}(hp:Qs h ok v u Op):∀(md:M) (off:Nat) {ho:Option Nat} {x:md.den} {es:c5A} {O:c5B} {K:md.den->Cmd α}
  (hr:nG h ok md ho x es O) (hh:ho=none\/ho=some off) (hel:md.el=true)
  (hK:∀y O1 Old O2,O=O1++Old++O2->nG h ok md none y (es.set off u) (O1++Op++O2)->off<es.length->(K y).post S Q),
  (VR md off v x K .fail).post S Q
 | .own t,off,ho,x,es,O,K,hr,hh,hel,hK=>by
  unfold VR;refine bV λhb=>?_;have:=fJ hb;subst this;obtain⟨v0,rfl,_,_⟩:=hr;rcases hp with⟨rfl,rfl,rfl⟩|⟨t',ys,l,rfl,hv,ha,rfl⟩|⟨md',ys,l,Os,rfl,_,hv,ha,rfl⟩
  .have ht:t.isEnt=false:=by simpa[M.el]using hel
   simp only[ht,cond_false];exact hK [] [] O [] A7 ⟨_,rfl,rfl,.nil,rfl,⟨rfl,ht⟩,rfl⟩ A7
  .simp only;refine eU λe=>?_;subst e;exact hK _ [] O [] A7 ⟨u,rfl,lV hv,l,hv,ha,A7⟩ A7
  .trivial
 | .owns md,off,ho,x,es,O,K,hr,hh,hel,hK=>by
  unfold VR;refine bV λhb=>?_;have:=fJ hb;subst this;obtain⟨v0,rfl,_,_⟩:=hr;rcases hp with⟨rfl,rfl,rfl⟩|⟨t',ys,l,rfl,hv,ha,rfl⟩|⟨md',ys,l,Os,rfl,he,hv,ha,rfl⟩
  .exact hK [] [] O [] A7 ⟨_,rfl,rfl,by simpa[M.el]using hel,.nil,[],rfl,⟨rfl,rfl⟩,rfl⟩ A7
  .trivial
  .simp only;refine Ic λe=>?_;subst e;exact hK _ [] O [] A7 ⟨u,rfl,lV hv,he,l,Os,hv,ha,A7⟩ A7
 | .pair p q,off,ho,x,es,O,K,hr,hh,hel,hK=>by
  unfold VR;obtain⟨c,d,O1,O2,rfl,rfl,h1,h2⟩:=hr;have hc:=bf h1;have hel' :p.el=true/\q.el=true:=by simpa[M.el]using hel
  by_cases hlt:off<p.size
  .have hb:Nat.blt off p.size=true:=a8I hlt;simp only[hb,cond_true];have h2' :nG h ok q none x.2 d O2:=by
    rcases hh with rfl|rfl
    .exact h2
    .simpa only[hlt,if_true]using h2
   refine GL hp p off h1 (by rcases hh with rfl|rfl<;>first|exact .inl rfl|(right;simp only[hlt,if_true])) hel'.1 λy A Old B e1 e2 e3=>?_;refine hK _ A Old (B++O2) (by subst e1;simp) ⟨c.set off u,d,A++Op++B,O2,?_,A7,e2,h2'⟩ F8;rw[List.set_append_left _ _ l7]
  .have hb:Nat.blt off p.size=false:=a8H hlt;simp only[hb,cond_false];have h1' :nG h ok p none x.1 c O1:=by
    rcases hh with rfl|rfl
    .exact h1
    .simpa only[hlt,if_false]using h1
   refine GL hp q (off -p.size) h2 (by rcases hh with rfl|rfl<;>first|exact .inl rfl|(right;simp only[hlt,if_false])) hel'.2 λy A Old B e1 e2 e3=>?_;refine hK _ (O1++A) Old B (by subst e1;simp) ⟨c,d.set (off -p.size) u,O1,A++Op++B,?_,A7,h1',e2⟩ F8;rw[rq _ _ l7,hc]
 | .dat _,_,_,_,_,_,_,_,_,_,_=>trivial| .unit,_,_,_,_,_,_,_,_,_,_=>trivial| .box _,_,_,_,_,_,_,_,_,_,_=>trivial| .ownb _,_,_,_,_,_,_,_,_,_,_=>trivial| .cell _,_,_,_,_,_,_,_,_,_,_=>trivial| .fr _,_,_,_,_,_,_,_,_,_,_=>trivial| .sbx _ _,_,_,_,_,_,_,_,_,_,_=>trivial| .lp _,_,_,_,_,_,_,_,_,_,_=>trivial| .dv ..,_,_,_,_,_,_,_,_,_,_=>trivial| .ownr ..,_,_,_,_,_,_,_,_,_,_=>trivial| .sit,_,_,_,_,_,_,_,_,_,_=>trivial| .rp _,_,_,_,_,_,_,_,_,_,_=>trivial| .fn _ _,_,_,_,_,_,_,_,_,_,_=>trivial| .ifc _ _,_,_,_,_,_,_,_,_,_,_=>trivial
theorem FH{α:Type}{Q:α->Sm->Prop}{C:Cx}{ln:Ty->Bool} :∀(t:Ty) {cs:List V} {K:t.den->List V->Cmd α} {S:Sm} {vs:c5A} (hf:t.flat=true) (hL:gX C cs vs)
  (hK:∀x r us us',vs=us++us' ->(∀h ok,lJ h ok t x us)->gX C r us' ->(K x r).post S Q),(nN ln t cs K).post S Q
 | .bool,cs,K,S,vs,hf,hL,hK=>by
  unfold nN;split
  .obtain⟨v,r,rfl,h1,_,h3⟩:=hL;exact hK _ _ [v] r rfl (λ_ _=>by simp only[vX]at h1;simp[lJ,h1]) h3
  .trivial
 | .int k,cs,K,S,vs,hf,hL,hK=>by
  unfold nN;split
  .obtain⟨v,r,rfl,h1,_,h3⟩:=hL;refine aN λe=>?_;have e:=of_decide_eq_true e;subst e;exact hK _ _ [v] r rfl (λ_ _=>by simp only[vX]at h1;simp[lJ,h1]) h3
  .trivial
 | .str,cs,K,S,vs,hf,hL,hK=>by
  unfold nN;split
  .obtain⟨v,r,rfl,h1,_,h3⟩:=hL;exact hK _ _ [v] r rfl (λ_ _=>by simp only[vX]at h1;simp[lJ,h1]) h3
  .trivial
 | .unit,cs,K,S,vs,hf,hL,hK=>by unfold nN;exact hK _ _ [] vs rfl (λ_ _=>rfl) hL
 | .prod p q,cs,K,S,vs,hf,hL,hK=>by unfold nN;simp[Ty.flat]at hf;refine FH p hf.1 hL λx r us us' e1 h1 l1=>?_;refine FH q hf.2 l1 λy r' vs2 vs2' e2 h2 l2=>?_;subst e1;subst e2;exact hK _ _ (us++vs2) vs2' A7 (λh ok=>⟨us,vs2,rfl,h1 h ok,h2 h ok⟩) l2| .sl t,cs,K,S,vs,hf,hL,hK=>by simp[Ty.flat]at hf
theorem a2t{us c d:List α}(h:off+us.length<=c.length):cO off us (c++d)=cO off us c++d:=by
 apply au;intro i;have hs:=yP h;rw[ug F8];by_cases hi:i<c.length
 .rw[O7 hi,O7 (l₁:=cO off us c) (by rw[hs];exact hi),ug h]
 .rw[F6 l7,F6 (l₁:=cO off us c) (by rw[hs];omega),hs,if_neg l7,if_neg l7]
theorem a0b{us c d:List α}(h:(off -c.length)+us.length<=d.length)(h' :c.length<=off):cO off us (c++d)=c++cO (off -c.length) us d:=by
 apply au;intro i;rw[ug F8];by_cases hi:i<c.length
 .rw[O7 hi,if_pos l7,O7 hi]
 .rw[F6 l7,F6 (l₂:=cO (off -c.length) us d) l7,ug h];by_cases h1:i<off
  .simp only[h1,if_true,show i -c.length<off -c.length by omega]
  .by_cases h2:i<off+us.length
   .simp only[h1,if_false,h2,if_true,show ¬(i -c.length<off -c.length) by omega,show i -c.length<off -c.length+us.length by omega];congr 1;omega
   .simp only[h1,if_false,h2,show ¬(i -c.length<off -c.length) by omega,show ¬(i -c.length<off -c.length+us.length) by omega]
theorem QE{α:Type}{Q:α->Sm->Prop}{h:Array Obj}{ok:Nat->Ty->Prop}{m:Mp} :∀(md:M) (off:Nat) {ho:Option Nat} {x:md.den} {es us:c5A} {vs:List V} {O:c5B} {K:md.den->Cmd α} {S:Sm}
  (hr:nG h ok md ho x es O) (hv:gX ⟨h,ok,m⟩ vs us)
  (hK:∀y,off+us.length<=es.length->nG h ok md ho y (cO off us es) O->(K y).post S Q),(a7d md off vs x K).post S Q
 | .dat t,off,ho,x,es,us,vs,O,K,S,hr,hv,hK=>by
  unfold a7d;refine aN λhf=>BA _ _ _ λhle=>?_;rw[oM]at hle;obtain⟨hr,rfl⟩:=hr;have hl:=fO hr;have hlv:=lU hv;have hnew:=CG (off:=off) hv (ou (C:=⟨h,ok,m⟩) hr);refine FH t hf hnew λy q vs1 vs2 e1 h1 l1=>?_;cases q with
  |cons _ _=>trivial|nil=>
  simp only[gX]at l1;subst l1;simp only[D8]at e1;subst e1;exact hK y l7 ⟨h1 _ _,rfl⟩
 | .pair p q,off,ho,x,es,us,vs,O,K,S,hr,hv,hK=>by
  unfold a7d;obtain⟨c,d,O1,O2,rfl,rfl,h1,h2⟩:=hr;have hc:=bf h1;by_cases hlt:off<p.size
  .have hb:Nat.blt off p.size=true:=a8I hlt;simp only[hb,cond_true];refine QE p off h1 hv λy hle e2=>?_;exact hK _ F8 ⟨_,d,O1,O2,a2t hle,rfl,e2,h2⟩
  .have hb:Nat.blt off p.size=false:=a8H hlt;simp only[hb,cond_false];refine QE q (off -p.size) h2 hv λy hle e2=>?_;refine hK _ F8 ⟨c,_,O1,O2,?_,rfl,h1,e2⟩;rw[a0b l7 l7,hc]
 | .own _,_,_,_,_,_,_,_,_,_,_,_,_=>trivial| .owns _,_,_,_,_,_,_,_,_,_,_,_,_=>trivial| .unit,_,_,_,_,_,_,_,_,_,_,_,_=>trivial| .box _,_,_,_,_,_,_,_,_,_,_,_,_=>trivial| .ownb _,_,_,_,_,_,_,_,_,_,_,_,_=>trivial| .cell _,_,_,_,_,_,_,_,_,_,_,_,_=>trivial| .fr _,_,_,_,_,_,_,_,_,_,_,_,_=>trivial| .sbx _ _,_,_,_,_,_,_,_,_,_,_,_,_=>trivial| .lp _,_,_,_,_,_,_,_,_,_,_,_,_=>trivial| .dv ..,_,_,_,_,_,_,_,_,_,_,_,_=>trivial| .ownr ..,_,_,_,_,_,_,_,_,_,_,_,_=>trivial| .sit,_,_,_,_,_,_,_,_,_,_,_,_=>trivial| .rp _,_,_,_,_,_,_,_,_,_,_,_,_=>trivial| .fn _ _,_,_,_,_,_,_,_,_,_,_,_,_=>trivial| .ifc _ _,_,_,_,_,_,_,_,_,_,_,_,_=>trivial
theorem YH(i:Nat):XO none i=none:=rfl
theorem Iu{i o j:Nat}(h:j≠i):XO (some (i,o,k)) j=none:=by simp[XO,h]
theorem LZ{i o:Nat} :XO (some (i,o,k)) i=some o:=by simp[XO]
theorem KU{C:Cx}{hole:Option (Nat×Nat×Option Nat)}{blk off len cap sz:Nat}{Os:List c5B}(he:md.el=true)(hm:C.m n=some (.arr blk off len cap sz))
  (ha:vC C.h md.size (λi x es O=>nG C.h C.ok md (XO hole i) x es O) xs Os (.arr blk off len cap sz)) (hk:C.m.kid n=Os.flatten) (hh:VI C md.size (.arr blk off len cap sz) hole):BB C n (.barrs md xs hole):=⟨he,_,Os,hm,⟨ha,hh⟩,hk⟩
theorem EU{j o2 idx off:Nat}(h:VH (some (j,o2,k)) idx off=true):j=idx/\o2=off:=by
 simp only[VH]at h;cases hb:Nat.beq o2 off<;>rw[hb]at h
 .cases h
 .exact⟨fJ h,fJ hb⟩
theorem a7w(H:FxOk X){S1:Sm}{m1:Mp}{ok1:Nat->Ty->Prop}{w0:World}(R:Rel X (CB*q) (CB*q+CB) S1 m1 ok1 a w)(hT:Tk X S1 m1 ok1 w Op)
  (hm:∀k l,m k=some l->m1 k=some l) (hok:∀b t,ok b t->ok1 b t) {v:V} {l:Loc} {ks:c5B} {x:Value} (hv:v≠.undef)
  (ho:P5 (mi m1 (L9 q o.dst) l ks) (L9 q o.dst) v=Op) (hB:BB ⟨w.heap,ok1,mi m1 (L9 q o.dst) l ks⟩ (L9 q o.dst) v)
  (hx:l.view none x) {bx idx off:Nat} {md:M} {xs:List md.den} (hS:S1 (V6+bx)= .barrs md xs (some (idx,off,none))) {blk o' len cap sz:Nat} (hmb:m1 bx=some (.arr blk o' len cap sz))
  (hc:dJ w.heap blk (o' +idx*md.size+off) 1=some [x]) (hsz:sz=md.size)
  (run:(execOp a.eval o).run X.P w0= .ok (.value x) w):
  (uG (L9 q o.dst) v (Cmd.set (V6+bx) (.barrs md xs (some (idx,off,some (L9 q o.dst)))) (dX X.E o.dst (.own (L9 q o.dst) none)))).post S1 (λ_ S' =>jw X (CB*q) (CB*q+CB) o a w0 m ok S'):=by
 refine og λhn=>?_;have key:∀n,n=L9 q o.dst->CB*q<=n->n<CB*q+CB->∃R2:Rel X (CB*q) (CB*q+CB) (upd (upd S1 (V6+n) v) (V6+bx) (.barrs md xs (some (idx,off,some n)))) (mi m1 n l ks) ok1 a w,∀k l',m k=some l' ->mi m1 n l ks k=some l' :=by
  rintro n rfl h1 h2;obtain⟨R',_,hm'⟩:=R.adopt (T:=[]) hn h1 hv (by simpa using hT) (λb h=>by rw[ho]at h;exact h) (by rw[ho];exact hT.nodup) hB;rw[Ci l7]at R';have hne:bx≠L9 q o.dst:=λe=>by have:=R.fresh _ h1 hn;rw[←e,hmb]at this;cases this
  have hS' :upd S1 (V6+L9 q o.dst) v (V6+bx)= .barrs md xs (some (idx,off,none)):=by rw[V7 _ _ l7];exact hS
  have hb:=R'.box bx;rw[hS']at hb;obtain⟨hel,l0,Os,hm0,⟨ha,_⟩,hk⟩:=hb;have hmb' :=hm' _ _ hmb;simp only at hm0;rw[hmb']at hm0;cases hm0;refine⟨R'.mod (by rw[hS'];rfl) A7 rfl rfl rfl rfl (λ_ _=>rfl) ⟨hel,_,Os,hmb',⟨?_,?_⟩,hk⟩,λk l' h=>hm' k l' (hm k l' h)⟩
  .exact uT (λ_ _=>rfl) (λi x es O _ hr=>hr) ha
  .exact⟨blk,o',len,cap,x,l,by rw[hsz],hc,az _ _ _ _,hx⟩
 cases hd:o.dst with
 |none=>have hin:=pV H (q:=q) none (λt h=>by cases h);obtain⟨R2,hm2⟩:=key (L9 q none) (by rw[hd]) hin.1 l7;have:=uu (o:=o) H R2 (m0:=m) (ok0:=ok) hm2 hok (v:=.own (L9 q none) none) ⟨l,az _ _ _ _,hx⟩ run;rw[hd]at this;exact this
 |some t=>unfold dX;refine fP (bV λhb' =>?_);have hin:=pV H (q:=q) (some t) (λt' h=>by cases h;exact(jf hb').1);obtain⟨R2,hm2⟩:=key (L9 q (some t)) (by rw[hd]) hin.1 l7;have:=uu (o:=o) H R2 (m0:=m) (ok0:=ok) hm2 hok (v:=.own (L9 q (some t)) none) ⟨l,az _ _ _ _,hx⟩ run;rw[hd]at this;unfold dX at this;simp only[hb',cond_true]at this;exact this
theorem PW{C:Cx}{c:V} :∀{n:Nat} {cs:List V} {vs:c5A},gX C cs vs->(∀u,vs[n]? =some u->vX C c u)->gX C (setCell n c cs) vs
 |0,[],_,h,_=>h|_+1,[],_,h,_=>h|0,_::_,_,⟨v,r,e,h1,h2,h3⟩,hc=>by subst e;exact⟨v,r,rfl,hc v rfl,h2,h3⟩|n+1,_::_,_,⟨v,r,e,h1,h2,h3⟩,hc=>by subst e;exact⟨v,r,rfl,h1,h2,PW h3 (λu hu=>hc u (by simpa using hu))⟩
theorem a1L{C:Cx}{v:V}{es:c5A}{k n:Nat}{l:Loc}{x:Value}(hv:lD C v u)(hu:u= .agg es.toArray)(hx:es[k]? =some x)(hn:C.m n=some l)(hl:l.view none x):lD C (a3Q k n v) u:=by
 cases v<;>try exact hv
 case agg cs=>obtain⟨arr,e,h⟩:=hv;refine⟨arr,e,PW h λu' hu' =>?_⟩;rw[e]at hu;injection hu with hu;subst hu;simp only at hu';rw[hx]at hu';cases hu';exact⟨l,hn,hl⟩
theorem FY{m:M} :∀{n off o:Nat},m.firstOwn off n=some o->off<=o/\o<off+n
 |0,_,_,h=>by cases h|n+1,off,o,h=>by
  unfold M.firstOwn at h;cases hb:m.ownAt off<;>rw[hb]at h
  .have:=FY (show m.firstOwn (off+1) n=some o from h);omega
  .simp only[cond_true,F7]at h;omega
theorem b2a{E:Env}{d:Option Nat}(h:tkD E d=true):∃t,d=some t/\Ju E t=true:=by
 cases d with
 |none=>cases h|some t=>refine⟨t,rfl,?_⟩;unfold tkD at h;simp only[x9]at h;exact h.1
theorem b6u{Z n:Nat}{S1:Sm}{m1:Mp}{ok1:Nat->Ty->Prop}(R:Rel X Z (Z+CB) S1 m1 ok1 a w)(hT:Tk X S1 m1 ok1 w Op)
  (h1:Z<=n) (h2:n<Z+CB) {v:V} {l:Loc} {ks:c5B} {x:Value} (hv:v≠.undef)
  (ho:P5 (mi m1 n l ks) n v=Op) (hB:BB ⟨w.heap,ok1,mi m1 n l ks⟩ n v)
  (hx:l.view none x) {bx idx off:Nat} {md:M} {xs:List md.den} (hS:S1 (V6+bx)= .barrs md xs (some (idx,off,none))) {blk o' len cap sz:Nat} (hmb:m1 bx=some (.arr blk o' len cap sz))
  (hc:dJ w.heap blk (o' +idx*md.size+off) 1=some [x]) (hsz:sz=md.size)
  (hK:∀S2 m2,Rel X Z (Z+CB) S2 m2 ok1 a w->(∀k l',m1 k=some l' ->m2 k=some l')->m2 n=some l->K.post S2 Q):
  (uG n v (Cmd.set (V6+bx) (.barrs md xs (some (idx,off,some n))) K)).post S1 Q:=by
 refine og λhn=>fP ?_;obtain⟨R',_,hm'⟩:=R.adopt (T:=[]) hn h1 hv (by simpa using hT) (λb h=>by rw[ho]at h;exact h) (by rw[ho];exact hT.nodup) hB;rw[Ci l7]at R';have hne:bx≠n:=λe=>by have:=R.fresh _ h1 hn;rw[←e,hmb]at this;cases this
 have hS' :upd S1 (V6+n) v (V6+bx)= .barrs md xs (some (idx,off,none)):=by rw[V7 _ _ l7];exact hS
 have hb:=R'.box bx;rw[hS']at hb;obtain⟨hel,l0,Os,hm0,⟨ha,_⟩,hk⟩:=hb;have hmb' :=hm' _ _ hmb;simp only at hm0;rw[hmb']at hm0;cases hm0;refine hK _ _ (R'.mod (by rw[hS'];rfl) A7 rfl rfl rfl rfl (λ_ _=>rfl) ⟨hel,_,Os,hmb',⟨?_,?_⟩,hk⟩) hm' (az _ _ _ _)
 .exact uT (λ_ _=>rfl) (λi x es O _ hr=>hr) ha
 .exact⟨blk,o',len,cap,x,l,by rw[hsz],hc,az _ _ _ _,hx⟩
theorem b3j(H:FxOk X)(R:Rel X (CB*q) (CB*q+CB) S m ok a w)(ho:o.op= .load t x):(dE X.E q o).post S (λ_ S' =>jw X (CB*q) (CB*q+CB) o a w m ok S'):=by
 unfold dE;simp only[ho];refine bg R λp hp=>?_;have plain:(GN X.E t p λv=>dX X.E o.dst v).post S (λ_ S' =>jw X (CB*q) (CB*q+CB) o a w m ok S'):=by refine Em H R hp λv u ad hv hx hr=>bu H R hv ?_;simp[execOp,ho,hx,Instr.loadAt,Instr.sureAddr,hr]
 unfold b4H;split
 .rename_i bx idx off;refine Y7 ?_;split
  .rename_i md xs hS;cases hown:md.ownAt off
   .simp only[cond_false];cases htk:tkD X.E o.dst
    .simpa only[cond_false]using plain
    simp only[cond_true];obtain⟨dt,hdt,hok1⟩:=b2a htk;refine lu H λi hi=>?_;split
    .exact plain
    rename_i po hfo;obtain⟨hfo1,hfo2⟩:=FY hfo;refine aN λhi1=>dP λe0 he0=>?_;simp only[x9]at hi1;obtain⟨hagg,hfit⟩:=hi1;have hfit:=P9 hfit;have hp' :=hp;obtain⟨blk,o',len,cap,sz,hm,hlt,hx⟩:=hp;obtain⟨hel,l,Os,hm',⟨ha,hho⟩,hk⟩:=R.own_barrs hS;simp only at hm;rw[hm]at hm';cases hm';obtain⟨rfl,rfl,h3,h7,c,T,hh,hs,hxs⟩:=ha;obtain⟨es,O,hO,he,hr⟩:=hxs idx e0 he0;refine IM md po hr λv l2 ks u O1 Op O2 eO hr' hu hv hB hvu=>?_;refine fP ?_;have hOs:Os.flatten.Perm ((Os.set idx (O1++O2)).flatten++Op):=qy (by rw[hO,eO]);have hown0:P5 m bx (S (V6+bx))=blk::Os.flatten:=by simp[P5,hS,hm,hk]
    have hown1:P5 (AA m bx (Os.set idx (O1++O2)).flatten) bx (.barrs md xs (some (idx,po,none)))=blk::(Os.set idx (O1++O2)).flatten:=by simp[P5,hm]
    have hnd:=R.nd bx;rw[hown0]at hnd;have hperm:(blk::Os.flatten).Perm ((blk::(Os.set idx (O1++O2)).flatten)++Op):=by simpa using hOs.cons blk
    have hnd' :=J9.1 (hperm.nodup_iff.1 hnd);have hB1:BB ⟨w.heap,ok,AA m bx (Os.set idx (O1++O2)).flatten⟩ bx (.barrs md xs (some (idx,po,none))):=by
     refine KU (Os:=Os.set idx (O1++O2)) hel hm ⟨rfl,rfl,h3,by simp[h7],c,T,hh,hs,λj z hz=>?_⟩ A7 trivial;by_cases hj:j=idx
     .subst hj;rw[show xs[j]? =some e0 from he0]at hz;cases hz;refine⟨es,O1++O2,?_,he,by simp only[LZ];exact hr'⟩;rw[J7,if_pos rfl,if_pos (by rw[h7];exact hlt)]
     .obtain⟨es2,O',hO2,he2,hr2⟩:=hxs j z hz;refine⟨es2,O',?_,he2,by simp only[Iu hj];exact hr2⟩;rw[J7,if_neg (λe=>hj e.symm)];exact hO2
    obtain⟨R1,T1⟩:=R.modK (T:=[]) Tk.nil (n:=bx) (v:=.barrs md xs (some (idx,po,none))) (ks:=(Os.set idx (O1++O2)).flatten) (w' :=w) (T' :=Op) A7 (by rw[hown1];exact hnd'.1)
     (λb hb=> .inl (by rw[hown0];rw[hown1]at hb;exact hperm.mem_iff.2 (Z5 _ hb))) rfl rfl rfl rfl (λ_ _=>rfl) hB1 hnd'.2.1
     (λb hb=>⟨.inl (by rw[hown0];exact hperm.mem_iff.2 (bQ _ hb)),λh=>hnd'.2.2 b (by rw[hown1]at h;exact h) b hb rfl⟩)
    obtain⟨hB2,hB3,hB4⟩:=hB (AA m bx (Os.set idx (O1++O2)).flatten) (L9 q o.dst);have hlt2:=(X9.1 hu);have hle:po+1<=md.size:=by have:=bf hr;have:=hlt2.1;omega
    have hc1:=qI he po 1 l7;have h1:(es.drop po).take 1=[u]:=by obtain⟨hlt3,rfl⟩:=hlt2;rw[V9 hlt3];rfl
    rw[h1]at hc1;have hin:=pV H (q:=q) (some dt) (λt h=>by cases h;exact(jf hok1).1);rw[hdt]at hB2 hB3;have e:=qI he off i.size hfit;have hr2:=tq hi w e;rw[hagg]at hr2;rw[hdt];refine b6u R1 T1 hin.1 l7 hvu hB3 hB2 hv (by rw[fQ]) hm hc1 rfl λS2 m2 R2 k2 hn2=>?_;have hp2:lD ⟨w.heap,ok,m2⟩ (.ep bx idx off) (a.eval x):=Fj (C:=⟨w.heap,ok,m⟩) (D:=⟨w.heap,ok,m2⟩) ⟨λ_ _ h=>h,λ_ _ _=>rfl,k2⟩ hp';rw[←hdt]at hn2 ⊢;refine Em H R2 hp2 λv3 u3 ad hv3 hx3 hr3=>?_;have had:ad=⟨blk,o' +idx*md.size+off,none⟩:=by rw[hx]at hx3;injection hx3 with hx3;injection hx3 with hx3;exact hx3.symm
    subst had;have hu3:u3= .agg ((es.drop off).take i.size).toArray:=by rw[hr2]at hr3;injection hr3 with e1 e2;exact e1.symm
    refine uu (o:=o) H R2 (m0:=m) (ok0:=ok) k2 (λ_ _ h=>h) (a1L (x:=u) (l:=l2) hv3 hu3 ?_ hn2 hv) ?_
    .rw[bJ l7,O0,show off+(po -off)=po by omega];exact hu
    .simp[execOp,ho,hx,Instr.loadAt,Instr.sureAddr,hr3]
   simp only[cond_true];refine lu H λi hi=>aN λhi1=>?_;simp only[x9,Y1]at hi1;obtain⟨hsz,hagg⟩:=hi1;have hsz:=fJ hsz;have hp' :=hp;obtain⟨blk,o',len,cap,sz,hm,hlt,hx⟩:=hp;obtain⟨hel,l,Os,hm',⟨ha,hho⟩,hk⟩:=R.own_barrs hS;simp only at hm;rw[hm]at hm';cases hm';cases Cj (match o.dst with|some d=>d|none=>V6) X.E.tk<;>simp only[cond_true,cond_false]
   .refine DF (T:=[]) (.sl md.ty) R Tk.nil (cs:=[.own bx none]) (vs:=[.slice (some ⟨blk,o',none⟩) len cap]) ⟨_,_,rfl,⟨_,hm,rfl⟩,rfl,rfl⟩ λS1 ok1 _ _ us us' R1 T1 k1 s1 e1 h1 l1=>?_;refine Em H R1 (MQ k1 hp') λv u ad hv hx hr=>uu H R1 (λ_ _ h=>h) k1 hv ?_;simp[execOp,ho,hx,Instr.loadAt,Instr.sureAddr,hr]
   .refine dP λe0 he0=>?_;obtain⟨rfl,rfl,h3,h7,c,T,hh,hs,hxs⟩:=ha;obtain⟨es,O,hO,he,hr⟩:=hxs idx e0 he0;refine IM md off hr λv l2 ks u O1 Op O2 eO hr' hu hv hB hvu=>?_;refine fP ?_;have hOs:Os.flatten.Perm ((Os.set idx (O1++O2)).flatten++Op):=qy (by rw[hO,eO]);have hown0:P5 m bx (S (V6+bx))=blk::Os.flatten:=by simp[P5,hS,hm,hk]
    have hown1:P5 (AA m bx (Os.set idx (O1++O2)).flatten) bx (.barrs md xs (some (idx,off,none)))=blk::(Os.set idx (O1++O2)).flatten:=by simp[P5,hm]
    have hnd:=R.nd bx;rw[hown0]at hnd;have hperm:(blk::Os.flatten).Perm ((blk::(Os.set idx (O1++O2)).flatten)++Op):=by simpa using hOs.cons blk
    have hnd' :=J9.1 (hperm.nodup_iff.1 hnd);have hB1:BB ⟨w.heap,ok,AA m bx (Os.set idx (O1++O2)).flatten⟩ bx (.barrs md xs (some (idx,off,none))):=by
     refine KU (Os:=Os.set idx (O1++O2)) hel hm ⟨rfl,rfl,h3,by simp[h7],c,T,hh,hs,λj z hz=>?_⟩ A7 trivial;by_cases hj:j=idx
     .subst hj;rw[show xs[j]? =some e0 from he0]at hz;cases hz;refine⟨es,O1++O2,?_,he,by simp only[LZ];exact hr'⟩;rw[J7,if_pos rfl,if_pos (by rw[h7];exact hlt)]
     .obtain⟨es2,O',hO2,he2,hr2⟩:=hxs j z hz;refine⟨es2,O',?_,he2,by simp only[Iu hj];exact hr2⟩;rw[J7,if_neg (λe=>hj e.symm)];exact hO2
    obtain⟨R1,T1⟩:=R.modK (T:=[]) Tk.nil (n:=bx) (v:=.barrs md xs (some (idx,off,none))) (ks:=(Os.set idx (O1++O2)).flatten) (w' :=w) (T' :=Op) A7 (by rw[hown1];exact hnd'.1)
     (λb hb=> .inl (by rw[hown0];rw[hown1]at hb;exact hperm.mem_iff.2 (Z5 _ hb))) rfl rfl rfl rfl (λ_ _=>rfl) hB1 hnd'.2.1
     (λb hb=>⟨.inl (by rw[hown0];exact hperm.mem_iff.2 (bQ _ hb)),λh=>hnd'.2.2 b (by rw[hown1]at h;exact h) b hb rfl⟩)
    obtain⟨hB2,hB3,hB4⟩:=hB (AA m bx (Os.set idx (O1++O2)).flatten) (L9 q o.dst);have hlt2:=(X9.1 hu);have hle:off+1<=md.size:=by have:=bf hr;have:=hlt2.1;omega
    have e:=qI he off i.size l7;have hr2:=tq hi w e;have h1:(es.drop off).take i.size=[u]:=by obtain⟨hlt3,rfl⟩:=hlt2;rw[hsz,V9 hlt3];rfl
    refine a7w (ok:=ok) (m:=m) H R1 T1 (λ_ _ h=>h) (λ_ _ h=>h) hvu hB3 hB2 hv (by rw[fQ]) hm (by rw[←h1,←hsz];exact e) rfl ?_;rw[h1,hagg]at hr2;simp[execOp,ho,hx,Instr.loadAt,Instr.sureAddr,hr2,Zp]
  .rename_i md xs i2 o2 n2 hS;cases hown:md.ownAt off
   .simp only[cond_false];cases htk:tkD X.E o.dst
    .simpa only[cond_false]using plain
    simp only[cond_true];refine lu H λi hi=>?_;split
    .exact plain
    rename_i po hfo;obtain⟨hfo1,hfo2⟩:=FY hfo;refine aN λhi1=>⟨λhat=>?_,λ_=>trivial⟩;simp only[x9]at hi1;obtain⟨hagg,hfit⟩:=hi1;have hfit:=P9 hfit;obtain⟨e1,e2⟩:=EU hat
    subst e1;subst e2;have hp' :=hp;obtain⟨blk,o',len,cap,sz,hm,hlt,hx⟩:=hp;obtain⟨hel,l,Os,hm',⟨ha,blk',off',len',cap',u,l',hl,hc,hmn,hvw⟩,hk⟩:=R.own_barrs hS;simp only at hm;rw[hm]at hm';cases hm';cases hl;obtain⟨_,rfl,h3,h7,c,T,hh,hs,hxs⟩:=ha;refine Em H R hp' λv3 u3 ad hv3 hx3 hr3=>?_;have had:ad=⟨blk,o' +i2*md.size+off,none⟩:=by rw[hx]at hx3;injection hx3 with hx3;injection hx3 with hx3;exact hx3.symm
    subst had;have hltx:i2<xs.length:=hlt;obtain⟨es,O,hO,he,hr⟩:=hxs i2 _ (jk hltx);have e:=qI he off i.size hfit;have hr2:=tq hi w e;rw[hagg]at hr2;have hu3:u3= .agg ((es.drop off).take i.size).toArray:=by rw[hr2]at hr3;injection hr3 with e1 e2;exact e1.symm
    refine bu H R (a1L (x:=u) (l:=l') hv3 hu3 ?_ hmn hvw) ?_
    .have hes:=oI he;have hc2:=qI he o2 1 l7;rw[hc]at hc2;have:=congrArg (λl=>l[0]?) (aZ hc2);simp only[dZ,bJ (show 0<1 by omega),O0,aX]at this;rw[bJ l7,O0,show off+(o2 -off)=o2 by omega];exact this.symm
    .simp[execOp,ho,hx,Instr.loadAt,Instr.sureAddr,hr3]
   simp only[cond_true];refine lu H λi hi=>aN λhi1=>⟨λhat=>?_,λ_=>trivial⟩;simp only[x9,Y1]at hi1;obtain⟨hsz,hagg⟩:=hi1;have hsz:=fJ hsz;obtain⟨e1,e2⟩:=EU hat
   subst e1;subst e2;obtain⟨blk,o',len,cap,sz,hm,hlt,hx⟩:=hp;obtain⟨hel,l,Os,hm',⟨ha,blk',off',len',cap',u,l',hl,hc,hmn,hvw⟩,hk⟩:=R.own_barrs hS;simp only at hm;rw[hm]at hm';cases hm';cases hl;have e:dJ w.heap blk (o' +i2*md.size+o2) i.size=some [u]:=by rw[hsz];exact hc
   have hr2:=tq hi w e;rw[hagg]at hr2;refine bu H R (v:=.own n2 none) (x:=u) ⟨l',hmn,hvw⟩ ?_;simp[execOp,ho,hx,Instr.loadAt,Instr.sureAddr,hr2,Zp]
  .exact plain
 .exact plain
theorem EH{S' :Sm}{x y:Operand}{w' :World}{m' :Mp}{ok' :Nat->Ty->Prop}(ho:o.op= .store t x y)(hd:o.dst=none)(run:(Instr.storeAt t (a.eval x) (a.eval y)).run X.P w= .ok () w')
  (R:Rel X cl ch S' m' ok' a w') (hm:∀k l,m k=some l->m' k=some l) (hok:∀b t,ok b t->ok' b t):jw X cl ch o a w m ok S' :=by
 intro next Q hn
 unfold Oper.wp;have e:(execOp a.eval o).run X.P w= .ok .skip w' :=by simp[execOp,ho,run]
 rw[e,Oper.upon_skip,hd];exact hn m' ok' a w' R hm hok
theorem Xk{u:α}(h:off<L.length):cO off [u] L=L.set off u:=by
 apply au;intro i;rw[ug F8,J7];by_cases h1:i=off
 .subst h1;rw[if_neg l7,if_pos A7,if_pos rfl,if_pos h];simp
 .by_cases h2:i<off
  .rw[if_pos h2,if_neg l7]
  .rw[if_neg h2,if_neg F8,if_neg l7]
theorem Yt(h:u.oneCell' =true):u.cells.toList=[u]:=by cases u<;>simp[Value.oneCell',Value.cells]at*
theorem Qe{w:World}{blk o' sz len cap off idx:Nat}{c:Array Value}{T:TypeId}{f:Nat×Nat}(hh:w.heap[blk]? =some (.cells c T f))(hs:o' +cap*sz<=c.size)(hlc:len<=cap)(hlt:idx<len){us es:c5A}
  (he:dJ w.heap blk (o' +idx*sz) sz=some es) (hf:off+us.length<=sz):
  o' +idx*sz+off+us.length<=c.size/\(cO (o' +idx*sz+off) us c.toList).length=c.size/\
  dJ (w.setRow blk (cO (o' +idx*sz+off) us c.toList).toArray).heap blk (o' +idx*sz) sz=some (cO off us es)/\
  (∀j,j<len->j≠idx->dJ (w.setRow blk (cO (o' +idx*sz+off) us c.toList).toArray).heap blk (o' +j*sz) sz=dJ w.heap blk (o' +j*sz) sz):=by
 have hcap:(idx+1)*sz<=cap*sz:=J4 _ l7;rw[L6,bU]at hcap;have hfit:o' +idx*sz+off+us.length<=c.size:=l7;have hcl:c.toList.length=c.size:=A7;have hsp:(cO (o' +idx*sz+off) us c.toList).length=c.size:=by rw[yP (by rw[hcl];exact hfit)];exact hcl
 refine⟨hfit,hsp,?_,λj hj hne=>?_⟩
 .rw[Ll hh _ _ _ (by rw[hsp];omega),RI (by rw[hcl];omega) l7];obtain⟨c2,T2,f2,hb2,hn2,rfl⟩:=tJ he;rw[hh]at hb2;cases hb2;rfl
 .have hcap' :(j+1)*sz<=cap*sz:=J4 _ l7;rw[L6,bU]at hcap';rw[Ll hh _ _ _ (by rw[hsp];omega),kE hh _ _ l7,a4K (by rw[hcl];exact hfit)];rcases Nat.lt_or_gt_of_ne hne with hlt'|hgt
  .left;have:(j+1)*sz<=idx*sz:=J4 _ l7;rw[L6,bU]at this;omega
  .right;have:(idx+1)*sz<=j*sz:=J4 _ l7;rw[L6,bU]at this;omega
theorem Tq{Q:Unit->Sm->Prop}(R:Rel X cl ch S m ok a w)(hT:Tk X S m ok w Op){i:TI}(hi:TiOk X.P t i)(h1:i.size=1){hole:Option (Nat×Nat×Option Nat)}
  (hS:S (V6+bx)= .barrs md xs hole) {blk o' len cap sz:Nat} (hm:m bx=some (.arr blk o' len cap sz)) {v:V} {u:Value} (hp:Qs w.heap ok v u Op)
  (hK:∀S' m' w',Rel X cl ch S' m' ok a w' ->(∀k l,m k=some l->m' k=some l)->(storeVar t ⟨blk,o' +idx*sz+off,none⟩ u).run X.P w= .ok () w' ->Q () S'):
  (a0d bx idx off md xs hole v (.ret ())).post S Q:=by
 unfold a0d;refine⟨λhb=>?_,λ_=>trivial⟩;refine dP λe0 he0=>?_;have he0' :xs[idx]? =some e0:=he0;obtain⟨hel,l,Os,hm',⟨ha,hho⟩,hk⟩:=R.own_barrs hS;rw[hm]at hm';cases hm';obtain⟨rfl,rfl,h3,h7,c,T,hh,hs,hxs⟩:=ha;obtain⟨es,O,hO,he,hr⟩:=hxs idx e0 he0';have hho:XO hole idx=none\/XO hole idx=some off:=by
  rcases hole with _|⟨j,o2,o3⟩
  .exact .inl rfl
  .obtain⟨e1,e2⟩:=EU hb;subst e1;subst e2;exact .inr LZ
 have hho' :∀j,j≠idx->XO hole j=none:=λj hj=>by
  rcases hole with _|⟨j',o2,o3⟩
  .rfl
  .obtain⟨e1,_⟩:=EU hb;subst e1;exact Iu hj
 refine GL hp md off hr hho hel λy O1 Old O2 eO hr' hoff=>fP ?_;have hlt:idx<xs.length:=(X9.1 he0').1;have hes:es.length=md.size:=bf hr;have hu1:=hp.one;have huc:=Yt hu1;obtain⟨hfit,hsp,hnew,hold⟩:=Qe (us:=[u]) (off:=off) hh hs h3 hlt he F8;have run:=Az hi w (off:=o' +idx*md.size+off) hh (.inl rfl) (v:=u) (by have:=congrArg List.length huc;simp at this;omega) (by simpa[h1]using hfit) (by rw[huc];simp[hu1]);rw[huc]at run;generalize hw' :w.setRow blk (cO (o' +idx*md.size+off) [u] c.toList).toArray=w' at run hnew hold;have hrow:w'.heap[blk]? =some (.cells (cO (o' +idx*md.size+off) [u] c.toList).toArray T (0,0)):=by subst hw';exact setRow_heap w blk c _ T (0,0) hh
 have hoth:∀b,b≠blk->w'.heap[b]? =w.heap[b]?:=λb hb=>by subst hw';exact setRow_other w blk b _ hb
 have hsize:w'.heap.size=w.heap.size:=by subst hw';simp
 have hos:w'.os=w.os:=by subst hw';rfl
 have htp:w'.tape=w.tape:=by subst hw';rfl
 have hdrn:w.drawn<=w'.drawn:=by subst hw';exact A8 _
 have hout:w'.output=w.output:=by subst hw';rfl
 have hO1:Os.flatten.Perm ((Os.set idx (O1++O2)).flatten++Old):=qy (by rw[hO,eO]);have hO2:(Os.set idx (O1++Op++O2)).flatten.Perm ((Os.set idx (O1++O2)).flatten++Op):=by have:=qy (Os:=Os.set idx (O1++Op++O2)) (i:=idx) (O1:=O1) (P:=Op) (O2:=O2) (by rw[J7,if_pos rfl,if_pos (by rw[h7];exact hlt)]);rwa[List.set_set]at this
 have hown0:P5 m bx (S (V6+bx))=blk::Os.flatten:=by simp[P5,hS,hm,hk]
 have hown1:P5 (AA m bx (Os.set idx (O1++Op++O2)).flatten) bx (.barrs md (dD xs idx y) none)=blk::(Os.set idx (O1++Op++O2)).flatten:=by simp[P5,hm]
 have hnd:=R.nd bx;rw[hown0]at hnd;have hnd0:=X3.1 hnd;have hndA:=J9.1 (hO1.nodup_iff.1 hnd0.2);have hfreeOp:∀b∈Op,b∉blk::Os.flatten:=λb hb h=>(hT.free b hb).2.2.2 bx (by rw[hown0];exact h);have hsubA:∀b∈(Os.set idx (O1++O2)).flatten,b∈Os.flatten:=λb hb=>hO1.mem_iff.2 (Z5 _ hb);have hneO:∀b∈Os.flatten,b≠blk:=λb hb e=>hnd0.1 (e▸hb);have hneP:∀b∈Op,b≠blk:=λb hb e=>hfreeOp b hb (by simp[e]);have hkeep:∀b t,ok b t->w'.heap[b]? =w.heap[b]?:=λb t hb=>hoth b (λe=>(R.sep bx blk (by rw[hown0];simp)).1 t (e▸hb));have hB:BB ⟨w'.heap,ok,AA m bx (Os.set idx (O1++Op++O2)).flatten⟩ bx (.barrs md (dD xs idx y) none):=by
  refine KU (Os:=Os.set idx (O1++Op++O2)) hel hm ⟨rfl,by simp[dD],h3,by simp[h7,dD],_,T,hrow,by simp[hsp];exact hs,λj z hz=>?_⟩ A7 trivial;unfold dD at hz;rw[J7]at hz;split at hz
  .rename_i hj;subst hj;cases hz;refine⟨_,O1++Op++O2,by rw[J7,if_pos rfl,if_pos (by rw[h7];exact hlt)],hnew,?_⟩;rw[Xk l7];refine jc (λ_ _ h=>h) hkeep (λb hb=>hoth b ?_) hr';rcases E5.1 hb with hb|hb
   .rcases E5.1 hb with hb|hb
    .exact hneO b (aj.2 ⟨O,vM hO,by rw[eO];simp[hb]⟩)
    .exact hneP b hb
   .exact hneO b (aj.2 ⟨O,vM hO,by rw[eO];simp[hb]⟩)
  .rename_i hj;obtain⟨es2,O',hO2',he2,hr2⟩:=hxs j z hz;refine⟨es2,O',by rw[J7,if_neg hj];exact hO2',by rw[←he2];exact hold j (X9.1 hz).1 (λe=>hj e.symm),?_⟩;simp only[YH];rw[hho' j (λe=>hj e.symm)]at hr2;exact jc (λ_ _ h=>h) hkeep (λb hb=>hoth b (hneO b (aj.2 ⟨O',vM hO2',hb⟩))) hr2
 have hmod:=R.modK hT (n:=bx) (v:=.barrs md (dD xs idx y) none) (ks:=(Os.set idx (O1++Op++O2)).flatten) (w' :=w') (T' :=[]) A7
  (by
   rw[hown1];refine X3.2 ⟨λh=>?_,hO2.nodup_iff.2 (J9.2 ⟨hndA.1,hT.nodup,λx hx z hz e=>?_⟩)⟩
   .rcases E5.1 (hO2.mem_iff.1 h)with h|h
    .exact hnd0.1 (hsubA _ h)
    .exact hneP _ h rfl
   .subst e;exact hfreeOp x hz (by simp[hsubA x hx]))
  (λb hb=>by
   rw[hown1]at hb;rw[hown0];rcases D5.1 hb with hb|hb
   .exact .inl (by simp[hb])
   .rcases E5.1 (hO2.mem_iff.1 hb)with h|h
    .exact .inl (by simp[hsubA _ h])
    .exact .inr h)
  hos htp hout hsize (λb hb=>hoth b (λe=>hb (by rw[hown0,e];simp))) hB aW (λb hb=>by cases hb) (λ_=>hdrn)
 exact hK _ _ w' hmod.1 (λ_ _ h=>h) run
theorem a2u{Q:Unit->Sm->Prop}(R:Rel X cl ch S m ok a w)(hT:Tk X S m ok w Op){i:TI}(hi:TiOk X.P t i)(h1:i.size=1){kn:Int}{ko:Nat}
  (hS:S (V6+bx)= .barrp md xs kn ko) (hoff:off=ko) (hidx:idx=kn.toNat) {blk o' len cap sz:Nat} (hm:m bx=some (.arr blk o' len cap sz)) {v:V} {u:Value} (hp:Qs w.heap ok v u Op)
  (hK:∀S' m' w',Rel X cl ch S' m' ok a w' ->(∀k l,m k=some l->m' k=some l)->(storeVar t ⟨blk,o' +idx*sz+off,none⟩ u).run X.P w= .ok () w' ->Q () S'):
  (Cmd.opt (dm xs idx) λx=>VR md off v x (λy=>Cmd.set (V6+bx) (.barrp md (dD xs idx y) (TK kn) ko) (.ret ())) .fail).post S Q:=by
 refine dP λe0 he0=>?_;have he0' :xs[idx]? =some e0:=he0;obtain⟨hel,hk0,l,Os,hm',ha,hk⟩:=R.own_barrp hS;rw[hm]at hm';cases hm';obtain⟨rfl,rfl,h3,h7,c,T,hh,hs,hxs⟩:=ha;obtain⟨es,O,hO,he,hr⟩:=hxs idx e0 he0';have hho:xe ko kn.toNat idx=none\/xe ko kn.toNat idx=some off:=.inr (by rw[hidx,hoff];simp[xe]);have hsuc:(TK kn).toNat=kn.toNat+1:=by unfold TK;omega
 have hho1:xe ko (TK kn).toNat idx=none:=by unfold xe;rw[if_neg l7]
 have hho' :∀j,j≠idx->xe ko (TK kn).toNat j=xe ko kn.toNat j:=λj hj=>by
  unfold xe;by_cases h:kn.toNat<=j
  .rw[if_pos h,if_pos l7]
  .rw[if_neg h,if_neg l7]
 refine GL hp md off hr hho hel λy O1 Old O2 eO hr' hoff=>fP ?_;have hlt:idx<xs.length:=(X9.1 he0').1;have hes:es.length=md.size:=bf hr;have hu1:=hp.one;have huc:=Yt hu1;obtain⟨hfit,hsp,hnew,hold⟩:=Qe (us:=[u]) (off:=off) hh hs h3 hlt he F8;have run:=Az hi w (off:=o' +idx*md.size+off) hh (.inl rfl) (v:=u) (by have:=congrArg List.length huc;simp at this;omega) (by simpa[h1]using hfit) (by rw[huc];simp[hu1]);rw[huc]at run;generalize hw' :w.setRow blk (cO (o' +idx*md.size+off) [u] c.toList).toArray=w' at run hnew hold;have hrow:w'.heap[blk]? =some (.cells (cO (o' +idx*md.size+off) [u] c.toList).toArray T (0,0)):=by subst hw';exact setRow_heap w blk c _ T (0,0) hh
 have hoth:∀b,b≠blk->w'.heap[b]? =w.heap[b]?:=λb hb=>by subst hw';exact setRow_other w blk b _ hb
 have hsize:w'.heap.size=w.heap.size:=by subst hw';simp
 have hos:w'.os=w.os:=by subst hw';rfl
 have htp:w'.tape=w.tape:=by subst hw';rfl
 have hdrn:w.drawn<=w'.drawn:=by subst hw';exact A8 _
 have hout:w'.output=w.output:=by subst hw';rfl
 have hO1:Os.flatten.Perm ((Os.set idx (O1++O2)).flatten++Old):=qy (by rw[hO,eO]);have hO2:(Os.set idx (O1++Op++O2)).flatten.Perm ((Os.set idx (O1++O2)).flatten++Op):=by have:=qy (Os:=Os.set idx (O1++Op++O2)) (i:=idx) (O1:=O1) (P:=Op) (O2:=O2) (by rw[J7,if_pos rfl,if_pos (by rw[h7];exact hlt)]);rwa[List.set_set]at this
 have hown0:P5 m bx (S (V6+bx))=blk::Os.flatten:=by simp[P5,hS,hm,hk]
 have hown1:P5 (AA m bx (Os.set idx (O1++Op++O2)).flatten) bx (.barrp md (dD xs idx y) (TK kn) ko)=blk::(Os.set idx (O1++Op++O2)).flatten:=by simp[P5,hm]
 have hnd:=R.nd bx;rw[hown0]at hnd;have hnd0:=X3.1 hnd;have hndA:=J9.1 (hO1.nodup_iff.1 hnd0.2);have hfreeOp:∀b∈Op,b∉blk::Os.flatten:=λb hb h=>(hT.free b hb).2.2.2 bx (by rw[hown0];exact h);have hsubA:∀b∈(Os.set idx (O1++O2)).flatten,b∈Os.flatten:=λb hb=>hO1.mem_iff.2 (Z5 _ hb);have hneO:∀b∈Os.flatten,b≠blk:=λb hb e=>hnd0.1 (e▸hb);have hneP:∀b∈Op,b≠blk:=λb hb e=>hfreeOp b hb (by simp[e]);have hkeep:∀b t,ok b t->w'.heap[b]? =w.heap[b]?:=λb t hb=>hoth b (λe=>(R.sep bx blk (by rw[hown0];simp)).1 t (e▸hb));have hB:BB ⟨w'.heap,ok,AA m bx (Os.set idx (O1++Op++O2)).flatten⟩ bx (.barrp md (dD xs idx y) (TK kn) ko):=by
  refine⟨hel,by unfold TK;omega,_,Os.set idx (O1++Op++O2),hm,⟨rfl,by simp[dD],h3,by simp[h7,dD],_,T,hrow,by simp[hsp];exact hs,λj z hz=>?_⟩,A7⟩;unfold dD at hz;rw[J7]at hz;split at hz
  .rename_i hj;subst hj;cases hz;refine⟨_,O1++Op++O2,by rw[J7,if_pos rfl,if_pos (by rw[h7];exact hlt)],hnew,?_⟩;rw[Xk l7];show nG w'.heap ok md (xe ko (TK kn).toNat idx) y _ _;rw[hho1];refine jc (λ_ _ h=>h) hkeep (λb hb=>hoth b ?_) hr';rcases E5.1 hb with hb|hb
   .rcases E5.1 hb with hb|hb
    .exact hneO b (aj.2 ⟨O,vM hO,by rw[eO];simp[hb]⟩)
    .exact hneP b hb
   .exact hneO b (aj.2 ⟨O,vM hO,by rw[eO];simp[hb]⟩)
  .rename_i hj;obtain⟨es2,O',hO2',he2,hr2⟩:=hxs j z hz;refine⟨es2,O',by rw[J7,if_neg hj];exact hO2',by rw[←he2];exact hold j (X9.1 hz).1 (λe=>hj e.symm),?_⟩;show nG w'.heap ok md (xe ko (TK kn).toNat j) z es2 O';rw[hho' j (λe=>hj e.symm)];exact jc (λ_ _ h=>h) hkeep (λb hb=>hoth b (hneO b (aj.2 ⟨O',vM hO2',hb⟩))) hr2
 have hmod:=R.modK hT (n:=bx) (v:=.barrp md (dD xs idx y) (TK kn) ko) (ks:=(Os.set idx (O1++Op++O2)).flatten) (w' :=w') (T' :=[]) A7
  (by
   rw[hown1];refine X3.2 ⟨λh=>?_,hO2.nodup_iff.2 (J9.2 ⟨hndA.1,hT.nodup,λx hx z hz e=>?_⟩)⟩
   .rcases E5.1 (hO2.mem_iff.1 h)with h|h
    .exact hnd0.1 (hsubA _ h)
    .exact hneP _ h rfl
   .subst e;exact hfreeOp x hz (by simp[hsubA x hx]))
  (λb hb=>by
   rw[hown1]at hb;rw[hown0];rcases D5.1 hb with hb|hb
   .exact .inl (by simp[hb])
   .rcases E5.1 (hO2.mem_iff.1 hb)with h|h
    .exact .inl (by simp[hsubA _ h])
    .exact .inr h)
  hos htp hout hsize (λb hb=>hoth b (λe=>hb (by rw[hown0,e];simp))) hB aW (λb hb=>by cases hb) (λ_=>hdrn)
 exact hK _ _ w' hmod.1 (λ_ _ h=>h) run
theorem b1c{l:List α}{u:α}(h:l[i]? =some u):l.set i u=l:=by
 apply au;intro j;rw[J7];split
 .rename_i e;subst e;have:=(X9.1 h).1;simp[this,←h]
 .rfl
theorem a3r(R:Rel X cl ch S m ok a w){T Op:c5B}(hT:Tk X S m ok w (T++Op)){k0:Option Nat}
  (hS:S (V6+bx)= .barrs md xs (some (idx,off,k0))) {blk o' len cap sz:Nat} (hm:m bx=some (.arr blk o' len cap sz)) {v:V} {u:Value} (hp:Qs w.heap ok v u Op)
  (hu:dJ w.heap blk (o' +idx*sz+off) 1=some [u])
  (hK:∀S' m',Rel X cl ch S' m' ok a w->Tk X S' m' ok w T->(∀k l,m k=some l->m' k=some l)->K.post S' Q):
  (Cmd.opt (dm xs idx) λx=>VR md off v x (λy=>Cmd.set (V6+bx) (.barrs md (dD xs idx y) none) K) .fail).post S Q:=by
 refine dP λe0 he0=>?_;have he0' :xs[idx]? =some e0:=he0;obtain⟨hel,l,Os,hm',⟨ha,hho⟩,hk⟩:=R.own_barrs hS;rw[hm]at hm';cases hm';obtain⟨rfl,rfl,h3,h7,c,T0,hh,hs,hxs⟩:=ha;obtain⟨es,O,hO,he,hr⟩:=hxs idx e0 he0';rw[LZ]at hr;refine GL hp md off hr (.inr rfl) hel λy O1 Old O2 eO hr' hoff=>fP ?_;have hlt:idx<xs.length:=(X9.1 he0').1;have hes:es.length=md.size:=bf hr;have hnd1:=J9.1 hT.nodup;have hTo:Tk X S m ok w Op:=⟨hnd1.2.1,λb hb=>hT.free b (bQ _ hb)⟩;have heu:es[off]? =some u:=by obtain⟨c2,T2,f2,hb2,hn2,e2⟩:=tJ he;obtain⟨c3,T3,f3,hb3,hn3,e3⟩:=tJ hu;rw[hh]at hb2 hb3;cases hb2;cases hb3;have h1:=congrArg (λl=>l[0]?) e3;simp only[dZ,bJ (show 0<1 by omega),O0,aX]at h1;rw[e2,bJ l7,O0];exact h1.symm
 rw[b1c heu]at hr';have hO1:Os.flatten.Perm ((Os.set idx (O1++O2)).flatten++Old):=qy (by rw[hO,eO]);have hO2:(Os.set idx (O1++Op++O2)).flatten.Perm ((Os.set idx (O1++O2)).flatten++Op):=by have:=qy (Os:=Os.set idx (O1++Op++O2)) (i:=idx) (O1:=O1) (P:=Op) (O2:=O2) (by rw[J7,if_pos rfl,if_pos (by rw[h7];exact hlt)]);rwa[List.set_set]at this
 have hown0:P5 m bx (S (V6+bx))=blk::Os.flatten:=by simp[P5,hS,hm,hk]
 have hown1:P5 (AA m bx (Os.set idx (O1++Op++O2)).flatten) bx (.barrs md (dD xs idx y) none)=blk::(Os.set idx (O1++Op++O2)).flatten:=by simp[P5,hm]
 have hnd:=R.nd bx;rw[hown0]at hnd;have hnd0:=X3.1 hnd;have hndA:=J9.1 (hO1.nodup_iff.1 hnd0.2);have hfreeOp:∀b∈Op,b∉blk::Os.flatten:=λb hb h=>(hTo.free b hb).2.2.2 bx (by rw[hown0];exact h);have hsubA:∀b∈(Os.set idx (O1++O2)).flatten,b∈Os.flatten:=λb hb=>hO1.mem_iff.2 (Z5 _ hb);have hneP:∀b∈Op,b≠blk:=λb hb e=>hfreeOp b hb (by simp[e]);have hB:BB ⟨w.heap,ok,AA m bx (Os.set idx (O1++Op++O2)).flatten⟩ bx (.barrs md (dD xs idx y) none):=by
  refine KU (Os:=Os.set idx (O1++Op++O2)) hel hm ⟨rfl,by simp[dD],h3,by simp[h7,dD],c,T0,hh,hs,λj z hz=>?_⟩ A7 trivial;unfold dD at hz;rw[J7]at hz;split at hz
  .rename_i hj;subst hj;cases hz;exact⟨es,O1++Op++O2,by rw[J7,if_pos rfl,if_pos (by rw[h7];exact hlt)],he,hr'⟩
  .rename_i hj;obtain⟨es2,O',hO2',he2,hr2⟩:=hxs j z hz;refine⟨es2,O',by rw[J7,if_neg hj];exact hO2',he2,?_⟩;simp only[YH];rw[Iu (λe=>hj e.symm)]at hr2;exact hr2
 have hmod:=R.modK hT (n:=bx) (v:=.barrs md (dD xs idx y) none) (ks:=(Os.set idx (O1++Op++O2)).flatten) (w' :=w) (T' :=T) A7
  (by
   rw[hown1];refine X3.2 ⟨λh=>?_,hO2.nodup_iff.2 (J9.2 ⟨hndA.1,hTo.nodup,λx hx z hz e=>?_⟩)⟩
   .rcases E5.1 (hO2.mem_iff.1 h)with h|h
    .exact hnd0.1 (hsubA _ h)
    .exact hneP _ h rfl
   .subst e;exact hfreeOp x hz (by simp[hsubA x hx]))
  (λb hb=>by
   rw[hown1]at hb;rw[hown0];rcases D5.1 hb with hb|hb
   .exact .inl (by simp[hb])
   .rcases E5.1 (hO2.mem_iff.1 hb)with h|h
    .exact .inl (by simp[hsubA _ h])
    .exact .inr (bQ _ h))
  rfl rfl rfl rfl (λb hb=>rfl) hB hnd1.1 (λb hb=>⟨.inr (Z5 _ hb),λh=>by
   rw[hown1]at h;have h1:b∉blk::Os.flatten:=λh' =>(hT.free b (Z5 _ hb)).2.2.2 bx (by rw[hown0];exact h');rcases D5.1 h with h|h
   .exact h1 (by simp[h])
   .rcases E5.1 (hO2.mem_iff.1 h)with h|h
    .exact h1 (by simp[hsubA _ h])
    .exact hnd1.2.2 b hb b h rfl⟩)
 exact hK _ _ hmod.1 hmod.2 (λ_ _ h=>h)
theorem RV(R:Rel X cl ch S m ok a w){T:c5B}(hT:Tk X S m ok w T)
  (hK:∀S' m',Rel X cl ch S' m' ok a w->Tk X S' m' ok w T->(∀k l,m k=some l->m' k=some l)->K.post S' Q):(ZK bx K).post S Q:=by
 unfold ZK;refine Y7 ?_;split
 .rename_i md0 xs0 i0 o0 n hS;refine Y7 ?_;refine aN λharr=>fP (Y7 ?_);split<;>try trivial
  rename_i md xs i o n' hS2;have hne:n≠bx:=λe=>by subst e;rw[fQ]at hS2;cases hS2
  have hS3:S (V6+bx)= .barrs md xs (some (i,o,some n')):=by rw[←hS2,V7 _ _ l7]
  have hn:n' =n:=by rw[hS]at hS3;injection hS3 with _ _ h3;injection h3 with h3;injection h3 with _ h3;injection h3 with _ h3;injection h3 with h3;exact h3.symm
  subst hn;obtain⟨hel,l,Os,hm',⟨ha,hho⟩,hk⟩:=R.own_barrs hS3;obtain⟨blk,off,len,cap,u,l',rfl,hu,hmn,hvu⟩:=hho;have T1:=Tk.kill R hT n' (bs:=P5 m n' (S (V6+n'))) (λ_ h=>h) (R.nd n');refine a3r (R.kill n') T1 hS2 hm' (u:=u) ?_ hu hK;cases hb2:S (V6+n')<;>rw[hb2]at harr<;>try cases harr
  .rename_i t2 ys;obtain⟨l2,hm2,ha'⟩:=R.own_arr hb2;have e:l' =l2:=aZ (hmn.symm.trans hm2);subst e;refine .inr (.inl ⟨t2,ys,l',rfl,hvu,DR ha',?_⟩);have hm2:m n' =some l' :=hm2;cases l'<;>first|(simp[P5,hm2,Loc.blks];done)|cases ha'
  .rename_i md3 ys hole3;obtain⟨hel3,l2,Os3,hm2,⟨ha',hho3⟩,hk'⟩:=R.own_barrs hb2;have e:l' =l2:=aZ (hmn.symm.trans hm2);subst e;rcases hole3 with _|⟨p1,p2,p3⟩
   .refine .inr (.inr ⟨md3,ys,l',Os3,rfl,hel3,hvu,ha',?_⟩);have hm2:m n' =some l' :=hm2;cases l'<;>first|(simp[P5,hm2,Loc.blks,hk'];done)|cases ha'
   .cases harr
 .exact hK S m R hT (λ_ _ h=>h)
theorem EL{α:Type}{Q:α->Sm->Prop}{K:Cmd α} :∀(cs:List V) {S:Sm} {m:Mp} (R:Rel X cl ch S m ok a w) {T:c5B} (hT:Tk X S m ok w T)
  (hK:∀S' m',Rel X cl ch S' m' ok a w->Tk X S' m' ok w T->(∀k l,m k=some l->m' k=some l)->K.post S' Q),(QB cs K).post S Q
 |[],S,m,R,T,hT,hK=>hK S m R hT (λ_ _ h=>h)|v::r,S,m,R,T,hT,hK=>by
  unfold QB;split
  .exact RV R hT λS1 m1 R1 T1 k1=>EL r R1 T1 λS2 m2 R2 T2 k2=>hK S2 m2 R2 T2 (λk l h=>k2 k l (k1 k l h))
  .exact EL r R hT hK
theorem xH{α:Type}{Q:α->Sm->Prop}{K:Cmd α} :∀(cs:List V) {S:Sm} {m:Mp} (R:Rel X cl ch S m ok a w) {T:c5B} (hT:Tk X S m ok w T)
  (hK:∀S' m',Rel X cl ch S' m' ok a w->Tk X S' m' ok w T->(∀k l,m k=some l->m' k=some l)->K.post S' Q),(Ie cs K).post S Q
 |[],S,m,R,T,hT,hK=>hK S m R hT (λ_ _ h=>h)|v::r,S,m,R,T,hT,hK=>by
  unfold Ie;split
  .exact RV R hT λS1 m1 R1 T1 k1=>xH r R1 T1 λS2 m2 R2 T2 k2=>hK S2 m2 R2 T2 (λk l h=>k2 k l (k1 k l h))
  .refine Y7 ?_;split
   .exact EL _ R hT λS1 m1 R1 T1 k1=>xH r R1 T1 λS2 m2 R2 T2 k2=>hK S2 m2 R2 T2 (λk l h=>k2 k l (k1 k l h))
   .exact xH r R hT hK
  .exact EL _ R hT λS1 m1 R1 T1 k1=>xH r R1 T1 λS2 m2 R2 T2 k2=>hK S2 m2 R2 T2 (λk l h=>k2 k l (k1 k l h))
  .exact xH r R hT hK
theorem a9W(H:FxOk X)(R:Rel X cl ch S m ok a w){x y:Operand}(ho:o.op= .store t x y):(dE X.E q o).post S (λ_ S' =>jw X cl ch o a w m ok S'):=by
 unfold dE;simp only[ho];cases hd:o.dst with
 |some d=>trivial|none=>
 refine bg R λp hp=>bg R λv hv=>?_;unfold b1S;refine lu H λi hi=>?_;cases p<;>try trivial
 case ptr bx off=>
  obtain⟨blk,hm,hx⟩:=hp;refine Y7 ?_;split<;>try trivial
  rename_i cs hS;obtain⟨blk',arr,T,hm',hh,hl⟩:=R.own_cells hS;simp only at hm hm';rw[hm]at hm';cases hm';refine uV hv λvs hvs=>aN λhlen=>BA _ _ _ λhle=>fP ?_;have hlen' :=fJ hlen;have hL:=lU hl;have hL2:=lU hvs;have hsz:(a.eval y).cells.size=i.size:=by simp at hL2;omega
  have hown:P5 m bx (S (V6+bx))=[blk]:=by simp[P5,hS,hm]
  have hfit:off+i.size<=arr.size:=by simp at hL;omega
  have run:=Az hi w hh (.inl rfl) (v:=a.eval y) hsz hfit (PV hvs);refine EH ho hd (w' :=w.setRow blk (cO off (a.eval y).cells.toList arr.toList).toArray) (by simp[Instr.storeAt,Instr.sureAddr,hx,run]) ?_ (λ_ _ h=>h) (λ_ _ h=>h);refine R.mod (by rw[hown];simp[P5,hm]) A7 rfl rfl rfl A7 (λb hb=>setRow_other w blk b _ (by rw[hown]at hb;simpa using hb)) ?_;refine⟨blk,_,T,hm,setRow_heap w blk arr _ T (0,0) hh,?_⟩;refine b6N (λb t hb=>setRow_other w blk b _ (λe=>(R.sep bx blk (by rw[hown];simp)).1 t (e▸hb))) ?_;simpa using CG hvs hl
 case ep bx ix off=>
  obtain⟨blk,o',len,cap,sz,hm,hlt,hx⟩:=hp;simp only at hm;refine Y7 ?_;split<;>try trivial
  .rename_i u xs hS;obtain⟨l,hm',ha⟩:=R.own_arr hS;rw[hm]at hm';cases hm';obtain⟨hE0,rfl,rfl,h3,c,T,f,hh,hz,hs,hxs⟩:=ha;refine dP λe0 he0=>?_;obtain⟨es,he,hr⟩:=hxs ix e0 he0;refine uV hv λvs hvs=>aN λhlen=>BA _ _ _ λhle=>?_;rw[oM]at hle;have hlen' :=fJ hlen;have hL2:=lU hvs;have hsz:(a.eval y).cells.size=i.size:=by simp at hL2;omega
   have hes:=oI he;have hnew:=CG (off:=off) hvs (ou (C:=⟨w.heap,ok,m⟩) hr);refine DF (T:=[]) u R Tk.nil hnew λS1 ok1 y1 q1 us us' R1 T1 k1 s1 e1 h1 l1=>?_;cases q1 with
   |cons _ _=>trivial|nil=>
   simp only[gX]at l1;subst l1;simp only[D8]at e1;subst e1;refine Y7 ?_;split<;>try trivial
   rename_i u' xs' hS1;refine eU λe=>?_;subst e;refine fP ?_;obtain⟨l,hm',ha⟩:=R1.own_arr hS1;rw[hm]at hm';cases hm';obtain⟨_,hszu,hlen2,h3',c',T',f',hh',hz',hs',hxs'⟩:=ha;rw[hh]at hh';cases hh';have hown:P5 m bx (S1 (V6+bx))=[blk]:=by simp[P5,hS1,hm]
   have hvl:(a.eval y).cells.toList.length=i.size:=by simpa using hsz
   obtain⟨hfit,hsp,hnew2,hold⟩:=Qe (us:=(a.eval y).cells.toList) (off:=off) hh hs h3 hlt he (by rw[hvl];omega);have run:=Az hi w (off:=o' +ix*u'.size+off) hh hz.of (v:=a.eval y) hsz (by rw[hvl]at hfit;exact hfit) (PV hvs);refine EH ho hd (w' :=w.setRow blk (cO (o' +ix*u'.size+off) (a.eval y).cells.toList c.toList).toArray) (by simp[Instr.storeAt,Instr.sureAddr,hx,run]) ?_ (λ_ _ h=>h) k1;refine R1.mod (by rw[hown];simp[P5,hm]) A7 rfl rfl rfl A7 (λb hb=>setRow_other w blk b _ (by rw[hown]at hb;simpa using hb)) ?_;have hkeep:∀b t,ok1 b t->(w.setRow blk (cO (o' +ix*u'.size+off) (a.eval y).cells.toList c.toList).toArray).heap[b]? =w.heap[b]?:=
    λb t hb=>setRow_other w blk b _ (λe=>(R1.sep bx blk (by rw[hown];simp)).1 t (e▸hb))
   refine⟨_,hm,hE0,rfl,by simp[dD,hlen2],h3,_,T,f,setRow_heap w blk c _ T f hh,by rw[dK,hsp];exact hz,by simp[hsp];exact hs,λj z hz=>?_⟩;unfold dD at hz;rw[J7]at hz;split at hz
   .rename_i hj;subst hj;split at hz
    .cases hz;exact⟨_,hnew2,dU (λ_ _ h=>h) hkeep h1⟩
    .cases hz
   .rename_i hj;obtain⟨es2,he2,hr2⟩:=hxs' j z hz;have hj2:=(X9.1 hz).1;exact⟨_,(hold j (by rw[hlen2];exact hj2) (λe=>hj e.symm)).trans he2,dU (λ_ _ h=>h) hkeep hr2⟩
  .rename_i md xs hole hS;cases hcd:(md.ownAt off&&Nat.beq i.size 1&&!bP i.td)
   .simp only[cond_false];cases hole with
    |some _=>trivial|none=>
    refine uV hv λvs hvs=>aN λhlen=>dP λe0 he0=>?_;have he0' :xs[ix]? =some e0:=he0;obtain⟨hel,l,Os,hm',⟨ha,hho⟩,hk⟩:=R.own_barrs hS;rw[hm]at hm';cases hm';obtain⟨rfl,rfl,h3,h7,c,T,hh,hs,hxs⟩:=ha;obtain⟨es,O,hO,he,hr⟩:=hxs ix e0 he0';refine QE md off hr hvs λy1 hle hr' =>fP ?_;have hes:es.length=md.size:=bf hr;have hlen' :=fJ hlen;have hL2:=lU hvs;have hsz:(a.eval y).cells.size=i.size:=by simp at hL2;omega
    have hvl:(a.eval y).cells.toList.length=i.size:=by simpa using hsz
    obtain⟨hfit,hsp,hnew2,hold⟩:=Qe (us:=(a.eval y).cells.toList) (off:=off) hh hs h3 hlt he l7;have run:=Az hi w (off:=o' +ix*md.size+off) hh (.inl rfl) (v:=a.eval y) hsz (by rw[hvl]at hfit;exact hfit) (PV hvs);have hown:P5 m bx (S (V6+bx))=blk::Os.flatten:=by simp[P5,hS,hm,hk]
    have hnd:=R.nd bx;rw[hown]at hnd;have hnd0:=X3.1 hnd;have hneO:∀b∈Os.flatten,b≠blk:=λb hb e=>hnd0.1 (e▸hb);refine EH ho hd (w' :=w.setRow blk (cO (o' +ix*md.size+off) (a.eval y).cells.toList c.toList).toArray) (by simp[Instr.storeAt,Instr.sureAddr,hx,run]) ?_ (λ_ _ h=>h) (λ_ _ h=>h);have hkeep:∀b t,ok b t->(w.setRow blk (cO (o' +ix*md.size+off) (a.eval y).cells.toList c.toList).toArray).heap[b]? =w.heap[b]?:=
     λb t hb=>setRow_other w blk b _ (λe=>(R.sep bx blk (by rw[hown];simp)).1 t (e▸hb))
    refine R.mod (by rw[hown];simp[P5,hm,hk]) A7 rfl rfl rfl A7 (λb hb=>setRow_other w blk b _ (λe=>hb (by rw[hown,e];simp))) ?_;refine KU (Os:=Os) hel hm ⟨rfl,by simp[dD],h3,by simp[h7,dD],_,T,setRow_heap w blk c _ T (0,0) hh,by simp[hsp];exact hs,λj z hz=>?_⟩ hk trivial;unfold dD at hz;rw[J7]at hz;split at hz
    .rename_i hj;subst hj;cases hz;exact⟨_,O,hO,hnew2,jc (λ_ _ h=>h) hkeep (λb hb=>setRow_other w blk b _ (hneO b (aj.2 ⟨O,vM hO,hb⟩))) hr'⟩
    .rename_i hj;obtain⟨es2,O2,hO2,he2,hr2⟩:=hxs j z hz;have hj2:=(X9.1 hz).1;exact⟨_,O2,hO2,(hold j l7 (λe=>hj e.symm)).trans he2,jc (λ_ _ h=>h) hkeep (λb hb=>setRow_other w blk b _ (hneO b (aj.2 ⟨O2,vM hO2,hb⟩))) hr2⟩
   .simp only[cond_true];simp only[x9,Y1]at hcd;obtain⟨⟨_,hsz1⟩,_⟩:=hcd;have hsz1:=fJ hsz1;have fin:∀{S' :Sm} {m' :Mp} {w' :World},Rel X cl ch S' m' ok a w' ->(∀k l,m k=some l->m' k=some l)->(storeVar t ⟨blk,o' +ix*sz+off,none⟩ (a.eval y)).run X.P w= .ok () w' ->jw X cl ch o a w m ok S' :=
     λR' hm' run=>EH ho hd (by simp[Instr.storeAt,Instr.sureAddr,hx,run]) R' hm' (λ_ _ h=>h)
    split
    .have hv' :a.eval y= .slice none 0 0:=hv;exact Tq (Op:=[]) R Tk.nil hi hsz1 hS hm (.inl ⟨rfl,hv',rfl⟩) (λS' m' w' R' h' run=>fin R' h' run)
    .rename_i b2;obtain⟨l2,hm2,hv2⟩:=hv;simp only at hm2;refine Y7 ?_;refine aN λharr=>fP (Y7 ?_);split<;>try trivial
     rename_i md2 xs2 hole2 hS2;have T1:=Tk.kill R (T:=[]) Tk.nil b2 (bs:=P5 m b2 (S (V6+b2))) (λ_ h=>h) (R.nd b2);rw[H9]at T1;refine Tq (R.kill b2) T1 hi hsz1 hS2 hm ?_ (λS' m' w' R' h' run=>fin R' h' run);cases hb2:S (V6+b2)<;>rw[hb2]at harr<;>try cases harr
     .rename_i t2 ys;obtain⟨l',hm',ha'⟩:=R.own_arr hb2;rw[hm2]at hm';cases hm';refine .inr (.inl ⟨t2,ys,l2,rfl,hv2,DR ha',?_⟩);cases l2<;>first|(simp[P5,hm2,Loc.blks];done)|cases ha'
     .rename_i md3 ys hole3;obtain⟨hel3,l',Os,hm',⟨ha',hho⟩,hk'⟩:=R.own_barrs hb2;rw[hm2]at hm';cases hm';rcases hole3 with _|⟨p1,p2,p3⟩
      .refine .inr (.inr ⟨md3,ys,l2,Os,rfl,hel3,hv2,ha',?_⟩);cases l2<;>first|(simp[P5,hm2,Loc.blks,hk'];done)|cases ha'
      .cases harr
    .trivial
  .rename_i md xs kn ko hS;refine aN λhcd=>?_;simp only[x9,Y1]at hcd;obtain⟨⟨hoff,hsz1⟩,_⟩:=hcd;have hsz1:=fJ hsz1;have hoff:=fJ hoff;have fin:∀{S' :Sm} {m' :Mp} {w' :World},Rel X cl ch S' m' ok a w' ->(∀k l,m k=some l->m' k=some l)->(storeVar t ⟨blk,o' +ix*sz+off,none⟩ (a.eval y)).run X.P w= .ok () w' ->jw X cl ch o a w m ok S' :=
    λR' hm' run=>EH ho hd (by simp[Instr.storeAt,Instr.sureAddr,hx,run]) R' hm' (λ_ _ h=>h)
   split<;>try trivial
   rename_i b2;obtain⟨l2,hm2,hv2⟩:=hv;simp only at hm2;refine Y7 ?_;refine aN λharr=>fP (Y7 ?_);split<;>try trivial
   rename_i md2 xs2 kn2 ko2 hS2;have hb2x:b2≠bx:=λe=>by subst e;rw[fQ]at hS2;cases hS2
   have hko:ko2=ko:=by rw[V7 _ _ l7,hS]at hS2;injection hS2 with _ _ _ e4;exact e4.symm
   refine⟨λhidx=>?_,λ_=>trivial⟩;have hidx:ix=kn2.toNat:=fJ hidx;have T1:=Tk.kill R (T:=[]) Tk.nil b2 (bs:=P5 m b2 (S (V6+b2))) (λ_ h=>h) (R.nd b2);rw[H9]at T1;refine a2u (R.kill b2) T1 hi hsz1 hS2 (hoff.trans hko.symm) hidx hm ?_ (λS' m' w' R' h' run=>fin R' h' run);cases hb2:S (V6+b2)<;>rw[hb2]at harr<;>try cases harr
   .rename_i t2 ys;obtain⟨l',hm',ha'⟩:=R.own_arr hb2;rw[hm2]at hm';cases hm';refine .inr (.inl ⟨t2,ys,l2,rfl,hv2,DR ha',?_⟩);cases l2<;>first|(simp[P5,hm2,Loc.blks];done)|cases ha'
   .rename_i md3 ys hole3;obtain⟨hel3,l',Os,hm',⟨ha',hho⟩,hk'⟩:=R.own_barrs hb2;rw[hm2]at hm';cases hm';rcases hole3 with _|⟨p1,p2,p3⟩
    .refine .inr (.inr ⟨md3,ys,l2,Os,rfl,hel3,hv2,ha',?_⟩);cases l2<;>first|(simp[P5,hm2,Loc.blks,hk'];done)|cases ha'
    .cases harr
theorem UZ{c:Nat}{u:V}{x:Value}{K:Nat->Cmd α}(R:Rel X cl ch S m ok a w)(hu:lD ⟨w.heap,ok,m⟩ u x)
  (hK:∀b l v,m b=some l->l.view none v->atV w.heap c x v->(∀a1 a2 a3,atV w.heap c x (.slice a1 a2 a3)->v= .slice a1 a2 a3)->(K b).post S Q):(a5q c u K).post S Q:=by
 unfold a5q;split<;>try trivial
 .rename_i b;obtain⟨l,hm,hv⟩:=hu;refine hK b l x hm hv (.inl rfl) λa1 a2 a3 h=>?_;rcases h with h|⟨_,_,_,_,h,_⟩
  .exact h
  .rw[h]at hv;cases l<;>simp[Loc.view]at hv
 .rename_i pb;obtain⟨blk,hm,hx⟩:=hu;refine Y7 ?_;split<;>try trivial
  rename_i cs hS;obtain⟨blk',arr,T,hm',hh,hl⟩:=R.own_cells hS;simp only at hm;rw[hm]at hm';cases hm';refine zI λhle=>?_;split<;>try trivial
  rename_i b hcs;have hl1:=wY 1 (uJ c hl);rw[hcs]at hl1;obtain⟨v,r,e,⟨l,hmb,hv⟩,_,_⟩:=hl1;have hcv:arr.toList[c]? =some v:=by have:=congrArg (λl=>l[0]?) e;simpa using this
  have hx:x= .pointer (some ⟨blk,0,none⟩):=hx;refine hK b l v hmb hv (.inr ⟨blk,arr,T,_,hx,hh,hcv⟩) λa1 a2 a3 h=>?_;rcases h with h|⟨b',arr',T',f',h,h2,h3⟩
  .rw[hx]at h;cases h
  .rw[hx]at h;injection h with h;injection h with h;injection h with h;subst h;rw[hh]at h2;cases h2;rw[hcv]at h3;cases h3;rfl
theorem Zn(R:Rel X cl ch S m ok a w){l:Loc}(hm:m b=some l)
  (hK:(∀blk off len cap sz',l= .arr blk off len cap sz' ->sz' =sz)->K.post S Q):(b4e b sz K).post S Q:=by
 unfold b4e;refine Y7 ?_;split<;>try trivial
 .rename_i md xs hole hS;refine aN λh=>hK λblk off len cap sz' e=>?_;subst e;obtain⟨_,l,Os,hm',⟨ha,_⟩,_⟩:=R.own_barrs hS;rw[hm]at hm';cases hm';exact ha.1.trans (fJ h)
 .rename_i t xs hS;refine aN λh=>hK λblk off len cap sz' e=>?_;subst e;obtain⟨l,hm',ha⟩:=R.own_arr hS;rw[hm]at hm';cases hm';exact ha.2.1.trans (fJ h)
theorem Qw{α:Type}{Q:α->Sm->Prop}(R:Rel X cl ch S m ok a w):∀(als:List (Nat×Nat×Option (Nat×Nat×Nat×Nat))) {K:Cmd α}
  (hK:(∀p∈als,alR w.heap a.tmps p)->K.post S Q),(a6U als K).post S Q
 |[],K,hK=>hK (λp hp=>by cases hp)|(n,k,none)::r,K,hK=>by
  unfold a6U;refine aN λhb=>?_;simp only[x9]at hb;refine Y7 (Y7 ?_);refine aN λhv=>Qw R r λh=>hK λp hp=>?_;rcases D5.1 hp with rfl|hp
  .have h1:=hb.1;have h2:=hb.2;rw[aF]at h1 h2;exact b0Y hv (R.slot n h1) (R.slot k h2)
  .exact h p hp
 |(n,k,some (c,j,o2,sz))::r,K,hK=>by
  unfold a6U;refine aN λhb=>?_;simp only[x9]at hb;obtain⟨⟨h1,h2⟩,h3⟩:=hb;rw[aF]at h1 h2 h3;refine Y7 (Y7 (Y7 ?_));have hn:=R.slot n h1;have hj:=R.slot j h3;split<;>try trivial
  rename_i b' i o' k2 y hSn hSj;rw[hSn]at hn;rw[hSj]at hj;obtain⟨blk,off,len,cap,sz',hmb,hlt,hx⟩:=hn;refine UZ R (R.slot k h2) λb l v hm hv hat _=>aN λhbb=>?_;simp only[x9]at hbb;have e1:=fJ hbb.1;have e2:=fJ hbb.2;subst e1;subst e2;simp only at hmb;rw[hm]at hmb;cases hmb;refine Zn R hm λhsz=>⟨λhi=>?_,λ_=>trivial⟩;have hi:i=y.toNat:=fJ hi;have hsz:=hsz _ _ _ _ _ rfl;subst hsz;subst hi;have hv:v= .slice (some ⟨blk,off,none⟩) len cap:=hv;subst hv;refine Qw R r λh=>hK λp hp=>?_;rcases D5.1 hp with rfl|hp
  .exact⟨blk,off,len,cap,k2,y,hat,hj,hlt,hx⟩
  .exact h p hp
theorem a3q{sg:Sig}{Q:lZ sg->Sm->Prop}(R:Rel X cl ch S m ok a w)
  (hK:∀S' m' ok' y O,Rel X cl ch S' m' ok' a w->Tk X S' m' ok' w O->(∀k l,m k=some l->m' k=some l)->(∀b t,ok b t->ok' b t)->
   UI w.heap ok' sg y a.tmps O->Q y S'):(a9a sg).post S Q:=by
 unfold a9a;refine Qw R _ λhals=>Sl _ R.slot λvs hvs=>?_;refine xH _ R Tk.nil λS1 m1 R1 T1 k1=>?_;refine a0Z (T:=[]) _ R1 T1 (N_ k1 hvs) λS' ok' y O R' T' k s h=>?_;exact hK S' m1 ok' y O R' T' k1 k ⟨h,hals⟩
theorem Lj{Q:Unit->Sm->Prop} :∀(als:List (Nat×Nat×Option (Nat×Nat×Nat×Nat))) {S:Sm} (R:Rel X cl ch S m ok a w) (h:∀p∈als,alR w.heap a.tmps p)
  (hK:∀S',Rel X cl ch S' m ok a w->Q () S'),(Rz als).post S Q
 |[],S,R,h,hK=>hK S R
 |(n,k,none)::r,S,R,h,hK=>by unfold Rz;refine aN λhb=>?_;simp only[x9]at hb;have h1:=hb.1;have h2:=hb.2;rw[aF]at h1 h2;show Cmd.post _ (upd S n (S k)) Q;refine Lj r (R.slotV h1 ?_) (λp hp=>h p (U3 _ hp)) hK;have e:a.tmps.getD n Go.undef=a.tmps.getD k Go.undef:=h (n,k,none) jG;rw[e];exact R.slot k h2|(n,k,some (c,j,o2,sz))::r,S,R,h,hK=>by
  unfold Rz;refine aN λhb=>?_;simp only[x9]at hb;obtain⟨⟨h1,h2⟩,h3⟩:=hb;rw[aF]at h1 h2 h3;refine Y7 (Y7 ?_);have hj:=R.slot j h3;split<;>try trivial
  rename_i k2 y hSj;rw[hSj]at hj;obtain⟨blk,off,len,cap,q2,y2,hat,hj2,hlt,hn⟩:=h (n,k,some (c,j,o2,sz)) jG;have ey:y2=y:=by have hj:a.tmps.getD j Go.undef= .int k2 y:=hj;rw[hj]at hj2;injection hj2 with _ e;exact e.symm
  subst ey;refine UZ R (R.slot k h2) λb l v hm hv _ huniq=>Zn R hm λhsz=>fP ?_;have ev:=huniq _ _ _ hat
  subst ev;refine Lj r (R.slotV h1 ?_) (λp hp=>h p (U3 _ hp)) hK;cases l with
  |nil=>simp[Loc.view]at hv|st b=>cases hv|mp b=>simp[Loc.view]at hv
  |arr blk' off' len' cap' sz' =>have e:=hsz _ _ _ _ _ rfl;subst e;simp only[Loc.view]at hv;injection hv with e1 e2 e3;injection e1 with e1;injection e1 with e1 e4;subst e1;subst e2;subst e3;subst e4;exact⟨blk,off,len,cap,sz',hm,hlt,hn⟩
theorem a3m{sg:Sig}{x:lZ sg}{nb lim:Nat}{Q:Unit->Sm->Prop}{O:c5B}(R:Rel X cl ch S m ok a w)(hcl:cl<=nb)(hT:Tk X S m ok w O)
  (h:UI w.heap ok sg x a.tmps O)
  (hK:∀S' m',Rel X cl (max ch lim) S' m' ok a w->(∀k l,m k=some l->m' k=some l)->Q () S'):(a8X sg x nb lim).post S Q:=by
 unfold a8X;refine Io (T:=[]) _ R hcl (by simpa using hT) h.1 λS1 m1 vs n1 ch1 R1 c1 T1 k1 s1 l1 e1=>?_;cases hb:Nat.ble n1 lim
 .trivial
 .simp only[cond_true];have:n1<=lim:=P9 hb;exact Jg _ (R1.chmono (ch' :=max ch lim) l7) l1 λS' R' =>Lj _ R' h.2 λS'' R'' =>hK S'' m1 R'' k1
end
end Go.GP
namespace Go.GP
variable {α:Type}{sz:Nat}{t:Nat}{P:Program}{q:Nat}{f:Nat}{off:Nat}{n:Nat}{j:TI}{Q:α->Sm->Prop}
section
variable {X:Fx} {cl ch:Nat} {S:Sm} {m:Mp} {ok:Nat->Ty->Prop} {a:Act} {w:World} {o:Oper}
theorem Nr(H:FxOk X){ag:Bool}(h:Ph X.E t f=some (off,n,ag)):
  ∃fields fld j,X.P.underlying t=some (.struct fields)/\fields[f]? =some fld/\fld.offset=off/\TiOk X.P fld.type j/\j.size=n/\n≠0/\ag=bP j.td:=by
 unfold Ph at h;cases hi:dL X.E.tt t with
 |none=>simp[hi]at h|some i=>
  have Hi:=H.tt t i hi;have htd:=Hi.td;simp only[hi]at h;cases hd:i.td<;>simp only[hd]at h<;>try (simp at h;done)
  rename_i fs;rw[hd]at htd;obtain⟨fields,hu,hf⟩:=htd;cases hfs:fs[f]? with
  |none=>simp[hfs]at h|some x=>
   obtain⟨ft,off'⟩:=x;simp only[hfs]at h;cases hj:dL X.E.tt ft with
   |none=>simp[hj]at h|some j=>
    simp only[hj]at h;cases hb:Nat.beq j.size 0
    .simp only[hb,cond_false,F7,je]at h;obtain⟨rfl,rfl,rfl⟩:=h;rw[←hf]at hfs;simp only[W9,iG]at hfs;obtain⟨fld,hfl,he⟩:=hfs;simp only[je]at he;obtain⟨rfl,rfl⟩:=he;refine⟨fields,fld,j,hu,by simpa using hfl,rfl,H.tt _ _ hj,rfl,λe=>?_,rfl⟩;rw[e]at hb;simp at hb
    .simp[hb]at h
theorem Le{fields:Array Field}{fld:Field}(w:World)(hu:P.underlying t=some (.struct fields))(hf:fields[f]? =some fld)(ho:fld.offset=off)
  (hj:TiOk P fld.type j) (hn:j.size≠0) (b p:Nat):(Instr.fieldAt t (.pointer (some ⟨b,p,none⟩)) f).run P w= .ok (.pointer (some ⟨b,p+off,none⟩)) w:=by
 simp[Instr.fieldAt,run_underlying hu,hf,Instr.sureAddr,fieldPlace,vZ hj,hn,jC,ho]
theorem w_(H:FxOk X)(R:Rel X cl ch S m ok a w){t:TypeId}{x:Operand}(ho:o.op= .fieldAddr t x f):(dE X.E q o).post S (λ_ S' =>jw X cl ch o a w m ok S'):=by
 unfold dE;simp only[ho];refine bg R λp hp=>?_;split<;>try trivial
 rename_i off n ag hfo;obtain⟨fields,fld,j,hu,hf,hoff,hj,hn,hn0,_⟩:=Nr H hfo;have hj0:j.size≠0:=l7;cases p<;>try trivial
 case ptr bx o' =>obtain⟨blk,h1,h2⟩:=hp;exact bu H R (v:=.ptr bx (o' +off)) ⟨blk,h1,rfl⟩ (by simp[execOp,ho,h2,Le w hu hf hoff hj hj0])
 case ep bx ix o' =>obtain⟨blk,o2,len,cap,sz,h1,h2,h3⟩:=hp;exact bu H R (v:=.ep bx ix (o' +off)) ⟨blk,o2,len,cap,sz,h1,h2,rfl⟩ (by simp[execOp,ho,h3,Le w hu hf hoff hj hj0,jS])
 case dp u y o' =>obtain⟨blk,o2,es,h1,h2⟩:=hp;exact bu H R (v:=.dp u y (o' +off)) ⟨blk,o2,es,rfl,h2⟩ (by simp[execOp,ho,h1,Le w hu hf hoff hj hj0,jS])
theorem Ik(H:FxOk X)(h:Ij X.E t=some (false,n,sz)):∃e j,X.P.underlying t=some (.slice e)/\TiOk X.P e j/\j.size=sz:=by
 unfold Ij at h;cases hi:dL X.E.tt t with
 |none=>simp[hi]at h|some i=>
  have htd:=(H.tt t i hi).td;simp only[hi]at h;cases hd:i.td<;>simp only[hd]at h<;>try (simp at h;done)
  .rename_i e;rw[hd]at htd;cases hj:dL X.E.tt e with
   |none=>simp[hj]at h|some j=>simp[hj]at h;exact⟨e,j,htd,H.tt _ _ hj,h.2⟩
  .rename_i l e;cases hj:dL X.E.tt e<;>simp[hj]at h
theorem a3l(H:FxOk X)(h:Ij X.E t=some (true,n,sz)):∃e j,X.P.underlying t=some (.array n e)/\TiOk X.P e j/\j.size=sz:=by
 unfold Ij at h;cases hi:dL X.E.tt t with
 |none=>simp[hi]at h|some i=>
  have htd:=(H.tt t i hi).td;simp only[hi]at h;cases hd:i.td<;>simp only[hd]at h<;>try (simp at h;done)
  .rename_i e;cases hj:dL X.E.tt e<;>simp[hj]at h
  .rename_i l e;rw[hd]at htd;cases hj:dL X.E.tt e with
   |none=>simp[hj]at h|some j=>simp[hj]at h;obtain⟨rfl,h⟩:=h;exact⟨e,j,htd,H.tt _ _ hj,h⟩
theorem yN{l:List α}{n:Int}{y:α}(h:U0 l n=some y):0<=n/\l[n.toNat]? =some y/\n.toNat<l.length/\n<l.length:=by
 unfold U0 at h;split at h
 .rename_i h0;have:=(X9.1 h).1;exact⟨h0,h,this,l7⟩
 .cases h
theorem uM{t e:TypeId}(w:World)(hu:P.underlying t=some (.slice e))(hj:TiOk P e j){k:IntKind}{n:Int}{b p len cap:Nat}(h0:0<=n)(hlt:n<len):
  (Instr.indexAt t (.slice (some ⟨b,p,none⟩) len cap) (.int k n)).run P w= .ok (.pointer (some ⟨b,p+n.toNat*j.size,none⟩)) w:=by
 simp[Instr.indexAt,asIntOf,run_underlying hu,h0,hlt,vZ hj,jC]
theorem Qj{t e:TypeId}(w:World){len:Nat}(hu:P.underlying t=some (.array len e))(hj:TiOk P e j){k:IntKind}{n:Int}{b p:Nat}(h0:0<=n)(hlt:n<len):
  (Instr.indexAt t (.pointer (some ⟨b,p,none⟩)) (.int k n)).run P w= .ok (.pointer (some ⟨b,p+n.toNat*j.size,none⟩)) w:=by
 simp[Instr.indexAt,asIntOf,run_underlying hu,h0,hlt,vZ hj,jC,Instr.sureAddr]
theorem zk{w:World}{r:Nat}{es:Array MapEntry}{ck:Nat}(hb:w.heap[r]? =some (.map es ck)):(getObj r).run P w= .ok (.map es ck) w:=by simp[getObj,Sem.run,hb]
theorem CS{u:Ty}(h:szB sz u=true):u.isEnt=false/\sz=u.size:=by
 unfold szB at h;cases hu:u.isEnt<;>rw[hu]at h
 .exact⟨rfl,fJ h⟩
 .cases h
theorem a8n{C:Cx}{t:Ty}{xs:List t.den}{l:Loc}{vw:Option (Nat×Nat)}{v:Value}(h0:t.isEnt=false)(ha:arrOk C t xs l)(hv:l.view vw v){i:Nat}{y:t.den}(hy:(jU vw xs)[i]? =some y):
  ∃blk off len cap,l= .arr blk off len cap t.size/\xs[a1r vw+i]? =some y/\∃p c,v= .slice (some ⟨blk,p,none⟩) (jU vw xs).length c/\p+i*t.size=off+(a1r vw+i)*t.size:=by
 cases l with
 |nil=>obtain⟨ha,_⟩:=ha;subst ha;rcases vw with _|⟨lo,hi⟩<;>simp[jU,lq]at hy
 |st b=>cases ha|mp b=>exact absurd ha.1 (by simp[h0])|arr blk off len cap sz=>
  obtain⟨_,rfl,rfl,hc,_⟩:=ha;rcases vw with _|⟨lo,hi⟩
  .simp only[Loc.view]at hv;subst hv;exact⟨blk,off,_,cap,rfl,by simpa[a1r,jU]using hy,off,cap,rfl,by simp[a1r]⟩
  .obtain⟨h1,h2,rfl⟩:=hv;have hl:(jU (some (lo,hi)) xs).length=hi -lo:=by simp[jU,lq];omega
   have hi' :i<hi -lo:=by rw[←hl];exact(X9.1 hy).1
   have hx' :xs[lo+i]? =some y:=by
    simp only[jU,lq,O0,Z9]at hy;split at hy
    .exact hy
    .cases hy
   have hne:cap≠lo:=l7;exact⟨blk,off,_,cap,rfl,hx',off+lo*t.size,cap -lo,by rw[hl];simp[hne],by simp[a1r,L6];omega⟩
theorem x_(H:FxOk X)(R:Rel X cl ch S m ok a w){t:TypeId}{x ix:Operand}(ho:o.op= .indexAddr t x ix):(dE X.E q o).post S (λ_ S' =>jw X cl ch o a w m ok S'):=by
 unfold dE;simp only[ho];refine bg R λu hu=>bg R λv hv=>?_;unfold VL;split<;>try trivial
 ·
  rename_i k n l sz hsz;obtain⟨e,j,hut,hj,hjs⟩:=Ik H hsz;have hix:=uK hv;cases u<;>try trivial
  case sl u xs=>refine bV λhb=>dP λy hy=>?_;obtain⟨hE0,hb'⟩:=CS hb;obtain⟨h0,hget,hlt,hlt'⟩:=yN hy;obtain⟨ad,cap,hx,hc,hel⟩:=(zo hE0).1 hu;simp only[G5,and_true]at hx;obtain⟨blk,off,es,rfl,hok,he,hr⟩:=hel _ y hget;refine bu H R (v:=.dp u y 0) (x:=.pointer (some ⟨blk,off+n.toNat*u.size,none⟩)) ⟨blk,off+n.toNat*u.size,es,rfl,hok,he,hr⟩ ?_;simp[execOp,ho,hx,hix,uM w hut hj h0 hlt',hjs,hb']
  case own bx vw=>
   obtain⟨loc,hm,hview⟩:=hu;refine Y7 ?_;split
   .rename_i ln sz' hSl;split<;>try trivial
    refine aN λhb=>⟨λhin=>?_,λ_=>trivial⟩;have hb' :=fJ hb;have hin' :=of_decide_eq_true (show decide (0<=n/\n<ln)=true from hin);have hbx:=R.box (NK+bx);rw[hSl]at hbx;obtain⟨k',l',e,hm',hl⟩:=hbx;have e' :k' =bx:=l7;subst e';simp only at hm hm';rw[hm]at hm';cases hm';cases loc with
    |nil=>simp only at hl;omega|st b=>cases hl|mp b=>cases hl|arr blk off len cap sz2=>obtain⟨rfl,rfl⟩:=hl;simp only[Loc.view]at hview;refine bu H R (v:=.ep k' (aJ n) 0) (x:=.pointer (some ⟨blk,off+n.toNat*sz',none⟩)) ⟨blk,off,len,cap,sz',hm,by unfold aJ;omega,rfl⟩ ?_;simp[execOp,ho,hview,hix,uM w hut hj hin'.1 hin'.2,hjs,hb']
   refine Y7 ?_;split<;>try trivial
   .rename_i u xs hS;refine bV λhb=>dP λy hy=>?_;obtain⟨hE0,hb'⟩:=CS hb;obtain⟨h0,hget,hlt,hlt'⟩:=yN hy;obtain⟨loc',hm',ha⟩:=R.own_arr hS;simp only at hm;rw[hm]at hm';cases hm';obtain⟨blk,off,len,cap,rfl,hx2,p,c,hvv,hp⟩:=a8n hE0 ha hview hget;have hlen:=ha.2.2.1;have hlt2:=(X9.1 hx2).1;rw[b2S];refine bu H R (v:=.ep bx (a1r vw+aJ n) 0) (x:=.pointer (some ⟨blk,p+n.toNat*u.size,none⟩)) ⟨blk,off,len,cap,u.size,hm,by rw[hlen];exact hlt2,by rw[hp];rfl⟩ ?_;simp[execOp,ho,hvv,hix,uM w hut hj h0 hlt',hjs,hb']
   .rename_i u xs hS;refine bV λhb=>dP λy hy=>?_;obtain⟨hE0,hb'⟩:=CS hb;obtain⟨h0,hget,hlt,hlt'⟩:=yN hy;obtain⟨loc',hm',ha,hok⟩:=R.own_frz hS;simp only at hm;rw[hm]at hm';cases hm';obtain⟨ad,cap,hx,hc,hel⟩:=(zo hE0).1 (qg (C:=⟨w.heap,ok,m⟩) ha hview (λ_ _ h=>h) hok);simp only[G5,and_true]at hx;obtain⟨blk,off,es,rfl,hok',he,hr⟩:=hel _ y hget;refine bu H R (v:=.dp u y 0) (x:=.pointer (some ⟨blk,off+n.toNat*u.size,none⟩)) ⟨blk,off+n.toNat*u.size,es,rfl,hok',he,hr⟩ ?_;simp[execOp,ho,hx,hix,uM w hut hj h0 hlt',hjs,hb']
   .rename_i md xs hole hS;split<;>try trivial
    refine aN λhb=>dP λy hy=>?_;have hb' :=fJ hb;obtain⟨h0,hget,hlt,hlt'⟩:=yN hy;obtain⟨hel,loc',Os,hm',⟨ha,hho⟩,hk⟩:=R.own_barrs hS;simp only at hm;rw[hm]at hm';cases hm';cases loc with
    |st b=>cases ha|mp b=>cases ha|nil=>obtain⟨e1,_⟩:=ha;subst e1;simp at hlt
    |arr blk off len cap sz' =>obtain⟨rfl,rfl,h3,_⟩:=ha;simp only[Loc.view]at hview;refine bu H R (v:=.ep bx (aJ n) 0) (x:=.pointer (some ⟨blk,off+n.toNat*md.size,none⟩)) ⟨blk,off,xs.length,cap,md.size,hm,hlt,rfl⟩ ?_;simp[execOp,ho,hview,hix,uM w hut hj h0 hlt',hjs,hb']
   .rename_i md xs kn ko hS;split<;>try trivial
    refine aN λhb=>dP λy hy=>?_;have hb' :=fJ hb;obtain⟨h0,hget,hlt,hlt'⟩:=yN hy;obtain⟨hel,_,loc',Os,hm',ha,hk⟩:=R.own_barrp hS;simp only at hm;rw[hm]at hm';cases hm';cases loc with
    |st b=>cases ha|mp b=>cases ha|nil=>obtain⟨e1,_⟩:=ha;subst e1;simp at hlt
    |arr blk off len cap sz' =>obtain⟨rfl,rfl,h3,_⟩:=ha;simp only[Loc.view]at hview;refine bu H R (v:=.ep bx (aJ n) 0) (x:=.pointer (some ⟨blk,off+n.toNat*md.size,none⟩)) ⟨blk,off,xs.length,cap,md.size,hm,hlt,rfl⟩ ?_;simp[execOp,ho,hview,hix,uM w hut hj h0 hlt',hjs,hb']
 ·
  rename_i k n l sz hsz;obtain⟨e,j,hut,hj,hjs⟩:=a3l H hsz;have hix:=uK hv;cases u<;>try trivial
  case glob g=>
   cases hg:dL X.E.gl g with
   |none=>simp only[hg];trivial|some p=>
   obtain⟨u,xs⟩:=p;simp only[hg];refine bV λhb=>dP λy hy=>?_;simp only[x9]at hb;have hb1:=fJ hb.1;have hb2:=fJ hb.2;obtain⟨h0,hget,hlt,hlt'⟩:=yN hy;obtain⟨hok,_,hel⟩:=R.gl g _ hg;obtain⟨es,he,hr⟩:=hel _ y hget;have hx:a.eval x= .pointer (some ⟨g,0,none⟩):=hu;refine bu H R (v:=.dp u y 0) (x:=.pointer (some ⟨g,0+n.toNat*u.size,none⟩)) ⟨g,n.toNat*u.size,es,A7,hok,he,hr⟩ ?_;have:=Qj w hut hj (k:=k) (b:=g) (p:=0) h0 (by rw[hb2];exact hlt');simp only[hjs,hb1]at this;simp[execOp,ho,hx,hix,this]
  case ptr bx off=>refine⟨λhin=>?_,λ_=>trivial⟩;have hin' :=of_decide_eq_true (show decide (0<=n/\n<(l:Int))=true from hin);obtain⟨blk,hm,hx⟩:=hu;refine bu H R (v:=.ptr bx (off+aJ n*sz)) (x:=.pointer (some ⟨blk,off+n.toNat*sz,none⟩)) ⟨blk,hm,rfl⟩ ?_;have:=Qj w hut hj (k:=k) (b:=blk) (p:=off) hin'.1 hin'.2;simp only[hjs]at this;simp[execOp,ho,hx,hix,this]
theorem VQ(R:Rel X cl ch S m ok a w){sz fo:Nat}{c:V}{u:Value}(hu:vX ⟨w.heap,ok,m⟩ c u){K:V->Cmd α}
  (hK:∀r y,lD ⟨w.heap,ok,m⟩ r y->(∃b bo n k,u= .slice (some ⟨b,bo,none⟩) n k/\0<=Y5 .i64 (n:Int) 1/\Y5 .i64 (n:Int) 1<(n:Int)/\y= .pointer (some ⟨b,bo+(Y5 .i64 (n:Int) 1).toNat*sz+fo,none⟩))->(K r).post S Q):
  (a5S sz fo c K).post S Q:=by
 unfold a5S;split<;>try trivial
 .rename_i u' xs;refine bV λhb=>dP λy hy=>?_;obtain⟨hE0,hb'⟩:=CS hb;obtain⟨h0,hget,hlt,hlt'⟩:=yN hy;obtain⟨ad,cap,hx,hc,hel⟩:=(zo hE0).1 hu;simp only[G5,and_true]at hx;obtain⟨blk,off,es,rfl,hok,he,hr⟩:=hel _ y hget;refine hK (.dp u' y fo) _ ⟨blk,off+(Y5 .i64 (x8 xs) 1).toNat*u'.size,es,rfl,hok,he,hr⟩ ⟨blk,off,xs.length,cap,hx,h0,hlt',?_⟩;rw[hb'];rfl
 .rename_i bx;obtain⟨loc,hm,hview⟩:=hu;refine Y7 ?_;split
  .rename_i ln sz' hSl;refine aN λhb=>⟨λhin=>?_,λ_=>trivial⟩;have hb' :=fJ hb;have hin' :=of_decide_eq_true (show decide (0<=Y5 .i64 ln 1/\Y5 .i64 ln 1<ln)=true from hin);have hbx:=R.box (NK+bx);rw[hSl]at hbx;obtain⟨k',l',e,hm',hl⟩:=hbx;have e' :k' =bx:=l7;subst e';simp only at hm hm';rw[hm]at hm';cases hm';cases loc with
   |nil=>simp only at hl;omega|st b=>cases hl|mp b=>cases hl|arr blk off len cap sz2=>obtain⟨rfl,rfl⟩:=hl;simp only[Loc.view]at hview;refine hK (.ep k' (aJ (Y5 .i64 (len:Int) 1)) fo) (.pointer (some ⟨blk,off+(Y5 .i64 (len:Int) 1).toNat*sz' +fo,none⟩)) ⟨blk,off,len,cap,sz',hm,by unfold aJ;omega,rfl⟩ ⟨blk,off,len,cap,hview,hin'.1,hin'.2,?_⟩;rw[hb']
  refine Y7 ?_;split<;>try trivial
  .rename_i u xs hS;refine bV λhb=>dP λy hy=>?_;obtain⟨hE0,hb'⟩:=CS hb;obtain⟨h0,hget,hlt,hlt'⟩:=yN hy;obtain⟨loc',hm',ha⟩:=R.own_arr hS;simp only at hm;rw[hm]at hm';cases hm';cases loc with
   |nil=>obtain⟨e1,_⟩:=ha;subst e1;simp at hlt
   |st b=>cases ha|mp b=>rw[ha.1]at hE0;cases hE0|arr blk off len cap sz2=>obtain⟨_,rfl,rfl,_⟩:=ha;simp only[Loc.view]at hview;refine hK (.ep bx (aJ (Y5 .i64 (x8 xs) 1)) fo) (.pointer (some ⟨blk,off+(Y5 .i64 (x8 xs) 1).toNat*u.size+fo,none⟩)) ⟨blk,off,xs.length,cap,u.size,hm,hlt,rfl⟩ ⟨blk,off,xs.length,cap,hview,h0,hlt',?_⟩;rw[hb'];rfl
  .rename_i u xs hS;refine bV λhb=>dP λy hy=>?_;obtain⟨hE0,hb'⟩:=CS hb;obtain⟨h0,hget,hlt,hlt'⟩:=yN hy;obtain⟨loc',hm',ha,hok⟩:=R.own_frz hS;simp only at hm;rw[hm]at hm';cases hm';obtain⟨ad,cap,hx,hc,hel⟩:=(zo hE0).1 (qg (C:=⟨w.heap,ok,m⟩) (vw:=none) ha hview (λ_ _ h=>h) hok);simp only[G5,and_true]at hx;obtain⟨blk,off,es,rfl,hok',he,hr⟩:=hel _ y hget;refine hK (.dp u y fo) _ ⟨blk,off+(Y5 .i64 (x8 xs) 1).toNat*u.size,es,rfl,hok',he,hr⟩ ⟨blk,off,xs.length,cap,hx,h0,hlt',?_⟩;rw[hb'];rfl
  .rename_i md xs hole hS;refine aN λhb=>dP λy hy=>?_;have hb' :=fJ hb;obtain⟨h0,hget,hlt,hlt'⟩:=yN hy;obtain⟨hel,loc',Os,hm',⟨ha,hho⟩,hk⟩:=R.own_barrs hS;simp only at hm;rw[hm]at hm';cases hm';cases loc with
   |st b=>cases ha|mp b=>cases ha|nil=>obtain⟨e1,_⟩:=ha;subst e1;simp at hlt
   |arr blk off len cap sz' =>obtain⟨rfl,rfl,h3,_⟩:=ha;simp only[Loc.view]at hview;refine hK (.ep bx (aJ (Y5 .i64 (x8 xs) 1)) fo) (.pointer (some ⟨blk,off+(Y5 .i64 (x8 xs) 1).toNat*md.size+fo,none⟩)) ⟨blk,off,xs.length,cap,md.size,hm,hlt,rfl⟩ ⟨blk,off,xs.length,cap,hview,h0,hlt',?_⟩;rw[hb'];rfl
theorem Tf{C:Cx}{c:V}{vs:c5A}(h:gX C [c] vs):∃v,vs=[v]/\vX C c v:=by obtain⟨v,r,rfl,h1,h2,h3⟩:=h;simp only[gX]at h3;subst h3;exact⟨v,rfl,h1⟩
theorem Ol(R:Rel X cl ch S m ok a w){off sz fo:Nat}{p:V}{x:Value}(hp:lD ⟨w.heap,ok,m⟩ p x){K:V->Cmd α}
  (hK:∀r y,lD ⟨w.heap,ok,m⟩ r y->Qu w.heap x off sz fo y->(K r).post S Q):(a1M off sz fo p K).post S Q:=by
 unfold a1M;split<;>try trivial
 .rename_i bx o;obtain⟨blk,hm,rfl⟩:=hp;refine Y7 ?_;split<;>try trivial
  rename_i cs hS;obtain⟨blk',arr,T,hm',hh,hl⟩:=R.own_cells hS;simp only at hm;rw[hm]at hm';cases hm';refine zI λhle=>?_;have hlen:=lU hl;have e:=kE hh (o+off) 1 (by simp at hlen;omega);have hl1:=wY 1 (uJ (o+off) hl);split<;>try trivial
  rename_i c hc;rw[hc]at hl1;obtain⟨u,hu,hr⟩:=Tf hl1;rw[hu]at e;refine VQ R hr λr y h1 ⟨b,bo,n,k,h2,h3,h4,h5⟩=>hK r y h1 ⟨blk,o,b,bo,n,k,rfl,by rw[e,h2],h3,h4,h5⟩
 .rename_i t z o;obtain⟨blk,o',es,rfl,hb,he,hr⟩:=hp;refine zI λhle=>?_;rw[oM]at hle;have e:=qI he (o+off) 1 hle;have hl1:=wY 1 (uJ (o+off) (ou (C:=⟨w.heap,ok,m⟩) hr));split<;>try trivial
  rename_i c hc;rw[hc]at hl1;obtain⟨u,hu,hr⟩:=Tf hl1;rw[hu]at e;refine VQ R hr λr y h1 ⟨b,bo,n,k,h2,h3,h4,h5⟩=>hK r y h1 ⟨blk,o' +o,b,bo,n,k,rfl,by rw[jS,e,h2],h3,h4,h5⟩
theorem a1C{C:Cx} :∀{vs:List V} {xs:c5A} (k:Nat),iC C vs xs->b3e vs k= .un\/∃x,xs[k]? =some x/\lD C (b3e vs k) x
 |[],_,k,_=> .inl (by cases k<;>rfl)|v::r,_,0,⟨x,xr,e,h1,h2⟩=> .inr ⟨x,by subst e;rfl,h1⟩|v::r,_,k+1,⟨x,xr,e,h1,h2⟩=>by subst e;rw[pY];exact a1C k h2
theorem Vx(R:Rel X cl ch S m ok a w){all:List V}{xall:c5A}(hall:iC ⟨w.heap,ok,m⟩ all xall):∀(ms:List MG) {vs:List V} {xs:c5A} {K:Cmd α}
  (hv:iC ⟨w.heap,ok,m⟩ vs xs) (hK:UE w.heap xall ms xs->K.post S Q),(dvC all ms vs K).post S Q:=by
 intro ms;induction ms with
 |nil=>
  intro vs xs K hv hK;cases vs with
  |nil=>exact hK trivial|cons v vs=>trivial
 |cons md ms ih=>
  intro vs xs K hv hK;obtain⟨g,md⟩:=md;cases vs with
  |nil=>cases md<;>trivial|cons v vs=>
   obtain⟨x,r,rfl,h1,h2⟩:=hv;cases md
   case dv k off sz fo=>
    unfold dvC;rcases a1C k hall with e|⟨p,hp,hr⟩
    .rw[e];trivial
    .refine Ol R hr λr0 y h3 h4=>?_;unfold b9m;split<;>try trivial
     rename_i n i o n' i' o';refine bV λhb=>⟨λhi=>?_,λ_=>trivial⟩;simp only[x9]at hb;have e1:=fJ hb.1;have e2:=fJ hb.2;have e3:=fJ hi;subst e1;subst e2;subst e3;obtain⟨b1,o1,l1,c1,s1,m1,_,rfl⟩:=h1;obtain⟨b2,o2,l2,c2,s2,m2,_,rfl⟩:=h3;simp only at m1 m2;rw[m1]at m2;cases m2;exact ih h2 λhd=>hK ⟨⟨p,hp,h4⟩,hd⟩
   all_goals
    unfold dvC;exact ih h2 λhd=>hK hd
theorem a9v{α β:Type}{f:α->β}{args:Array α}{u:β}(h:args.toList.map f=[u]):∃y,args=#[y]/\f y=u:=by obtain⟨l⟩:=args;simp only[List.map_eq_cons_iff,List.map_eq_nil_iff]at h;obtain⟨y,r,h1,h2,h3⟩:=h;subst h3;exact⟨y,by rw[h1],h2⟩
theorem a1p{α β:Type}{f:α->β}{args:Array α}{u v:β}(h:args.toList.map f=[u,v]):∃y z,args=#[y,z]/\f y=u/\f z=v:=by obtain⟨l⟩:=args;simp only[List.map_eq_cons_iff,List.map_eq_nil_iff]at h;obtain⟨y,r,h1,h2,z,r',h3,h4,h5⟩:=h;subst h5;subst h3;exact⟨y,z,by rw[h1],h2,h4⟩
theorem b6F(H:FxOk X)(R:Rel X cl ch S m ok a w){c:Call}(ho:o.op= .call c)(hc:c.callee= .builtin .len):(dE X.E q o).post S (λ_ S' =>jw X cl ch o a w m ok S'):=by
 obtain⟨cal,args,ats⟩:=c;simp only at hc;subst hc;unfold dE;simp only[ho];refine kJ R _ λvs hvs=>?_;split<;>try trivial
 rename_i t rt x hat
 obtain⟨u,r,he,hx,hr⟩:=hvs;simp only[iC]at hr;subst hr;refine lu H λi hi=>?_;have htd:=hi.td;obtain⟨y,rfl,rfl⟩:=a9v he;have h0:ats[0]? =some t:=by
  obtain⟨l⟩:=ats;simp only at hat
  simp[hat]
 have fin:∀(v:V) (n:Nat),lD ⟨w.heap,ok,m⟩ v (.int .i64 n)->(Builtin.len_ ats o.type #[a.eval y]).run X.P w= .ok (.int .i64 n) w->(dX X.E o.dst v).post S (λ_ S' =>jw X cl ch o a w m ok S'):=λv n hv h=>
  bu H R hv (by simp[execOp,ho,resolve,invoke,builtin,h])
 have mapLen:∀{ke e n:Nat},X.P.underlying t=some (.map ke e)->(∃mv,a.eval y= .map mv/\(mv=none->n=0)/\∀blk,mv=some blk->∃es ck,w.heap[blk]? =some (.map es ck)/\uo es ck n)->
   (dX X.E o.dst (.i .i64 n)).post S (λ_ S' =>jw X cl ch o a w m ok S'):=λ{ke e n} hu ⟨mv,hv,h1,h2⟩=>by
  refine fin _ n rfl ?_;cases mv with
  |none=>rw[h1 rfl];simp[Builtin.len_,h0,run_underlying hu,hv,goInt]|some blk=>obtain⟨es,ck,h3,h4⟩:=h2 blk rfl;simp[Builtin.len_,h0,run_underlying hu,hv,goInt,zk h3,h4.1]
 unfold b9q;split<;>try trivial
 .rename_i l htd';rw[htd']at htd;refine fin _ l.length rfl ?_;simp[Builtin.len_,h0,run_underlying (show X.P.underlying t=some .string from htd),KX hx,goInt];rfl
 .rename_i e u xs htd';rw[htd']at htd;cases hE0:u.isEnt
  .simp only[cond_false];obtain⟨ad,cap,hv,_⟩:=(zo hE0).1 hx;simp only[G5,and_true]at hv;refine fin _ xs.length rfl ?_;simp[Builtin.len_,h0,run_underlying (show X.P.underlying t=some (.slice e)from htd),hv,goInt]
  .trivial
 .rename_i ke e u xs htd';rw[htd']at htd;cases hE0:u.isEnt
  .trivial
  .simp only[cond_true];refine mapLen htd ?_;obtain⟨mv,hv,h1,h2⟩:=(Q_ hE0).1 hx;exact⟨mv,by simpa using hv,(λe=>by simp[h1 e]),λblk hb=>by obtain⟨_,es,ck,h3,h4,_⟩:=h2 blk hb;exact⟨es,ck,h3,h4⟩⟩
 .rename_i ke e bx htd';rw[htd']at htd;obtain⟨loc,hm,hview⟩:=hx;simp only at hm;refine Y7 ?_;have key:∀{u:Ty} {xs:List u.den},u.isEnt=true->arrOk ⟨w.heap,ok,m⟩ u xs loc->(dX X.E o.dst (.i .i64 (x8 xs))).post S (λ_ S' =>jw X cl ch o a w m ok S'):=λ{u xs} hE0 ha=>by
   refine mapLen htd ?_;cases loc with
   |nil=>exact absurd ha.2 (by simp[hE0])|st b=>cases ha|arr blk off len cap sz=>exact absurd ha.1 (by simp[hE0])|mp b=>simp only[Loc.view]at hview;obtain⟨_,es,ck,h3,h4,_⟩:=ha;exact⟨some b,hview,(λh=>nomatch h),λblk hb=>by cases hb;exact⟨es,ck,h3,h4⟩⟩
  split<;>try trivial
  .rename_i u xs hS;obtain⟨loc',hm',ha⟩:=R.own_arr hS;rw[hm]at hm';cases hm';cases hE0:u.isEnt
   .trivial
   .exact key hE0 ha
  .rename_i u xs hS;obtain⟨loc',hm',ha,_⟩:=R.own_frz hS;rw[hm]at hm';cases hm';cases hE0:u.isEnt
   .trivial
   .exact key hE0 ha
 .rename_i e htd';rw[htd']at htd;have hv:a.eval y= .slice none 0 0:=hx;refine fin _ 0 rfl ?_;simp[Builtin.len_,h0,run_underlying (show X.P.underlying t=some (.slice e)from htd),hv,goInt]
 .rename_i e bx vw htd';rw[htd']at htd;obtain⟨loc,hm,hview⟩:=hx;refine Y7 ?_;split
  .rename_i ln sz' hSl;split<;>try trivial
   have hbx:=R.box (NK+bx);rw[hSl]at hbx;obtain⟨k',l',e',hm',hl⟩:=hbx;have e2:k' =bx:=l7;subst e2;simp only at hm hm';rw[hm]at hm';cases hm';cases loc with
   |nil=>simp only at hl;subst hl;simp only[Loc.view]at hview;refine fin _ 0 rfl ?_;simp[Builtin.len_,h0,run_underlying (show X.P.underlying t=some (.slice e)from htd),hview,goInt]|st b=>cases hl|mp b=>cases hl|arr blk off len cap sz2=>obtain⟨rfl,rfl⟩:=hl;simp only[Loc.view]at hview;refine fin _ len rfl ?_;simp[Builtin.len_,h0,run_underlying (show X.P.underlying t=some (.slice e)from htd),hview,goInt]
  refine Y7 ?_;have key:∀{u:Ty} {xs:List u.den},u.isEnt=false->arrOk ⟨w.heap,ok,m⟩ u xs loc->(dX X.E o.dst (.i .i64 (x8 (jU vw xs)))).post S (λ_ S' =>jw X cl ch o a w m ok S'):=λ{u xs} hE0 ha=>by obtain⟨ad,cap,hv,_⟩:=(zo hE0).1 (qg (C:=⟨w.heap,ok,m⟩) (ok' :=λ_ _=>True) ha hview (λ_ _ _=>trivial) (λ_ _=>trivial));simp only[G5,and_true]at hv;refine fin _ (jU vw xs).length rfl ?_;simp[Builtin.len_,h0,run_underlying (show X.P.underlying t=some (.slice e)from htd),hv,goInt]
  split<;>try trivial
  .rename_i u xs hS;obtain⟨loc',hm',ha⟩:=R.own_arr hS;simp only at hm;rw[hm]at hm';cases hm';cases hE0:u.isEnt
   .exact key hE0 ha
   .trivial
  .rename_i u xs hS;obtain⟨loc',hm',ha,_⟩:=R.own_frz hS;simp only at hm;rw[hm]at hm';cases hm';cases hE0:u.isEnt
   .exact key hE0 ha
   .trivial
  .rename_i md xs hole hS;split<;>try trivial
   obtain⟨hel,loc',Os,hm',⟨ha,hho⟩,hk⟩:=R.own_barrs hS;simp only at hm;rw[hm]at hm';cases hm';cases loc with
   |st b=>cases ha|mp b=>cases ha|nil=>obtain⟨e1,_⟩:=ha;subst e1;simp only[Loc.view]at hview;refine fin _ 0 rfl ?_;simp[Builtin.len_,h0,run_underlying (show X.P.underlying t=some (.slice e)from htd),hview,goInt]
   |arr blk off len cap sz' =>obtain⟨rfl,rfl,h3,_⟩:=ha;simp only[Loc.view]at hview;refine fin _ xs.length rfl ?_;simp[Builtin.len_,h0,run_underlying (show X.P.underlying t=some (.slice e)from htd),hview,goInt]
  .rename_i md xs kn ko hS;split<;>try trivial
   obtain⟨hel,_,loc',Os,hm',ha,hk⟩:=R.own_barrp hS;simp only at hm;rw[hm]at hm';cases hm';cases loc with
   |st b=>cases ha|mp b=>cases ha|nil=>obtain⟨e1,_⟩:=ha;subst e1;simp only[Loc.view]at hview;refine fin _ 0 rfl ?_;simp[Builtin.len_,h0,run_underlying (show X.P.underlying t=some (.slice e)from htd),hview,goInt]
   |arr blk off len cap sz' =>obtain⟨rfl,rfl,h3,_⟩:=ha;simp only[Loc.view]at hview;refine fin _ xs.length rfl ?_;simp[Builtin.len_,h0,run_underlying (show X.P.underlying t=some (.slice e)from htd),hview,goInt]
theorem YW(H:FxOk X)(R:Rel X cl ch S m ok a w){c:Call}(ho:o.op= .call c)(hc:c.callee= .builtin .min\/c.callee= .builtin .max):(dE X.E q o).post S (λ_ S' =>jw X cl ch o a w m ok S'):=by
 obtain⟨cal,args,ats⟩:=c;simp only at hc;rcases hc with rfl|rfl
 all_goals
  unfold dE;simp only[ho];refine kJ R _ λvs hvs=>?_;split<;>try trivial
  rename_i k p k' r;obtain⟨u,r',he,hx,v,r'',he',hy,hr⟩:=hvs;simp only[iC]at hr;subst hr;rw[he']at he;refine bV λhk=>?_;have hk' :k=k' :=of_decide_eq_true hk;subst hk';obtain⟨y,z,rfl,rfl,rfl⟩:=a1p he
 .refine bu H R (v:=.i k (EJ p r)) rfl ?_;simp[execOp,ho,resolve,invoke,builtin,Builtin.min_,Builtin.min2,uK hx,uK hy,EJ]
 .refine bu H R (v:=.i k (CW p r)) rfl ?_;simp[execOp,ho,resolve,invoke,builtin,Builtin.max_,Builtin.max2,uK hx,uK hy,CW]
end
end Go.GP
namespace Go.GP
def Bnd(d:Int)(o:Option Value)(n:Int):Prop:=(o=none/\n=d)\/∃k,o=some (.int k n)
theorem EG{P:Program}{w:World}{isS:Bool}{len cap:Nat}{lo hi:Option Value}{x y:Int}(hlo:Bnd 0 lo x)(hhi:Bnd len hi y)(h0:0<=x)(h1:x<=y)(h2:y<=len)(hc:len<=cap):
  (Instr.sliceBounds isS len cap lo hi none).run P w= .ok (x.toNat,y.toNat,cap) w:=by
 have hyc:y<=cap:=l7;have hy0:0<=y:=l7;have e:((y.toNat:Nat):Int)=y:=l7;rcases hlo with⟨rfl,rfl⟩|⟨k,rfl⟩<;>rcases hhi with⟨rfl,rfl⟩|⟨k',rfl⟩
 .simp[Instr.sliceBounds]
 .simp[Instr.sliceBounds,Instr.sliceBound,asIntOf,hy0,hyc]
 .simp[Instr.sliceBounds,Instr.sliceBound,asIntOf,h0,h1]
 .simp[Instr.sliceBounds,Instr.sliceBound,asIntOf,hy0,hyc,h0,e,h1]
theorem YO{α:Type}{l r:List α}{x y:Int}(h:gJ l x y=some r):0<=x/\x<=y/\y<=l.length/\r=(l.take y.toNat).drop x.toNat:=by
 unfold gJ at h;split at h
 .rename_i hh;cases h;exact⟨hh.1,hh.2.1,hh.2.2,rfl⟩
 .cases h
theorem XH(l:c5y)(x y:Nat):(⟨l.toArray⟩:ByteArray).extract x y=⟨((l.take y).drop x).toArray⟩:=by apply ByteArray.ext;apply lC;simp[ByteArray.data_extract,uz,kG]
theorem b3H{h:Array Obj}{ok:Nat->Ty->Prop}{t:Ty}(ht:t.isEnt=false){xs:List t.den}{ad:Option Addr}{cap:Nat}{x y:Nat}(hr:lJ h ok (.sl t) xs [.slice ad xs.length cap])(h1:x<=y)(h2:y<=xs.length):
  lJ h ok (.sl t) ((xs.take y).drop x) [.slice (if cap=x then ad else ad.map (·.add (x*t.size))) (y -x) (cap -x)]:=by
 obtain⟨ad',cap',e,hc,hel⟩:=(zo ht).1 hr;simp only[G5,qE,and_true,true_and]at e;obtain⟨rfl,rfl⟩:=e;have hl:((xs.take y).drop x).length=y -x:=by simp;omega
 refine(zo ht).2 ⟨_,cap -x,by rw[hl],by rw[hl];omega,λi z hz=>?_⟩;have hi:i<y -x:=by rw[←hl];exact(X9.1 hz).1
 have hz' :xs[x+i]? =some z:=by
  simp only[O0,Z9]at hz;split at hz
  .exact hz
  .cases hz
 obtain⟨blk,off,es,rfl,hb,he,hrp⟩:=hel _ z hz';have hne:cap≠x:=l7;refine⟨blk,off+x*t.size,es,by simp[hne,jC],hb,?_,hrp⟩;rw[←he];congr 1;rw[L6];omega
section
variable {X:Fx} {cl ch:Nat} {S:Sm} {m:Mp} {ok:Nat->Ty->Prop} {a:Act} {w:World} {o:Oper}
theorem xF{C:Cx}{d n:Int}{v:Option V}{u:Option Value}(h:Bc d v=some n)(hr:(v=none/\u=none)\/∃c x,v=some c/\u=some x/\lD C c x):Bnd d u n:=by
 rcases hr with⟨rfl,rfl⟩|⟨c,x,rfl,rfl,hr⟩
 .simp[Bc]at h;subst h;exact .inl ⟨rfl,rfl⟩
 .cases c<;>simp[Bc]at h;subst h;exact .inr ⟨_,by rw[uK hr]⟩
theorem FC(H:FxOk X)(R:Rel X cl ch S m ok a w){t:TypeId}{x:V}{u:Value}{lo hi:Option V}{lv hv:Option Value}(hx:lD ⟨w.heap,ok,m⟩ x u)
  (hlo:(lo=none/\lv=none)\/∃c y,lo=some c/\lv=some y/\lD ⟨w.heap,ok,m⟩ c y) (hhi:(hi=none/\hv=none)\/∃c y,hi=some c/\hv=some y/\lD ⟨w.heap,ok,m⟩ c y)
  {K:V->Cmd Unit} {Q:Unit->Sm->Prop} (hK:∀v z,lD ⟨w.heap,ok,m⟩ v z->(Instr.sliceAt t u lv hv none).run X.P w= .ok z w->(K v).post S Q):(RF X.E t x lo hi K).post S Q:=by
 unfold RF;cases x<;>try trivial
 case s l=>
  refine lu H λi hi' =>?_;have htd:=hi'.td;split<;>try trivial
  rename_i p q htd' hp hq;rw[htd']at htd;refine dP λr hr=>?_;obtain⟨h0,h1,h2,rfl⟩:=YO hr;have hb:=EG (P:=X.P) (w:=w) (isS:=false) (cap:=l.length) (xF hp hlo) (xF hq hhi) h0 h1 h2 (A8 _);refine hK (.s _) (.string ⟨((l.take q.toNat).drop p.toNat).toArray⟩) rfl ?_;have hus:X.P.underlying t=some .string:=htd;have hs:(⟨l.toArray⟩:ByteArray).size=l.length:=rfl;simp[Instr.sliceAt,run_underlying hus,Instr.slice,KX hx,hs,hb,XH]
 case sl v l=>
  dsimp only;split<;>try trivial
  rename_i n sz p q hsz hp hq;obtain⟨e,j,hut,hj,hjs⟩:=Ik H hsz;refine bV λhbq=>dP λr hr=>?_;obtain⟨hE0,hbq'⟩:=CS hbq;obtain⟨h0,h1,h2,rfl⟩:=YO hr;have hx' :lJ w.heap ok (.sl v) l [u]:=hx;obtain⟨ad,cap,hu,hc,_⟩:=(zo hE0).1 hx';simp only[G5,and_true]at hu;subst hu;have hb:=EG (P:=X.P) (w:=w) (isS:=true) (cap:=cap) (xF hp hlo) (xF hq hhi) h0 h1 h2 hc;refine hK (.sl v _) _ (b3H hE0 (x:=p.toNat) (y:=q.toNat) hx' l7 l7) ?_;simp[Instr.sliceAt,run_underlying hut,Instr.slice,hb,vZ hj,hjs,hbq']
 case own bx vw=>
  cases vw with
  |some _=>trivial|none=>
  obtain⟨loc,hm,hview⟩:=hx;refine Y7 ?_;have key:∀{v:Ty} {xs:List v.den} {n sz:Nat} {p q:Int},arrOk ⟨w.heap,ok,m⟩ v xs loc->Ij X.E t=some (false,n,sz)->Bc 0 lo=some p->Bc (x8 xs) hi=some q->
    (bif szB sz v then Cmd.br (mY p q (x8 xs)) (K (.own bx (some (aJ p,aJ q)))) .fail else .fail).post S Q:=λ{v xs n sz p q} ha hsz hp hq=>by
   obtain⟨e,j,hut,hj,hjs⟩:=Ik H hsz;refine bV λhbq=>⟨λhr=>?_,λ_=>trivial⟩;obtain⟨hE0,hbq'⟩:=CS hbq;have hr' :=of_decide_eq_true (show decide (0<=p/\p<=q/\q<=x8 xs)=true from hr);obtain⟨h0,h1,h2⟩:=hr';have h2' :q<=(xs.length:Int):=h2;cases loc with
   |st b=>cases ha|mp b=>exact absurd ha.1 (by simp[hE0])|nil=>
    obtain⟨ha,_⟩:=ha;subst ha;simp only[Loc.view]at hview;subst hview;have h2'' :q<=((0:Nat):Int):=by simpa using h2'
    have hb:=EG (P:=X.P) (w:=w) (isS:=true) (len:=0) (cap:=0) (xF hp hlo) (by have:=xF hq hhi;simpa[x8]using this) h0 h1 h2'' (A8 _);have ep:p=0:=l7;have eq:q=0:=l7;subst ep;subst eq;refine hK (.own bx (some (aJ 0,aJ 0))) (.slice none 0 0) ⟨.nil,hm,rfl,rfl,rfl⟩ ?_;simp[Instr.sliceAt,run_underlying hut,Instr.slice,hb,vZ hj]
   |arr blk off len cap sz' =>
    obtain⟨_,rfl,rfl,hc,_⟩:=ha;simp only[Loc.view]at hview;subst hview;have hb:=EG (P:=X.P) (w:=w) (isS:=true) (cap:=cap) (xF hp hlo) (xF hq hhi) h0 h1 h2' hc;refine hK (.own bx (some (aJ p,aJ q))) _ ⟨_,hm,by unfold aJ;omega,by unfold aJ;omega,rfl⟩ ?_;have e1:(if cap=p.toNat then some (⟨blk,off,none⟩:Addr)else some ⟨blk,off+p.toNat*v.size,none⟩)=some (if cap=p.toNat then⟨blk,off,none⟩else⟨blk,off+p.toNat*v.size,none⟩):=by split<;>rfl
    simp[Instr.sliceAt,run_underlying hut,Instr.slice,hb,vZ hj,hjs,hbq',jC,aJ,e1];by_cases ecp:cap=p.toNat<;>simp[ecp]
  split<;>try trivial
  .rename_i v xs hS;obtain⟨loc',hm',ha⟩:=R.own_arr hS;simp only at hm;rw[hm]at hm';cases hm';split<;>try trivial
   rename_i n sz p q hsz hp hq;exact key ha hsz hp hq
  .rename_i v xs hS;obtain⟨loc',hm',ha,_⟩:=R.own_frz hS;simp only at hm;rw[hm]at hm';cases hm';split<;>try trivial
   rename_i n sz p q hsz hp hq;exact key ha hsz hp hq
theorem a7I(H:FxOk X)(R:Rel X cl ch S m ok a w){t:TypeId}{x:Operand}{lo hi:Option Operand}{q:Nat}(ho:o.op= .slice t x lo hi none)
  (hA:∀bx,lo=none->hi=none->lD ⟨w.heap,ok,m⟩ (.ptr bx 0) (a.eval x)->(Xh X.E (L9 q o.dst) t bx λr=>dX X.E o.dst r).post S (λ_ S' =>jw X cl ch o a w m ok S')):(dE X.E q o).post S (λ_ S' =>jw X cl ch o a w m ok S'):=by
 unfold dE;simp only[ho];refine bg R λv hv=>kJ R _ λbs hbs=>?_;split<;>try trivial
 .split
  .exact hA _ rfl rfl hv
  refine FC H R (lv:=none) (hv:=none) hv (.inl ⟨rfl,rfl⟩) (.inl ⟨rfl,rfl⟩) λr z hr hz=>bu H R hr ?_;simp[execOp,ho,hz]
 .rename_i l c;obtain⟨y,r,he,h1,h2⟩:=hbs;simp only[iC]at h2;subst h2;simp at he;subst he;refine FC H R (lv:=some (a.eval l)) (hv:=none) hv (.inr ⟨_,_,rfl,rfl,h1⟩) (.inl ⟨rfl,rfl⟩) λr z hr hz=>bu H R hr ?_;simp[execOp,ho,hz]
 .rename_i h c;obtain⟨y,r,he,h1,h2⟩:=hbs;simp only[iC]at h2;subst h2;simp at he;subst he;refine FC H R (lv:=none) (hv:=some (a.eval h)) hv (.inl ⟨rfl,rfl⟩) (.inr ⟨_,_,rfl,rfl,h1⟩) λr z hr hz=>bu H R hr ?_;simp[execOp,ho,hz]
 .rename_i l h c d;obtain⟨y,r,he,h1,y',r',he',h2,h3⟩:=hbs;simp only[iC]at h3;subst h3;subst he';simp at he;obtain⟨rfl,rfl⟩:=he;refine FC H R (lv:=some (a.eval l)) (hv:=some (a.eval h)) hv (.inr ⟨_,_,rfl,rfl,h1⟩) (.inr ⟨_,_,rfl,rfl,h2⟩) λr z hr hz=>bu H R hr ?_;simp[execOp,ho,hz]
end
end Go.GP
namespace Go.GP
def fK(h:Array Obj)(ok:Nat->Ty->Prop)(t:Ty)(xs:List t.den)(cs:c5A):Prop:=
 cs.length=xs.length*t.size/\∀i x,xs[i]? =some x->lJ h ok t x ((cs.drop (i*t.size)).take t.size)
variable {h:Array Obj}{ok:Nat->Ty->Prop}{t:Ty}
theorem fK.nil :fK h ok t [] []:=⟨A7,λi x hi=>by simp at hi⟩
theorem fK.append{xs ys:List t.den}{cs ds:c5A}(hx:fK h ok t xs cs)(hy:fK h ok t ys ds):fK h ok t (xs++ys) (cs++ds):=by
 refine⟨by simp[hx.1,hy.1,L6],λi x hi=>?_⟩;by_cases hlt:i<xs.length
 .rw[O7 hlt]at hi;have h1:=hx.2 i x hi;have hle:(i+1)*t.size<=cs.length:=by rw[hx.1];exact J4 _ l7
  rw[L6,bU]at hle;rw[List.drop_append_of_le_length l7,aC F8];exact h1
 .rw[F6 l7]at hi;have h1:=hy.2 _ x hi;have hle:cs.length<=i*t.size:=by rw[hx.1];exact J4 _ l7
  rw[List.drop_append,aQ hle,H9];have:i*t.size -cs.length=(i -xs.length)*t.size:=by rw[hx.1,Nat.sub_mul]
  rw[this];exact h1
variable {cs:c5A}{x:t.den}
theorem fK.one(hr:lJ h ok t x cs):fK h ok t [x] cs:=by
 refine⟨by simp[fO hr],λi y hi=>?_⟩;have:i=0:=by have:=(X9.1 hi).1;simp at this;exact this
 subst this;simp at hi;subst hi;have:(List.drop (0*t.size) cs).take t.size=cs:=by simp[←fO hr]
 rw[this];exact hr
variable {xs:List t.den}
theorem fK.mono{h h' :Array Obj}{ok ok' :Nat->Ty->Prop}(hok:∀b t,ok b t->ok' b t)(hh:∀b t,ok b t->h'[b]? =h[b]?)(hr:fK h ok t xs cs):fK h' ok' t xs cs:=
 ⟨hr.1,λi x hi=>dU hok hh (hr.2 i x hi)⟩
theorem fK.rep_all{h:Array Obj}{ok:Nat->Ty->Prop}{t:Ty}{x:t.den}{cs:c5A}(hr:lJ h ok t x cs):∀n,fK h ok t (List.replicate n x) ((List.replicate n cs).flatten)
 |0=>by simpa using fK.nil|n+1=>by have:=(fK.one hr).append (fK.rep_all hr n);simpa[kZ]using this
theorem fK.one_cell{h:Array Obj}{ok:Nat->Ty->Prop}{t:Ty} :∀{xs:List t.den} {cs:c5A},fK h ok t xs cs->∀v∈cs,v.oneCell' =true
 |[],cs,hr=>by have:=hr.1;simp at this;simp[this]|x::xs,cs,hr=>by
  intro v hv;have h0:=hr.2 0 x rfl;simp only[Nat.zero_mul,dG]at h0;have hl:=hr.1;simp only[D7,L6,bU]at hl;have hrest:fK h ok t xs (cs.drop t.size):=by refine⟨by simp;omega,λi y hi=>?_⟩;have:=hr.2 (i+1) y (by simpa using hi);rw[Z4];rwa[show t.size+i*t.size=(i+1)*t.size by rw[L6];omega]
  rw[←iR t.size cs]at hv;rcases E5.1 hv with hv|hv
  .exact xU h0 v hv
  .exact fK.one_cell hrest v hv
variable {blk:Nat}{off:Nat}{cap:Nat}{C:Cx}
theorem fK.arrOk(h0:t.isEnt=false)(hr:fK C.h C.ok t xs cs){c:Array Value}{T:TypeId}{f:Nat×Nat}(hb:C.h[blk]? =some (.cells c T f))(hz:fzo t c.size f)
  (hcap:xs.length<=cap) (hfit:off+cap*t.size<=c.size) (he:(c.toList.drop off).take (xs.length*t.size)=cs):Go.GP.arrOk C t xs (.arr blk off xs.length cap t.size):=by
 refine⟨h0,rfl,rfl,hcap,c,T,f,hb,hz,hfit,λi x hi=>?_⟩;have hlt:=(X9.1 hi).1;have hle:(i+1)*t.size<=xs.length*t.size:=J4 _ l7;rw[L6,bU]at hle;have hle2:xs.length*t.size<=cap*t.size:=J4 _ hcap;refine⟨_,kE hb _ _ l7,?_⟩;have h1:=hr.2 i x hi;rw[←he,kG,jq,Z4]at h1;rwa[jT l7]at h1
theorem Yl{blk off len cap sz:Nat}(h:arrOk C t xs (.arr blk off len cap sz)):
  ∃c T f,C.h[blk]? =some (.cells c T f)/\fzo t c.size f/\sz=t.size/\len=xs.length/\len<=cap/\off+cap*sz<=c.size/\fK C.h C.ok t xs ((c.toList.drop off).take (len*sz)):=by
 obtain⟨_,rfl,rfl,h3,c,T,f,hb,hz,hf,hx⟩:=h;refine⟨c,T,f,hb,hz,rfl,rfl,h3,hf,?_,λi x hi=>?_⟩
 .have:xs.length*t.size<=cap*t.size:=J4 _ h3;simp;omega
 .obtain⟨es,he,hr⟩:=hx i x hi;obtain⟨c',T',f',hb',hn',rfl⟩:=tJ he;rw[hb]at hb';cases hb';have hlt:=(X9.1 hi).1;have hle:(i+1)*t.size<=xs.length*t.size:=J4 _ l7;rw[L6,bU]at hle;rw[kG,jq,Z4,jT l7];exact hr
def yg(h:Array Obj)(ok:Nat->Ty->Prop)(m:M)(xs:List m.den)(cs:c5A)(Os:List c5B):Prop:=
 cs.length=xs.length*m.size/\Os.length=xs.length/\∀i x,xs[i]? =some x->∃O,Os[i]? =some O/\nG h ok m none x ((cs.drop (i*m.size)).take m.size) O
theorem yg.nil{m:M} :yg h ok m [] [] []:=⟨A7,rfl,λi x hi=>by simp at hi⟩
theorem yg.append{t:M}{xs ys:List t.den}{cs ds:c5A}{Os Ps:List c5B}(hx:yg h ok t xs cs Os)(hy:yg h ok t ys ds Ps):yg h ok t (xs++ys) (cs++ds) (Os++Ps):=by
 refine⟨by simp[hx.1,hy.1,L6],by simp[hx.2.1,hy.2.1],λi x hi=>?_⟩;by_cases hlt:i<xs.length
 .rw[O7 hlt]at hi;obtain⟨O,hO,h1⟩:=hx.2.2 i x hi;have hle:(i+1)*t.size<=cs.length:=by rw[hx.1];exact J4 _ l7
  rw[L6,bU]at hle;rw[List.drop_append_of_le_length l7,aC F8];exact⟨O,by rw[O7 (by rw[hx.2.1];exact hlt)];exact hO,h1⟩
 .rw[F6 l7]at hi;obtain⟨O,hO,h1⟩:=hy.2.2 _ x hi;have hle:cs.length<=i*t.size:=by rw[hx.1];exact J4 _ l7
  rw[List.drop_append,aQ hle,H9];have:i*t.size -cs.length=(i -xs.length)*t.size:=by rw[hx.1,Nat.sub_mul]
  rw[this];exact⟨O,by rw[F6 (by rw[hx.2.1];omega),hx.2.1];exact hO,h1⟩
theorem yg.one{t:M}{x:t.den}{O:c5B}(hr:nG h ok t none x cs O):yg h ok t [x] cs [O]:=by
 refine⟨by simp[bf hr],rfl,λi y hi=>?_⟩;have:i=0:=by have:=(X9.1 hi).1;simp at this;exact this
 subst this;simp at hi;subst hi;have:(List.drop (0*t.size) cs).take t.size=cs:=by simp[←bf hr]
 rw[this];exact⟨O,rfl,hr⟩
variable {Os:List c5B}
theorem yg.mono{h h' :Array Obj}{ok ok' :Nat->Ty->Prop}{t:M}{xs:List t.den}(hok:∀b t,ok b t->ok' b t)(hh:∀b t,ok b t->h'[b]? =h[b]?)(hO:∀b∈Os.flatten,h'[b]? =h[b]?)(hr:yg h ok t xs cs Os):yg h' ok' t xs cs Os:=
 ⟨hr.1,hr.2.1,λi x hi=>by obtain⟨O,h1,h2⟩:=hr.2.2 i x hi;exact⟨O,h1,jc hok hh (λb hb=>hO b (aj.2 ⟨O,vM h1,hb⟩)) h2⟩⟩
theorem yg.rep_all{h:Array Obj}{ok:Nat->Ty->Prop}{t:M}{x:t.den}{cs:c5A}(hr:nG h ok t none x cs []):∀n,yg h ok t (List.replicate n x) ((List.replicate n cs).flatten) (List.replicate n [])
 |0=>by simpa using yg.nil|n+1=>by have:=(yg.one hr).append (yg.rep_all hr n);simpa[kZ]using this
theorem yg.one_cell{h:Array Obj}{ok:Nat->Ty->Prop}{t:M} :∀{xs:List t.den} {cs:c5A} {Os:List c5B},yg h ok t xs cs Os->∀v∈cs,v.oneCell' =true
 |[],cs,_,hr=>by have:=hr.1;simp at this;simp[this]|x::xs,cs,Os,hr=>by
  intro v hv;obtain⟨O,hO,h0⟩:=hr.2.2 0 x rfl;simp only[Nat.zero_mul,dG]at h0;have hl:=hr.1;simp only[D7,L6,bU]at hl;have hl2:=hr.2.1;simp only[D7]at hl2;have hrest:yg h ok t xs (cs.drop t.size) (Os.drop 1):=by refine⟨by simp;omega,by simp;omega,λi y hi=>?_⟩;obtain⟨O',hO',this⟩:=hr.2.2 (i+1) y (by simpa using hi);rw[Z4];refine⟨O',by rw[O0,Nat.add_comm];exact hO',?_⟩;rwa[show t.size+i*t.size=(i+1)*t.size by rw[L6];omega]
  rw[←iR t.size cs]at hv;rcases E5.1 hv with hv|hv
  .exact oV h0 v hv
  .exact yg.one_cell hrest v hv
theorem yg.arrs{t:M}{xs:List t.den}(hr:yg h ok t xs cs Os){c:Array Value}{T:TypeId}(hb:h[blk]? =some (.cells c T (0,0)))
  (hcap:xs.length<=cap) (hfit:off+cap*t.size<=c.size) (he:(c.toList.drop off).take (xs.length*t.size)=cs):vC h t.size (λ_ x es O=>nG h ok t none x es O) xs Os (.arr blk off xs.length cap t.size):=by
 refine⟨rfl,rfl,hcap,hr.2.1,c,T,hb,hfit,λi x hi=>?_⟩;have hlt:=(X9.1 hi).1;have hle:(i+1)*t.size<=xs.length*t.size:=J4 _ l7;rw[L6,bU]at hle;have hle2:xs.length*t.size<=cap*t.size:=J4 _ hcap;obtain⟨O,hO,h1⟩:=hr.2.2 i x hi;refine⟨_,O,hO,kE hb _ _ l7,?_⟩;rw[←he,kG,jq,Z4]at h1;rwa[jT l7]at h1
theorem a0F{t:M}{xs:List t.den}{blk off len cap sz:Nat}(k:vC h t.size (λ_ x es O=>nG h ok t none x es O) xs Os (.arr blk off len cap sz)):
  ∃c T,h[blk]? =some (.cells c T (0,0))/\sz=t.size/\len=xs.length/\len<=cap/\off+cap*sz<=c.size/\yg h ok t xs ((c.toList.drop off).take (len*sz)) Os:=by
 obtain⟨rfl,rfl,h3,h7,c,T,hb,hf,hx⟩:=k;refine⟨c,T,hb,rfl,rfl,h3,hf,?_,h7,λi x hi=>?_⟩
 .have:xs.length*t.size<=cap*t.size:=J4 _ h3;simp;omega
 .obtain⟨es,O,hO,he,hr⟩:=hx i x hi;obtain⟨c',T',f',hb',hn',rfl⟩:=tJ he;rw[hb]at hb';cases hb';have hlt:=(X9.1 hi).1;have hle:(i+1)*t.size<=xs.length*t.size:=J4 _ l7;rw[L6,bU]at hle;rw[kG,jq,Z4,jT l7];exact⟨O,hO,hr⟩
theorem a8O{α β:Type}(e:α=β)(e' :List α=List β):cast e' []=[]:=by subst e;rfl
theorem XD{h:Array Obj}{ok:Nat->Ty->Prop}{C:Cx} :∀(m:M) (he:m.el=true) {zs:List V} {cs r:c5A},lJ h ok m.ty m.ty.zero cs->gX C zs (cs++r)->SH m zs=true->nG h ok m none (m.zero he) cs []
 | .dat t,_,_,_,_,hr,_,_=>⟨hr,rfl⟩| .unit,_,_,_,_,hr,_,_=>⟨hr,rfl⟩| .own t,he,zs,cs,r,hr,hz,hn=>by
  have ht:t.isEnt=false:=by simpa[M.el]using he
  obtain⟨a,cap,rfl,_⟩:=(zo ht).1 hr;unfold SH at hn;split at hn
  .obtain⟨v,r',e,h1,_⟩:=hz;simp only[P8,H9,G5]at e;obtain⟨rfl,rfl⟩:=e;exact⟨_,rfl,rfl,.nil,h1,⟨rfl,ht⟩,rfl⟩
  .cases hn
 | .owns t,he,zs,cs,r,hr,hz,hn=>by
  obtain⟨a,cap,rfl,_⟩:=(zo (M.ty_ent (m:=t) (by simpa[M.el]using he))).1 hr;unfold SH at hn;split at hn
  .obtain⟨v,r',e,h1,_⟩:=hz;simp only[P8,H9,G5]at e;obtain⟨rfl,rfl⟩:=e;have he' :t.el=true:=by simpa[M.el]using he
   refine yA.2 ⟨he',.nil,_,[],rfl,h1,⟨?_,rfl⟩,rfl⟩;exact a8O (M.denEq t he').symm _
  .cases hn
 | .pair p q,he,zs,cs,r,hr,hz,hn=>by
  obtain⟨c,d,rfl,h1,h2⟩:=hr;have he' :p.el=true/\q.el=true:=by simpa[M.el]using he
  have hp:=fO h1;rw[M.ty_size he'.1]at hp;unfold SH at hn;split at hn
  .rename_i r' hd;obtain⟨_,rfl⟩:=Vw _ _ _ hd;cases hb:SH p zs<;>rw[hb]at hn
   .cases hn
   .have a1:=XD p he'.1 (r:=d++r) h1 (by simpa using hz) hb;have hz' :=uJ p.size hz;rw[show(c++d++r).drop p.size=d++r by rw[←hp,F5,aB]]at hz';have a2:=XD q he'.2 (r:=r) h2 hz' hn;refine⟨c,d,[],[],rfl,rfl,?_,?_⟩
    .have:=Gv (M.denEq p he'.1).symm (M.denEq q he'.2).symm (M.denEq (.pair p q) he).symm (p.ty.zero,q.ty.zero);exact(congrArg (λz:p.den×q.den=>nG h ok p none z.1 c []) this).mpr a1
    .have:=Gv (M.denEq p he'.1).symm (M.denEq q he'.2).symm (M.denEq (.pair p q) he).symm (p.ty.zero,q.ty.zero);exact(congrArg (λz:p.den×q.den=>nG h ok q none z.2 d []) this).mpr a2
  .cases hn
 | .box _,he,_,_,_,_,_,_=>by simp[M.el]at he| .ownb _,he,_,_,_,_,_,_=>by simp[M.el]at he| .cell _,he,_,_,_,_,_,_=>by simp[M.el]at he| .fr _,he,_,_,_,_,_,_=>by simp[M.el]at he| .sbx _ _,he,_,_,_,_,_,_=>by simp[M.el]at he| .lp _,he,_,_,_,_,_,_=>by simp[M.el]at he| .dv ..,he,_,_,_,_,_,_=>by simp[M.el]at he| .sit,he,_,_,_,_,_,_=>by simp[M.el]at he| .rp _,he,_,_,_,_,_,_=>by simp[M.el]at he| .fn _ _,he,_,_,_,_,_,_=>by simp[M.el]at he| .ifc _ _,he,_,_,_,_,_,_=>by simp[M.el]at he
theorem KF(z:Array Value):∀n,(madeCells z (n*z.size)).toList=(List.replicate n z.toList).flatten:=by
 intro n;rcases jH z.size with h0|h0
 .have:z=#[]:=by simpa using h0
  subst this;simp[madeCells]
 induction n with
 |zero=>simp[madeCells]|succ n ih=>
  rw[rU,kW,←ih];simp only[madeCells,nS,Array.toList_range,List.flatten_cons,List.flatten_nil,D8];rw[L6,bU,List.range_add,bC,mM];congr 1;apply kV
  .simp
  .intro i h1 h2;simp at h1 h2;simp[nT h1,Nat.add_mod,h1,getElem!_pos]
theorem Il{E:Env}{t e:Nat}{u:Ty}(h:Eb E t=some (e,u)):u.isEnt=false:=by
 unfold Eb at h;split at h<;>try (cases h;done)
 split at h<;>try (cases h;done)
 split at h<;>try (cases h;done)
 split at h<;>try (cases h;done)
 rename_i u' _;cases hu:u'.isEnt
 .revert h;generalize (Nat.beq _ _&&Nat.ble _ _)=b;cases b<;>simp[hu];rintro _ rfl;exact hu
 .simp[hu]at h
theorem zx{X:Fx}(H:FxOk X){t e:Nat}{u:Ty}(h:Eb X.E t=some (e,u)):
  ∃j z inf,X.P.underlying t=some (.slice e)/\TiOk X.P e j/\X.P.info? e=some inf/\inf.size=u.size/\j.size=u.size/\inf.bytes<=65536/\inf.zero=some z/\lJ #[] (λ_ _=>False) u u.zero z.cells.toList:=by
 unfold Eb at h;cases hi:dL X.E.tt t with
 |none=>simp[hi]at h|some i=>
  have htd:=(H.tt t i hi).td;simp only[hi]at h;cases hd:i.td<;>simp only[hd]at h<;>try (simp at h;done)
  rename_i e';rw[hd]at htd;cases hj:dL X.E.tt e' with
  |none=>simp[hj]at h|some j=>
   simp only[hj]at h;cases hy:j.ty with
   |none=>simp[hy]at h|some u' =>
    simp only[hy]at h;cases hb:(Nat.beq u'.size j.size&&Nat.ble j.bytes 65536&&!u'.isEnt)
    .simp only[hb,cond_false]at h;cases h
    .simp only[hb,cond_true,F7,je]at h;obtain⟨rfl,rfl⟩:=h;simp only[x9]at hb;have h1:=fJ hb.1.1;have h2:=P9 hb.1.2;obtain⟨inf,a1,a2,a3,a4,a5⟩:=(H.tt e' j hj).info;obtain⟨b1,z,b2,b3⟩:=a5 u' hy;exact⟨j,z,inf,htd,H.tt _ _ hj,a1,l7,l7,l7,b2,b3⟩
variable {q:Nat}{w1:World}{T:c5B}
section
variable {X:Fx} {cl ch:Nat} {S:Sm} {m:Mp} {ok:Nat->Ty->Prop} {a:Act} {w:World} {o:Oper}
theorem Zf(h:lJ #[] (λ_ _=>False) t x cs):lJ C.h C.ok t x cs:=
 dU (λ_ _ h=>h.elim) (λ_ _ h=>h.elim) h
theorem Es(H:FxOk X){v vv:V}{Q:Unit->Sm->Prop}
  (hK:∀n,n=L9 q o.dst->CB*q<=n->n+64<=CB*q+CB->S (V6+n)= .undef->(dX X.E o.dst vv).post (upd S (V6+n) v) Q):
  (uG (L9 q o.dst) v (dX X.E o.dst vv)).post S Q:=by
 refine og λhn=>?_;cases hd:o.dst with
 |none=>have hin:=pV H (q:=q) none (λt h=>by cases h);rw[hd]at hn;have:=hK (L9 q none) (by rw[hd]) hin.1 hin.2 hn;rwa[hd]at this|some t=>
  cases hb:Ju X.E t with
  |false=>unfold dX;simp only[hb,cond_false];trivial|true=>have hin:=pV H (q:=q) (some t) (λt' h=>by cases h;exact(jf hb).1);rw[hd]at hn;have:=hK (L9 q (some t)) (by rw[hd]) hin.1 hin.2 hn;rwa[hd]at this
theorem a7v(H:FxOk X){v vv u:V}{Q:Unit->Sm->Prop}
  (hK:∀n,n=L9 q o.dst->CB*q<=n->n+64<=CB*q+CB->S (V6+n)= .undef->(Cmd.set (V6+(NK+n)) u (dX X.E o.dst vv)).post (upd S (V6+n) v) Q):
  (uG (L9 q o.dst) v (.set (V6+(NK+L9 q o.dst)) u (dX X.E o.dst vv))).post S Q:=by
 refine og λhn=>?_;cases hd:o.dst with
 |none=>have hin:=pV H (q:=q) none (λt h=>by cases h);rw[hd]at hn;have:=hK (L9 q none) (by rw[hd]) hin.1 hin.2 hn;rwa[hd]at this|some t=>
  cases hb:Ju X.E t with
  |false=>refine fP ?_;unfold dX;simp only[hb,cond_false];trivial|true=>have hin:=pV H (q:=q) (some t) (λt' h=>by cases h;exact(jf hb).1);rw[hd]at hn;have:=hK (L9 q (some t)) (by rw[hd]) hin.1 hin.2 hn;rwa[hd]at this
theorem a3I(R:Rel X cl ch S m ok a w)(hos:w1.os=w.os)(htp:w1.tape=w.tape)(hout:w1.output=w.output)(hh:w1.heap=w.heap)
  {u:Ty} (ht:u.isEnt=false) {xs:List u.den} {cs:c5A} {e:TypeId} {c:Array Value} {cap n:Nat} (hr:fK w.heap ok u xs cs)
  (hcap:xs.length<=cap) (hfit:cap*u.size<=c.size) (he:c.toList.take (xs.length*u.size)=cs) (hcl:cl<=n) (hch:n<ch) (hn:S (V6+n)= .undef) {f:Nat×Nat} (hz:fzo u c.size f) (hdr:w.drawn<=w1.drawn:=by first|exact A8 _|exact fE _):
  Rel X cl ch (upd S (V6+n) (.barr u xs)) (mi m n (.arr w.heap.size 0 xs.length cap u.size) []) ok a (w1.alloc (.cells c e f)):=by
 have R1:Rel X cl ch S m ok a w1:=R.same hos htp hout hh (λ_=>hdr);have hblk:(w1.alloc (.cells c e f)).heap[w.heap.size]? =some (.cells c e f):=by rw[←hh];exact heap_alloc_new w1 _
 refine R1.new hn hcl hch A7 (by simp[P5,hh]) ⟨_,az _ _ _ _,?_⟩;refine fK.arrOk (cs:=cs) ht (hr.mono (λ_ _ h=>h) (λb t hb=>?_)) hblk hz hcap l7 (by simpa using he);have:=R.okLt b t hb;show(w1.heap.push (.cells c e f))[b]? =_;rw[hh];exact wU _ _ this
theorem MF(H:FxOk X)(R:Rel X (CB*q) (CB*q+CB) S m ok a w)(hos:w1.os=w.os)(htp:w1.tape=w.tape)(hout:w1.output=w.output)(hh:w1.heap=w.heap)
  {u:Ty} (ht:u.isEnt=false) {xs:List u.den} {cs:c5A} {e:TypeId} {c:Array Value} {cap:Nat} (hr:fK w.heap ok u xs cs)
  (hcap:xs.length<=cap) (hfit:cap*u.size<=c.size) (he:c.toList.take (xs.length*u.size)=cs) {w0:World} {m0:Mp} {ok0:Nat->Ty->Prop} (hm:∀k l,m0 k=some l->m k=some l) (hok:∀b t,ok0 b t->ok b t)
  {f:Nat×Nat} (hz:fzo u c.size f)
  (run:(execOp a.eval o).run X.P w0= .ok (.value (.slice (some ⟨w.heap.size,0,none⟩) xs.length cap)) (w1.alloc (.cells c e f)))
  (hdr:w.drawn<=w1.drawn:=by first|exact A8 _|exact fE _):(uG (L9 q o.dst) (.barr u xs) (dX X.E o.dst (.own (L9 q o.dst) none))).post S (λ_ S' =>jw X (CB*q) (CB*q+CB) o a w0 m0 ok0 S'):=by
 refine Es H λn e1 h1 h2 hn=>?_;rw[←e1];clear e1;generalize CB*q=Z at*;have R' :=a3I R hos htp hout hh ht (e:=e) hr hcap hfit he h1 (by show n<Z+1000000;change n+64<=Z+1000000 at h2;omega) hn hz hdr;refine uu H R' (λk l h=>?_) hok ⟨_,az _ _ _ _,rfl⟩ run;by_cases ek:k=n
 .subst ek;have:=R.fresh k h1 hn;have h3:=hm _ _ h;rw[this]at h3;cases h3
 .rw[jg _ _ _ ek];exact hm _ _ h
theorem SG(R:Rel X cl ch S m ok a w)(hT:Tk X S m ok w T)(hos:w1.os=w.os)(htp:w1.tape=w.tape)(hout:w1.output=w.output)(hh:w1.heap=w.heap)
  {md:M} (hel:md.el=true) {xs:List md.den} {cs:c5A} {Os:List c5B} {e:TypeId} {c:Array Value} {cap n:Nat} (hr:yg w.heap ok md xs cs Os) (hnd:Os.flatten.Nodup) (hO:∀b∈Os.flatten,b∈T)
  (hcap:xs.length<=cap) (hfit:cap*md.size<=c.size) (he:c.toList.take (xs.length*md.size)=cs) (hcl:cl<=n) (hch:n<ch) (hn:S (V6+n)= .undef) (hdr:w.drawn<=w1.drawn:=by first|exact A8 _|exact fE _):
  Rel X cl ch (upd S (V6+n) (.barrs md xs none)) (mi m n (.arr w.heap.size 0 xs.length cap md.size) Os.flatten) ok a (w1.alloc (.cells c e)):=by
 have R1:Rel X cl ch S m ok a w1:=R.same hos htp hout hh (λ_=>hdr);have T1:Tk X S m ok w1 T:=⟨hT.nodup,λb hb=>by rw[hh];exact hT.free b hb⟩;have hblk:(w1.alloc (.cells c e)).heap[w.heap.size]? =some (.cells c e (0,0)):=by rw[←hh];exact heap_alloc_new w1 _
 have hold:∀b,b<w.heap.size->(w1.alloc (.cells c e)).heap[b]? =w.heap[b]?:=λb hb=>by show(w1.heap.push (.cells c e))[b]? =_;rw[hh];exact wU _ _ hb
 refine R1.newK T1 hn hcl hch A7 (by simp[P5,hh]) hnd hO ⟨hel,_,Os,az _ _ _ _,?_,A7⟩;exact⟨yg.arrs (cs:=cs) (hr.mono (λ_ _ h=>h) (λb t hb=>hold b (R.okLt b t hb)) (λb hb=>hold b (hT.free b (hO b hb)).2.1)) hblk hcap l7 (by simpa using he),trivial⟩
theorem Wq(H:FxOk X)(R:Rel X (CB*q) (CB*q+CB) S m ok a w)(hT:Tk X S m ok w T)(hos:w1.os=w.os)(htp:w1.tape=w.tape)(hout:w1.output=w.output)(hh:w1.heap=w.heap)
  {md:M} (hel:md.el=true) {xs:List md.den} {cs:c5A} {Os:List c5B} {e:TypeId} {c:Array Value} {cap:Nat} (hr:yg w.heap ok md xs cs Os) (hnd:Os.flatten.Nodup) (hO:∀b∈Os.flatten,b∈T)
  (hcap:xs.length<=cap) (hfit:cap*md.size<=c.size) (he:c.toList.take (xs.length*md.size)=cs) {w0:World} {m0:Mp} {ok0:Nat->Ty->Prop} (hm:∀k l,m0 k=some l->m k=some l) (hok:∀b t,ok0 b t->ok b t)
  (run:(execOp a.eval o).run X.P w0= .ok (.value (.slice (some ⟨w.heap.size,0,none⟩) xs.length cap)) (w1.alloc (.cells c e)))
  (hdr:w.drawn<=w1.drawn:=by first|exact A8 _|exact fE _):(uG (L9 q o.dst) (.barrs md xs none) (dX X.E o.dst (.own (L9 q o.dst) none))).post S (λ_ S' =>jw X (CB*q) (CB*q+CB) o a w0 m0 ok0 S'):=by
 refine Es H λn e1 h1 h2 hn=>?_;rw[←e1];clear e1;generalize CB*q=Z at*;have R' :=SG R hT hos htp hout hh (e:=e) hel hr hnd hO hcap hfit he h1 (by show n<Z+1000000;change n+64<=Z+1000000 at h2;omega) hn hdr;refine uu H R' (λk l h=>?_) hok ⟨_,az _ _ _ _,rfl⟩ run;by_cases ek:k=n
 .subst ek;have:=R.fresh k h1 hn;have h3:=hm _ _ h;rw[this]at h3;cases h3
 .rw[jg _ _ _ ek];exact hm _ _ h
theorem a1z(H:FxOk X)(R:Rel X (CB*q) (CB*q+CB) S m ok a w)(hT:Tk X S m ok w T)(hos:w1.os=w.os)(htp:w1.tape=w.tape)(hout:w1.output=w.output)(hh:w1.heap=w.heap)
  {md:M} (hel:md.el=true) {xs:List md.den} {cs:c5A} {Os:List c5B} {e:TypeId} {c:Array Value} {cap:Nat} (hr:yg w.heap ok md xs cs Os) (hnd:Os.flatten.Nodup) (hO:∀b∈Os.flatten,b∈T)
  (hcap:xs.length<=cap) (hfit:cap*md.size<=c.size) (he:c.toList.take (xs.length*md.size)=cs) {w0:World} {m0:Mp} {ok0:Nat->Ty->Prop} (hm:∀k l,m0 k=some l->m k=some l) (hok:∀b t,ok0 b t->ok b t)
  (run:(execOp a.eval o).run X.P w0= .ok (.value (.slice (some ⟨w.heap.size,0,none⟩) xs.length cap)) (w1.alloc (.cells c e)))
  (hdr:w.drawn<=w1.drawn:=by first|exact A8 _|exact fE _):(uG (L9 q o.dst) (.barrs md xs none) (.set (V6+(NK+L9 q o.dst)) (.blen (x8 xs) md.size) (dX X.E o.dst (.own (L9 q o.dst) none)))).post S (λ_ S' =>jw X (CB*q) (CB*q+CB) o a w0 m0 ok0 S'):=by
 refine a7v H λn e1 h1 h2 hn=>?_;refine fP ?_;rw[←e1];clear e1;generalize CB*q=Z at*;have R' :=SG R hT hos htp hout hh (e:=e) hel hr hnd hO hcap hfit he h1 (by show n<Z+1000000;change n+64<=Z+1000000 at h2;omega) hn hdr;refine uu H (R'.mark (fQ _ _ _)) (λk l h=>?_) hok ⟨_,az _ _ _ _,rfl⟩ run;by_cases ek:k=n
 .subst ek;have:=R.fresh k h1 hn;have h3:=hm _ _ h;rw[this]at h3;cases h3
 .rw[jg _ _ _ ek];exact hm _ _ h
theorem y_(H:FxOk X)(R:Rel X (CB*q) (CB*q+CB) S m ok a w){t:TypeId}{l c:Operand}(ho:o.op= .makeSlice t l c):(dE X.E q o).post S (λ_ S' =>jw X (CB*q) (CB*q+CB) o a w m ok S'):=by
 unfold dE;simp only[ho];split
 .rename_i md hom;split<;>try trivial
  rename_i e u het;obtain⟨j,z,inf,hu,hj,h1,h2,h3,h4,h5,h6⟩:=zx H het;have hz:=fO h6;refine bg R λv hv=>?_;split<;>try trivial
  rename_i k n;refine aN λhc=>?_;simp only[x9]at hc;obtain⟨⟨hs,hsz⟩,hza⟩:=hc;split<;>try trivial
  rename_i hel;obtain⟨hel,rfl⟩:=hel;refine dP λxs hxs=>?_;have hec:a.eval c=a.eval l:=by
   unfold Xc at hs;split at hs
   .have:=fJ hs;subst this;rfl
   .cases hs
  unfold yu at hxs;split at hxs
  .rename_i hh;cases hxs;have e1:=uK hv;have e2:=hec.trans e1;have hms:=M.ty_size hel;have hby:(inf.bytes:Int)*n<=65536*1073741824:=by
    have:inf.bytes*n.toNat<=65536*1073741824:=Nat.mul_le_mul h4 l7;have e:(n.toNat:Int)=n:=l7;rw[←e,←Int.natCast_mul];generalize inf.bytes*n.toNat=p at*;omega
   have hrun:=run_make (P:=X.P) w t e inf z hu h1 h5 k k n n hh.1 (lT _) l7 l7;have hflat:=KF z.cells n.toNat
   have hzs:z.cells.size=md.ty.size:=by simpa using hz
   have hzero:nG w.heap ok md none (md.zero hel) z.cells.toList []:=by
    unfold a6Q at hza;rw[het]at hza;simp only at hza;cases hj2:dL X.E.tt e with
    |none=>rw[hj2]at hza;cases hza|some j2=>
     rw[hj2]at hza;simp only at hza;cases hb:Nat.beq j2.zero.length j2.size<;>rw[hb]at hza
     .cases hza
     .obtain⟨inf2,a1,a2,a3,a4,a5⟩:=(H.tt e j2 hj2).info;rw[h1]at a1;cases a1;obtain⟨z2,b1,b2⟩:=a4 (fJ hb);rw[h5]at b1;cases b1;exact XD md hel (r:=[]) (Zf (C:=⟨w.heap,ok,m⟩) h6) (by simpa using b2) hza
   refine a1z H R (T:=[]) Tk.nil rfl rfl rfl rfl (cs:=(List.replicate n.toNat z.cells.toList).flatten) (c:=madeCells z.cells (n.toNat*inf.size)) (cap:=n.toNat) (e:=e) hel (yg.rep_all hzero _) A7 A7 A7 (by simp[size_madeCells,h2,hms]) ?_ (λ_ _ h=>h) (λ_ _ h=>h) (w1:=w) ?_
   .rw[h2,←hzs,hflat];rw[ax (by simp[List.length_flatten,hzs,hms])]
   .simp[execOp,ho,e1,e2,hrun]
  .cases hxs
 split<;>try trivial
 rename_i e u het;obtain⟨j,z,inf,hu,hj,h1,h2,h3,h4,h5,h6⟩:=zx H het;have hz:=fO h6;have key:∀{k k' :IntKind} {n n' :Int},a.eval l= .int k n->a.eval c= .int k' n' ->0<=n->n<=n' ->n' <=1073741824->
   (uG (L9 q o.dst) (.barr u (List.replicate n.toNat u.zero)) (dX X.E o.dst (.own (L9 q o.dst) none))).post S (λ_ S' =>jw X (CB*q) (CB*q+CB) o a w m ok S'):=λ{k k' n n'} e1 e2 g0 g1 g2=>by
  have hby:(inf.bytes:Int)*n' <=65536*1073741824:=by have:inf.bytes*n'.toNat<=65536*1073741824:=Nat.mul_le_mul h4 l7;have e:(n'.toNat:Int)=n' :=l7;rw[←e,←Int.natCast_mul];generalize inf.bytes*n'.toNat=p at*;omega
  have hrun:=run_make (P:=X.P) w t e inf z hu h1 h5 k k' n n' g0 g1 l7 l7;have hflat:=KF z.cells n'.toNat
  have hzs:z.cells.size=u.size:=by simpa using hz
  refine MF H R rfl rfl rfl rfl (Il het) (cs:=(List.replicate n.toNat z.cells.toList).flatten) (c:=madeCells z.cells (n'.toNat*inf.size)) (cap:=n'.toNat) (e:=e) (fK.rep_all (Zf (C:=⟨w.heap,ok,m⟩) h6) _) F8 (by simp[size_madeCells,h2]) ?_ (λ_ _ h=>h) (λ_ _ h=>h) (w1:=w) (.inl rfl) ?_
  .rw[h2,←hzs,hflat];have:n'.toNat=n.toNat+(n'.toNat -n.toNat):=l7;rw[this,←List.replicate_append_replicate,kW,aC (by simp[List.length_flatten]),ax (by simp[List.length_flatten])]
  .simp[execOp,ho,e1,e2,hrun]
 refine bg R λv hv=>?_;split<;>try trivial
 rename_i k n;cases hs:Xc l c
 .simp only[cond_false];refine bg R λv' hv' =>?_;split<;>try trivial
  rename_i k' n';refine⟨λhr=>dP λxs hxs=>?_,λ_=>trivial⟩;have hr' :=of_decide_eq_true (show decide (0<=n/\n<=n' /\n' <=1073741824)=true from hr);unfold yu at hxs;split at hxs
  .cases hxs;exact key (uK hv) (uK hv') hr'.1 hr'.2.1 hr'.2.2
  .cases hxs
 .simp only[cond_true];refine dP λxs hxs=>?_;have hec:a.eval c=a.eval l:=by
   unfold Xc at hs;split at hs
   .have:=fJ hs;subst this;rfl
   .cases hs
  unfold yu at hxs;split at hxs
  .rename_i hh;cases hxs;exact key (uK hv) (hec.trans (uK hv)) hh.1 (lT _) hh.2
  .cases hxs
end
end Go.GP
namespace Go.GP
theorem Gz:∀(vs:c5A) (k off:Nat) (cs:Array Value),off+k+vs.length<=cs.size->
  (vs.zipIdx k).foldl (λcs (x:Value×Nat)=>cs.setIfInBounds (off+x.2) x.1) cs=(cO (off+k) vs cs.toList).toArray
 |[],k,off,cs,h=>by simp[cO]|v::vs,k,off,cs,h=>by
  simp only[List.zipIdx_cons,bY];rw[Gz vs (k+1) off (cs.setIfInBounds (off+k) v) (by simp only[D7]at h;rw[Array.size_setIfInBounds];omega)];congr 1;simp only[D7]at h;have hsz:cs.toList.length=cs.size:=rfl;apply au;intro i;rw[ug (by rw[nK,List.length_set];omega),ug (by rw[D7];omega)];simp only[nK,D7,J7];by_cases h1:i<off+k
  .rw[if_pos (show i<off+(k+1) by omega),if_pos h1,if_neg (show ¬off+k=i by omega)]
  .rw[if_neg h1];by_cases h2:i=off+k
   .subst h2;rw[if_pos (show off+k<off+(k+1) by omega),if_pos rfl,if_pos (show off+k<cs.toList.length by omega),if_pos (show off+k<off+k+(vs.length+1) by omega)];simp
   .rw[if_neg (show ¬i<off+(k+1) by omega)];by_cases h3:i<off+(k+1)+vs.length
    .rw[if_pos h3,if_pos (show i<off+k+(vs.length+1) by omega)];rw[show i -(off+k)=(i -(off+(k+1)))+1 by omega];simp
    .rw[if_neg h3,if_neg (show ¬i<off+k+(vs.length+1) by omega),if_neg (show ¬off+k=i by omega)]
theorem a0p(v:Value)(off:Nat)(cs:Array Value)(h:off+v.cells.size<=cs.size):
  v.cells.zipIdx.foldl (λcs (c,j)=>cs.setIfInBounds (off+j) c) cs=(cO off v.cells.toList cs.toList).toArray:=by
 have:=Gz v.cells.toList 0 off cs (by simpa using h);rw[aX]at this;rw[←this,←Array.foldl_toList,Array.toList_zipIdx]
theorem QN{place:Nat->Option (Nat×Nat)}{cs:Array Value}{i off size:Nat}{v:Value}{rest:List (Nat×Value)}(hp:place i=some (off,size))(hs:v.cells.size=size)(hf:off+v.cells.size<=cs.size):
  Instr.fill place cs ((i,v)::rest)=Instr.fill place (cO off v.cells.toList cs.toList).toArray rest:=by
 have h2:¬(v.cells.size≠size\/off+v.cells.size>cs.size):=l7;simp only[Instr.fill,hp];rw[if_neg (by simpa using h2),a0p v off cs hf]
theorem VE{size:Nat} :∀(vs:c5A) (n:Nat) (cs:Array Value),(∀v∈vs,v.cells.size=size)->cs.size=(n+vs.length)*size->
  Instr.fill (λi=>some (i*size,size)) cs ((List.range' n vs.length).zip vs)=some (cs.toList.take (n*size)++vs.flatMap (λv=>v.cells.toList)).toArray
 |[],n,cs,_,h=>by simp only[I5,aX]at h;have:cs.toList.take (n*size)=cs.toList:=ax (by rw[←h];exact A8 _);simp[Instr.fill,this]|v::vs,n,cs,hv,h=>by
  have h1:=hv v A7;simp only[D7]at h;have e1:(n+(vs.length+1))*size=n*size+size+vs.length*size:=by rw[L6,L6];omega
  simp only[D7,fV,iT];rw[QN (off:=n*size) (size:=size) rfl h1 l7];rw[VE vs (n+1) _ (λu hu=>hv u (by simp[hu])) (by have:=yP (p:=n*size) (us:=v.cells.toList) (L:=cs.toList) F8;simp only[dK,this];rw[L6,L6];simp;omega)]
  congr 2;simp only[List.flatMap_cons];rw[←F5];congr 1;unfold cO;have hsz:cs.toList.length=cs.size:=rfl;have h1' :v.cells.toList.length=size:=h1;rw[L6,bU,aC (by rw[E8,fU,h1'];omega)];rw[ax (by rw[E8,fU,h1'];omega)]
theorem Ld{P:Program}{w:World}{t e:TypeId}{inf:TypeInfo}{z:Value}{n sz:Nat}{parts:Array (Nat×Value)}{F:Array Value}(hu:P.underlying t=some (.slice e))(hi:P.info? e=some inf)(hs:inf.size=sz)(hz:inf.zero=some z)
  (hle:n*sz<=16777216) (hf:∀cs:Array Value,cs.size=n*sz->Instr.fill (λi=>some (i*sz,sz)) cs parts.toList=some F):
  (Instr.buildSlice t n parts).run P w= .ok (.slice (some ⟨w.heap.size,0,none⟩) n n) (w.alloc (.cells F e)):=by
 subst hs;have hsz:(sizeOf e).run P w= .ok inf.size w:=by simp[sizeOf,typeInfo,hi]
 have hnle:¬(n*inf.size>2^24):=by show ¬(n*inf.size>16777216);omega
 unfold Instr.buildSlice;simp only[H8,run_underlying hu,J3,hsz,if_neg hnle];generalize n*inf.size=N at*;have fin:∀zero:Array Value,((match Instr.fill (λi=>some (i*inf.size,inf.size)) ((Array.range N).map (zero[·% zero.size]!)) parts.toList with
   |some cells=>(do pure (Value.slice (some (←newRow e cells)) n n):Sem Value)
   |_=>stuck "buildSlice: a part of the wrong size"):Sem Value).run P w= .ok (.slice (some ⟨w.heap.size,0,none⟩) n n) (w.alloc (.cells F e)):=λzero=>by
  rw[hf _ A7];simp[newRow]
 by_cases hn:N=0
 .rw[if_pos hn];simp only[H8,aI,J3];exact fin _
 .rw[if_neg hn];have hzv:(zeroValue e).run P w= .ok z w:=by simp[zeroValue,typeInfo,hi,hz]
  simp only[H8,hzv,aI,J3];exact fin _
variable {t:TypeId}
section
variable {X:Fx} {cl ch:Nat} {S:Sm} {m:Mp} {ok:Nat->Ty->Prop} {a:Act} {w:World} {o:Oper}
theorem Jp{α:Type}{Q:α->Sm->Prop}(u:Ty):∀(is:c5B) (vs:List V) {us:c5A} (n k:Nat) {K:List u.den->Cmd α} {S:Sm} {ok:Nat->Ty->Prop} (R:Rel X cl ch S m ok a w) (hl:is.length=us.length)
  (hv:iC ⟨w.heap,ok,m⟩ vs us)
  (hK:∀S' ok' xs,Rel X cl ch S' m ok' a w->(∀b t,ok b t->ok' b t)->us.length=k->is=List.range' n us.length->(∀v∈us,v.cells.size=u.size)->xs.length=us.length->fK w.heap ok' u xs (us.flatMap λv=>v.cells.toList)->(K xs).post S' Q),
  (zi u (is.zip vs) n k K).post S Q
 |[],vs,us,n,k,K,S,ok,R,hl,hv,hK=>by
  have:us=[]:=by cases us<;>simp at hl ⊢
  subst this;simp only[qC];cases k with
  |zero=>unfold zi;exact hK S ok [] R (λ_ _ h=>h) rfl rfl A7 rfl fK.nil|succ k=>unfold zi;trivial
 |i::is,vs,us,n,k,K,S,ok,R,hl,hv,hK=>by
  cases us with
  |nil=>simp at hl|cons x us=>
  cases vs with
  |nil=>simp[iC]at hv|cons v vs=>
  obtain⟨x',r,e,h1,h2⟩:=hv;simp only[G5]at e;obtain⟨rfl,rfl⟩:=e;simp only[iT];cases k with
  |zero=>unfold zi;trivial|succ k=>
  unfold zi;refine bV λhi=>uV h1 λcs hcs=>?_;have hi' :=fJ hi;subst hi';refine DF (T:=[]) u R Tk.nil hcs λS1 ok1 y q ws ws' R1 T1 k1 s1 e1 g1 l1=>?_;cases q with
  |cons _ _=>trivial|nil=>
  simp only[gX]at l1;subst l1;simp only[D8]at e1;refine Jp u is vs (i+1) k R1 (by simpa using hl) (KY k1 h2) λS2 ok2 ys R2 k2 c1 c2 c3 c4 c5=>?_;refine hK S2 ok2 (y::ys) R2 (λb t h=>k2 b t (k1 b t h)) (by simp[c1]) ?_ ?_ (by simp[c4]) ?_
  .simp[fV,c2]
  .intro z hz;rcases D5.1 hz with rfl|hz
   .have:=fO g1;rw[←e1]at this;simpa using this
   .exact c3 z hz
  .have:=(fK.one (dU k2 (λ_ _ _=>rfl) g1)).append c5;simpa[e1]using this
theorem Gu{α:Type}{Q:α->Sm->Prop}(md:M):∀(is:c5B) (vs:List V) {us:c5A} (n k:Nat) {K:List md.den->Cmd α} {S:Sm} {ok:Nat->Ty->Prop} {T:c5B} (R:Rel X cl ch S m ok a w) (hT:Tk X S m ok w T) (hl:is.length=us.length)
  (hv:iC ⟨w.heap,ok,m⟩ vs us)
  (hK:∀S' ok' xs Os,Rel X cl ch S' m ok' a w->Tk X S' m ok' w (T++Os.flatten)->(∀b t,ok b t->ok' b t)->us.length=k->is=List.range' n us.length->(∀v∈us,v.cells.size=md.size)->xs.length=us.length->yg w.heap ok' md xs (us.flatMap λv=>v.cells.toList) Os->(K xs).post S' Q),
  (xG md (is.zip vs) n k K).post S Q
 |[],vs,us,n,k,K,S,ok,T,R,hT,hl,hv,hK=>by
  have:us=[]:=by cases us<;>simp at hl ⊢
  subst this;simp only[qC];cases k with
  |zero=>unfold xG;exact hK S ok [] [] R (by simpa using hT) (λ_ _ h=>h) rfl rfl A7 rfl yg.nil|succ k=>unfold xG;trivial
 |i::is,vs,us,n,k,K,S,ok,T,R,hT,hl,hv,hK=>by
  cases us with
  |nil=>simp at hl|cons x us=>
  cases vs with
  |nil=>simp[iC]at hv|cons v vs=>
  obtain⟨x',r,e,h1,h2⟩:=hv;simp only[G5]at e;obtain⟨rfl,rfl⟩:=e;simp only[iT];cases k with
  |zero=>unfold xG;trivial|succ k=>
  unfold xG;refine aN λhi=>uV h1 λcs hcs=>?_;have hi' :=fJ hi;subst hi';refine Ec md R hT hcs λS1 ok1 y q ws ws' O R1 T1 k1 s1 e1 g1 l1=>?_;cases q with
  |cons _ _=>trivial|nil=>
  simp only[gX]at l1;subst l1;simp only[D8]at e1;refine Gu md is vs (i+1) k R1 T1 (by simpa using hl) (KY k1 h2) λS2 ok2 ys Os R2 T2 k2 c1 c2 c3 c4 c5=>?_;refine hK S2 ok2 (y::ys) (O::Os) R2 (by simpa[F5]using T2) (λb t h=>k2 b t (k1 b t h)) (by simp[c1]) ?_ ?_ (by simp[c4]) ?_
  .simp[fV,c2]
  .intro z hz;rcases D5.1 hz with rfl|hz
   .have:=bf g1;rw[←e1]at this;simpa using this
   .exact c3 z hz
  .have:=(yg.one (jc k2 (λ_ _ _=>rfl) (λ_ _=>rfl) g1)).append c5;simpa[e1]using this
theorem XW(H:FxOk X){q:Nat}(R:Rel X (CB*q) (CB*q+CB) S m ok a w){n:Nat}{ps:Array (Nat×Operand)}(ho:o.op= .buildSlice t n ps):(dE X.E q o).post S (λ_ S' =>jw X (CB*q) (CB*q+CB) o a w m ok S'):=by
 unfold dE;simp only[ho];split<;>try trivial
 rename_i e u het;obtain⟨j,z,inf,hu,hj,h1,h2,h3,h4,h5,h6⟩:=zx H het;have hz:=fO h6;refine bV λhle=>kJ R _ λvs hvs=>?_;have hle' :n*u.size<=16777216:=P9 hle;split
 rotate_left
 .rename_i md hom;refine aN λhc=>?_;simp only[x9]at hc;have hms:=fJ hc.1;refine Gu md _ vs 0 n (T:=[]) R Tk.nil A7 hvs λS' ok' xs Os R' T' k c1 c2 c3 c4 c5=>?_;rw[H9]at T';simp only[J6]at c1 c2;have hparts:(ps.map λ(i,x)=>(i,a.eval x)).toList=(List.range' 0 ((ps.toList.map (·.2)).map a.eval).length).zip ((ps.toList.map (·.2)).map a.eval):=by
   simp only[J6];rw[←c2];simp[List.zip_map',List.zip_map,nS,mJ]
  have hxl:xs.length=n:=by rw[c4];simpa using c1
  have hflat:=c5.1;have hcl:((ps.toList.map (·.2)).map a.eval).length=n:=by simpa using c1
  have hfill:∀cs:Array Value,cs.size=n*u.size->Instr.fill (λi=>some (i*u.size,u.size)) cs (ps.map λ(i,x)=>(i,a.eval x)).toList=some ((((ps.toList.map (·.2)).map a.eval).flatMap λv=>v.cells.toList)).toArray:=λcs hcs=>by rw[hparts,VE _ 0 cs (by rw[←hms];exact c3) (by rw[hcl,hcs];simp)];simp
  refine Wq (w1:=w) (e:=e) (cap:=xs.length) H R' T' rfl rfl rfl rfl hc.2 c5 T'.nodup (λ_ h=>h) (A8 _) (by rw[←hflat];simp) (c:=((((ps.toList.map (·.2)).map a.eval).flatMap λv=>v.cells.toList)).toArray) (ax (by rw[hflat];exact A8 _)) (λ_ _ h=>h) k ?_;have hrun:=Ld (w:=w) (n:=n) hu h1 h2 h5 hle' hfill;simp only[execOp,ho,H8,hrun,J3,aI,hxl]
 refine Jp u _ vs 0 n R A7 hvs λS' ok' xs R' k c1 c2 c3 c4 c5=>?_;have hsz:(sizeOf e).run X.P w= .ok u.size w:=by simp[sizeOf,typeInfo,h1,h2]
 simp only[J6]at c1 c2;have hparts:(ps.map λ(i,x)=>(i,a.eval x)).toList=(List.range' 0 ((ps.toList.map (·.2)).map a.eval).length).zip ((ps.toList.map (·.2)).map a.eval):=by simp only[J6];rw[←c2];simp[List.zip_map',List.zip_map,nS,mJ]
 have hxl:xs.length=n:=by rw[c4];simpa using c1
 have hflat:=c5.1;have hcl:((ps.toList.map (·.2)).map a.eval).length=n:=by simpa using c1
 have hfill:∀cs:Array Value,cs.size=n*u.size->Instr.fill (λi=>some (i*u.size,u.size)) cs (ps.map λ(i,x)=>(i,a.eval x)).toList=some ((((ps.toList.map (·.2)).map a.eval).flatMap λv=>v.cells.toList)).toArray:=λcs hcs=>by rw[hparts,VE _ 0 cs c3 (by rw[hcl,hcs];simp)];simp
 refine MF (w1:=w) (e:=e) (cap:=xs.length) H R' rfl rfl rfl rfl (Il het) c5 (A8 _) (by rw[←hflat];simp) (c:=((((ps.toList.map (·.2)).map a.eval).flatMap λv=>v.cells.toList)).toArray) (ax (by rw[hflat];exact A8 _)) (λ_ _ h=>h) k (.inl rfl) ?_;have hrun:=Ld (w:=w) (n:=n) hu h1 h2 h5 hle' hfill;simp only[execOp,ho,H8,hrun,J3,aI,hxl]
theorem UM{E:Env} :∀{fs:List (Nat×Nat)},a5i E fs=true->∀p∈fs,∃i,dL E.tt p.1=some i
 |[],_,p,hp=>by cases hp|(t,o)::r,h,p,hp=>by
  unfold a5i at h;cases hi:dL E.tt t with
  |none=>simp[hi]at h|some i=>
   simp only[hi]at h;rcases D5.1 hp with rfl|hp
   .exact⟨i,hi⟩
   .exact UM h p hp
def PO(P:Program)(fields:Array Field):List (Nat×Nat):=fields.toList.map λf=>(f.offset,((P.info? f.type).map (·.size)).getD 0)
theorem SV{P:Program} :∀(fs:List Field),(∀f∈fs,∃i,P.info? f.type=some i)->
  fs.mapM (λf=>(P.info? f.type).map λi=>(f.offset,i.size))=some (fs.map λf=>(f.offset,((P.info? f.type).map (·.size)).getD 0))
 |[],_=>by simp|f::fs,h=>by obtain⟨i,hi⟩:=h f A7;rw[List.mapM_cons,SV fs (λg hg=>h g (by simp[hg]))];simp[hi]
theorem Ht{α:Type}{Q:α->Sm->Prop}(H:FxOk X){t:Nat}{fields:Array Field}(hu:X.P.underlying t=some (.struct fields)):
  ∀(is:c5B) (vs:List V) {us:c5A} {cs:List V} {arr:Array Value} {K:List V->Cmd α} (hl:is.length=us.length) (hv:iC ⟨w.heap,ok,m⟩ vs us) (hc:gX ⟨w.heap,ok,m⟩ cs arr.toList)
  (hK:∀cs' arr',Instr.fill ((PO X.P fields).toArray[·]?) arr (is.zip us)=some arr' ->gX ⟨w.heap,ok,m⟩ cs' arr'.toList->(K cs').post S Q),(CQ X.E t (is.zip vs) cs K).post S Q
 |[],vs,us,cs,arr,K,hl,hv,hc,hK=>by simp only[qC];unfold CQ;exact hK cs arr (by simp[Instr.fill]) hc|i::is,vs,us,cs,arr,K,hl,hv,hc,hK=>by
  cases us with
  |nil=>simp at hl|cons x us=>
  cases vs with
  |nil=>simp[iC]at hv|cons v vs=>
  obtain⟨x',r,e,h1,h2⟩:=hv;simp only[G5]at e;obtain⟨rfl,rfl⟩:=e;simp only[iT];unfold CQ;split<;>try trivial
  rename_i off n ag hf;obtain⟨fields',fld,j,hu',hfl,hoff,hj,hn,hn0,_⟩:=Nr H hf;rw[hu]at hu';cases hu';obtain⟨inf,i1,i2,_⟩:=hj.info;refine uV h1 λws hws=>bV λhb=>BA off ws cs λhle=>?_;have hb' :=fJ hb;have hL:=lU hc;have hLw:=lU hws;have hxs:x.cells.size=n:=by simp at hLw;omega
  have hpl:((PO X.P fields).toArray[i]?)=some (off,n):=by
   have hfl' :fields.toList[i]? =some fld:=by simpa using hfl
   simp[PO,hfl,i1,i2,hoff,hn]
  refine Ht H hu is vs (arr:=(cO off x.cells.toList arr.toList).toArray) (by simpa using hl) h2 (by simpa using CG hws hc) λcs' arr' hfill hrel=>?_;refine hK cs' arr' ?_ hrel;rw[iT,QN (place:=λk=>(PO X.P fields).toArray[k]?) (cs:=arr) hpl hxs (by simp at hL;omega)];exact hfill
theorem Nk{α:Type}{Q:α->Sm->Prop}{sz:Nat} :
  ∀(is:c5B) (vs:List V) {us:c5A} {cs:List V} {arr:Array Value} {K:List V->Cmd α} (hl:is.length=us.length) (hv:iC ⟨w.heap,ok,m⟩ vs us) (hc:gX ⟨w.heap,ok,m⟩ cs arr.toList)
  (hK:∀cs' arr',Instr.fill (λi=>some (i*sz,sz)) arr (is.zip us)=some arr' ->gX ⟨w.heap,ok,m⟩ cs' arr'.toList->(K cs').post S Q),(JO sz (is.zip vs) cs K).post S Q
 |[],vs,us,cs,arr,K,hl,hv,hc,hK=>by simp only[qC];unfold JO;exact hK cs arr (by simp[Instr.fill]) hc|i::is,vs,us,cs,arr,K,hl,hv,hc,hK=>by
  cases us with
  |nil=>simp at hl|cons x us=>
  cases vs with
  |nil=>simp[iC]at hv|cons v vs=>
  obtain⟨x',r,e,h1,h2⟩:=hv;simp only[G5]at e;obtain⟨rfl,rfl⟩:=e;simp only[iT];unfold JO;refine uV h1 λws hws=>bV λhb=>BA (i*sz) ws cs λhle=>?_;have hb' :=fJ hb;have hL:=lU hc;have hLw:=lU hws;have hxs:x.cells.size=sz:=by simp at hLw;omega
  refine Nk is vs (arr:=(cO (i*sz) x.cells.toList arr.toList).toArray) (by simpa using hl) h2 (by simpa using CG hws hc) λcs' arr' hfill hrel=>?_;refine hK cs' arr' ?_ hrel;rw[iT,QN (place:=λk=>some (k*sz,sz)) (cs:=arr) rfl hxs (by simp at hL;omega)];exact hfill
theorem a9R(H:FxOk X)(R:Rel X cl ch S m ok a w){ps:Array (Nat×Operand)}{q:Nat}(ho:o.op= .build t ps):(dE X.E q o).post S (λ_ S' =>jw X cl ch o a w m ok S'):=by
 unfold dE;simp only[ho];refine lu H λi hi=>?_;split<;>try trivial
 case h_2=>
  rename_i n e htd';have htd:=hi.td;rw[htd']at htd;refine lu H λj hj=>bV λhb=>kJ R _ λvs hvs=>?_;obtain⟨inf,h1,h2,h3,h4,h5⟩:=hi.info;obtain⟨ine,e1,e2,_⟩:=hj.info;obtain⟨z,hz1,hz2⟩:=h4 (fJ hb);refine Nk _ vs (us:=(ps.toList.map (·.2)).map a.eval) (arr:=z.cells) A7 hvs (Oo hz2) λcs' arr' hfill hrel=>?_;refine bu H R (v:=.agg cs') (x:=.agg arr') ⟨arr',rfl,hrel⟩ ?_;have hparts:(ps.map λ(i,x)=>(i,a.eval x)).toList=(ps.toList.map (·.1)).zip ((ps.toList.map (·.2)).map a.eval):=by simp[List.zip_map',List.zip_map,nS,mJ]
  have hbuilt:X.P.built t (ps.map λ(i,x)=>(i,a.eval x)).toList=some arr' :=by unfold Program.built;simp only[h1,show X.P.underlying t=some (.array n e)from htd,hz1,e1];rw[hparts,e2];exact hfill
  have:=run_build (P:=X.P) w t _ arr' hbuilt;simp only[execOp,ho,H8,this,J3,aI]
 rename_i fs htd';have htd:=hi.td;rw[htd']at htd;obtain⟨fields,hu,hfs⟩:=htd;refine bV λhb=>kJ R _ λvs hvs=>?_;simp only[x9]at hb;obtain⟨inf,h1,h2,h3,h4,h5⟩:=hi.info;obtain⟨z,hz1,hz2⟩:=h4 (fJ hb.2);refine Ht H hu _ vs (us:=(ps.toList.map (·.2)).map a.eval) (arr:=z.cells) A7 hvs (Oo hz2) λcs' arr' hfill hrel=>?_;refine bu H R (v:=.agg cs') (x:=.agg arr') ⟨arr',rfl,hrel⟩ ?_;have hparts:(ps.map λ(i,x)=>(i,a.eval x)).toList=(ps.toList.map (·.1)).zip ((ps.toList.map (·.2)).map a.eval):=by simp[List.zip_map',List.zip_map,nS,mJ]
 have hmap:=SV (P:=X.P) fields.toList (λf hf=>by obtain⟨i',hi'⟩:=UM hb.1 (f.type,f.offset) (by rw[←hfs];exact I8.2 ⟨f,hf,rfl⟩);obtain⟨inf',q1,_⟩:=(H.tt _ _ hi').info;exact⟨inf',q1⟩)
 have hbuilt:X.P.built t (ps.map λ(i,x)=>(i,a.eval x)).toList=some arr' :=by unfold Program.built;simp only[h1,hu,hz1,hmap];rw[hparts];exact hfill
 have:=run_build (P:=X.P) w t _ arr' hbuilt;simp only[execOp,ho,H8,this,J3,aI]
end
end Go.GP
namespace Go.GP
def DN(h:Array Obj)(sz:Nat)(v:Value)(n:Nat)(es:c5A):Prop:=
 es.length=n*sz/\((n=0/\∃ad cap,v= .slice ad 0 cap)\/(∃blk off cap,v= .slice (some ⟨blk,off,none⟩) n cap/\0<n/\dJ h blk off (n*sz)=some es)\/∃b:ByteArray,v= .string b/\n=b.size/\es=Lib.strCells b)
variable {v:Value}{h:Array Obj}
theorem b3G{ok:Nat->Ty->Prop}{t:Ty}{ys:List t.den}(ht:t.isEnt=false)(hr:lJ h ok (.sl t) ys [v]):∃es,DN h t.size v ys.length es/\fK h ok t ys es:=by
 obtain⟨ad,cap,e,hc,hel⟩:=(zo ht).1 hr;simp only[G5,and_true]at e;subst e;rcases jH ys.length with h0|h0
 .have:ys=[]:=af.1 h0;subst this;exact⟨[],⟨A7,.inl ⟨rfl,ad,cap,rfl⟩⟩,fK.nil⟩
 .obtain⟨y,hy⟩:∃y,ys[ys.length -1]? =some y:=by
   refine⟨ys[ys.length -1]'l7,?_⟩;exact jk _
  obtain⟨blk,off,es,rfl,hok,he,hr⟩:=hel _ y hy;obtain⟨c,T,f,hb,hn,_⟩:=tJ he;have hle:off+ys.length*t.size<=c.size:=by
   have:ys.length*t.size=(ys.length -1)*t.size+t.size:=by
    conv=>lhs;rw[show ys.length=(ys.length -1)+1 by omega,L6,bU]
   omega
  refine⟨(c.toList.drop off).take (ys.length*t.size),⟨by simp;omega,.inr (.inl ⟨blk,off,cap,rfl,h0,kE hb _ _ hle⟩)⟩,by simp;omega,λi x hi=>?_⟩;obtain⟨blk',off',es',ha',hok',he',hr'⟩:=hel i x hi;simp only[F7,jd,and_true]at ha';obtain⟨rfl,rfl⟩:=ha';obtain⟨c',T',f',hb',hn',rfl⟩:=tJ he';rw[hb]at hb';cases hb';have hlt:=(X9.1 hi).1;have hle2:(i+1)*t.size<=ys.length*t.size:=J4 _ l7;rw[L6,bU]at hle2;rw[kG,jq,Z4,jT l7];exact hr'
variable {C:Cx}{l:Loc}
theorem Xy{t:Ty}{xs:List t.den}(ht:t.isEnt=false)(ha:arrOk C t xs l)(hv:l.view none v):∃es,DN C.h t.size v xs.length es/\fK C.h C.ok t xs es:=by
 cases l with
 |st b=>cases ha|mp b=>exact absurd ha.1 (by simp[ht])|nil=>obtain⟨ha,_⟩:=ha;subst ha;simp only[Loc.view]at hv;subst hv;exact⟨[],⟨A7,.inl ⟨rfl,none,0,rfl⟩⟩,fK.nil⟩
 |arr blk off len cap sz=>
  obtain⟨c,T,f,hb,hz,rfl,rfl,hc,hf,hr⟩:=Yl ha;simp only[Loc.view]at hv;subst hv;have hle:xs.length*t.size<=cap*t.size:=J4 _ hc;refine⟨_,⟨hr.1,?_⟩,hr⟩;rcases jH xs.length with h0|h0
  .exact .inl ⟨h0,_,cap,by rw[h0]⟩
  .exact .inr (.inl ⟨blk,off,cap,rfl,h0,kE hb _ _ l7⟩)
variable {P:Program}{es:c5A}
theorem xB{w w' :World}{sz n:Nat}(h:DN w.heap sz v n es)(hh:w'.heap=w.heap):(Builtin.firstCells sz n v).run P w' = .ok es.toArray w' :=by
 obtain⟨hl,h⟩:=h;rcases h with⟨rfl,ad,cap,rfl⟩|⟨blk,off,cap,rfl,hn,hc⟩|⟨b,rfl,rfl,rfl⟩
 .have:es=[]:=af.1 (by simpa using hl);subst this;cases ad with
  |none=>simp[Builtin.firstCells]|some b=>have:=run_loadCells_list (P:=P) w' b [] (λj v h=>by simp at h);simp[Builtin.firstCells];simpa using this
 .refine run_firstCells_some w' sz n _ _ cap es hl λj u hu=>?_;rw[jC];exact wG (w:=w') (by rw[hh];exact hc) hu
 .exact Lib.run_firstCells_string w' sz b
theorem DN.lenOf{sz n:Nat}(hs:DN h sz v n es)(w:World):(Builtin.lenOf v).run P w= .ok n w:=by rcases hs.2 with⟨rfl,ad,cap,rfl⟩|⟨blk,off,cap,rfl,hn,hc⟩|⟨b,rfl,rfl,rfl⟩<;>rfl
section runs
variable {P:Program} {w:World} {t ty e:TypeId} {i:TypeInfo} {z:Value}
theorem NG(ht:P.underlying t=some (.slice e))(hi:P.info? e=some i){blk off len cap n:Nat}{c:Array Value}{T:TypeId}{f:Nat×Nat}(hb:w.heap[blk]? =some (.cells c T f))(hz:f=(0,0)\/f=(c.size,c.size+1))(hv:DN w.heap i.size v n es)
  (h1:∀u∈es,u.oneCell' =true) (hroom:len+n<=cap) (hfit:off+cap*i.size<=c.size):
  (Builtin.append_ #[t,t] ty #[.slice (some ⟨blk,off,none⟩) len cap,v]).run P w= .ok (.slice (some ⟨blk,off,none⟩) (len+n) cap) (w.setRow blk (cO (off+len*i.size) es c.toList).toArray):=by
 have hle:(len+n)*i.size<=cap*i.size:=J4 _ hroom;rw[L6,←hv.1]at hle;have hf:=xB (P:=P) (w' :=w) hv rfl;have hst:=BD (P:=P) blk (off+len*i.size) T es 0 c f w hb hz l7 h1;simp only[aX]at hst;simp[Builtin.append_,run_underlying ht,sizeOf,typeInfo,hi,hv.lenOf,hroom,hf,jC,hst,cO]
theorem JC(ht:P.underlying t=some (.slice e))(hi:P.info? e=some i)(hv:DN w.heap i.size v 0 es):
  (Builtin.append_ #[t,t] ty #[.slice none 0 0,v]).run P w= .ok (.slice none 0 0) w:=by
 have hf:=xB (P:=P) (w' :=w) hv rfl;simp[Builtin.append_,run_underlying ht,sizeOf,typeInfo,hi,hv.lenOf,hf]
theorem Lc(ht:P.underlying t=some (.slice e))(hi:P.info? e=some i)(hz:i.zero=some z)(hby:i.bytes<=65536){s v:Value}{sAd:Option Addr}{len cap n:Nat}{olds es:c5A}(hse:s= .slice sAd len cap)
  (hs:DN w.heap i.size s len olds) (hv:DN w.heap i.size v n es) (hg:cap<len+n) (hmax:len+n<=1073741824):
  (Builtin.append_ #[t,t] ty #[s,v]).run P w= .ok (.slice (some ⟨w.heap.size,0,none⟩) (len+n) (grownCap w (len+n) cap e))
   (w.drew.alloc (.cells ((olds++es).toArray++Builtin.zeroCells z.cells (grownCap w (len+n) cap e -(len+n))) e)):=by
 subst hse;have hn:¬(len+n<=cap):=l7;have h63' :¬(9223372036854775807<((len:Int)+(n:Int))):=l7;have hb2:(len+n)*i.bytes<=1073741824*65536:=Nat.mul_le_mul hmax hby;have h48' :¬(281474976710656<Builtin.nextslicecap (len+n) cap*i.bytes):=by have:=growslice_fits hg (show(len+n)*i.bytes<=140737488355328 by omega);omega
 have hf:=xB (P:=P) (w' :=w.drew) hv rfl;have hfo:=xB (P:=P) (w' :=w.drew) hs rfl;simp[Builtin.append_,run_underlying ht,sizeOf,typeInfo,zeroValue,hi,hz,hv.lenOf,hn,h63',h48',Question.forced,hf,hfo,newRow,grownCap];generalize Builtin.zeroCells _ _=Z;congr 2;apply lC;simp
end runs
variable {q:Nat}{t:TypeId}{α:Type}{u:Ty}{e:TypeId}{z:Value}{Q:α->Sm->Prop}{inf:TypeInfo}{x:Operand}
section
variable {X:Fx} {cl ch:Nat} {S:Sm} {m:Mp} {ok:Nat->Ty->Prop} {a:Act} {w:World} {o:Oper}
theorem Ya(R:Rel X cl ch S m ok a w)(ht:u.isEnt=false){y:V}{vy:Value}{K:List u.den->Cmd α}(hy:lD ⟨w.heap,ok,m⟩ y vy)
  (hK:∀ys es,DN w.heap u.size vy ys.length es->fK w.heap ok u ys es->(K ys).post S Q):(a7L u y K).post S Q:=by
 unfold a7L;split<;>try trivial
 .have hy' :vy= .slice none 0 0:=hy;subst hy';simp only[ht,cond_false];exact hK [] [] ⟨A7,.inl ⟨rfl,none,0,rfl⟩⟩ fK.nil
 .obtain⟨ad,c,rfl,_⟩:=(show ∃a c,vy=Value.slice a 0 c/\a.isNone=_ from hy);simp only[ht,cond_false];exact hK [] [] ⟨A7,.inl ⟨rfl,ad,c,rfl⟩⟩ fK.nil
 .rename_i t' xs;refine eU λe=>?_;subst e;obtain⟨es,h1,h2⟩:=b3G ht (show lJ w.heap ok (.sl t') xs [vy]from hy);exact hK xs es h1 h2
 .rename_i bx vw;obtain⟨l,hm,hv⟩:=hy;refine Y7 ?_;split<;>try trivial
  .rename_i t' xs hS;obtain⟨l',hm',ha⟩:=R.own_arr hS;simp only at hm;rw[hm]at hm';cases hm';refine eU λe=>?_;subst e;obtain⟨a1,a2,_⟩:=Ib ha hv;obtain⟨es,h1,h2⟩:=Xy ht a1 a2;exact hK _ es h1 h2
  .rename_i t' xs hS;obtain⟨l',hm',ha,_⟩:=R.own_frz hS;simp only at hm;rw[hm]at hm';cases hm';refine eU λe=>?_;subst e;obtain⟨a1,a2,_⟩:=Ib ha hv;obtain⟨es,h1,h2⟩:=Xy ht a1 a2;exact hK _ es h1 h2
theorem RZ{T:c5B}(R:Rel X cl ch S m ok a w)(hT:Tk X S m ok w T){md:M}{y:V}{vy:Value}{K:List md.den->List V->Cmd α}(hy:lD ⟨w.heap,ok,m⟩ y vy)
  (hK:∀S' ok' ys r O,Rel X cl ch S' m ok' a w->Tk X S' m ok' w (T++O)->(∀b t,ok b t->ok' b t)->bn S S' ->nG w.heap ok' (.owns md) none ys [vy] O->(K ys r).post S' Q):
  (exM Ai (.owns md) [y] K).post S Q:=by
 have key:vX ⟨w.heap,ok,m⟩ y vy->vy.oneCell' =true->(exM Ai (.owns md) [y] K).post S Q:=λh1 h2=>by
  refine Ec (.owns md) R hT (vs:=[vy]) ⟨vy,[],rfl,h1,h2,rfl⟩ λS' ok' ys r us us' O R' T' k s e hr l=>?_;have:us=[vy]:=by obtain⟨v,e',_⟩:=hr;subst e';simp at e;simp[e.1]
  subst this;exact hK S' ok' ys r O R' T' k s hr
 cases y<;>try (unfold exM;trivial)
 .exact key hy (by have h:vy= .slice none 0 0:=hy;subst h;rfl)
 .refine key hy ?_;obtain⟨l,_,hv⟩:=hy;exact lV hv
theorem Zr{ok:Nat->Ty->Prop}{md:M}{xs:List md.den}{Os:List c5B}(ha:vC h md.size (λ_ x es O=>nG h ok md none x es O) xs Os l)(hv:l.view none v):∃es,DN h md.size v xs.length es/\yg h ok md xs es Os:=by
 cases l with
 |st b=>cases ha|mp b=>cases ha|nil=>obtain⟨rfl,rfl⟩:=ha;simp only[Loc.view]at hv;subst hv;exact⟨[],⟨A7,.inl ⟨rfl,none,0,rfl⟩⟩,yg.nil⟩
 |arr blk off len cap sz=>
  obtain⟨c,T,hb,rfl,rfl,hc,hf,hr⟩:=a0F ha;simp only[Loc.view]at hv;subst hv;have hle:xs.length*md.size<=cap*md.size:=J4 _ hc;refine⟨_,⟨hr.1,?_⟩,hr⟩;rcases jH xs.length with h0|h0
  .exact .inl ⟨h0,_,cap,by rw[h0]⟩
  .exact .inr (.inl ⟨blk,off,cap,rfl,h0,kE hb _ _ l7⟩)
theorem QS{xs ys zs:List α}(h:eY xs ys=some zs):xs.length+ys.length<=1073741824/\zs=xs++ys:=by
 unfold eY at h;split at h
 .cases h;exact⟨by assumption,rfl⟩
 .cases h
theorem LH(z:Array Value)(n:Nat):(Builtin.zeroCells z n).size=n*z.size:=by simp[Builtin.zeroCells]
theorem Nc(H:FxOk X)(R:Rel X (CB*q) (CB*q+CB) S m ok a w)(ht:u.isEnt=false){j:TI}(hu:X.P.underlying t=some (.slice e))(h1:X.P.info? e=some inf)(h2:inf.size=u.size)(h4:inf.bytes<=65536)
  (h5:inf.zero=some z) (hz:z.cells.size=u.size) {xs ys:List u.den} {s v:Value} {sAd:Option Addr} {cap:Nat} {olds es:c5A} (hse:s= .slice sAd xs.length cap)
  (hs:DN w.heap u.size s xs.length olds) (hv:DN w.heap u.size v ys.length es) (r1:fK w.heap ok u xs olds) (r2:fK w.heap ok u ys es) (hg:cap<xs.length+ys.length) (hmax:xs.length+ys.length<=1073741824)
  (run:∀r w',(Builtin.append_ #[t,t] o.type #[s,v]).run X.P w= .ok r w' ->(execOp a.eval o).run X.P w= .ok (.value r) w'):
  (uG (L9 q o.dst) (.barr u (xs++ys)) (dX X.E o.dst (.own (L9 q o.dst) none))).post S (λ_ S' =>jw X (CB*q) (CB*q+CB) o a w m ok S'):=by
 have hrun:=Lc (P:=X.P) (w:=w) (t:=t) (ty:=o.type) hu h1 h5 h4 (s:=s) (v:=v) hse (by rw[h2];exact hs) (by rw[h2];exact hv) hg hmax;have hge:=grownCap_ge w (xs.length+ys.length) cap e;have r:=r1.append r2;rw[←E8]at hrun hge;refine MF H R (w1:=w.drew) rfl rfl rfl rfl ht r hge ?_ ?_ (λ_ _ h=>h) (λ_ _ h=>h) (.inl rfl) (run _ _ hrun)
 .have hl:=r.1;simp only[vN,dK,hl,LH,hz,←L6];exact J4 _ l7
 .have hl:=r.1;simp only[tX];rw[aC (by rw[hl];exact A8 _),←hl];exact aG
theorem Nh(H:FxOk X)(R:Rel X (CB*q) (CB*q+CB) S m ok a w)(ht:u.isEnt=false)(hu:X.P.underlying t=some (.slice e))(h1:X.P.info? e=some inf)(h2:inf.size=u.size)(h4:inf.bytes<=65536)
  (h5:inf.zero=some z) (hz:z.cells.size=u.size) {ys:List u.den} {s v:Value} {es:c5A} (hse:s= .slice none 0 0)
  (hv:DN w.heap u.size v ys.length es) (r2:fK w.heap ok u ys es) (hmax:ys.length<=1073741824)
  (run:∀r w',(Builtin.append_ #[t,t] o.type #[s,v]).run X.P w= .ok r w' ->(execOp a.eval o).run X.P w= .ok (.value r) w'):
  (uG (L9 q o.dst) (.barr u ys) (dX X.E o.dst (.own (L9 q o.dst) none))).post S (λ_ S' =>jw X (CB*q) (CB*q+CB) o a w m ok S'):=by
 rcases jH ys.length with h0|h0
 .have hy:ys=[]:=af.1 h0;subst hy;have hrun:=JC (P:=X.P) (w:=w) (t:=t) (ty:=o.type) hu h1 (v:=v) (by rw[h2];exact hv);rw[←hse]at hrun;refine Es H λn e1 g1 g2 hn=>?_;rw[←e1];clear e1;generalize CB*q=Z at*;have R' :Rel X Z (Z+CB) (upd S (V6+n) (.barr u [])) (mi m n .nil []) ok a w:=by
   refine R.lay hn g1 (by show n<Z+1000000;change n+64<=Z+1000000 at g2;omega) A7 rfl rfl rfl (A8 _) (λ_ _ _=>rfl) (by simp[P5]) (λb hb=>by simp[P5]at hb) ⟨.nil,az _ _ _ _,rfl,ht⟩
  refine uu H R' (λk l h=>?_) (λ_ _ h=>h) ⟨.nil,az _ _ _ _,hse⟩ (run _ _ hrun);by_cases ek:k=n
  .subst ek;have:=R.fresh k g1 hn;rw[this]at h;cases h
  .rw[jg _ _ _ ek];exact h
 .have:=Nc (j:=⟨0,0,.bool,none,[]⟩) H R ht hu h1 h2 h4 h5 hz (xs:=[]) (ys:=ys) (s:=s) (v:=v) (sAd:=none) (cap:=0) (olds:=[]) (es:=es) hse ⟨A7,.inl ⟨rfl,none,0,hse⟩⟩ hv fK.nil r2 (by simpa using h0) (by simpa using hmax) run;simpa using this
theorem a2O(H:FxOk X)(R:Rel X (CB*q) (CB*q+CB) S m ok a w){md:M}{j:TI}(hu:X.P.underlying t=some (.slice e))(h1:X.P.info? e=some inf)(h2:inf.size=md.size)(h4:inf.bytes<=65536)
  (h5:inf.zero=some z) (hz:z.cells.size=md.size) {x y:V} {s v:Value} (hx:lD ⟨w.heap,ok,m⟩ x s) (hy:lD ⟨w.heap,ok,m⟩ y v)
  (run:∀r w',(Builtin.append_ #[t,t] o.type #[s,v]).run X.P w= .ok r w' ->(execOp a.eval o).run X.P w= .ok (.value r) w'):
  (exM Ai (.owns md) [y] λys _=>exM Ai (.owns md) [x] λxs _=>Cmd.opt (eY xs ys) λzs=>uG (L9 q o.dst) (.barrs md zs none) (dX X.E o.dst (.own (L9 q o.dst) none))).post S (λ_ S' =>jw X (CB*q) (CB*q+CB) o a w m ok S'):=by
 refine RZ (T:=[]) R Tk.nil hy λS1 ok1 ys _ O1 R1 T1 k1 s1 g1=>?_;refine RZ R1 T1 (MQ k1 hx) λS2 ok2 xs _ O2 R2 T2 k2 s2 g2=>?_;have k12:∀b t,ok b t->ok2 b t:=λb t h=>k2 b t (k1 b t h);have g1:=jc k2 (λ_ _ _=>rfl) (λ_ _=>rfl) g1;obtain⟨hel,ly,vy,Oy,ey,hvy,hay,rfl⟩:=yA.1 g1;obtain⟨_,lx,vx,Ox,ex,hvx,hax,rfl⟩:=yA.1 g2;simp only[G5,and_true]at ey ex;subst ey;subst ex;refine dP λzs hzs=>?_;obtain⟨hmax,rfl⟩:=QS hzs;obtain⟨es,hv,ry⟩:=Zr hay hvy;obtain⟨olds,hs,rx⟩:=Zr hax hvx;have hnd2:=T2.nodup;have rr:=rx.append ry;have hT3:∀b∈(Ox++Oy).flatten,b∈[]++(ly.blks++Oy.flatten)++(lx.blks++Ox.flatten):=λb hb=>by
  simp only[kW,E5]at hb ⊢;rcases hb with hb|hb
  .exact .inr (.inr hb)
  .exact .inl (.inr (.inr hb))
 have hnd3:(Ox++Oy).flatten.Nodup:=by rw[kW];have h:=J9.1 hnd2;simp only[H9]at h;refine J9.2 ⟨(J9.1 h.2.1).2.1,(J9.1 h.1).2.1,λp hp r hr e=>h.2.2 r (by simp[hr]) p (by simp[hp]) e.symm⟩
 have fresh:∀{sAd:Option Addr} {cap:Nat},s= .slice sAd xs.length cap->cap<xs.length+ys.length->(uG (L9 q o.dst) (.barrs md (xs++ys) none) (dX X.E o.dst (.own (L9 q o.dst) none))).post S2 (λ_ S' =>jw X (CB*q) (CB*q+CB) o a w m ok S'):=λ{sAd cap} hse hg=>by
  have hrun:=Lc (P:=X.P) (w:=w) (t:=t) (ty:=o.type) hu h1 h5 h4 (s:=s) (v:=v) hse (by rw[h2];exact hs) (by rw[h2];exact hv) hg hmax;have hge:=grownCap_ge w (xs.length+ys.length) cap e;rw[←E8]at hrun hge;refine Wq H R2 T2 (w1:=w.drew) rfl rfl rfl rfl hel rr hnd3 hT3 hge ?_ ?_ (λ_ _ h=>h) k12 (run _ _ hrun)
  .have hl:=rr.1;simp only[vN,dK,hl,LH,hz,←L6];exact J4 _ l7
  .have hl:=rr.1;simp only[tX];rw[aC (by rw[hl];exact A8 _),←hl];exact aG
 cases lx with
 |st b=>cases hax|mp b=>cases hax|nil=>
  obtain⟨rfl,rfl⟩:=hax;simp only[Loc.view]at hvx;rcases jH ys.length with h0|h0
  .have hy0:ys=[]:=af.1 h0;subst hy0;have hO0:Oy=[]:=af.1 ry.2.1;subst hO0;have hrun:=JC (P:=X.P) (w:=w) (t:=t) (ty:=o.type) hu h1 (v:=v) (by rw[h2];exact hv);rw[←hvx]at hrun;refine Es H λn e1 g1 g2 hn=>?_;rw[←e1];clear e1;generalize CB*q=Z at*;have R' :Rel X Z (Z+CB) (upd S2 (V6+n) (.barrs md ([]++[]) none)) (mi m n .nil []) ok2 a w:=by
    refine R2.lay hn g1 (by show n<Z+1000000;change n+64<=Z+1000000 at g2;omega) A7 rfl rfl rfl (A8 _) (λ_ _ _=>rfl) (by simp[P5]) (λb hb=>by simp[P5]at hb) ⟨hel,.nil,[],az _ _ _ _,⟨⟨rfl,rfl⟩,trivial⟩,A7⟩
   refine uu H R' (λk l h=>?_) k12 ⟨.nil,az _ _ _ _,hvx⟩ (run _ _ hrun);by_cases ek:k=n
   .subst ek;have:=R2.fresh k g1 hn;rw[this]at h;cases h
   .rw[jg _ _ _ ek];exact h
  .exact fresh (sAd:=none) (cap:=0) hvx (by simpa using h0)
 |arr blk off len cap sz=>
  obtain⟨c,T,hb,rfl,rfl,hcap,hfit,r1⟩:=a0F hax;simp only[Loc.view]at hvx;by_cases hroom:xs.length+ys.length<=cap
  .have hrun:=NG (P:=X.P) (w:=w) (t:=t) (ty:=o.type) (off:=off) (cap:=cap) hu h1 hb (.inl rfl) (v:=v) (n:=ys.length) (es:=es) (by rw[h2];exact hv) ry.one_cell hroom (by rw[h2];exact hfit);rw[←hvx]at hrun;obtain⟨q1,q2,q3,q4⟩:=T2.free blk (by simp[Loc.blks]);have hle:(xs.length+ys.length)*md.size<=cap*md.size:=J4 _ hroom;rw[L6]at hle;have hesl:=hv.1;have hcl:c.toList.length=c.size:=rfl;have hsp:(cO (off+xs.length*md.size) es c.toList).length=c.size:=by rw[yP l7];rfl
   have hblk:∀b∈(Ox++Oy).flatten,b≠blk:=λb hbm e=>by
    subst e;rw[kW]at hbm;have h:=J9.1 hnd2;simp only[H9]at h;rcases E5.1 hbm with hbm|hbm
    .exact(J9.1 h.2.1).2.2 b (by simp[Loc.blks]) b hbm rfl
    .exact h.2.2 b (by simp[hbm]) b (by simp[Loc.blks]) rfl
   refine Es H λn e1 g1 g2 hn=>?_;rw[←e1];clear e1;generalize CB*q=Z at*;have hoth:∀b,b≠blk->(w.setRow blk (cO (off+xs.length*md.size) es c.toList).toArray).heap[b]? =w.heap[b]?:=λb hb=>setRow_other w blk b _ hb;have hown1:P5 (mi m n (.arr blk off (xs.length+ys.length) cap md.size) (Ox++Oy).flatten) n (.barrs md (xs++ys) none)=blk::(Ox++Oy).flatten:=by simp[P5]
   have R' :Rel X Z (Z+CB) (upd S2 (V6+n) (.barrs md (xs++ys) none)) (mi m n (.arr blk off (xs.length+ys.length) cap md.size) (Ox++Oy).flatten) ok2 a (w.setRow blk (cO (off+xs.length*md.size) es c.toList).toArray):=by
    refine R2.lay hn g1 (by show n<Z+1000000;change n+64<=Z+1000000 at g2;omega) A7 rfl rfl rfl A7 (λb _ hne=>hoth b (λe=>hne (by rw[hown1,e];simp))) (by rw[hown1];exact X3.2 ⟨λh=>hblk blk h rfl,hnd3⟩) (λb hbb=>?_) ⟨hel,_,Ox++Oy,az _ _ _ _,?_,A7⟩
    .rw[hown1]at hbb;obtain⟨q1,q2,q3,q4⟩:=T2.free b (by
      rcases D5.1 hbb with rfl|h
      .simp[Loc.blks]
      .exact hT3 b h)
     exact⟨q1,by simpa using q2,q3,q4⟩
    .refine⟨?_,trivial⟩;have:=yg.arrs (h:=(w.setRow blk (cO (off+xs.length*md.size) es c.toList).toArray).heap) (ok:=ok2) (cs:=((c.toList.drop off).take (xs.length*md.size))++es) (cap:=cap) (off:=off) ((r1.append ry).mono (λ_ _ h=>h) (λb t hb=>hoth b (λe=>q1 t (e▸hb))) (λb hb=>hoth b (hblk b hb))) (setRow_heap w blk c _ T (0,0) hb) (by rw[E8];exact hroom) (by rw[dK,hsp];exact hfit) ?_
     .rw[E8]at this;exact this
     .simp only[E8,L6];rw[RI (n:=xs.length*md.size+ys.length*md.size) l7 l7];unfold cO;have hd:((c.toList.drop off).take (xs.length*md.size+ys.length*md.size)).drop (xs.length*md.size+es.length)=[]:=aQ (by rw[fU,iK];omega);rw[jq,jT (V5 _ _),hd,D8]
   refine uu H R' (λk l h=>?_) k12 ⟨_,az _ _ _ _,rfl⟩ (run _ _ (by rw[h2]at hrun;exact hrun));by_cases ek:k=n
   .subst ek;have:=R2.fresh k g1 hn;rw[this]at h;cases h
   .rw[jg _ _ _ ek];exact h
  .exact fresh hvx l7
theorem Xb{w:World}{t t' ty e:TypeId}{i:TypeInfo}(ht:P.underlying t=some (.slice e))(hs:P.underlying t' =some .string)(hi:P.info? e=some i){s:Value}{b:ByteArray} :
  (Builtin.append_ #[t,t'] ty #[s,.string b]).run P w=(Builtin.append_ #[t,t] ty #[s,.string b]).run P w:=by
 cases s<;>simp[Builtin.append_,run_underlying ht,run_underlying hs,sizeOf,typeInfo,hi]
theorem UR(H:FxOk X)(R:Rel X (CB*q) (CB*q+CB) S m ok a w){p:Operand}{x:V}{j:TI}(ht:u.isEnt=false)(hu:X.P.underlying t=some (.slice e))(h1:X.P.info? e=some inf)(h2:inf.size=u.size)(h4:inf.bytes<=65536)
  (h5:inf.zero=some z) (hz:z.cells.size=u.size) (hx:lD ⟨w.heap,ok,m⟩ x (a.eval p)) {ys:List u.den} {v:Value} {es:c5A} (hv:DN w.heap u.size v ys.length es) (r2:fK w.heap ok u ys es)
  (run:∀r w',(Builtin.append_ #[t,t] o.type #[a.eval p,v]).run X.P w= .ok r w' ->(execOp a.eval o).run X.P w= .ok (.value r) w'):
  (TY (L9 q o.dst) u x ys λv=>dX X.E o.dst v).post S (λ_ S' =>jw X (CB*q) (CB*q+CB) o a w m ok S'):=by
 unfold TY;split<;>try trivial
 ·
  refine dP λzs hzs=>?_;obtain⟨hmax,rfl⟩:=QS hzs;have hx' :a.eval p= .slice none 0 0:=hx;simp only[H9];exact Nh H R ht hu h1 h2 h4 h5 hz hx' hv r2 (by simpa using hmax) run
 .rename_i bx vw;obtain⟨loc,hm,hview⟩:=hx;refine Y7 ?_;split<;>try trivial
  rename_i u' xs hS;refine eU λeu=>?_;subst eu;refine dP λzs hzs=>fP ?_;obtain⟨hmax,rfl⟩:=QS hzs;obtain⟨loc',hm',ha⟩:=R.own_arr hS;simp only at hm;rw[hm]at hm';cases hm';have R1:=R.kill bx;obtain⟨a1,a2,a3⟩:=Ib ha hview;generalize hl2:Jo loc vw=l2 at*;generalize jU vw xs=xs' at*;cases l2 with
  |st b=>cases a1|mp b=>exact absurd a1.1 (by simp[ht])|nil=>obtain⟨a1,_⟩:=a1;subst a1;simp only[Loc.view]at a2;simp only[H9];exact Nh H R1 ht hu h1 h2 h4 h5 hz a2 hv r2 (by simpa using hmax) run
  |arr blk off len cap sz=>
   obtain⟨c,T,f,hb,hfz,rfl,rfl,hcap,hfit,r1⟩:=Yl a1;simp only[Loc.view]at a2;simp only at hb r1;by_cases hroom:xs'.length+ys.length<=cap
   ·
    have hrun:=NG (P:=X.P) (w:=w) (t:=t) (ty:=o.type) (off:=off) (cap:=cap) hu h1 hb hfz.of (v:=v) (n:=ys.length) (es:=es) (by rw[h2];exact hv) r2.one_cell hroom (by rw[h2];exact hfit);rw[←a2]at hrun;have hown:P5 m bx (S (V6+bx))=[blk]:=by
     cases loc with
     |nil=>simp[Loc.blks]at a3|st _=>cases ha|mp b=>exact absurd ha.1 (by simp[ht])|arr b2 _ _ _ _=>simp[Loc.blks]at a3;simp[P5,hS,hm,a3]
    obtain⟨s1,s2,s3⟩:=R.sep bx blk (by rw[hown];simp);have hle:(xs'.length+ys.length)*u'.size<=cap*u'.size:=J4 _ hroom;rw[L6]at hle;have hel:=hv.1;have hcl:c.toList.length=c.size:=rfl;have hsp:(cO (off+xs'.length*u'.size) es c.toList).length=c.size:=by rw[yP l7];rfl
    refine Es H λn e1 g1 g2 hn=>?_;rw[←e1];clear e1;generalize CB*q=Z at*;have hkeep:∀b t,ok b t->(w.setRow blk (cO (off+xs'.length*u'.size) es c.toList).toArray).heap[b]? =w.heap[b]?:=λb t hb=>setRow_other w blk b _ (λe=>s1 t (e▸hb));have R' :Rel X Z (Z+CB) (upd (upd S (V6+bx) .dead) (V6+n) (.barr u' (xs' ++ys))) (mi m n (.arr blk off (xs'.length+ys.length) cap u'.size) []) ok a (w.setRow blk (cO (off+xs'.length*u'.size) es c.toList).toArray):=by
     refine R1.lay hn g1 (by show n<Z+1000000;change n+64<=Z+1000000 at g2;omega) A7 rfl rfl rfl A7 (λb _ hne=>?_) (by simp[P5]) (λb hbb=>?_) ⟨_,az _ _ _ _,?_⟩
     .refine setRow_other w blk b _ (λe=>hne ?_);subst e;simp[P5]
     .simp[P5]at hbb;subst hbb;refine⟨s1,by simpa using s2,s3,λk e=>?_⟩;obtain⟨k1,k2⟩:=zD rfl e;exact k1 (R.inj k bx b k2 (by rw[hown];simp))
     .rw[←E8];refine fK.arrOk ht (cs:=((c.toList.drop off).take (xs'.length*u'.size))++es) ((r1.append r2).mono (λ_ _ h=>h) hkeep) (setRow_heap w blk c _ T f hb) (by rw[dK,hsp];exact hfz) (by rw[E8];exact hroom) (by rw[dK,hsp];exact hfit) ?_;simp only[E8,L6];rw[RI (n:=xs'.length*u'.size+ys.length*u'.size) l7 l7];unfold cO;have hd:((c.toList.drop off).take (xs'.length*u'.size+ys.length*u'.size)).drop (xs'.length*u'.size+es.length)=[]:=aQ (by rw[fU,iK];omega);rw[jq,jT (V5 _ _),hd,D8]
    refine uu H R' (λk l h=>?_) (λ_ _ h=>h) ⟨_,az _ _ _ _,rfl⟩ (run _ _ (by rw[h2]at hrun;exact hrun))
    .by_cases ek:k=n
     .subst ek;have:=R1.fresh k g1 hn;rw[this]at h;cases h
     .rw[jg _ _ _ ek];exact h
   .obtain⟨olds,q1,q2⟩:=Xy (C:=⟨w.heap,ok,m⟩) ht a1 a2;exact Nc (j:=j) H R1 ht hu h1 h2 h4 h5 hz a2 q1 hv q2 r2 l7 hmax run
theorem a7D(H:FxOk X)(R:Rel X (CB*q) (CB*q+CB) S m ok a w){c:Call}(ho:o.op= .call c)(hc:c.callee= .builtin .append):(dE X.E q o).post S (λ_ S' =>jw X (CB*q) (CB*q+CB) o a w m ok S'):=by
 obtain⟨cal,args,ats⟩:=c;simp only at hc;subst hc;unfold dE;simp only[ho];refine kJ R _ λvs hvs=>?_;split<;>try trivial
 rename_i t t' x y hat
 obtain⟨u1,r,he,hx,u2,r',he',hy,hr⟩:=hvs;simp only[iC]at hr;subst hr;rw[he']at he;obtain⟨p,p',rfl,rfl,rfl⟩:=a1p he;cases htt:Nat.beq t t'
 ·
  simp only[cond_false];split<;>try trivial
  rename_i l;refine lu H λi hi=>?_;have hd:=hi.td;split<;>try trivial
  rename_i htd;rw[htd]at hd;unfold a5n;split<;>try trivial
  rename_i e het;obtain⟨j,z,inf,hu,hj,h1,h2,h3,h4,h5,h6⟩:=zx H het;have hz:z.cells.size=(Ty.int IntKind.u8).size:=by have:=fO h6;simpa using this
  split<;>try trivial
  have hats:ats=#[t,t']:=by
   obtain⟨l⟩:=ats;simp only at hat
   rw[hat]
  have hs:a.eval p' = .string ⟨l.toArray⟩:=hy;refine UR (j:=j) H R (Il het) hu h1 h2 h4 h5 hz hx (v:=.string ⟨l.toArray⟩) (es:=Lib.strCells ⟨l.toArray⟩) ?_ ?_ ?_
  .refine⟨?_,.inr (.inr ⟨_,rfl,?_,rfl⟩)⟩
   .rw[Lib.strCells_length];simp[XQ,Ty.size,ByteArray.size]
   .simp[XQ,ByteArray.size]
  .refine⟨by rw[Lib.strCells_length];simp[XQ,Ty.size,ByteArray.size],λi x hi=>?_⟩;show(((Lib.strCells ⟨l.toArray⟩).drop (i*1)).take 1)=[.int .u8 x];have hl:l[i]?.map (λc=>(c.toNat:Int))=some x:=by simpa[XQ,W9]using hi
   obtain⟨c,hc,rfl⟩:=iG.1 hl;have h7:(Lib.strCells ⟨l.toArray⟩)[i]? =some (.int .u8 c.toNat):=by simp[Lib.strCells,hc]
   obtain⟨g1,g2⟩:=X9.1 h7;rw[bD,V9 g1,g2];rfl
  .intro r w' h;rw[←Xb hu hd h1]at h;simp[execOp,ho,resolve,invoke,builtin,hats,hs,h]
 simp only[cond_true];have htt' :=fJ htt;subst htt';have hats:ats=#[t,t]:=by
  obtain⟨l⟩:=ats;simp only at hat
  rw[hat]
 have run:∀(s v:Value),a.eval p=s->a.eval p' =v->∀r w',(Builtin.append_ #[t,t] o.type #[s,v]).run X.P w= .ok r w' ->(execOp a.eval o).run X.P w= .ok (.value r) w' :=λs v e1 e2 r w' h=>by subst e1;subst e2;simp[execOp,ho,resolve,invoke,builtin,hats,h]
 unfold a5m;split
 .trivial
 rename_i e u het;obtain⟨j,z,inf,hu,hj,h1,h2,h3,h4,h5,h6⟩:=zx H het;have hz:z.cells.size=u.size:=by have:=fO h6;simpa using this
 split
 rotate_left
 .rename_i md hom;refine aN λhms=>?_;have hms:=fJ hms;exact a2O (j:=j) H R hu h1 (by rw[h2,hms]) h4 h5 (by rw[hz,hms]) hx hy (run _ _ rfl rfl)
 have ht:=Il het;refine Ya R ht hy λys es hv r2=>?_;exact UR (j:=j) H R ht hu h1 h2 h4 h5 hz hx hv r2 (run _ _ rfl rfl)
theorem Xp{α:Type}{Q:α->Sm->Prop}{S:Sm}{C:Cx}{u:Ty}(hf:u.flat=true):∀(n:Nat) {cs:List V} {vs:c5A} {K:List u.den->Cmd α},gX C cs vs->
  (∀xs,xs.length=n->fK C.h C.ok u xs vs->(K xs).post S Q)->(a2C u n cs K).post S Q
 |0,cs,vs,K,hL,hK=>by
  unfold a2C;cases cs with
  |nil=>simp only[gX]at hL;subst hL;exact hK [] rfl fK.nil|cons _ _=>trivial
 |n+1,cs,vs,K,hL,hK=>by unfold a2C;refine FH u hf hL λx r us us' e hr hL' =>?_;refine Xp hf n hL' λxs hl hxs=>?_;subst e;exact hK (x::xs) (by simp[hl]) ((fK.one (hr C.h C.ok)).append hxs)
theorem a9V(H:FxOk X)(R:Rel X (CB*q) (CB*q+CB) S m ok a w){lo hi:Option Operand}(ho:o.op= .slice t x lo hi none):(dE X.E q o).post S (λ_ S' =>jw X (CB*q) (CB*q+CB) o a w m ok S'):=by
 refine a7I H R ho λbx hlo hhi hx=>?_;subst hlo;subst hhi;obtain⟨blk,hm,hx⟩:=hx;unfold Xh;refine lu H λi hi=>?_;have htd:=hi.td;split<;>try trivial
 rename_i n e hd;rw[hd]at htd;have hut:X.P.underlying t=some (.array n e):=htd;refine lu H λj hj=>?_;split<;>try trivial
 rename_i u hju;refine aN λhf=>Y7 ?_;split<;>try trivial
 rename_i cs hS;obtain⟨blk',arr,T,hm',hh,hl⟩:=R.own_cells hS;simp only at hm;rw[hm]at hm';cases hm';refine Xp (C:=⟨w.heap,ok,m⟩) hf n hl λxs hlen hr=>fP ?_;have hjz:u.size=j.size:=by obtain⟨inf,_,_,_,_,hty⟩:=hj.info;exact(hty u hju).1
 have ht:u.isEnt=false:=by cases u<;>first|rfl|(cases hf;done)
 have hown:P5 m bx (S (V6+bx))=[blk]:=by simp[P5,hS,hm]
 obtain⟨s1,s2,s3⟩:=R.sep bx blk (by rw[hown];simp);have R1:=R.kill bx;refine Es H λnn e1 g1 g2 hn=>?_;rw[←e1];clear e1;generalize CB*q=Z at*;have hsz:arr.toList.length=xs.length*u.size:=hr.1;have R' :Rel X Z (Z+CB) (upd (upd S (V6+bx) .dead) (V6+nn) (.barr u xs)) (mi m nn (.arr blk 0 xs.length xs.length u.size) []) ok a w:=by
  refine R1.lay hn g1 (by show nn<Z+1000000;change nn+64<=Z+1000000 at g2;omega) A7 rfl rfl rfl (A8 _) (λ_ _ _=>rfl) (by simp[P5]) (λb hbb=>?_) ⟨_,az _ _ _ _,?_⟩
  .simp[P5]at hbb;subst hbb;refine⟨s1,s2,s3,λk e=>?_⟩;obtain⟨k1,k2⟩:=zD rfl e;exact k1 (R.inj k bx b k2 (by rw[hown];simp))
  .refine fK.arrOk ht (C:=⟨w.heap,ok,mi m nn (.arr blk 0 xs.length xs.length u.size) []⟩) (cs:=arr.toList) hr hh (.inl rfl) (A8 _) (by rw[←hsz];simp) ?_;simp only[dG];exact ax (by rw[hsz];exact A8 _)
 refine uu H R' (λk l h=>?_) (λ_ _ h=>h) (x:=.slice (some ⟨blk,0,none⟩) n n) ⟨_,az _ _ _ _,by rw[hlen];rfl⟩ ?_
 .by_cases ek:k=nn
  .subst ek;have:=R1.fresh k g1 hn;rw[this]at h;cases h
  .rw[jg _ _ _ ek];exact h
 .have hb:=EG (P:=X.P) (w:=w) (isS:=false) (len:=n) (cap:=n) (lo:=none) (hi:=none) (x:=0) (y:=n) (.inl ⟨rfl,rfl⟩) (.inl ⟨rfl,rfl⟩) l7 l7 l7 (A8 _);simp[execOp,ho,hx,Instr.sliceAt,run_underlying hut,Instr.sureAddr,hb,vZ hj,jC]
theorem a3N(H:FxOk X)(R:Rel X (CB*q) (CB*q+CB) S m ok a w){src t:TypeId}(ho:o.op= .convert src t x):
  (dE X.E q o).post S (λ_ S' =>jw X (CB*q) (CB*q+CB) o a w m ok S'):=by
 refine a1E H R ho λl hl hsrc=>?_;unfold a8R;split<;>try trivial
 rename_i e het;obtain⟨j,z,inf,hu,hj,h1,h2,h3,h4,h5,h6⟩:=zx H het;refine lu H λk hk=>?_;have hkd:=hk.td;split<;>try trivial
 rename_i hke;rw[hke]at hkd;have hrun:=run_bytes_of_string (P:=X.P) w src t e ⟨l.toArray⟩ hsrc hu hkd;have hsz:(⟨l.toArray⟩:ByteArray).size=l.length:=by simp[ByteArray.size]
 have hge:=grownCap_ge w (⟨l.toArray⟩:ByteArray).size 0 e;generalize hcap:grownCap w (⟨l.toArray⟩:ByteArray).size 0 e=cap at*;have hbs:(bytesRow ⟨l.toArray⟩ cap).size=cap:=by simp[bytesRow];omega
 have hll:(XQ l).length=l.length:=by simp[XQ]
 refine MF H R (w1:=w.drew) (u:=.int .u8) (e:=e) (cap:=cap) (c:=bytesRow ⟨l.toArray⟩ cap) (cs:=Lib.strCells ⟨l.toArray⟩) (f:=((bytesRow ⟨l.toArray⟩ cap).size,(bytesRow ⟨l.toArray⟩ cap).size+1)) rfl rfl rfl rfl rfl ?_ ?_ ?_ ?_ (λ_ _ h=>h) (λ_ _ h=>h) (.inr ⟨rfl,rfl⟩) ?_
 .refine⟨by rw[Lib.strCells_length];simp[XQ,Ty.size,ByteArray.size],λi x hi=>?_⟩;show(((Lib.strCells ⟨l.toArray⟩).drop (i*1)).take 1)=[.int .u8 x];have hl:l[i]?.map (λc=>(c.toNat:Int))=some x:=by simpa[XQ,W9]using hi
  obtain⟨c,hc,rfl⟩:=iG.1 hl;have h7:(Lib.strCells ⟨l.toArray⟩)[i]? =some (.int .u8 c.toNat):=by simp[Lib.strCells,hc]
  obtain⟨g1,g2⟩:=X9.1 h7;rw[bD,V9 g1,g2];rfl
 .omega
 .rw[hbs];simp[Ty.size]
 .rw[hll];have:(bytesRow ⟨l.toArray⟩ cap).toList=Lib.strCells ⟨l.toArray⟩++List.replicate (cap -l.length) (.int .u8 0):=by
   simp[bytesRow,Lib.strCells,hsz]
  rw[this,aC (by rw[Lib.strCells_length,hsz];simp[Ty.size])];exact ax (by rw[Lib.strCells_length,hsz];simp[Ty.size])
 .simp only[execOp,ho,hl];rw[H8,hrun,hll,←hsz];rfl
end
def rE{α β:Type}(eq:α->α->Bool):List (α×β)->α->Option Nat
 |[],_=>none|p::r,k=>bif eq k p.1 then some 0 else(rE eq r k).map (·+1)
theorem IG{α β:Type}{eq:α->α->Bool} :∀{xs:List (α×β)} {k:α} {i:Nat},rE eq xs k=some i->∃p,xs[i]? =some p/\eq k p.1=true
 |[],_,_,h=>by cases h|p::r,k,i,h=>by
  unfold rE at h;cases he:eq k p.1<;>rw[he]at h
  .simp only[cond_false,iG]at h;obtain⟨j,h1,rfl⟩:=h;obtain⟨q,h2,h3⟩:=IG h1;exact⟨q,by simpa using h2,h3⟩
  .cases h;exact⟨p,rfl,he⟩
theorem Wj{α β:Type}(eq:α->α->Bool):∀(xs:List (α×β)) (k:α) (z:β),a5W eq xs k z=(match rE eq xs k with|some i=>(match xs[i]? with|some p=>p.2|none=>z)|none=>z)
 |[],_,_=>rfl|p::r,k,z=>by
  unfold a5W rE;cases he:eq k p.1
  .simp only[cond_false];rw[Wj eq r k z];cases rE eq r k<;>simp
  .rfl
variable {β:Type}
theorem a7q(eq:α->α->Bool):∀(xs:List (α×β)) (k:α) (z:β),JL eq xs k z=(match rE eq xs k with|some i=>(match xs[i]? with|some p=>p.2|none=>z)|none=>z):=
 Wj eq
theorem Wl{α β:Type}(eq:α->α->Bool):∀(xs:List (α×β)) (k:α),a5X eq xs k=(rE eq xs k).isSome
 |[],_=>rfl|p::r,k=>by
  unfold a5X rE;cases he:eq k p.1
  .simp only[cond_false];rw[Wl eq r k];cases rE eq r k<;>simp
  .rfl
theorem a7r(eq:α->α->Bool):∀(xs:List (α×β)) (k:α),b2Y eq xs k=(rE eq xs k).isSome:=
 Wl eq
theorem Wp{α β:Type}(eq:α->α->Bool):∀(xs:List (α×β)) (k:α) (x:β),a6b eq xs k x=(match rE eq xs k with|some i=>xs.set i (k,x)|none=>xs++[(k,x)])
 |[],_,_=>rfl|p::r,k,x=>by
  unfold a6b rE;cases he:eq k p.1
  .simp only[cond_false];rw[Wp eq r k x];cases rE eq r k<;>simp
  .rfl
theorem YS(eq:α->α->Bool):∀(xs:List (α×β)) (k:α) (x:β),MX eq xs k x=(match rE eq xs k with|some i=>xs.set i (k,x)|none=>xs++[(k,x)]):=
 Wp eq
theorem Uf:∀{k:Ty} (hf:k.flat=true) (a b:k.den),keq k a b=true↔a=b
 | .bool,_,a,b=>by cases a<;>cases b<;>simp[keq,UV]| .int _,_,a,b=>by simp[keq,D6]| .str,_,a,b=>by simp[keq,seq]| .unit,_,a,b=>⟨λ_=>rfl,λ_=>rfl⟩| .prod p q,hf,a,b=>by simp only[Ty.flat,x9]at hf;simp only[keq,jy,x9,Uf hf.1,Uf hf.2];exact⟨λh=>jW h.1 h.2,λh=>by subst h;exact⟨rfl,rfl⟩⟩| .sl _,hf,_,_=>by cases hf| .ent ..,hf,_,_=>by cases hf
theorem Un{h h' :Array Obj}{ok ok' :Nat->Ty->Prop} :∀{t:Ty} (hf:t.flat=true) {x:t.den} {c d:c5A},lJ h ok t x c->lJ h' ok' t x d->c=d
 | .bool,_,_,_,_,h1,h2=>by simp only[lJ]at h1 h2;rw[h1,h2]| .int _,_,_,_,_,h1,h2=>by simp only[lJ]at h1 h2;rw[h1,h2]| .str,_,_,_,_,h1,h2=>by simp only[lJ]at h1 h2;rw[h1,h2]| .unit,_,_,_,_,h1,h2=>by simp only[lJ]at h1 h2;rw[h1,h2]| .prod p q,hf,_,_,_,h1,h2=>by simp only[Ty.flat,x9]at hf;obtain⟨a,b,rfl,a1,a2⟩:=h1;obtain⟨a',b',rfl,b1,b2⟩:=h2;rw[Un hf.1 a1 b1,Un hf.2 a2 b2]
 | .sl _,hf,_,_,_,_,_=>by cases hf| .ent ..,hf,_,_,_,_,_=>by cases hf
theorem P_{h h' :Array Obj}{ok ok' :Nat->Ty->Prop} :∀{t:Ty} (hf:t.flat=true) {x y:t.den} {c:c5A},lJ h ok t x c->lJ h' ok' t y c->x=y
 | .bool,_,_,_,_,h1,h2=>by simp only[lJ]at h1 h2;rw[h1]at h2;simpa using h2| .int _,_,_,_,_,h1,h2=>by simp only[lJ]at h1 h2;rw[h1]at h2;simpa using h2
 | .str,_,_,_,_,h1,h2=>by simp only[lJ]at h1 h2;rw[h1]at h2;injection h2 with h2 _;injection h2 with h2;injection h2 with h2;have:=congrArg Array.toList h2;simpa using this
 | .unit,_,_,_,_,_,_=>rfl| .prod p q,hf,_,_,_,h1,h2=>by simp only[Ty.flat,x9]at hf;obtain⟨a,b,rfl,a1,a2⟩:=h1;obtain⟨a',b',e,b1,b2⟩:=h2;obtain⟨rfl,rfl⟩:=List.append_inj e ((fO a1).trans (fO b1).symm);exact jW (P_ hf.1 a1 b1) (P_ hf.2 a2 b2)
 | .sl _,hf,_,_,_,_,_=>by cases hf| .ent ..,hf,_,_,_,_,_=>by cases hf
theorem Ro{h:Array Obj}{ok:Nat->Ty->Prop} :∀{k:Ty} (hf:k.flat=true) {x:k.den} {c:c5A},lJ h ok k x c->∀{sh:List Ty} {d:c5A},kD sh d->kD (k.leaves++sh) (c++d)
 | .bool,_,x,_,h1,_,_,hd=>by simp only[lJ]at h1;subst h1;exact⟨_,_,rfl,hd⟩| .int _,_,x,_,h1,_,_,hd=>by simp only[lJ]at h1;subst h1;exact⟨_,_,rfl,hd⟩| .str,_,x,_,h1,_,_,hd=>by simp only[lJ]at h1;subst h1;exact⟨_,_,rfl,hd⟩| .unit,_,x,_,h1,_,_,hd=>by simp only[lJ]at h1;subst h1;exact hd| .prod p q,hf,_,_,h1,_,_,hd=>by simp only[Ty.flat,x9]at hf;obtain⟨a,b,rfl,a1,a2⟩:=h1;simp only[Ty.leaves,F5];exact Ro hf.1 a1 (Ro hf.2 a2 hd)
 | .sl _,hf,_,_,_,_,_,_=>by cases hf| .ent ..,hf,_,_,_,_,_,_=>by cases hf
theorem Zi:∀{a b:List Ty},Ry a b=true->a=b
 |[],[],_=>rfl|[],_::_,h=>by cases h|_::_,[],h=>by cases h|a::r,b::q,h=>by
  unfold Ry at h;cases hb:Ty.beq a b<;>rw[hb]at h
  .cases h
  .rw[Ty.beq_eq hb,Zi (show Ry r q=true from h)]
def AP(ag:Bool)(k:Ty)(x:k.den)(kv:Value):Prop:=gok ag kv/\lJ #[] (λ_ _=>False) k x (qA ag kv)
variable {ag:Bool}
theorem a3v{u v:Value}(hu:gok ag u)(hv:gok ag v)(h:qA ag u=qA ag v):u=v:=by
 cases ag
 .simpa[qA]using h
 .obtain⟨a,rfl⟩:=hu;obtain⟨b,rfl⟩:=hv;have:a.toList=b.toList:=h;rw[Array.toList_inj.1 this]
variable {k:Ty}
theorem AP.det(hf:k.flat=true){x:k.den}{u v:Value}(h1:AP ag k x u)(h2:AP ag k x v):u=v:=
 a3v h1.1 h2.1 (Un hf h1.2 h2.2)
theorem NH:∀(v:Value),(∃b,v= .bool b)\/(∃k n,v= .int k n)\/(∃s,v= .string s)->∀n,Instr.sameBits n v v=true:=by rintro v (⟨b,rfl⟩|⟨k,n,rfl⟩|⟨s,rfl⟩) m<;>simp[Instr.sameBits,MapKept.bytes_beq]
theorem Rn{h:Array Obj}{ok:Nat->Ty->Prop} :∀{k:Ty} (hf:k.flat=true) {x:k.den} {c:c5A},lJ h ok k x c->∀v∈c,(∃b,v= .bool b)\/(∃k n,v= .int k n)\/(∃s,v= .string s)
 | .bool,_,x,_,h1,v,hv=>by simp only[lJ]at h1;subst h1;simp at hv;exact .inl ⟨_,hv⟩| .int _,_,x,_,h1,v,hv=>by simp only[lJ]at h1;subst h1;simp at hv;exact .inr (.inl ⟨_,_,hv⟩)| .str,_,x,_,h1,v,hv=>by simp only[lJ]at h1;subst h1;simp at hv;exact .inr (.inr ⟨_,hv⟩)| .unit,_,x,_,h1,v,hv=>by simp only[lJ]at h1;subst h1;cases hv| .prod p q,hf,_,_,h1,v,hv=>by
  simp only[Ty.flat,x9]at hf;obtain⟨a,b,rfl,a1,a2⟩:=h1;rcases E5.1 hv with hv|hv
  .exact Rn hf.1 a1 v hv
  .exact Rn hf.2 a2 v hv
 | .sl _,hf,_,_,_,_,_=>by cases hf| .ent ..,hf,_,_,_,_,_=>by cases hf
theorem AP.stays{w:World}(hf:k.flat=true){x:k.den}(h:AP ag k x v):(Instr.keyThatStays v v).run P w= .ok v w:=by
 have hs:Instr.sameBits 10000 v v=true:=by
  have hc:=Rn hf h.2;cases ag
  .exact NH v (hc v (by simp[qA])) _
  .obtain⟨arr,rfl⟩:=h.1;show Instr.sameBits (9999+1) (.agg arr) (.agg arr)=true;simp only[Instr.sameBits,beq_self_eq_true,vO,dV];intro p hp;obtain⟨i,hi,e⟩:=Y8 hp;rw[List.getElem_zip]at e;rw[←e];exact NH _ (hc _ (Y0 _)) _
 simp[Instr.keyThatStays,hs]
variable {M:MT}
section
variable {X:Fx} {cl ch:Nat} {S:Sm} {m:Mp} {ok:Nat->Ty->Prop} {a:Act} {w:World} {T:c5B} {o:Oper}
theorem VO(H:FxOk X){ke:Nat}{i:TI}(hi:TiOk X.P ke i)(hk:a1k X.E ke i.td k=true)(hf:k.flat=true){x:k.den}{u:Value}(hu:AP (bP i.td) k x u)(w:World):
  (∀em,(Instr.checkKey em 10000 ke u).run X.P w= .ok () w)/\
  ∀{β:Type} (es:List MapEntry) (xs:List (k.den×β)),es.length=xs.length->(∀(j:Nat) (p:k.den×β),xs[j]? =some p->∃e:MapEntry,es[j]? =some e/\AP (bP i.td) k p.1 e.key)->
   (Instr.findKey ke u es).run X.P w= .ok ((rE (keq k) xs x).bind λj=>(es[j]?).map λe=>(j,e.val)) w:=by
 have htd:=hi.td;have scal:∀d,X.P.underlying ke=some d->bP i.td=false->(∀y v,AP (bP i.td) k y v->Instr.sameNow d u v=some (keq k x y))->
   ∀{β:Type} (es:List MapEntry) (xs:List (k.den×β)),es.length=xs.length->(∀(j:Nat) (p:k.den×β),xs[j]? =some p->∃e:MapEntry,es[j]? =some e/\AP (bP i.td) k p.1 e.key)->
   (Instr.findKey ke u es).run X.P w= .ok ((rE (keq k) xs x).bind λj=>(es[j]?).map λe=>(j,e.val)) w:=by
  intro d hd _ hs β es xs hl he;refine MapKept.run_findKey hd ?_;have:∀(es:List MapEntry) (xs:List (k.den×β)) (n:Nat),es.length=xs.length->(∀(j:Nat) (p:k.den×β),xs[j]? =some p->∃e:MapEntry,es[j]? =some e/\AP (bP i.td) k p.1 e.key)->
    Instr.findNow d u es n=some ((rE (keq k) xs x).bind λj=>(es[j]?).map λe=>(n+j,e.val)):=by
   intro es;induction es with
   |nil=>
    intro xs n hl he;cases xs with
    |nil=>rfl|cons _ _=>cases hl
   |cons e es ih=>
    intro xs n hl he;cases xs with
    |nil=>cases hl|cons p xs=>
     obtain⟨e',h1,h2⟩:=he 0 p rfl;simp only[dZ,F7]at h1;subst h1;unfold Instr.findNow rE;rw[hs _ _ h2];cases hq:keq k x p.1
     .simp only[cond_false];rw[ih xs (n+1) (by simpa using hl) (λj q hj=>by simpa using he (j+1) q (by simpa using hj))];cases rE (keq k) xs x with
      |none=>rfl|some j=>simp[jS,Nat.add_comm 1 j]
     .simp
  simpa using this es xs 0 hl he
 have one:∀{v:Value} {y:k.den},bP i.td=false->AP (bP i.td) k y v->lJ #[] (λ_ _=>False) k y [v]:=λha h=>by have:=h.2;rw[ha]at this;exact this
 unfold a1k at hk;split at hk
 .rename_i htd';rw[htd']at htd;have ha:bP i.td=false:=by rw[htd'];rfl
  have hu1:=one ha hu;simp only[lJ,G5,and_true]at hu1;subst hu1;refine⟨λem=>rV htd (by simp[MapKept.IsKey]) em 9999,scal _ htd ha λy v hv=>?_⟩;have hv1:=one ha hv;simp only[lJ,G5,and_true]at hv1;subst hv1;rfl
 .rename_i p q htd';have:=of_decide_eq_true hk;subst this;rw[htd']at htd;have ha:bP i.td=false:=by rw[htd'];rfl
  have hu1:=one ha hu;simp only[lJ,G5,and_true]at hu1;subst hu1;refine⟨λem=>rV htd (by simp[MapKept.IsKey]) em 9999,scal _ htd ha λy v hv=>?_⟩;have hv1:=one ha hv;simp only[lJ,G5,and_true]at hv1;subst hv1;simp[Instr.sameNow,keq,D6];rfl
 .rename_i htd';rw[htd']at htd;have ha:bP i.td=false:=by rw[htd'];rfl
  have hu1:=one ha hu;simp only[lJ,G5,and_true]at hu1;subst hu1;refine⟨λem=>rV htd (by simp[MapKept.IsKey]) em 9999,scal _ htd ha λy v hv=>?_⟩;have hv1:=one ha hv;simp only[lJ,G5,and_true]at hv1;subst hv1;simp only[Instr.sameNow,keq,seq,F7];rw[lS];simp[MapKept.bytes_beq]
 .rename_i k _ _ fs htd';cases hkf:k.flat<;>rw[hkf]at hk
  .cases hk
  simp only[cond_true]at hk;cases hq:dL X.E.eqs ke with
  |none=>rw[hq]at hk;cases hk|some sh=>
  rw[hq]at hk;have hsh:=Zi (show Ry sh k.leaves=true from hk);subst hsh;obtain⟨⟨fields,hund⟩,hks⟩:=(H.eqs ke _ hq).2;have ha:bP i.td=true:=by rw[htd'];rfl
  rw[ha]at hu;obtain⟨xs0,rfl⟩:=hu.1;have shp:∀{y:k.den} {arr:Array Value},AP true k y (.agg arr)->kD k.leaves arr.toList:=λ{y arr} h=>by have:=Ro hf (show lJ #[] (λ_ _=>False) k y arr.toList from h.2) (sh:=[]) (d:=[]) rfl;simpa using this
  obtain⟨c1,c2⟩:=hks w xs0 (shp hu);refine⟨c1,λ{β} es xs hl he=>?_⟩;rw[run_findKey_eq w (by rw[hund])];rw[ha]at he;have:∀(es:List MapEntry) (xs:List (k.den×β)) (n:Nat),es.length=xs.length->(∀(j:Nat) (p:k.den×β),xs[j]? =some p->∃e:MapEntry,es[j]? =some e/\AP true k p.1 e.key)->
    (Instr.findAsking ke (.agg xs0) es n).run X.P w= .ok ((rE (keq k) xs x).bind λj=>(es[j]?).map λe=>(n+j,e.val)) w:=by
   intro es;induction es with
   |nil=>
    intro xs n hl he;cases xs with
    |nil=>rfl|cons _ _=>cases hl
   |cons e es ih=>
    intro xs n hl he;cases xs with
    |nil=>cases hl|cons p xs=>
     obtain⟨e',h1,h2⟩:=he 0 p rfl;simp only[dZ,F7]at h1;subst h1;obtain⟨ys,hys⟩:=h2.1;rw[hys]at h2;obtain⟨r,hr,hre⟩:=c2 ys (shp h2);have hrq:r=keq k x p.1:=by
      rw[lS,hre,Uf hf];constructor
      .intro h;have h3:=h2.2;rw[show qA true (Value.agg ys)=ys.toList from rfl,←h]at h3;exact P_ hf hu.2 h3
      .intro h;have h3:=h2.2;rw[←h]at h3;exact Un hf hu.2 h3
     subst hrq;unfold Instr.findAsking rE;simp only[hys,H8,hr,J3];cases hq:keq k x p.1
     .simp only[cond_false,iP,if_false];rw[ih xs (n+1) (by simpa using hl) (λj q hj=>by simpa using he (j+1) q (by simpa using hj))];cases rE (keq k) xs x with
      |none=>rfl|some j=>simp[jS,Nat.add_comm 1 j]
     .simp
  simpa using this es xs 0 hl he
 .cases hk
theorem Eo(H:FxOk X){t:Nat}(h:GU X.E t=some M):X.P.underlying t=some (.map M.ke M.el)/\M.k.flat=true/\
  (∃i,TiOk X.P M.ke i/\a1k X.E M.ke i.td M.k=true/\M.ka=bP i.td)/\(∃j,TiOk X.P M.el j/\j.ty=some M.v/\M.va=bP j.td):=by
 unfold GU at h;split at h<;>try (cases h;done)
 rename_i i hi;split at h<;>try (cases h;done)
 rename_i ke el htd;split at h<;>try (cases h;done)
 rename_i p q hp hq;split at h<;>try (cases h;done)
 rename_i k v hk hv;cases hc:(a1k X.E ke p.td k&&k.flat)<;>rw[hc]at h
 .cases h
 .simp only[cond_true,F7]at h;subst h;simp only[x9]at hc;have h1:=(H.tt t i hi).td;rw[htd]at h1;exact⟨h1,hc.2,⟨p,H.tt _ p hp,hc.1,rfl⟩,⟨q,H.tt _ q hq,hv,rfl⟩⟩
theorem LV{t:Ty}{v:V}{x:Value}{K:t.den->Cmd α}(R:Rel X cl ch S m ok a w)(hT:Tk X S m ok w T)(hv:lD ⟨w.heap,ok,m⟩ v x)
  (hK:∀S' ok' y,Rel X cl ch S' m ok' a w->Tk X S' m ok' w T->(∀b t,ok b t->ok' b t)->bn S S' ->gok ag x->lJ w.heap ok' t y (qA ag x)->(K y).post S' Q):
  (a7c ag t v K).post S Q:=by
 unfold a7c;refine EK hv λcs us hg hl=>?_;refine DF t R hT hl λS1 ok1 y q us1 us' R1 T1 k1 s1 e1 h1 l1=>?_;cases q with
 |cons _ _=>trivial|nil=>
 simp only[gX]at l1;subst l1;simp only[D8]at e1;subst e1;have hgc:gok ag x/\qA ag x=us:=by
  cases ag
  .simp only[Ri]at hg;subst hg;exact⟨xU h1 x A7,rfl⟩
  .obtain⟨arr,rfl,rfl⟩:=hg;exact⟨⟨arr,rfl⟩,rfl⟩
 refine hK _ _ _ R1 T1 k1 s1 hgc.1 ?_;rw[hgc.2];exact h1
def AY(h:Array Obj)(ok:Nat->Ty->Prop)(t:Ty)(xs:List t.den)(v:Value):Prop:=
 ∃mv,v= .map mv/\(mv=none->xs=[])/\∀blk,mv=some blk->∃(es:Array MapEntry) (ck:Nat),h[blk]? =some (.map es ck)/\uo es ck (xs:List t.den).length/\
  ∀(i:Nat) (x:t.den),(xs:List t.den)[i]? =some x->∃e:MapEntry,es[i]? =some e/\Nq t e/\lJ h ok t x (yL t e)
theorem AY.of_rep{ok:Nat->Ty->Prop}{t:Ty}{xs:List t.den}(ht:t.isEnt=true)(hr:lJ h ok (.sl t) xs [v]):AY h ok t xs v:=by obtain⟨mv,e,h1,h2⟩:=(Q_ ht).1 hr;exact⟨mv,by simpa using e,h1,λblk hb=>(h2 blk hb).2⟩
theorem AY.of_arr{t:Ty}{xs:List t.den}(ht:t.isEnt=true)(ha:arrOk C t xs l)(hv:l.view none v):AY C.h C.ok t xs v:=by
 cases l with
 |nil=>have:=ha.2;rw[ht]at this;cases this|st b=>cases ha|arr blk off len cap sz=>have:=ha.1;rw[ht]at this;cases this|mp b=>simp only[Loc.view]at hv;subst hv;exact⟨_,rfl,(λh=>nomatch h),λblk hb=>by cases hb;exact ha.2⟩
theorem a3U(R:Rel X cl ch S m ok a w)(hu:u.isEnt=true){v:V}{x:Value}{K:List u.den->Cmd α}(hv:lD ⟨w.heap,ok,m⟩ v x)
  (hK:∀xs,AY w.heap ok u xs x->(K xs).post S Q):(b0d u v K).post S Q:=by
 unfold b0d;split<;>try trivial
 .refine eU λe=>?_;subst e;exact hK _ (AY.of_rep hu hv)
 .rename_i bx;obtain⟨l,hm,hvw⟩:=hv;refine Y7 ?_;split<;>try trivial
  .rename_i t xs hS;obtain⟨l',hm',ha⟩:=R.own_arr hS;simp only at hm;rw[hm]at hm';cases hm';refine eU λe=>?_;subst e;exact hK _ (AY.of_arr hu ha hvw)
  .rename_i t xs hS;obtain⟨l',hm',ha,_⟩:=R.own_frz hS;simp only at hm;rw[hm]at hm';cases hm';refine eU λe=>?_;subst e;exact hK _ (AY.of_arr hu ha hvw)
theorem Dy{ok:Nat->Ty->Prop}{x:M.k.den×M.v.den}{e:MapEntry}(h1:Nq M.ent e)(h2:lJ h ok M.ent x (yL M.ent e)):
  gok M.ka e.key/\gok M.va e.val/\lJ h ok M.k x.1 (qA M.ka e.key)/\lJ h ok M.v x.2 (qA M.va e.val):=by
 obtain⟨g1,g2,g3⟩:=h1;obtain⟨c,d,e1,r1,r2⟩:=h2;obtain⟨rfl,rfl⟩:=List.append_inj (show qA M.ka e.key++qA M.va e.val=c++d from e1) (g3.trans (fO r1).symm);exact⟨g1,g2,r1,r2⟩
theorem a0V{ok:Nat->Ty->Prop}{x:M.k.den}{y:M.v.den}{e:MapEntry}(g1:gok M.ka e.key)(g2:gok M.va e.val)(r1:lJ h ok M.k x (qA M.ka e.key))(r2:lJ h ok M.v y (qA M.va e.val)):
  Nq M.ent e/\lJ h ok M.ent (x,y) (yL M.ent e):=⟨⟨g1,g2,fO r1⟩,_,_,rfl,r1,r2⟩
theorem J_{c:V}(h:vX C c v):WQ C c v:=by
 cases c<;>simp only[vX]at h<;>try exact h
 all_goals exact h.elim
theorem WR{cs:List V}{us:c5A}{x:Value}(hg:Ri ag x us)(hl:gX C cs us):WQ C (mkV ag cs) x:=by
 cases ag
 .simp only[Ri]at hg;subst hg;cases cs with
  |nil=>simp[gX]at hl|cons c r=>
   obtain⟨v,r',e,h1,h2,h3⟩:=hl;simp at e;obtain⟨rfl,rfl⟩:=e;cases r with
   |nil=>exact J_ h1|cons d r=>obtain⟨_,_,e,_⟩:=h3;cases e
 .obtain⟨arr,rfl,rfl⟩:=hg;exact⟨arr,rfl,hl⟩
theorem KW(h:gok ag v):Ri ag v (qA ag v):=by
 cases ag
 .rfl
 .obtain⟨arr,rfl⟩:=h;exact⟨arr,rfl,rfl⟩
theorem TR{w:World}{t ke el:TypeId}{mv:Option Nat}{es:Array MapEntry}{key z:Value}{ok:Bool}(hund:P.underlying t=some (.map ke el))
  (hes:mv=none/\es=#[]\/∃r ck,mv=some r/\w.heap[r]? =some (.map es ck)) (hck:∀em,(Instr.checkKey em 10000 ke key).run P w= .ok () w) {r:Option (Nat×Value)}
  (hfind:(Instr.findKey ke key es.toList).run P w= .ok r w) (hz:(zeroValue el).run P w= .ok z w):
  (Instr.lookup t (.map mv) key ok).run P w= .ok (if ok then .tuple #[(r.map (·.2)).getD z,.bool r.isSome]else(r.map (·.2)).getD z) w:=by
 rcases hes with⟨rfl,rfl⟩|⟨b,ck,rfl,hb⟩
 .simp only[Instr.lookup,H8,run_underlying hund,J3,aI,hck,hfind];cases r with
  |none=>cases ok<;>simp[hz]|some p=>cases ok<;>simp
 .simp only[Instr.lookup,H8,run_underlying hund,zk hb,J3,aI,hck,hfind];cases r with
  |none=>cases ok<;>simp[hz]|some p=>cases ok<;>simp
theorem a7H(H:FxOk X)(R:Rel X cl ch S m ok a w){x ix:Operand}{okk:Bool}(ho:o.op= .lookup t x ix okk):(dE X.E q o).post S (λ_ S' =>jw X cl ch o a w m ok S'):=by
 unfold dE;simp only[ho];refine bg R λu hu=>bg R λkv hk=>?_;unfold a5T;cases hM:GU X.E t with
 |none=>trivial|some M=>
 obtain⟨hund,hf,⟨i,hi,hko,hka⟩,⟨j,hj,hjt,hva⟩⟩:=Eo H hM;simp only[];refine LV (T:=[]) R Tk.nil hk λS1 ok1 key R1 T1 k1 s1 hg hr=>?_;refine a3U R1 rfl (MQ k1 hu) λxs hxs=>?_;obtain⟨mv,hx,hnil,hmap⟩:=hxs;have hkey:AP (bP i.td) M.k key (a.eval ix):=by rw[←hka];exact⟨hg,oZ hf hr⟩
 obtain⟨c1,c2⟩:=VO H hi hko hf hkey w;obtain⟨inf,hinf,_,_,_,hzero⟩:=hj.info;obtain⟨_,z,hz,hzr⟩:=hzero _ hjt;have hzrun:(zeroValue M.el).run X.P w= .ok z w:=by simp[zeroValue,typeInfo,hinf,hz]
 have hzg:gok M.va z/\lJ w.heap ok1 M.v M.v.zero (qA M.va z):=by
  have hr0:lJ w.heap ok1 M.v M.v.zero z.cells.toList:=dU (λ_ _ h=>h.elim) (λ_ _ h=>h.elim) hzr;have hag:=hj.agg inf z hinf hz;rw[←hva]at hag;cases hva' :M.va
  .have h1:=hag.2 hva';have hcz:z.cells.toList=[z]:=by cases z<;>first|rfl|cases h1
   rw[hcz]at hr0;exact⟨h1,hr0⟩
  .exact⟨hag.1 hva',hr0⟩
 have hE:∃es:Array MapEntry,(mv=none/\es=#[]\/∃r ck,mv=some r/\w.heap[r]? =some (.map es ck))/\es.size=xs.length/\
   ∀(i:Nat) (x:M.k.den×M.v.den),xs[i]? =some x->∃e:MapEntry,es[i]? =some e/\Nq M.ent e/\lJ w.heap ok1 M.ent x (yL M.ent e):=by
  cases mv with
  |none=>have:=hnil rfl;subst this;exact⟨#[],.inl ⟨rfl,rfl⟩,rfl,λi x h=>by simp at h⟩|some blk=>obtain⟨es,ck,h1,h2,h3⟩:=hmap blk rfl;exact⟨es,.inr ⟨blk,ck,rfl,h1⟩,h2.1,h3⟩
 obtain⟨es,hes,hsz,hent⟩:=hE;have hfind:=c2 (β:=M.v.den) es.toList xs (by rw[J5];exact hsz) (λj p hp=>by obtain⟨e,h1,h2,h3⟩:=hent j p hp;obtain⟨g1,g2,r1,r2⟩:=Dy h2 h3;exact⟨e,by simpa using h1,by rw[←hka];exact⟨g1,oZ hf r1⟩⟩)
 have run:=TR (ok:=okk) hund hes c1 hfind hzrun;have hval:∃val,(((rE (keq M.k) xs key).bind λj=>(es.toList[j]?).map λe=>(j,e.val)).map (·.2)).getD z=val/\gok M.va val/\
   lJ w.heap ok1 M.v (JL (keq M.k) xs key M.v.zero) (qA M.va val)/\(((rE (keq M.k) xs key).bind λj=>(es.toList[j]?).map λe=>(j,e.val))).isSome=b2Y (keq M.k) xs key:=by
  rw[a7q,a7r];cases hfi:rE (keq M.k) xs key with
  |none=>exact⟨z,rfl,hzg.1,hzg.2,rfl⟩|some j=>
   obtain⟨p,hp,_⟩:=IG hfi;obtain⟨e,h1,h2,h3⟩:=hent j p hp;obtain⟨g1,g2,r1,r2⟩:=Dy h2 h3;have h1' :es.toList[j]? =some e:=by simpa using h1
   refine⟨e.val,by rw[iL,h1'];rfl,g2,?_,by rw[iL,h1'];rfl⟩;simp only[hp];exact r2
 obtain⟨val,e1,g,r,e2⟩:=hval;rw[e1,e2]at run;have hrel:=KW g;have hL:=ou (C:=⟨w.heap,ok1,m⟩) r;cases okk
 .simp only[cond_false];refine uu H R1 (λ_ _ h=>h) k1 (PY hrel hL) ?_;simp only[execOp,ho,hx,H8,run];rfl
 .simp only[cond_true];refine uu H R1 (λ_ _ h=>h) k1 (v:=.tup _) (x:=.tuple #[val,.bool (b2Y (keq M.k) xs key)]) ⟨_,rfl,⟨_,_,rfl,WR hrel hL,_,_,rfl,rfl,rfl⟩⟩ ?_;simp only[execOp,ho,hx,H8,run];rfl
theorem uo.push{es:Array MapEntry}{ck n m:Nat}{k v:Value}(h:uo es ck n)(hm:m=n+1):uo (es.push { key:=k,val:=v,born:=ck }) (ck+1) m:=by
 obtain⟨h1,h2,h3⟩:=h;refine⟨by simp[h1,hm],λe he=>?_,?_⟩
 .rw[Array.toList_push,E5]at he;rcases he with he|he
  .exact Nat.lt_succ_of_lt (h2 e he)
  .rw[iQ]at he;subst he;exact Nat.lt_succ_self _
 .rw[Array.toList_push,bC,J9];refine⟨h3,A7,λx hx y hy=>?_⟩;simp only[aU,jD,iQ]at hy;obtain⟨e,he,rfl⟩:=I8.1 hx;have:=h2 e he;omega
theorem uo.modify{es:Array MapEntry}{ck n m j:Nat}{k v:Value}(h:uo es ck n)(hm:m=n):uo (es.modify j λe=> { e with key:=k,val:=v }) ck m:=by
 obtain⟨h1,h2,h3⟩:=h;have hb:((es.modify j λe=> { e with key:=k,val:=v }).toList.map (·.born))=es.toList.map (·.born):=by
  apply au;intro i;simp only[W9,I4,fM];split
  .cases es[i]?<;>rfl
  .rfl
 refine⟨by simp[h1,hm],λe he=>?_,by rw[hb];exact h3⟩;have:e.born∈(es.modify j λe=> { e with key:=k,val:=v }).toList.map (·.born):=I8.2 ⟨e,he,rfl⟩;rw[hb]at this;obtain⟨e',he',h⟩:=I8.1 this;rw[←h];exact h2 e' he'
theorem a3P(H:FxOk X)(R:Rel X (CB*q) (CB*q+CB) S m ok a w){r:Option Operand}(ho:o.op= .makeMap t r):(dE X.E q o).post S (λ_ S' =>jw X (CB*q) (CB*q+CB) o a w m ok S'):=by
 have go:((Instr.makeMap t (r.map a.eval)).run X.P w= .ok (.map (some w.heap.size)) (w.alloc (.map #[] 0)))->
   (KG X.E (L9 q o.dst) t λv=>dX X.E o.dst v).post S (λ_ S' =>jw X (CB*q) (CB*q+CB) o a w m ok S'):=λrun=>by
  unfold KG;cases hM:GU X.E t with
  |none=>trivial|some M=>
  refine GX (l:=.mp w.heap.size) (obj:=.map #[] 0) (x:=.map (some w.heap.size)) H R A7 (by simp[P5]) (λhn hc=>?_) ⟨.mp w.heap.size,A7,rfl⟩ ?_
  .exact⟨.mp w.heap.size,A7,rfl,#[],0,heap_alloc_new w _,⟨rfl,A7,A7⟩,λi x h=>by simp at h⟩
  .simp only[execOp,ho,H8,run];rfl
 unfold dE;simp only[ho];cases r with
 |none=>exact go (by simp[Instr.makeMap])|some hd=>
  refine bg R λv hv=>?_;split<;>try trivial
  rename_i k n;cases hM:GU X.E t with
  |none=>unfold KG;rw[hM];trivial|some M=>
  refine go ?_;simp[Instr.makeMap,uK hv,run_underlying (Eo H hM).1,asInt,asIntOf]
theorem PK(H:FxOk X)(R:Rel X cl ch S m ok a w){x ix y:Operand}(ho:o.op= .mapUpdate t x ix y\/o.op= .insert t x ix y):(dE X.E q o).post S (λ_ S' =>jw X cl ch o a w m ok S'):=by
 suffices h:((match o.dst with|none=>sW x λm=>sW ix λk=>sW y λv=>a0j X.E t m k v|some _=> .fail:Cmd Unit)).post S (λ_ S' =>jw X cl ch o a w m ok S') by unfold dE;rcases ho with ho|ho<;>simp only[ho]<;>exact h
 cases hd:o.dst with
 |some _=>trivial|none=>
 refine bg R λu hu=>bg R λkv hk=>bg R λyv hy=>?_;unfold a0j;cases hM:GU X.E t with
 |none=>trivial|some M=>
 obtain⟨hund,hf,⟨i,hi,hko,hka⟩,⟨j,hj,hjt,hva⟩⟩:=Eo H hM;simp only[];refine LV (T:=[]) R Tk.nil hk λS1 ok1 key R1 T1 k1 s1 hg hr=>?_;refine LV R1 T1 (MQ k1 hy) λS2 ok2 z R2 T2 k2 s2 hg2 hr2=>?_;have hkey:AP (bP i.td) M.k key (a.eval ix):=by rw[←hka];exact⟨hg,oZ hf hr⟩
 obtain⟨c1,c2⟩:=VO H hi hko hf hkey w;split<;>try trivial
 rename_i bx;obtain⟨l0,hm0,hvw⟩:=hu;simp only at hm0;refine Y7 ?_;split<;>try trivial
 rename_i u xs hS;refine eU λe=>?_;subst e;refine fP ?_;obtain⟨l,hm,ha⟩:=R2.own_arr hS;rw[hm0]at hm;cases hm;cases l0 with
 |nil=>exact absurd ha.2 (by simp[MT.ent,Ty.isEnt])|st b=>cases ha|arr blk off len cap sz=>exact absurd ha.1 (by simp[MT.ent,Ty.isEnt])|mp blk=>
 simp only[Loc.view]at hvw;obtain⟨_,es,ck,hb,⟨hsz,hst,hnd⟩,hent⟩:=ha;simp only at hb hent;have hown:P5 m bx (S2 (V6+bx))=[blk]:=by rw[hS];simp[P5,hm0]
 have hsep:=R2.sep bx blk (by rw[hown];simp);have hfind:=c2 (β:=M.v.den) es.toList xs (by rw[J5];exact hsz) (λj p hp=>by obtain⟨e,h1,h2,h3⟩:=hent j p hp;obtain⟨g1,g2,r1,r2⟩:=Dy h2 h3;exact⟨e,by simpa using h1,by rw[←hka];exact⟨g1,oZ hf r1⟩⟩)
 have fin:∀(es' :Array MapEntry) (ck' :Nat) (xs' :List (M.k.den×M.v.den)),xs' =MX (keq M.k) xs key z->
   (Instr.mapUpdate t (a.eval x) (a.eval ix) (a.eval y)).run X.P w= .ok () { w with heap:=w.heap.setIfInBounds blk (.map es' ck') }->uo es' ck' xs'.length->
   (∀(i:Nat) (x:M.k.den×M.v.den),xs'[i]? =some x->∃e:MapEntry,es'[i]? =some e/\Nq M.ent e/\lJ w.heap ok2 M.ent x (yL M.ent e))->
   jw X cl ch o a w m ok (upd S2 (V6+bx) (.barr M.ent (MX (keq M.k) xs key z))):=by
  intro es' ck' xs' hxs' run hsz' hent';subst hxs';obtain⟨q1,q2⟩:=MapKept.heap_set (o' :=.map es' ck') hb;have R3:Rel X cl ch (upd S2 (V6+bx) (.barr M.ent (MX (keq M.k) xs key z))) m ok2 a { w with heap:=w.heap.setIfInBounds blk (.map es' ck') }:=by refine R2.mod (by rw[hown];simp[P5,hm0]) A7 rfl rfl rfl A7 (λb hb=>q2 b (by rw[hown]at hb;simpa using hb)) ?_;refine⟨.mp blk,hm0,rfl,es',ck',q1,hsz',λi x hx=>?_⟩;obtain⟨e,h1,h2,h3⟩:=hent' i x hx;exact⟨e,h1,h2,dU (λ_ _ h=>h) (λb t hb=>q2 b (λe=>hsep.1 t (e▸hb))) h3⟩
  intro next Q hn
  unfold Oper.wp;have e:(execOp a.eval o).run X.P w= .ok .skip { w with heap:=w.heap.setIfInBounds blk (.map es' ck') }:=by rcases ho with ho|ho<;>simp[execOp,ho,run]
  rw[e,Oper.upon_skip,hd];exact hn m ok2 a _ R3 (λ_ _ h=>h) (λb t h=>k2 b t (k1 b t h))
 have hnew:∀n,Nq M.ent { key:=a.eval ix,val:=a.eval y,born:=n }/\lJ w.heap ok2 M.ent (key,z) (yL M.ent { key:=a.eval ix,val:=a.eval y,born:=n }):=λn=>
  a0V (e:={ key:=a.eval ix,val:=a.eval y,born:=n }) hg hg2 (oZ hf hr) hr2
 show jw X cl ch o a w m ok (upd S2 (V6+bx) (.barr M.ent (MX (keq M.k) xs key z)));cases hfi:rE (keq M.k) xs key with
 |none=>
  rw[hfi]at hfind;refine fin (es.push { key:=a.eval ix,val:=a.eval y,born:=ck }) (ck+1) (xs++[(key,z)]) (by rw[YS,hfi]) ?_ (uo.push ⟨hsz,hst,hnd⟩ A7) λi x hx=>?_
  .rw[hvw];simp only[Instr.mapUpdate,H8,run_underlying hund,zk hb,J3,c1,hfind,Option.bind_none];exact lX _ hb
  .rw[List.getElem?_append]at hx;split at hx
   .rename_i hlt;obtain⟨e,h1,h2,h3⟩:=hent i x hx;refine⟨e,?_,h2,dU (λ_ _ h=>h) (λ_ _ _=>rfl) h3⟩;rw[Array.getElem?_push_lt l7];rw[←h1,H7 l7]
   .rename_i hge;have hi0:i=xs.length:=by
     have:=(X9.1 hx).1;simp at this;omega
    subst hi0;simp at hx;subst hx;exact⟨_,by rw[←hsz];simp,hnew ck⟩
 |some j=>
  obtain⟨p,hp,hpk⟩:=IG hfi;obtain⟨e,h1,h2,h3⟩:=hent j p hp;obtain⟨g1,g2,r1,r2⟩:=Dy h2 h3;have h1' :es.toList[j]? =some e:=by simpa using h1
  have hpe:=(Uf hf _ _).1 hpk;have hke:e.key=a.eval ix:=AP.det hf (ag:=M.ka) (x:=key) ⟨g1,by rw[hpe];exact oZ hf r1⟩ ⟨hg,oZ hf hr⟩;rw[hfi]at hfind;simp only[iL,h1',aY]at hfind;refine fin (es.modify j λe=> { e with key:=a.eval ix,val:=a.eval y }) ck (xs.set j (key,z)) (by rw[YS,hfi]) ?_ (uo.modify ⟨hsz,hst,hnd⟩ A7) λi x hx=>?_
  .rw[hvw];simp only[Instr.mapUpdate,H8,run_underlying hund,zk hb,J3,c1,hfind,h1,aY,dW,hke,AP.stays (P:=X.P) (w:=w) hf hkey];exact lX _ hb
  .rw[J7]at hx;rw[fM];split at hx
   .rename_i hij;subst hij;split at hx
    .cases hx;simp only[if_true,h1,aY];exact⟨_,rfl,hnew e.born⟩
    .cases hx
   .rename_i hij;simp only[hij,if_false];obtain⟨e',a1,a2,a3⟩:=hent i x hx;exact⟨e',a1,a2,dU (λ_ _ h=>h) (λ_ _ _=>rfl) a3⟩
theorem Oe{α β:Type}(eq:α->α->Bool):∀(xs:List (α×β)) (k:α),a5V eq xs k=(match rE eq xs k with|some i=>xs.eraseIdx i|none=>xs)
 |[],_=>rfl|p::r,k=>by
  unfold a5V rE;cases h:eq k p.1
  .simp only[cond_false];rw[Oe eq r k];cases rE eq r k<;>rfl
  .rfl
theorem uo.erase{es:Array MapEntry}{ck n m i:Nat}(h:uo es ck n)(hi:i<n)(hm:m+1=n):uo (es.eraseIdxIfInBounds i) ck m:=by
 obtain⟨h1,h2,h3⟩:=h;have he:(es.eraseIdxIfInBounds i).toList=es.toList.eraseIdx i:=by unfold Array.eraseIdxIfInBounds;rw[dif_pos l7,Array.toList_eraseIdx]
 refine⟨?_,λe h=>?_,?_⟩
 .rw[←J5,he,List.length_eraseIdx,J5,if_pos l7];omega
 .rw[he]at h;exact h2 e (List.mem_of_mem_eraseIdx h)
 .rw[he];exact List.Nodup.sublist ((List.eraseIdx_sublist _ _).map _) h3
theorem a7G(H:FxOk X)(R:Rel X cl ch S m ok a w){c:Call}(ho:o.op= .call c)(hc:c.callee= .builtin .delete):(dE X.E q o).post S (λ_ S' =>jw X cl ch o a w m ok S'):=by
 obtain⟨cal,args,ats⟩:=c;simp only at hc;subst hc;unfold dE;simp only[ho];refine kJ R _ λvs hvs=>?_;split<;>try trivial
 rename_i d t rt x ix hd hat
 obtain⟨xv,r,he,hu,kv,r2,he2,hk,hr⟩:=hvs;simp only[iC]at hr;subst hr;unfold a5x;cases hM:GU X.E t with
 |none=>trivial|some M=>
 obtain⟨hund,hf,⟨i,hi,hko,hka⟩,⟨j,hj,hjt,hva⟩⟩:=Eo H hM;simp only[];refine LV (T:=[]) R Tk.nil hk λS1 ok1 key R1 T1 k1 s1 hg hr=>?_;have hkey:AP (bP i.td) M.k key kv:=by rw[←hka];exact⟨hg,oZ hf hr⟩
 obtain⟨c1,c2⟩:=VO H hi hko hf hkey w;split<;>try trivial
 rename_i bx;obtain⟨l0,hm0,hvw⟩:=hu;simp only at hm0;refine Y7 ?_;split<;>try trivial
 rename_i u xs hS;refine eU λe=>?_;subst e;refine fP ?_;obtain⟨l,hm,ha⟩:=R1.own_arr hS;rw[hm0]at hm;cases hm;cases l0 with
 |nil=>exact absurd ha.2 (by simp[MT.ent,Ty.isEnt])|st b=>cases ha|arr blk off len cap sz=>exact absurd ha.1 (by simp[MT.ent,Ty.isEnt])|mp blk=>
 simp only[Loc.view]at hvw;subst hvw;obtain⟨_,es,ck,hb,hso,hent⟩:=ha;simp only at hb hent;have hown:P5 m bx (S1 (V6+bx))=[blk]:=by rw[hS];simp[P5,hm0]
 have hsep:=R1.sep bx blk (by rw[hown];simp);have hfind:=c2 (β:=M.v.den) es.toList xs (by rw[J5];exact hso.1) (λj p hp=>by obtain⟨e,h1,h2,h3⟩:=hent j p hp;obtain⟨g1,g2,r1,r2⟩:=Dy h2 h3;exact⟨e,by simpa using h1,by rw[←hka];exact⟨g1,oZ hf r1⟩⟩)
 have h0:ats[0]? =some t:=by
  obtain⟨l⟩:=ats;simp only at hat
  simp[hat]
 have hargs:args.map a.eval=#[.map (some blk),kv]:=by apply lC;simp[he,he2]
 have fin:∀(es' :Array MapEntry) (xs' :List (M.k.den×M.v.den)),xs' =TM (keq M.k) xs key->
   (Builtin.delete_ ats o.type #[.map (some blk),kv]).run X.P w= .ok (.tuple #[]) { w with heap:=w.heap.setIfInBounds blk (.map es' ck) }->uo es' ck xs'.length->
   (∀(i:Nat) (x:M.k.den×M.v.den),xs'[i]? =some x->∃e:MapEntry,es'[i]? =some e/\Nq M.ent e/\lJ w.heap ok1 M.ent x (yL M.ent e))->
   jw X cl ch o a w m ok (upd S1 (V6+bx) (.barr M.ent (TM (keq M.k) xs key))):=by
  intro es' xs' hxs' run hsz' hent';subst hxs';obtain⟨q1,q2⟩:=MapKept.heap_set (o' :=.map es' ck) hb;have R3:Rel X cl ch (upd S1 (V6+bx) (.barr M.ent (TM (keq M.k) xs key))) m ok1 a { w with heap:=w.heap.setIfInBounds blk (.map es' ck) }:=by refine R1.mod (by rw[hown];simp[P5,hm0]) A7 rfl rfl rfl A7 (λb hb=>q2 b (by rw[hown]at hb;simpa using hb)) ?_;refine⟨.mp blk,hm0,rfl,es',ck,q1,hsz',λi x hx=>?_⟩;obtain⟨e,h1,h2,h3⟩:=hent' i x hx;exact⟨e,h1,h2,dU (λ_ _ h=>h) (λb t hb=>q2 b (λe=>hsep.1 t (e▸hb))) h3⟩
  intro next Q hn
  unfold Oper.wp;have e:(execOp a.eval o).run X.P w= .ok (.value (.tuple #[])) { w with heap:=w.heap.setIfInBounds blk (.map es' ck) }:=by simp[execOp,ho,resolve,invoke,builtin,hargs,run]
  rw[e,cu,hd];exact hn m ok1 a _ R3 (λ_ _ h=>h) k1
 show jw X cl ch o a w m ok (upd S1 (V6+bx) (.barr M.ent (TM (keq M.k) xs key)));have hk0:ats[0]? =some t/\(#[Value.map (some blk),kv]:Array Value)[0]? =some (.map (some blk))/\(#[Value.map (some blk),kv]:Array Value)[1]? =some kv:=⟨h0,rfl,rfl⟩;cases hfi:rE (keq M.k) xs key with
 |none=>rw[hfi]at hfind;refine fin es xs (by unfold TM;rw[Oe,hfi]) ?_ hso λi x hx=>hent i x hx;simp only[Builtin.delete_,hk0.1,hk0.2.1,hk0.2.2,H8,run_underlying hund,zk hb,J3,c1,hfind,Option.bind_none];rw[lX _ hb];rfl|some j=>
  obtain⟨p,hp,hpk⟩:=IG hfi;obtain⟨e,h1,h2,h3⟩:=hent j p hp;have h1' :es.toList[j]? =some e:=by simpa using h1
  have hj:j<xs.length:=(X9.1 hp).1;rw[hfi]at hfind;simp only[iL,h1',aY]at hfind;refine fin (es.eraseIdxIfInBounds j) (xs.eraseIdx j) (by unfold TM;rw[Oe,hfi]) ?_ (hso.erase hj (by rw[List.length_eraseIdx,if_pos hj];omega)) λi x hx=>?_
  .simp only[Builtin.delete_,hk0.1,hk0.2.1,hk0.2.2,H8,run_underlying hund,zk hb,J3,c1,hfind];rw[lX _ hb];rfl
  .have he:(es.eraseIdxIfInBounds j).toList=es.toList.eraseIdx j:=by
    unfold Array.eraseIdxIfInBounds;rw[dif_pos (by have:=hso.1;omega),Array.toList_eraseIdx]
   have hg:∀k,(es.eraseIdxIfInBounds j)[k]? =if k<j then es[k]? else es[k+1]?:=λk=>by rw[←I4,he,List.getElem?_eraseIdx,I4,I4]
   rw[List.getElem?_eraseIdx]at hx;rw[hg];split at hx
   .rename_i h;rw[if_pos h];exact hent i x hx
   .rename_i h;rw[if_neg h];exact hent (i+1) x hx
end
end Go.GP
namespace Go.GP
theorem Zm:∀(n:Nat) (vs a b:List V),BF n vs=some (a,b)->vs=a++b/\a.length=n
 |0,vs,a,b,h=>by simp[BF]at h;obtain⟨rfl,rfl⟩:=h;simp
 |n+1,[],a,b,h=>by simp[BF]at h|n+1,v::vs,a,b,h=>by
  unfold BF at h;cases hs:BF n vs with
  |none=>simp[hs]at h|some p=>obtain⟨a',b'⟩:=p;simp only[hs,F7,je]at h;obtain⟨rfl,rfl⟩:=h;obtain⟨rfl,hl⟩:=Zm n vs _ _ hs;exact⟨rfl,by simp[hl]⟩
theorem Tj{C:Cx} :∀{a b:List V} {xs ys:c5A},a.length=xs.length->iC C (a++b) (xs++ys)->iC C a xs/\iC C b ys
 |[],b,xs,ys,hl,h=>by
  have:xs=[]:=by cases xs<;>simp at hl ⊢
  subst this;exact⟨rfl,h⟩
 |c::a,b,xs,ys,hl,h=>by
  cases xs with
  |nil=>simp at hl|cons x xs=>obtain⟨v,r,e,h1,h2⟩:=h;simp only[P8,G5]at e;obtain⟨rfl,rfl⟩:=e;obtain⟨h3,h4⟩:=Tj (by simpa using hl) h2;exact⟨⟨_,_,rfl,h1,h3⟩,h4⟩
theorem a6q{C:Cx} :∀{a:List V} {xs:c5A},zN a=false->iC C a xs->L_ C a xs
 |[],xs,_,h=>h|c::a,xs,ht,⟨v,r,e,h1,h2⟩=>by
  have ht2:zN a=false:=by cases c<;>first|exact ht|(simp[zN]at ht)
  refine⟨v,r,e,?_,a6q ht2 h2⟩;cases c<;>first|exact h1|(simp[zN]at ht)
variable {v:Value}
theorem b0C{C:Cx}{a:List V}{xs:c5A}{n:Nat}(ht:zN a=false)(h:iC C a xs)(hr:Qv n v xs):lD C (a2b a) v:=by
 obtain⟨_,hv⟩:=hr;cases a with
 |nil=>simp only[iC]at h;subst h;simp only at hv;subst hv;exact⟨_,rfl,rfl⟩|cons c a=>
  obtain⟨x,r,rfl,h1,h2⟩:=h;cases a with
  |nil=>simp only[iC]at h2;subst h2;simp only at hv;subst hv;exact h1|cons d a=>obtain⟨y,r',rfl,h3,h4⟩:=h2;simp only at hv;subst hv;exact⟨_,rfl,a6q ht ⟨_,_,rfl,h1,_,_,rfl,h3,h4⟩⟩
theorem Ve{h:Array Obj}{ok ok' :Nat->Ty->Prop} :∀{ts:List Ty} {x:RN ts} {vs:c5A},(∀b u,ok b u->SK u ts=true->ok' b u)->DT h ok (RJ ts x) vs->DT h ok' (RJ ts x) vs
 |[],_,_,_,hr=>hr|[t],x,_,f,hr=>by obtain⟨v,r,e,⟨b,o,es,hv,hb,hc,hp⟩,h2⟩:=hr;exact⟨v,r,e,⟨b,o,es,hv,f _ _ hb (by simp[SK]),hc,yB (λb u h k=>f b u h (by simp[SK,k])) hp⟩,h2⟩
 |t::t' ::ts,x,_,f,hr=>by obtain⟨v,r,e,⟨b,o,es,hv,hb,hc,hp⟩,h2⟩:=hr;exact⟨v,r,e,⟨b,o,es,hv,f _ _ hb (by simp[SK]),hc,yB (λb u h k=>f b u h (by simp[SK,k])) hp⟩,Ve (ts:=t' ::ts) (λb u h k=>f b u h (by rw[SK,k];simp)) h2⟩
theorem Qy{h:Array Obj}{ok ok' :Nat->Ty->Prop}{m:Mp}{t:Ty}{xs:List t.den}{l:Loc}(f:∀b u,ok b u->Ty.occ u t=true->ok' b u)(hr:arrOk ⟨h,ok,m⟩ t xs l):arrOk ⟨h,ok',m⟩ t xs l:=by
 cases l with
 |nil=>exact hr|st b=>exact hr|mp b=>obtain⟨h1,es,ck,h2,h3,h4⟩:=hr;refine⟨h1,es,ck,h2,h3,λi y hi=>?_⟩;obtain⟨e,a1,a2,a3⟩:=h4 i y hi;exact⟨e,a1,a2,yB f a3⟩
 |arr blk off len cap sz=>obtain⟨h0,h1,h2,h3,c,T,g,h4,hz,h5,h6⟩:=hr;refine⟨h0,h1,h2,h3,c,T,g,h4,hz,h5,λi y hi=>?_⟩;obtain⟨es,he,hp⟩:=h6 i y hi;exact⟨es,he,yB f hp⟩
theorem CJ{h:Array Obj}{ok ok' :Nat->Ty->Prop} :∀{m:M} {ho:Option Nat} {x:m.den} {cs:c5A} {O:c5B},(∀b u,ok b u->m.occ u=true->ok' b u)->nG h ok m ho x cs O->nG h ok' m ho x cs O
 | .dat t,_,_,_,_,f,hr=>⟨yB f hr.1,hr.2⟩| .unit,_,_,_,_,_,hr=>hr| .pair a b,_,_,_,_,f,⟨c,d,O1,O2,e,eo,h1,h2⟩=>⟨c,d,O1,O2,e,eo,CJ (λb u h k=>f b u h (by simp[M.occ,k])) h1,CJ (λb u h k=>f b u h (by simp[M.occ,k])) h2⟩| .box m,_,_,_,_,f,⟨blk,arr,T,O',e,hh,hr,eo⟩=>⟨blk,arr,T,O',e,hh,CJ f hr,eo⟩| .own t,ho,_,_,_,f,⟨v,e,h1,ha⟩=>by
  refine⟨v,e,h1,?_⟩;split at ha
  .exact ha
  .obtain⟨l,hv,ha,hO⟩:=ha;exact⟨l,hv,Qy f ha,hO⟩
 | .owns m,ho,_,_,_,f,⟨v,e,h1,ha⟩=>by
  refine⟨v,e,h1,?_⟩;split at ha
  .exact ha
  .obtain⟨he,l,Os,hv,ha,hO⟩:=ha;exact⟨he,l,Os,hv,uT (λ_ _=>rfl) (λi x es O _ hr=>CJ f hr) ha,hO⟩
 | .ownb t,_,_,_,_,f,⟨l,v,e,hv,ha,hO⟩=>⟨l,v,e,hv,Qy f ha,hO⟩| .rp t,_,_,_,_,f,⟨v,e,⟨b,o,es,hv,hb,hc,hp⟩,h2⟩=>⟨v,e,⟨b,o,es,hv,f _ _ hb (by simp[M.occ]),hc,yB (λb u h k=>f b u h (by simp[M.occ,k])) hp⟩,h2⟩| .fn g ts,_,_,_,_,f,⟨vs,e,h1,h2⟩=>⟨vs,e,Ve f h1,h2⟩| .ifc t m,_,_,_,_,f,⟨u,e,h1⟩=>⟨u,e,CJ f h1⟩| .cell _,_,_,_,_,_,h=>h| .fr t,_,_,_,_,f,⟨l,v,e,hv,ha,hk,hO⟩=>⟨l,v,e,hv,Qy (λb u h k=>f b u h (by simp[M.occ,k])) ha,λb h=>f b t (hk b h) (by simp[M.occ]),hO⟩| .sbx _ _,_,_,_,_,f,h=>h| .lp t,_,_,_,_,f,⟨v,e,⟨b,o,es,hv,hb,hc,hp⟩,h2⟩=>⟨v,e,⟨b,o,es,hv,f _ _ hb (by simp[M.occ]),hc,yB (λb u h k=>f b u h (by simp[M.occ,k])) hp⟩,h2⟩| .dv ..,_,_,_,_,f,h=>h| .ownr m o,_,_,_,_,f,⟨v,e,h1,he,h0,l,Os,hv,ha,hO⟩=>⟨v,e,h1,he,h0,l,Os,hv,uT (λ_ _=>rfl) (λi x es O _ hr=>CJ f hr) ha,hO⟩| .sit,_,_,_,_,f,h=>h
theorem WV{h:Array Obj}{ok ok' :Nat->Ty->Prop} :∀{ms:List MG} {x:X4 ms} {vs:c5A} {O:c5B},(∀b u,ok b u->KJ u ms=true->ok' b u)->lI h ok ms x vs O->lI h ok' ms x vs O
 |[],_,_,_,_,e=>e|[m],_,_,_,f,⟨v,cs,e,hg,hr⟩=>⟨v,cs,e,hg,CJ (λb u h k=>f b u h (by simp[KJ,k])) hr⟩|m::m' ::r,_,_,_,f,⟨v,cs,vs',O1,O2,e,eo,hg,h1,h2⟩=>
  ⟨v,cs,vs',O1,O2,e,eo,hg,CJ (λb u h k=>f b u h (by simp[KJ,k])) h1,WV (λb u h k=>f b u h (by rw[KJ,k];simp)) h2⟩
theorem PE{u:Ty} :∀{a b:List MG},KJ u (a++b)=(KJ u a || KJ u b)
 |[],_=>rfl|m::a,b=>by simp[KJ,PE,Bool.or_assoc]
theorem Rf:∀{fs:List (Nat×FSpec)} {f:Nat} {vs:List V} {s:FSpec},YX fs f vs=some s->(f,s)∈fs
 |[],_,_,_,h=>by simp[YX]at h|(g,s')::r,f,vs,s,h=>by
  unfold YX at h;cases hb:(Nat.beq g f&&NU s'.ps vs)
  .rw[hb]at h;exact U3 _ (Rf h)
  .rw[hb]at h;simp only[cond_true,F7]at h;subst h;simp only[x9]at hb;have:=fJ hb.1;subst this;exact jG
theorem b4m{l l0:Loc}(h:l.view none v)(h0:l0.view none v)(hs:∀b o n c s b' o' n' c' s',l= .arr b o n c s->l0= .arr b' o' n' c' s' ->s=s'):l=l0:=by
 cases l<;>cases l0<;>simp only[Loc.view]at h h0
 .rfl
 .rw[h]at h0;cases h0
 .rw[h]at h0;cases h0
 .rw[h]at h0;cases h0
 .rw[h]at h0;simp only[qE,F7,jd,and_true]at h0;obtain⟨⟨rfl,rfl⟩,rfl,rfl⟩:=h0;have:=hs _ _ _ _ _ _ _ _ _ _ rfl rfl;subst this;rfl
 .rw[h]at h0;cases h0
 .rw[h]at h0;cases h0
 .rw[h]at h0;cases h0
 .rw[h]at h0;cases h0;rfl
theorem NF{h:Array Obj}{ok:Nat->Ty->Prop} :∀{ms:List MG} {x:X4 ms} {vs:c5A} {O:c5B},lI h ok ms x vs O->vs.length=ms.length
 |[],_,_,_,e=>by simp[e.1]|[m],_,_,_,⟨v,cs,e,hg,hr⟩=>by simp[e]|m::m' ::r,_,_,_,⟨v,cs,vs',O1,O2,e,eo,hg,h1,h2⟩=>by have:=NF h2;subst e;simp[this]
variable {q:Nat}{f:FuncId}{vs:List V}{vals:c5A}{s:FSpec}
section
variable {X:Fx} {cl ch:Nat} {S:Sm} {m:Mp} {ok:Nat->Ty->Prop} {a:Act} {w:World} {o:Oper}
theorem aK{α:Type}{Q:α->Sm->Prop}{h0:Array Obj}{ok0:Nat->Ty->Prop}{m0:Mp} :∀(ms:List MG) {vs:List V} {vals:c5A} {ws:List V} {os:c5A} {B:c5B} {K:Cmd α} {S:Sm}
  (R:Rel X cl ch S m ok a w) (hm:∀k l,m0 k=some l->m k=some l) (hT:Tk X S m ok w B) (hv:iC ⟨h0,ok0,m0⟩ vs vals) (ho:rM w.heap ms vals os B) (hw:iC ⟨w.heap,ok,m⟩ ws os)
  (hK:∀S',Rel X cl ch S' m ok a w->K.post S' Q),(ai ms vs ws K).post S Q
 |[],vs,vals,ws,os,B,K,S,R,hm,hT,hv,ho,hw,hK=>by
  cases vs with
  |cons _ _=>unfold ai;trivial|nil=>
   cases ws with
   |cons _ _=>unfold ai;trivial|nil=>unfold ai;exact hK S R
 |(g,.dat t)::ms,vs,vals,ws,os,B,K,S,R,hm,hT,hv,ho,hw,hK=>by
  cases vs with
  |nil=>unfold ai;trivial|cons v vs=>obtain⟨x,r,rfl,h1,h2⟩:=hv;unfold ai;exact aK ms R hm hT h2 ho hw hK
 |(g,.own t)::ms,vs,vals,ws,os,B,K,S,R,hm,hT,hv,ho,hw,hK=>by
  cases vs with
  |nil=>unfold ai;trivial|cons v vs=>obtain⟨x,r,rfl,h1,h2⟩:=hv;unfold ai;exact aK ms R hm hT h2 ho hw hK
 |(g,.pair p q)::ms,vs,vals,ws,os,B,K,S,R,hm,hT,hv,ho,hw,hK=>by
  cases vs with
  |nil=>unfold ai;trivial|cons v vs=>obtain⟨x,r,rfl,h1,h2⟩:=hv;unfold ai;exact aK ms R hm hT h2 ho hw hK
 |(g,.unit)::ms,vs,vals,ws,os,B,K,S,R,hm,hT,hv,ho,hw,hK=>by
  cases vs with
  |nil=>unfold ai;trivial|cons v vs=>obtain⟨x,r,rfl,h1,h2⟩:=hv;unfold ai;exact aK ms R hm hT h2 ho hw hK
 |(g,.cell _)::ms,vs,vals,ws,os,B,K,S,R,hm,hT,hv,ho,hw,hK=>by
  cases vs with
  |nil=>unfold ai;trivial|cons v vs=>obtain⟨x,r,rfl,h1,h2⟩:=hv;unfold ai;exact aK ms R hm hT h2 ho hw hK
 |(g,.fr _)::ms,vs,vals,ws,os,B,K,S,R,hm,hT,hv,ho,hw,hK=>by
  cases vs with
  |nil=>unfold ai;trivial|cons v vs=>obtain⟨x,r,rfl,h1,h2⟩:=hv;unfold ai;exact aK ms R hm hT h2 ho hw hK
 |(g,.box md)::ms,vs,vals,ws,os,B,K,S,R,hm,hT,hv,ho,hw,hK=>by
  cases vs with
  |nil=>unfold ai;trivial|cons v0 vs=>
  cases v0<;>try (unfold ai;trivial)
  case ptr bx off=>
  cases ws with
  |nil=>unfold ai;trivial|cons o0 ws=>
  cases o0<;>try (unfold ai;trivial)
  case agg cs=>
   unfold ai;refine Y7 ?_;split<;>try trivial
   rename_i hS;refine fP ?_;obtain⟨x,r,rfl,h1,h2⟩:=hv;obtain⟨y,r',rfl,h3,h4⟩:=hw;obtain⟨b,arr,T,os',B',e1,hh,e2,rfl,ho'⟩:=ho;simp only[G5]at e2;obtain⟨rfl,rfl⟩:=e2;obtain⟨blk,hmb,e3⟩:=h1;subst e1;simp only[oG,F7,jd,and_true]at e3;obtain⟨rfl,rfl⟩:=e3;obtain⟨arr',e4,hl⟩:=h3;simp only[Value.agg.injEq]at e4;subst e4;have hmb' :=hm _ _ hmb;obtain⟨R',T'⟩:=R.backV (n:=bx) (v:=.bcells cs) (O1:=[b]) (B:=B') A7 (by simpa using hT) (by simp[P5,hmb']) ⟨b,_,T,hmb',hh,hl⟩;exact aK ms R' hm T' h2 ho' h4 hK
 |(g,.ifc t (.box md))::ms,vs,vals,ws,os,B,K,S,R,hm,hT,hv,ho,hw,hK=>by
  cases vs with
  |nil=>unfold ai;trivial|cons v0 vs=>
  cases v0<;>try (unfold ai;trivial)
  case ifc t' v1=>
  cases v1<;>try (unfold ai;trivial)
  case ptr bx off=>
  cases ws with
  |nil=>unfold ai;trivial|cons o0 ws=>
  cases o0<;>try (unfold ai;trivial)
  case agg cs=>
   unfold ai;refine Y7 ?_;split<;>try trivial
   rename_i hS;refine fP ?_;obtain⟨x,r,rfl,h1,h2⟩:=hv;obtain⟨y,r',rfl,h3,h4⟩:=hw;obtain⟨t2,b,arr,T,os',B',e1,hh,e2,rfl,ho'⟩:=ho;simp only[G5]at e2;obtain⟨rfl,rfl⟩:=e2;obtain⟨u,e5,_,h1⟩:=h1;obtain⟨blk,hmb,e3⟩:=h1;subst e1;subst e3;simp only[Value.iface.injEq,oG,F7,jd,and_true]at e5;obtain⟨rfl,rfl,rfl⟩:=e5;obtain⟨arr',e4,hl⟩:=h3;simp only[Value.agg.injEq]at e4;subst e4;have hmb' :=hm _ _ hmb;obtain⟨R',T'⟩:=R.backV (n:=bx) (v:=.bcells cs) (O1:=[b]) (B:=B') A7 (by simpa using hT) (by simp[P5,hmb']) ⟨b,_,T,hmb',hh,hl⟩;exact aK ms R' hm T' h2 ho' h4 hK
 |(g,.ownb t)::ms,vs,vals,ws,os,B,K,S,R,hm,hT,hv,ho,hw,hK=>by
  cases vs with
  |nil=>unfold ai;trivial|cons v0 vs=>
  obtain⟨x,r,rfl,h1,h2⟩:=hv;obtain⟨os',rfl,ho'⟩:=ho;cases v0<;>try (unfold ai;trivial)
  case nl=>
   cases ws with
   |nil=>unfold ai;trivial|cons o0 ws=>
   cases o0<;>try (unfold ai;trivial)
   case own nm vw=>
   cases vw with
   |some _=>unfold ai;trivial|none=>
   unfold ai;obtain⟨y,r',e,h3,h4⟩:=hw;simp only[G5]at e;obtain⟨rfl,rfl⟩:=e;refine fP ?_;have T1:=Tk.kill R hT nm (bs:=[]) (λb h=>by cases h) aW;rw[D8]at T1;exact aK ms (R.kill nm) hm T1 h2 ho' h4 hK
  case own bx vw=>
   cases vw with
   |some _=>unfold ai;trivial|none=>
   cases ws with
   |nil=>unfold ai;trivial|cons o0 ws=>
   cases o0<;>try (unfold ai;trivial)
   case own nm vw=>
   cases vw with
   |some _=>unfold ai;trivial|none=>
   unfold ai;obtain⟨y,r',e,h3,h4⟩:=hw;simp only[G5]at e;obtain⟨rfl,rfl⟩:=e;obtain⟨l0,hm0,hv0⟩:=h1;obtain⟨l,hml,hvl⟩:=h3;have hm0' :=hm _ _ hm0;refine Y7 ?_;split<;>try trivial
   rename_i u xs hS;refine fP (Y7 ?_);split<;>try trivial
   rename_i t' hS2;refine eU λe=>?_;subst e;refine fP ?_;obtain⟨l',hml',ha⟩:=R.own_arr hS;simp only at hml;rw[hml]at hml';cases hml';have R1:=R.kill nm;have hob:P5 m nm (S (V6+nm))=l.blks:=by rw[hS];cases l<;>first|(simp[P5,hml,Loc.blks];done)|cases ha
   have T1:=Tk.kill R hT nm (bs:=l.blks) (λb h=>by rw[hob];exact h) (Loc.blks_nodup l);have hg:=R1.box bx;rw[hS2]at hg;obtain⟨l1,hm1,hsz⟩:=hg;simp only at hm1;rw[hm0']at hm1;cases hm1;have hll:l=l0:=b4m hvl hv0 (λb o n c s b' o' n' c' s' e1 e2=>by subst e1;rw[hsz _ _ _ _ _ e2];exact ha.2.1);subst hll;obtain⟨R',T'⟩:=R1.backV (n:=bx) (v:=.barr u xs) (O1:=l.blks) (B:=B) A7 (T1.perm jR) (by cases l<;>first|(simp[P5,hm0',Loc.blks];done)|cases ha) ⟨l,hm0',ha⟩;exact aK ms R' hm T' h2 ho' h4 hK
 |(g,.lp _)::ms,vs,vals,ws,os,B,K,S,R,hm,hT,hv,ho,hw,hK=>by
  cases vs with
  |nil=>unfold ai;trivial|cons v vs=>obtain⟨x,r,rfl,h1,h2⟩:=hv;unfold ai;exact aK ms R hm hT h2 ho hw hK
 |(g,.ownr ..)::ms,vs,vals,ws,os,B,K,S,R,hm,hT,hv,ho,hw,hK=>by
  cases vs with
  |nil=>unfold ai;trivial|cons v vs=>obtain⟨x,r,rfl,h1,h2⟩:=hv;unfold ai;exact aK ms R hm hT h2 ho hw hK
 |(g,.dv ..)::ms,vs,vals,ws,os,B,K,S,R,hm,hT,hv,ho,hw,hK=>by
  cases vs with
  |nil=>unfold ai;trivial|cons v vs=>obtain⟨x,r,rfl,h1,h2⟩:=hv;unfold ai;exact aK ms R hm hT h2 ho hw hK
 |(g,.sit)::ms,vs,vals,ws,os,B,K,S,R,hm,hT,hv,ho,hw,hK=>by cases vs<;>(unfold ai;trivial)|(g,.sbx _ _)::ms,vs,vals,ws,os,B,K,S,R,hm,hT,hv,ho,hw,hK=>by
  cases vs with
  |nil=>unfold ai;trivial|cons v0 vs=>
  obtain⟨x,r,rfl,h1,h2⟩:=hv;obtain⟨os',rfl,ho'⟩:=ho;cases v0<;>try (unfold ai;trivial)
  case ptr bx off=>
  cases ws with
  |nil=>unfold ai;trivial|cons o0 ws=>
  cases o0<;>try (unfold ai;trivial)
  case ptr nm off' =>
   unfold ai;obtain⟨y,r',e,h3,h4⟩:=hw;simp only[G5]at e;obtain⟨rfl,rfl⟩:=e;obtain⟨b0,hm0,hv0⟩:=h1;obtain⟨b1,hm1,hv1⟩:=h3;have hm0' :=hm _ _ hm0;have hbb:b0=b1:=by rw[hv0]at hv1;simp only[oG,F7,jd,and_true]at hv1;exact hv1.1
   subst hbb;refine Y7 ?_;split<;>try trivial
   rename_i tb0 c hS;refine fP (Y7 ?_);split<;>try trivial
   rename_i hS2;refine fP ?_;have hb:=R.box nm;rw[hS]at hb;obtain⟨blk',a0,v0,hm',hh,hs,g1⟩:=hb;simp only at hm1 hm';rw[hm1]at hm';cases hm';have R1:=R.kill nm;have T1:=Tk.kill R hT nm (bs:=[b0]) (λb h=>by rw[hS];simp[P5,hm1];simpa using h) A7;obtain⟨R',T'⟩:=R1.backV (n:=bx) (v:=.bsb tb0 c) (O1:=[b0]) (B:=B) A7 (T1.perm jR) (by simp[P5,hm0']) ⟨b0,a0,v0,hm0',hh,hs,g1⟩;exact aK ms R' hm T' h2 ho' h4 hK
 |(g,.owns md)::ms,vs,vals,ws,os,B,K,S,R,hm,hT,hv,ho,hw,hK=>by
  cases vs with
  |nil=>unfold ai;trivial|cons v vs=>obtain⟨x,r,rfl,h1,h2⟩:=hv;unfold ai;exact aK ms R hm hT h2 ho hw hK
 |(g,.rp t)::ms,vs,vals,ws,os,B,K,S,R,hm,hT,hv,ho,hw,hK=>by
  cases vs with
  |nil=>unfold ai;trivial|cons v vs=>obtain⟨x,r,rfl,h1,h2⟩:=hv;unfold ai;exact aK ms R hm hT h2 ho hw hK
 |(g,.fn f ts)::ms,vs,vals,ws,os,B,K,S,R,hm,hT,hv,ho,hw,hK=>by
  cases vs with
  |nil=>unfold ai;trivial|cons v vs=>obtain⟨x,r,rfl,h1,h2⟩:=hv;unfold ai;exact aK ms R hm hT h2 ho hw hK
 |(g,.ifc t (.dat u))::ms,vs,vals,ws,os,B,K,S,R,hm,hT,hv,ho,hw,hK=>by
  cases vs with
  |nil=>unfold ai;trivial|cons v vs=>obtain⟨x,r,rfl,h1,h2⟩:=hv;unfold ai;exact aK ms R hm hT h2 ho hw hK
 |(g,.ifc t (.own u))::ms,vs,vals,ws,os,B,K,S,R,hm,hT,hv,ho,hw,hK=>by
  cases vs with
  |nil=>unfold ai;trivial|cons v vs=>obtain⟨x,r,rfl,h1,h2⟩:=hv;unfold ai;exact aK ms R hm hT h2 ho hw hK
 |(g,.ifc t (.pair p q))::ms,vs,vals,ws,os,B,K,S,R,hm,hT,hv,ho,hw,hK=>by
  cases vs with
  |nil=>unfold ai;trivial|cons v vs=>obtain⟨x,r,rfl,h1,h2⟩:=hv;unfold ai;exact aK ms R hm hT h2 ho hw hK
 |(g,.ifc t (.unit))::ms,vs,vals,ws,os,B,K,S,R,hm,hT,hv,ho,hw,hK=>by
  cases vs with
  |nil=>unfold ai;trivial|cons v vs=>obtain⟨x,r,rfl,h1,h2⟩:=hv;unfold ai;exact aK ms R hm hT h2 ho hw hK
 |(g,.ifc t (.cell _))::ms,vs,vals,ws,os,B,K,S,R,hm,hT,hv,ho,hw,hK=>by
  cases vs with
  |nil=>unfold ai;trivial|cons v vs=>obtain⟨x,r,rfl,h1,h2⟩:=hv;unfold ai;exact aK ms R hm hT h2 ho hw hK
 |(g,.ifc t (.lp _))::ms,vs,vals,ws,os,B,K,S,R,hm,hT,hv,ho,hw,hK=>by
  cases vs with
  |nil=>unfold ai;trivial|cons v vs=>obtain⟨x,r,rfl,h1,h2⟩:=hv;unfold ai;exact aK ms R hm hT h2 ho hw hK
 |(g,.ifc t (.ownr ..))::ms,vs,vals,ws,os,B,K,S,R,hm,hT,hv,ho,hw,hK=>by
  cases vs with
  |nil=>unfold ai;trivial|cons v vs=>obtain⟨x,r,rfl,h1,h2⟩:=hv;unfold ai;exact aK ms R hm hT h2 ho hw hK
 |(g,.ifc t (.dv ..))::ms,vs,vals,ws,os,B,K,S,R,hm,hT,hv,ho,hw,hK=>by
  cases vs with
  |nil=>unfold ai;trivial|cons v vs=>obtain⟨x,r,rfl,h1,h2⟩:=hv;unfold ai;exact aK ms R hm hT h2 ho hw hK
 |(g,.ifc t (.fr _))::ms,vs,vals,ws,os,B,K,S,R,hm,hT,hv,ho,hw,hK=>by
  cases vs with
  |nil=>unfold ai;trivial|cons v vs=>obtain⟨x,r,rfl,h1,h2⟩:=hv;unfold ai;exact aK ms R hm hT h2 ho hw hK
 |(g,.ifc t (.owns md))::ms,vs,vals,ws,os,B,K,S,R,hm,hT,hv,ho,hw,hK=>by
  cases vs with
  |nil=>unfold ai;trivial|cons v vs=>obtain⟨x,r,rfl,h1,h2⟩:=hv;unfold ai;exact aK ms R hm hT h2 ho hw hK
 |(g,.ifc t .sit)::ms,vs,vals,ws,os,B,K,S,R,hm,hT,hv,ho,hw,hK=>by
  cases vs with
  |nil=>unfold ai;trivial|cons v vs=>obtain⟨x,r,rfl,h1,h2⟩:=hv;unfold ai;exact aK ms R hm hT h2 ho hw hK
 |(g,.ifc t (.sbx _ _))::ms,vs,vals,ws,os,B,K,S,R,hm,hT,hv,ho,hw,hK=>by
  cases vs with
  |nil=>unfold ai;trivial|cons v vs=>obtain⟨x,r,rfl,h1,h2⟩:=hv;unfold ai;exact aK ms R hm hT h2 ho hw hK
 |(g,.ifc t (.ownb u))::ms,vs,vals,ws,os,B,K,S,R,hm,hT,hv,ho,hw,hK=>by
  cases vs with
  |nil=>unfold ai;trivial|cons v vs=>obtain⟨x,r,rfl,h1,h2⟩:=hv;unfold ai;exact aK ms R hm hT h2 ho hw hK
 |(g,.ifc t (.rp u))::ms,vs,vals,ws,os,B,K,S,R,hm,hT,hv,ho,hw,hK=>by
  cases vs with
  |nil=>unfold ai;trivial|cons v vs=>obtain⟨x,r,rfl,h1,h2⟩:=hv;unfold ai;exact aK ms R hm hT h2 ho hw hK
 |(g,.ifc t (.fn f ts))::ms,vs,vals,ws,os,B,K,S,R,hm,hT,hv,ho,hw,hK=>by
  cases vs with
  |nil=>unfold ai;trivial|cons v vs=>obtain⟨x,r,rfl,h1,h2⟩:=hv;unfold ai;exact aK ms R hm hT h2 ho hw hK
 |(g,.ifc t (.ifc t2 md))::ms,vs,vals,ws,os,B,K,S,R,hm,hT,hv,ho,hw,hK=>by
  cases vs with
  |nil=>unfold ai;trivial|cons v vs=>obtain⟨x,r,rfl,h1,h2⟩:=hv;unfold ai;exact aK ms R hm hT h2 ho hw hK
theorem Dp{P:Program}{w:World}{fn:Func}(hf:P.funcs[f]? =some fn)(hb:fn.body.isSome=true)(hn:(fn.name== "runtime.NumGoroutine")=false)(args:Array Value):
  (callFunc f args).run P w= .ok (.enter f args) w:=by
 have hb' :¬fn.body=none:=by intro e;rw[e]at hb;cases hb
 have hn' :¬fn.name= "runtime.NumGoroutine":=by intro e;rw[e]at hn;simp at hn
 simp[callFunc,hf,hn',hb']
theorem a7a(H:FxOk X)(R:Rel X (CB*q) (CB*q+CB) S m ok a w){h0:Array Obj}{ok0:Nat->Ty->Prop}{r:X4 (s.rs++s.outs)}{rs os:c5A}{O' B:c5B}
  (hT:Tk X S m ok w (O' ++B)) (hv:iC ⟨h0,ok0,m⟩ vs vals) (hret:Qv s.rs.length v rs) (ho:rM w.heap s.ps vals os B) (hr:lI w.heap ok (s.rs++s.outs) r (rs++os) O') {Q:Unit->Sm->Prop}
  (hK:∀S' m',Rel X (CB*q) (CB*q+CB) S' m' ok (a.put o.dst v) w->(∀k l,m k=some l->m' k=some l)->Q () S'):
  (CZ (s.rs++s.outs) r (L9 q o.dst) λws n' =>bif Nat.ble n' (L9 q o.dst+64)then(match BF s.rs.length ws with
    |some (a,o')=>bif zN a then .fail else ai s.ps vs o' (dX X.E o.dst (a2b a))
    |none=> .fail)else .fail).post S Q:=by
 have hcl:CB*q<=L9 q o.dst:=by
  cases o.dst with
  |none=>exact V5 _ _|some t=>exact V5 _ _
 refine Io (T:=B) _ R hcl hT hr λS1 m1 ws n1 ch1 R1 c1 T1 k1 s1 l1 e1=>bV λhle=>?_;have hle' :=P9 hle;split<;>try trivial
 rename_i p p' hsp;obtain⟨rfl,hpl⟩:=Zm _ _ _ _ hsp;obtain⟨l2,l3⟩:=Tj (by rw[hpl,hret.1]) l1;cases ht:zN p
 .simp only[cond_false];refine aK s.ps R1 k1 T1 hv ho l3 λS2 R2=>?_;have hres:=b0C ht l2 hret;cases hd:o.dst with
  |none=>have hin:=pV H (q:=q) none (λt h=>by cases h);rw[hd]at hle' hK;exact hK S2 m1 (R2.chmono (by generalize CB*q=Z at*;generalize L9 q none=N at*;omega)) k1
  |some t=>unfold dX;refine bV λhb=>?_;have hin:=pV H (q:=q) (some t) (λt' h=>by cases h;exact(jf hb).1);rw[hd]at hle' hK;have R3:Rel X (CB*q) (CB*q+CB) S2 m1 ok a w:=R2.chmono (by generalize CB*q=Z at*;generalize L9 q (some t)=N at*;omega);exact hK _ m1 (R3.put H.ntB hb hres) k1
 .trivial
theorem a5s(H:FxOk X)(hvs:iC ⟨w.heap,ok,m⟩ vs vals){S1:Sm}{ok1:Nat->Ty->Prop}(R1:Rel X (CB*q) (CB*q+CB) S1 m ok1 a w){O:c5B}(T1:Tk X S1 m ok1 w O)
  (k1:∀b t,ok b t->ok1 b t) {okc:Nat->Ty->Prop} (hokc:okL (Bj s) S1 m ok1=okc) {r:X4 (s.rs++s.outs)} {e:Ending} {w' :World}
  (hp:∃v ok' O' rs os B,e= .returned v/\Frame' (X.E.gl=[]) w w' O/\(∀b t,okc b t->ok' b t)/\(∀b t,ok' b t->b<w'.heap.size/\(okc b t\/w.heap.size<=b\/b∈O))/\
   (O' ++B).Nodup/\(∀b∈O' ++B,(∀t,¬ok' b t)/\b<w'.heap.size/\(w.heap.size<=b\/b∈O))/\
   Qv s.rs.length v rs/\rM w'.heap s.ps vals os B/\lI w'.heap ok' (s.rs++s.outs) r (rs++os) O'):
  (CZ (s.rs++s.outs) r (L9 q o.dst) λws n' =>bif Nat.ble n' (L9 q o.dst+64)then(match BF s.rs.length ws with
   |some (a,o')=>bif zN a then .fail else ai s.ps vs o' (dX X.E o.dst (a2b a))
   |none=> .fail)else .fail).post S1 (λ_ S' =>∃v m' okf,e= .returned v/\Rel X (CB*q) (CB*q+CB) S' m' okf (a.put o.dst v) w' /\(∀k l,m k=some l->m' k=some l)/\(∀b t,ok b t->okf b t)):=by
 have c1:∀b t,ok1 b t->okc b t:=λb t h=>by rw[←hokc];exact .inl h
 have hsep1:∀b t,ok1 b t->∀n,b∉P5 m n (S1 (V6+n)):=λb t h n e=>(R1.sep n b e).1 t h;have hown:∀b,(w.heap.size<=b\/b∈O)->(X.w0.heap.size<=b\/b∈X.O)/\∀n,b∉P5 m n (S1 (V6+n)):=λb hb=>by
  rcases hb with hb|hb
  .have:=R1.frame.size;exact⟨.inl l7,λn e=>by have:=(R1.sep n b e).2.1;omega⟩
  .exact(T1.free b hb).2.2
 obtain⟨v,ok',O',rs,os,B,rfl,fr,k2,hok',hnd,hfr,hret,houts,hrel'⟩:=hp;have k3:∀b t,ok1 b t->(ok' b t/\∀n,b∉P5 m n (S1 (V6+n))):=λb t h=>⟨k2 b t (c1 b t h),hsep1 b t h⟩;have R2:Rel X (CB*q) (CB*q+CB) S1 m (λb t=>ok' b t/\∀n,b∉P5 m n (S1 (V6+n))) a w' :=by
  refine R1.world fr.os fr.tape fr.output fr.size (λb hb h=>fr.block b hb λhO=>?_) k3 (λb t h=>⟨(hok' b t h.1).1,?_⟩) fr.drawn
  .obtain⟨f1,f2,f3,f4⟩:=T1.free b hO;rcases h with⟨t,h⟩|⟨n,h⟩|h
   .exact f1 t h
   .exact f4 n h
   .exact h f3
  .rcases(hok' b t h.1).2 with h'|h'
   .rw[←hokc]at h';rcases h' with h'|⟨_,n,h',_⟩
    .exact .inl h'
    .exact absurd h' (h.2 n)
   .exact .inr (hown b h')
 have hrel2:lI w'.heap (λb t=>ok' b t/\∀n,b∉P5 m n (S1 (V6+n))) (s.rs++s.outs) r (rs++os) O' :=by
  refine WV (λb u h k=>⟨h,λn e=>?_⟩) hrel';rcases(hok' b u h).2 with h'|h'
  .rw[←hokc]at h';rcases h' with h'|⟨hl,_⟩
   .exact hsep1 b u h' n e
   .rw[PE]at k;unfold Bj at hl;rw[k]at hl;cases hl
  .exact(hown b h').2 n e
 refine a7a H R2 (h0:=w.heap) (ok0:=ok) (vals:=vals) (rs:=rs) (os:=os) (O' :=O') (B:=B) (v:=v) ⟨hnd,λb hb=>?_⟩ hvs hret houts hrel2 λS' m' R' km=>⟨v,m',_,rfl,R',km,λb t hb=>k3 b t (k1 b t hb)⟩;obtain⟨g1,g2,g3⟩:=hfr b hb;obtain⟨f2,f3⟩:=hown b g3;exact⟨λt h=>g1 t h.1,g2,f2,f3⟩
theorem Yq(H:FxOk X)(hvs:iC ⟨w.heap,ok,m⟩ vs vals){S1:Sm}{ok1:Nat->Ty->Prop}(R1:Rel X (CB*q) (CB*q+CB) S1 m ok1 a w){O:c5B}(T1:Tk X S1 m ok1 w O)
  (k1:∀b t,ok b t->ok1 b t) {okc:Nat->Ty->Prop} (hokc:okL (Bj s) S1 m ok1=okc) {r:X4 (s.rs++s.outs)}
  (hC:Calls X.P f vals.toArray w λe w' =>∃v ok' O' rs os B,e= .returned v/\Frame' (X.E.gl=[]) w w' O/\(∀b t,okc b t->ok' b t)/\(∀b t,ok' b t->b<w'.heap.size/\(okc b t\/w.heap.size<=b\/b∈O))/\
   (O' ++B).Nodup/\(∀b∈O' ++B,(∀t,¬ok' b t)/\b<w'.heap.size/\(w.heap.size<=b\/b∈O))/\
   Qv s.rs.length v rs/\rM w'.heap s.ps vals os B/\lI w'.heap ok' (s.rs++s.outs) r (rs++os) O')
  (hrun:(execOp a.eval o).run X.P w= .ok (.enter f vals.toArray) w):
  (CZ (s.rs++s.outs) r (L9 q o.dst) λws n' =>bif Nat.ble n' (L9 q o.dst+64)then(match BF s.rs.length ws with
   |some (a,o')=>bif zN a then .fail else ai s.ps vs o' (dX X.E o.dst (a2b a))
   |none=> .fail)else .fail).post S1 (λ_ S' =>jw X (CB*q) (CB*q+CB) o a w m ok S'):=by
 revert hC;generalize hPost:(λ(e:Ending) (w' :World)=>∃v ok' O' rs os B,e= .returned v/\Frame' (X.E.gl=[]) w w' O/\(∀b t,okc b t->ok' b t)/\(∀b t,ok' b t->b<w'.heap.size/\(okc b t\/w.heap.size<=b\/b∈O))/\
  (O' ++B).Nodup/\(∀b∈O' ++B,(∀t,¬ok' b t)/\b<w'.heap.size/\(w.heap.size<=b\/b∈O))/\
  Qv s.rs.length v rs/\rM w'.heap s.ps vals os B/\lI w'.heap ok' (s.rs++s.outs) r (rs++os) O')=Post
 intro hC;have hall:∀p: { p:Ending×World // Post p.1 p.2 },(CZ (s.rs++s.outs) r (L9 q o.dst) λws n' =>bif Nat.ble n' (L9 q o.dst+64)then(match BF s.rs.length ws with
   |some (a,o')=>bif zN a then .fail else ai s.ps vs o' (dX X.E o.dst (a2b a))
   |none=> .fail)else .fail).post S1 (λ_ S' =>∃v m' okf,p.1.1= .returned v/\Rel X (CB*q) (CB*q+CB) S' m' okf (a.put o.dst v) p.1.2/\(∀k l,m k=some l->m' k=some l)/\(∀b t,ok b t->okf b t)):=by
  rintro⟨⟨e,w'⟩,hp⟩;rw[←hPost]at hp;exact a5s H hvs R1 T1 k1 hokc hp
 refine uI ?_ (Hf hall);intro _ S' hS' next Q hn
 unfold Oper.wp;rw[hrun,oP];refine sD hC λe w' hp=>?_;obtain⟨v,m',okf,he,R',km,kok⟩:=hS' ⟨(e,w'),hp⟩;simp only at he;subst he;exact hn m' okf _ w' R' km kok
theorem a0L(H:FxOk X)(R:Rel X (CB*q) (CB*q+CB) S m ok a w)(hvs:iC ⟨w.heap,ok,m⟩ vs vals)
  (run:∀fn,X.P.funcs[f]? =some fn->fn.body.isSome=true->(fn.name== "runtime.NumGoroutine")=false->(execOp a.eval o).run X.P w= .ok (.enter f vals.toArray) w):
  (a5r X.E q o.dst f vs).post S (λ_ S' =>jw X (CB*q) (CB*q+CB) o a w m ok S'):=by
 unfold a5r;cases hPB:Nat.ble 1000000000 f
 case true=>trivial
 simp only[cond_false];split
 .trivial
 rename_i s hs;have hmem:=Rf hs;have hF:=H.fs _ hmem;unfold a6T at hF;simp only[PB,hPB,cond_false]at hF;obtain⟨fn,hf,hb,hnm⟩:=H.fn _ hmem;simp only[a7j,PB,hPB,cond_false]at hf;have hrun:=run fn hf hb hnm;refine Vx R hvs s.ps hvs λhdv=>?_;refine Bf (ln:=Bj s) (T:=[]) s.ps R Tk.nil hvs λS1 ok1 x O R1 T1 k1 s1 hrel=>dP λr hr=>?_;simp only[H9]at T1;generalize hokc:okL (Bj s) S1 m ok1=okc at hrel;have c1:∀b t,ok1 b t->okc b t:=λb t h=>by rw[←hokc];exact .inl h
 have hsep1:∀b t,ok1 b t->∀n,b∉P5 m n (S1 (V6+n)):=λb t h n e=>(R1.sep n b e).1 t h;have hlt:∀b t,okc b t->b<w.heap.size:=λb t h=>by
  rw[←hokc]at h;rcases h with h|⟨_,n,h,_⟩
  .exact R1.okLt b t h
  .exact(R1.sep n b h).2.1
 have hfree:∀b∈O,(∀t,¬okc b t)/\b<w.heap.size:=λb hb=>by
  obtain⟨f1,f2,f3,f4⟩:=T1.free b hb;refine⟨λt h=>?_,f2⟩;rw[←hokc]at h;rcases h with h|⟨_,n,h,_⟩
  .exact f1 t h
  .exact f4 n h
 have hC:=hF w okc O _ x r hlt T1.nodup hfree (λg u hg=>by obtain⟨g1,g3,g2⟩:=R1.gl g u hg;refine⟨c1 _ _ g1,g3,λi y hi=>?_⟩;obtain⟨es,he,hr⟩:=g2 i y hi;exact⟨es,he,dU c1 (λ_ _ _=>rfl) hr⟩) hrel hdv hr
 exact Yq H hvs R1 T1 k1 hokc hC hrun
theorem a8N(H:FxOk X)(R:Rel X (CB*q) (CB*q+CB) S m ok a w)(hvs:iC ⟨w.heap,ok,m⟩ vs vals)
  (run:∀fn,X.P.funcs[f]? =some fn->fn.body.isSome=true->(fn.name== "runtime.NumGoroutine")=false->(execOp a.eval o).run X.P w= .ok (.enter f vals.toArray) w):
  (a8M X.E q o.dst f vs).post S (λx S' =>match x with|none=>jw X (CB*q) (CB*q+CB) o a w m ok S'|some c=>c≠0/\b4q X (CB*q) (CB*q+CB) o a w m ok c S'):=by
 unfold a8M;split
 .trivial
 rename_i s hs;have hmem:=Rf hs;have hF:=H.fs _ hmem;have hPB:Nat.ble 1000000000 (1000000000+f)=true:=mO (V5 _ _);have hsub:1000000000+f -1000000000=f:=Nat.add_sub_cancel_left _ _;unfold a6T at hF;simp only[PB,hPB,cond_true,hsub]at hF;obtain⟨fn,hf,hb,hnm⟩:=H.fn _ hmem;simp only[a7j,PB,hPB,cond_true,hsub]at hf;have hrun:=run fn hf hb hnm;obtain⟨ps,rs,outs,fn0⟩:=s;obtain⟨rs0,h,hF⟩:=hF;subst h;simp only at hF;show(a2X X.E q o.dst vs ps (cd::rs0) outs fn0).post S _;unfold a2X;refine Vx R hvs ps hvs λhdv=>?_;refine Bf (ln:=Bj ⟨ps,rs0,outs,λ_=>none⟩) (T:=[]) ps R Tk.nil hvs λS1 ok1 x O R1 T1 k1 s1 hrel=>dP λr hr=>?_;simp only[H9]at T1;generalize hokc:okL (Bj ⟨ps,rs0,outs,λ_=>none⟩) S1 m ok1=okc at hrel;have c1:∀b t,ok1 b t->okc b t:=λb t h=>by rw[←hokc];exact .inl h
 have hlt:∀b t,okc b t->b<w.heap.size:=λb t h=>by
  rw[←hokc]at h;rcases h with h|⟨_,n,h,_⟩
  .exact R1.okLt b t h
  .exact(R1.sep n b h).2.1
 have hfree:∀b∈O,(∀t,¬okc b t)/\b<w.heap.size:=λb hb=>by
  obtain⟨f1,f2,f3,f4⟩:=T1.free b hb;refine⟨λt h=>?_,f2⟩;rw[←hokc]at h;rcases h with h|⟨_,n,h,_⟩
  .exact f1 t h
  .exact f4 n h
 have hC:=hF w okc O _ x r hlt T1.nodup hfree (λg u hg=>by obtain⟨g1,g3,g2⟩:=R1.gl g u hg;refine⟨c1 _ _ g1,g3,λi y hi=>?_⟩;obtain⟨es,he,hr⟩:=g2 i y hi;exact⟨es,he,dU c1 (λ_ _ _=>rfl) hr⟩) hrel hdv hr
 refine⟨λhz=>?_,λhz=>?_⟩
 .have hz:a3z (rs0++outs) r=0:=of_decide_eq_true hz;refine zF (uI ?_ (Yq H (s:=⟨ps,rs0,outs,λ_=>none⟩) hvs R1 T1 k1 hokc (r:=tlT (rs0++outs) r) (hC.mono ?_) hrun))
  .exact λ_ S' h=>h
  .rintro e w' (⟨_,h⟩|⟨h,_⟩)
   .exact h
   .exact absurd hz h
 .have hz:a3z (rs0++outs) r≠0:=of_decide_eq_false hz;refine⟨hz,λnext Q hQ=>?_⟩;unfold Oper.wp;rw[hrun,oP];refine sD hC λe w' hp=>?_;rcases hp with⟨h,_⟩|⟨_,rfl,fr⟩
  .exact absurd h hz
  .refine hQ m ok1 w' (R1.world fr.os fr.tape fr.output fr.size (λb hb h=>fr.block b hb λhO=>?_) (λ_ _ h=>h) (λb t h=>⟨by have:=R1.okLt b t h;have:=fr.size;omega,.inl h⟩) fr.drawn) (λ_ _ h=>h) k1;obtain⟨f1,f2,f3,f4⟩:=T1.free b hO;rcases h with⟨t,h⟩|⟨n,h⟩|h
   .exact f1 t h
   .exact f4 n h
   .exact h f3
theorem Ym{α:Type} :∀{l:List (Nat×α)} {n:Nat} {x:α},dL l n=some x->(n,x)∈l
 |[],_,_,h=>by cases h|(k,v)::r,n,x,h=>by
  unfold dL at h;cases hb:Nat.beq k n<;>rw[hb]at h
  .exact U3 _ (Ym h)
  .have:=fJ hb;subst this;simp only[cond_true,F7]at h;subst h;exact jG
theorem b6C(H:FxOk X)(R:Rel X (CB*q) (CB*q+CB) S m ok a w)(ho:Dc X.E o=some f):
  (opP X.E q o f).post S (λx S' =>match x with|none=>jw X (CB*q) (CB*q+CB) o a w m ok S'|some c=>c≠0/\b4q X (CB*q) (CB*q+CB) o a w m ok c S'):=by
 unfold Dc at ho;split at ho<;>try (cases ho;done)
 rename_i c hoc;split at ho<;>try (cases ho;done)
 rename_i f' hcal;obtain⟨cal,args,ats⟩:=c;simp only at hcal;subst hcal;have hff:f' =f:=by
  cases hh:b6i X.E.fs f'<;>rw[hh]at ho
  .cases ho
  .simpa using ho
 subst hff;unfold opP;simp only[hoc];have e:args.map a.eval=(args.toList.map a.eval).toArray:=by apply lC;simp
 have hrun:∀fn,X.P.funcs[f']? =some fn->fn.body.isSome=true->(fn.name== "runtime.NumGoroutine")=false->(execOp a.eval o).run X.P w= .ok (.enter f' (args.toList.map a.eval).toArray) w:=λfn hf hb hnm=>by have:=Dp (P:=X.P) (w:=w) hf hb hnm (args.map a.eval);rw[e]at this;simp[execOp,hoc,resolve,Deferred.ofValue,Act.eval,invoke,e,this]
 refine kJ R _ λvs hvs=>?_;exact a8N H R hvs hrun
theorem b3i(H:FxOk X)(R:Rel X (CB*q) (CB*q+CB) S m ok a w){c:Call}(ho:o.op= .call c)(hc:c.callee= .value (.func f)):(dE X.E q o).post S (λ_ S' =>jw X (CB*q) (CB*q+CB) o a w m ok S'):=by
 obtain⟨cal,args,ats⟩:=c;simp only at hc;subst hc;unfold dE;simp only[ho];have e:args.map a.eval=(args.toList.map a.eval).toArray:=by apply lC;simp
 have hrun:∀fn,X.P.funcs[f]? =some fn->fn.body.isSome=true->(fn.name== "runtime.NumGoroutine")=false->(execOp a.eval o).run X.P w= .ok (.enter f (args.toList.map a.eval).toArray) w:=λfn hf hb hnm=>by have:=Dp (P:=X.P) (w:=w) hf hb hnm (args.map a.eval);rw[e]at this;simp[execOp,ho,resolve,Deferred.ofValue,Act.eval,invoke,e,this]
 refine kJ R _ λvs hvs=>?_;split
 .rename_i off sz hpl;cases hz:Nat.beq sz 0
  case true=>trivial
  simp only[cond_false];split<;>try trivial
  rename_i v;obtain⟨x,r,e1,h1,h2⟩:=hvs;simp only[iC]at h2;subst h2;refine Ol R h1 λr y hy hp=>?_;obtain⟨⟨fn,hf,hb,hnm⟩,hcall⟩:=(H.pl _ (Ym hpl)).snd hz;have hC:=hcall w x y hp;have hr0:=hrun fn hf hb hnm;rw[e1]at hr0;unfold dX;cases hd:o.dst with
  |none=>
   intro next Q hn
   unfold Oper.wp;rw[hr0,oP];refine sD hC λen w' hp=>?_;obtain⟨rfl,k,rfl⟩:=hp;rw[hd];exact hn m ok a _ (R.same (w' :=w.drewN k) rfl rfl rfl rfl (λ_=>V5 _ _)) (λ_ _ h=>h) (λ_ _ h=>h)
  |some d=>
   refine bV λhb=>?_;intro next Q hn
   unfold Oper.wp;rw[hr0,oP];refine sD hC λen w' hp=>?_;obtain⟨rfl,k,rfl⟩:=hp;rw[hd];exact hn m ok _ _ ((R.put H.ntB hb hy).same (w' :=w.drewN k) rfl rfl rfl rfl (λ_=>V5 _ _)) (λ_ _ h=>h) (λ_ _ h=>h)
 .exact a0L H R hvs hrun
theorem IZ{C:Cx} :∀{a b:List V} {xs ys:c5A},iC C a xs->iC C b ys->iC C (a++b) (xs++ys)
 |[],_,_,_,h,k=>by simp only[iC]at h;subst h;exact k|c::a,b,_,_,⟨v,r,e,h1,h2⟩,k=>by subst e;exact⟨v,r++_,rfl,h1,IZ h2 k⟩
theorem WW{C:Cx} :∀{caps:List ((t:Ty)×t.den)} {vs:c5A},DT C.h C.ok caps vs->iC C (caps.map b9k) vs
 |[],_,h=>h|c::cs,_,⟨v,r,e,h1,h2⟩=>⟨v,r,e,h1,WW h2⟩
theorem a9S(H:FxOk X)(R:Rel X (CB*q) (CB*q+CB) S m ok a w){c:Call}{x:Operand}(ho:o.op= .call c)(hc:c.callee= .value x)(hx:∀f,x≠.func f):(dE X.E q o).post S (λ_ S' =>jw X (CB*q) (CB*q+CB) o a w m ok S'):=by
 obtain⟨cal,args,ats⟩:=c;simp only at hc;subst hc;unfold dE;simp only[ho];refine kJ R _ λvs hvs=>?_;refine bg R λu hu=>?_;split<;>try trivial
 rename_i f caps;obtain⟨cs,hv,hcaps⟩:=hu;refine a0L H R (IZ hvs (WW hcaps)) λfn hf hb hnm=>?_;have:=Dp (P:=X.P) (w:=w) hf hb hnm (args.map a.eval++cs);have e:args.map a.eval++cs=(args.toList.map a.eval++cs.toList).toArray:=by apply lC;simp
 rw[e]at this;simp[execOp,ho,resolve,Deferred.ofValue,hv,invoke,e,this]
end
end Go.GP
namespace Go.GP
variable {q:Nat}{ops:Array Oper}{i:Nat}{x:Operand}
section
variable {X:Fx} {S:Sm} {m:Mp} {ok:Nat->Ty->Prop} {a:Act} {w:World} {o:Oper}
theorem Vd{α:Type}{Q:α->Sm->Prop}{cl ch:Nat} :∀(ms:List MG) {vs:List V} {xs:c5A} {K:List ((t:Ty)×t.den)->Cmd α} {S:Sm} {ok:Nat->Ty->Prop} (R:Rel X cl ch S m ok a w)
  (hv:iC ⟨w.heap,ok,m⟩ vs xs)
  (hK:∀S' ok' cs,Rel X cl ch S' m ok' a w->(∀b t,ok b t->ok' b t)->DT w.heap ok' cs xs->(K cs).post S' Q),(xk ms vs K).post S Q
 |[],vs,xs,K,S,ok,R,hv,hK=>by
  cases vs with
  |cons _ _=>unfold xk;trivial|nil=>unfold xk;exact hK S ok [] R (λ_ _ h=>h) hv
 |(g,.rp t)::ms,vs,xs,K,S,ok,R,hv,hK=>by
  cases vs with
  |nil=>unfold xk;trivial|cons v vs=>
   obtain⟨x,r,rfl,h1,h2⟩:=hv;unfold xk;have key:vX ⟨w.heap,ok,m⟩ v x->(rpC t v λx=>xk ms vs λcs=>K (⟨t,x⟩::cs)).post S Q:=λh1=>by refine a2h (T:=[]) t R Tk.nil h1 λS1 ok1 y R1 T1 k1 s1 d1=>?_;refine Vd ms R1 (KY k1 h2) λS2 ok2 cs R2 k2 d2=>?_;exact hK S2 ok2 _ R2 (λb t h=>k2 b t (k1 b t h)) ⟨x,r,rfl,Dx k2 (λ_ _ _=>rfl) d1,d2⟩
   cases v<;>first|exact key h1|(unfold rpC;trivial)
 |(g,.dat t)::ms,vs,xs,K,S,ok,R,hv,hK=>by cases vs<;>(unfold xk;trivial)|(g,.own t)::ms,vs,xs,K,S,ok,R,hv,hK=>by cases vs<;>(unfold xk;trivial)|(g,.pair p q)::ms,vs,xs,K,S,ok,R,hv,hK=>by cases vs<;>(unfold xk;trivial)|(g,.unit)::ms,vs,xs,K,S,ok,R,hv,hK=>by cases vs<;>(unfold xk;trivial)|(g,.cell _)::ms,vs,xs,K,S,ok,R,hv,hK=>by cases vs<;>(unfold xk;trivial)|(g,.fr _)::ms,vs,xs,K,S,ok,R,hv,hK=>by cases vs<;>(unfold xk;trivial)|(g,.sbx _ _)::ms,vs,xs,K,S,ok,R,hv,hK=>by cases vs<;>(unfold xk;trivial)|(g,.lp _)::ms,vs,xs,K,S,ok,R,hv,hK=>by cases vs<;>(unfold xk;trivial)|(g,.dv ..)::ms,vs,xs,K,S,ok,R,hv,hK=>by cases vs<;>(unfold xk;trivial)|(g,.ownr ..)::ms,vs,xs,K,S,ok,R,hv,hK=>by cases vs<;>(unfold xk;trivial)|(g,.sit)::ms,vs,xs,K,S,ok,R,hv,hK=>by cases vs<;>(unfold xk;trivial)|(g,.box p)::ms,vs,xs,K,S,ok,R,hv,hK=>by cases vs<;>(unfold xk;trivial)|(g,.owns p)::ms,vs,xs,K,S,ok,R,hv,hK=>by cases vs<;>(unfold xk;trivial)|(g,.ownb p)::ms,vs,xs,K,S,ok,R,hv,hK=>by cases vs<;>(unfold xk;trivial)|(g,.fn f ts)::ms,vs,xs,K,S,ok,R,hv,hK=>by cases vs<;>(unfold xk;trivial)|(g,.ifc t p)::ms,vs,xs,K,S,ok,R,hv,hK=>by cases vs<;>(unfold xk;trivial)
theorem a1F(H:FxOk X)(R:Rel X (CB*q) (CB*q+CB) S m ok a w){f:FuncId}{first caps:Array Operand}(ho:o.op= .makeFunc (.func f) first caps):(dE X.E q o).post S (λ_ S' =>jw X (CB*q) (CB*q+CB) o a w m ok S'):=by
 unfold dE;simp only[ho];refine aN λhb=>?_;have hb' :=fJ hb;have hf:first=#[]:=by simpa using hb'
 split
 .refine aN λhc=>?_;simp only[x9]at hc;have hn:=fJ hc.2;refine uu H R (λ_ _ h=>h) (λ_ _ h=>h) (v:=.idl f _) (x:=.func (.func f) #[] (caps.map a.eval)) ⟨caps.map a.eval,rfl,by simpa using hn⟩ ?_;simp[execOp,ho,Instr.makeFunc,hf]
 split<;>try trivial
 refine kJ R _ λvs hvs=>Vd _ R hvs λS' ok' cs R' k hc=>?_;refine uu H R' (λ_ _ h=>h) k (v:=.clos f cs) (x:=.func (.func f) #[] (caps.map a.eval)) ⟨caps.map a.eval,rfl,by simpa using hc⟩ ?_;simp[execOp,ho,Instr.makeFunc,hf]
theorem QW(H:FxOk X)(R:Rel X (CB*q) (CB*q+CB) S m ok a w){t:TypeId}(ho:o.op= .makeInterface t x):(dE X.E q o).post S (λ_ S' =>jw X (CB*q) (CB*q+CB) o a w m ok S'):=by
 unfold dE;simp only[ho];refine lu H λi hi=>?_;have htd:=hi.td;have key:∀d,X.P.underlying t=some d->(∀ms,d≠.interface ms)->(sW x λv=>(match v with
   | .b ..| .i ..| .s ..| .ptr ..=>dX X.E o.dst (.ifc t v)
   |_=> .fail:Cmd Unit)).post S (λ_ S' =>jw X (CB*q) (CB*q+CB) o a w m ok S'):=λd hd hne=>by
  refine bg R λv hv=>?_;have run:(execOp a.eval o).run X.P w= .ok (.value (.iface t (a.eval x))) w:=by simp only[execOp,ho,Instr.makeInterface,H8,run_underlying hd,J3];cases d<;>first|rfl|exact absurd rfl (hne _)
  cases v<;>try trivial
  case b y=>exact bu H R (v:=.ifc t (.b y)) ⟨_,rfl,by rw[Rj hv];rfl,hv⟩ run
  case i k n=>exact bu H R (v:=.ifc t (.i k n)) ⟨_,rfl,by rw[uK hv];rfl,hv⟩ run
  case s l=>exact bu H R (v:=.ifc t (.s l)) ⟨_,rfl,by rw[KX hv];rfl,hv⟩ run
  case ptr bx off=>obtain⟨blk,h1,h2⟩:=hv;exact bu H R (v:=.ifc t (.ptr bx off)) ⟨_,rfl,by rw[h2];rfl,⟨blk,h1,h2⟩⟩ run
 cases htd' :i.td<;>rw[htd']at htd<;>try trivial
 all_goals exact key _ htd (λ_ e=>by cases e)
theorem a9U(H:FxOk X)(R:Rel X (CB*q) (CB*q+CB) S m ok a w){t:TypeId}(ho:o.op= .range t x):(dE X.E q o).post S (λ_ S' =>jw X (CB*q) (CB*q+CB) o a w m ok S'):=by
 unfold dE;simp only[ho];refine bg R λu hu=>lu H λi hi=>?_;have hd:=hi.td;split<;>try trivial
 rename_i l htd;rw[htd]at hd;have hx:a.eval x= .string ⟨l.toArray⟩:=hu;refine GX (l:=.st w.heap.size) (obj:=.stringIter ⟨l.toArray⟩ 0) H R A7 (by simp[P5]) (λhn hc=>?_) ⟨w.heap.size,A7,rfl⟩ ?_
 .exact⟨w.heap.size,⟨l.toArray⟩,0,A7,heap_alloc_new w _,A7,rfl⟩
 .have hund:X.P.underlying t=some .string:=hd;simp[execOp,ho,Instr.range,run_underlying hund,hx]
theorem b3k(H:FxOk X){cl ch:Nat}(R:Rel X cl ch S m ok a w){b:Bool}(ho:o.op= .next x b):(dE X.E q o).post S (λ_ S' =>jw X cl ch o a w m ok S'):=by
 unfold dE;simp only[ho];refine bV λhs=>?_;subst hs;refine bg R λu hu=>?_;split<;>try trivial
 rename_i bx;obtain⟨blk,hm,hx⟩:=hu;refine Y7 ?_;split<;>try trivial
 rename_i l p hS;have hb:=R.box bx;rw[hS]at hb;obtain⟨blk',s,pos,hm',hh,g1,g2⟩:=hb;simp only at hm hm' hh;rw[hm]at hm';cases hm';subst g2;have hl:(⟨l.toArray⟩:ByteArray)=s:=by rw[←g1]
 have hlen:l.length=s.size:=by rw[←g1,J5];rfl
 have hown:P5 m bx (S (V6+bx))=[blk]:=by rw[hS];simp[P5,hm]
 have hx:a.eval x= .pointer (some ⟨blk,0,none⟩):=hx;refine⟨λhlt=>?_,λhge=>?_⟩
 .have hlt:pos<s.size:=by unfold I7 x8 at hlt;rw[decide_eq_true_eq]at hlt;omega
  refine fP ?_;have hsz:blk<w.heap.size:=(G7.1 hh).1;have R2:Rel X cl ch (upd S (V6+bx) (.biter l (yO l (pos:Int)))) m ok a { w with heap:=w.heap.setIfInBounds blk (.stringIter s (pos+(Utf8.decode s pos).2)) }:=by
   refine R.mod (by rw[hown];simp[P5,hm]) A7 rfl rfl rfl A7 (λb hb=>?_) ?_
   .rw[hown]at hb;simp only[iQ]at hb;simp[jl,Ne.symm hb]
   .refine⟨blk,s,pos+(Utf8.decode s pos).2,hm,?_,g1,?_⟩
    .simp[jl,hsz]
    .unfold yO;rw[hl];simp
  refine uu (o:=o) H R2 (m0:=m) (ok0:=ok) (λ_ _ h=>h) (λ_ _ h=>h) (x:=.tuple #[.bool true,.int .i64 (pos:Int),.int .i32 ((Utf8.decode s pos).1:Int)]) ?_ ?_
  .refine⟨_,rfl,⟨_,_,rfl,rfl,_,_,rfl,rfl,_,_,rfl,?_,rfl⟩⟩;show Value.int .i32 _=_;unfold uY;rw[hl];simp
  .have e1:(getObj blk).run X.P w= .ok (.stringIter s pos) w:=by simp[getObj,Sem.run,hh]
   have e2:(setObj blk (.stringIter s (pos+(Utf8.decode s pos).2))).run X.P w= .ok () { w with heap:=w.heap.setIfInBounds blk (.stringIter s (pos+(Utf8.decode s pos).2)) }:=by simp[setObj,Sem.run,hh]
   simp[execOp,ho,Instr.next,hx,e1,e2,hlt,goInt]
 .have hge:¬pos<s.size:=λh=>by
   have:I7 ((pos:Nat):Int) (x8 l)=true:=by unfold I7 x8;rw[decide_eq_true_eq];omega
   rw[this]at hge;cases hge
  refine bu H R (x:=.tuple #[.bool false]) ⟨_,rfl,⟨_,_,rfl,rfl,rfl⟩⟩ ?_;have e1:(getObj blk).run X.P w= .ok (.stringIter s pos) w:=by simp[getObj,Sem.run,hh]
  simp[execOp,ho,Instr.next,hx,e1,hge]
theorem b6D(H:FxOk X)(R:Rel X (CB*q) (CB*q+CB) S m ok a w)(o:Oper):(dE X.E q o).post S (λ_ S' =>jw X (CB*q) (CB*q+CB) o a w m ok S'):=by
 have fin:∀{α:Type} {Q:α->Sm->Prop},(Cmd.fail:Cmd α).post S Q:=trivial;cases ho:o.op
 case move x=>have h:=a6g H R (o:=o) (x:=x) (.inl ho);unfold dE;simp only[ho];exact h
 case assign x=>have h:=a6g H R (o:=o) (x:=x) (.inr ho);unfold dE;simp only[ho];exact h
 case pick c x y=>exact b3l H R ho
 case alloc t=>exact a9O H R ho
 case box t x=>exact b6E H R ho
 case build t ps=>exact a9R H R ho
 case buildSlice t n ps=>exact XW H R ho
 case load t x=>exact b3j H R ho
 case store t x y=>exact a9W H R ho
 case binOp op t x y yt=>exact a9Q H R ho
 case unOp op t x=>exact b3n H R ho
 case convert s t x=>exact a3N H R ho
 case makeSlice t l c=>exact y_ H R ho
 case slice t x lo hi mx=>
  cases mx with
  |none=>exact a9V H R ho|some _=>unfold dE;simp only[ho];exact fin
 case fieldAddr t x f=>exact w_ H R ho
 case indexAddr t x ix=>exact x_ H R ho
 case index t x ix=>exact a9T H R ho
 case extract x n=>exact a3O H R ho
 case nilCheck x=>exact a1G H R ho
 case call c=>
  cases hc:c.callee
  case builtin b=>
   cases b
   case len=>exact b6F H R ho hc
   case append=>exact a7D H R ho hc
   case delete=>exact a7G H R ho hc
   case min=>exact YW H R ho (.inl hc)
   case max=>exact YW H R ho (.inr hc)
   all_goals
    unfold dE;simp only[ho];exact kJ R _ λvs hvs=>by simp only[hc];exact fin
  case value f=>
   cases f
   case func f=>exact b3i H R ho hc
   all_goals exact a9S H R ho hc (λf e=>by cases e)
  case invoke x n=>unfold dE;simp only[ho];exact kJ R _ λvs hvs=>by simp only[hc];exact fin
 case makeFunc f first caps=>
  cases f
  case func f=>exact a1F H R ho
  all_goals
   unfold dE;simp only[ho];exact fin
 case makeInterface t x=>exact QW H R ho
 case makeMap t r=>exact a3P H R ho
 case lookup t x ix ok=>exact a7H H R ho
 case range t x=>exact a9U H R ho
 case next x b=>exact b3k H R ho
 case mapUpdate t x ix y=>exact PK H R (.inl ho)
 case insert t x ix y=>exact PK H R (.inr ho)
 all_goals
  unfold dE;simp only[ho];exact fin
def JM(X:Fx)(cl ch:Nat)(ops:Array Oper)(i:Nat)(a:Act)(w:World)(m:Mp)(ok:Nat->Ty->Prop)(S' :Sm):Prop:=
 ∀(next:Act->World->Prop) (Q:Exit->Act->World->Prop),
  (∀m' ok' a' w',Rel X cl ch S' m' ok' a' w' ->(∀k l,m k=some l->m' k=some l)->(∀b t,ok b t->ok' b t)->next a' w')->wpOp X.P ops Q i next a w
theorem OD(H:FxOk X){cl ch:Nat}(R:Rel X cl ch S m ok a w)(hi:ops[i]? =some o)(hw:Region.wanted o (yielded ops a.tmps)=false):
  (dX X.E o.dst .un).post S (λ_ S' =>JM X cl ch ops i a w m ok S'):=by
 have h:∀S',Rel X cl ch S' m ok (a.put o.dst Go.undef) w->JM X cl ch ops i a w m ok S' :=λS' R' next Q hn=>by unfold wpOp;simp only[hi,hw,iP,if_false];exact hn m ok _ w R' (λ_ _ h=>h) (λ_ _ h=>h)
 unfold dX;cases hd:o.dst with
 |none=>rw[hd]at h;exact h S R
 |some d=>rw[hd]at h;exact bV λhb=>h _ (R.put H.ntB hb rfl)
theorem Nu{tmps:Array Value}{t:Nat}{v:Value}(h:tmps.getD t Go.undef=v)(hv:v≠Go.undef):tmps[t]? =some v:=by
 rw[U1]at h;cases hx:tmps[t]? with
 |none=>rw[hx]at h;exact absurd h.symm hv|some x=>rw[hx]at h;simpa using h
theorem a8g(H:FxOk X)(R:Rel X (CB*q) (CB*q+CB) S m ok a w)(hi:ops[i]? =some o):
  (Jh X.E q ops.toList o).post S (λ_ S' =>JM X (CB*q) (CB*q+CB) ops i a w m ok S'):=by
 have yes:Region.wanted o (yielded ops a.tmps)=true->(dE X.E q o).post S (λ_ S' =>JM X (CB*q) (CB*q+CB) ops i a w m ok S'):=λhw=>by
  refine uI ?_ (b6D H R o);intro _ S' h next Q hn
  unfold wpOp;simp only[hi,hw,if_true];exact .inl (h next Q hn)
 unfold Jh;cases hg:o.guard with
 |none=>exact yes (by simp[Region.wanted,hg])|some p=>
  obtain⟨j,want⟩:=p;cases hj:ops.toList[j]? with
  |none=>simp only[hj];trivial|some p=>
   simp only[hj];have hj' :ops[j]? =some p:=by simpa using hj
   cases hd:p.dst with
   |none=>trivial|some t=>
    simp only[];refine bV λhlt=>Y7 ?_;have hsl:=R.slot t (FP hlt);have hyd:yielded ops a.tmps j=match a.tmps[t]? with|some (.bool b)=>some b|_=>none:=by unfold yielded;rw[hj'];simp only[iL,hd];rfl
    split<;>try trivial
    .rename_i y hS;rw[hS]at hsl;have hb:a.tmps.getD t Go.undef= .bool y:=hsl;have hy:yielded ops a.tmps j=some y:=by
      rw[hyd,Nu hb (by simp[Go.undef])]
     have hwt:Region.wanted o (yielded ops a.tmps)=(bif want then y else !y):=by unfold Region.wanted;rw[hg];simp only[hy];cases want<;>cases y<;>rfl
     cases hc:(bif want then y else !y)
     .simp only[cond_false];exact OD H R hi (hwt.trans hc)
     .simp only[cond_true];exact yes (hwt.trans hc)
    .rename_i hS;rw[hS]at hsl;have hb:a.tmps.getD t Go.undef=Go.undef:=hsl;have hwt:Region.wanted o (yielded ops a.tmps)=false:=by
      unfold Region.wanted;rw[hg];simp only[hyd];rw[U1]at hb;cases hx:a.tmps[t]? with
      |none=>rfl|some x=>rw[hx]at hb;simp only[dW]at hb;subst hb;rfl
     exact OD H R hi hwt
def Zz(X:Fx)(cl ch:Nat)(ops:Array Oper)(i:Nat)(a:Act)(w:World)(m:Mp)(ok:Nat->Ty->Prop)(c:Int)(S' :Sm):Prop:=
 ∀(next:Act->World->Prop) (Q:Exit->Act->World->Prop),
  (∀m' ok' w',Rel X cl ch S' m' ok' a w' ->(∀k l,m k=some l->m' k=some l)->(∀b t,ok b t->ok' b t)->Q (.panic (yh X.P c)) a w')->wpOp X.P ops Q i next a w
theorem Xl(H:FxOk X)(R:Rel X (CB*q) (CB*q+CB) S m ok a w)(hi:ops[i]? =some o){f:FuncId}(hp:Dc X.E o=some f):
  (Hr X.E q ops.toList o f).post S (λx S' =>match x with|none=>JM X (CB*q) (CB*q+CB) ops i a w m ok S'|some c=>c≠0/\Zz X (CB*q) (CB*q+CB) ops i a w m ok c S'):=by
 have yes:Region.wanted o (yielded ops a.tmps)=true->(opP X.E q o f).post S (λx S' =>match x with|none=>JM X (CB*q) (CB*q+CB) ops i a w m ok S'|some c=>c≠0/\Zz X (CB*q) (CB*q+CB) ops i a w m ok c S'):=λhw=>by
  refine uI ?_ (b6C H R hp);intro x S' h;cases x with
  |none=>
   intro next Q hn
   unfold wpOp;simp only[hi,hw,if_true];exact .inl (h next Q hn)
  |some c=>refine⟨h.1,λnext Q hn=>?_⟩;unfold wpOp;simp only[hi,hw,if_true];exact .inl (h.2 next Q hn)
 have no:Region.wanted o (yielded ops a.tmps)=false->((dX X.E o.dst .un).bind λ_=>(.ret none:Cmd c5E)).post S (λx S' =>match x with|none=>JM X (CB*q) (CB*q+CB) ops i a w m ok S'|some c=>c≠0/\Zz X (CB*q) (CB*q+CB) ops i a w m ok c S'):=λhw=>
  zF (uI (λ_ S' h=>h) (OD H R hi hw))
 unfold Hr;cases hg:o.guard with
 |none=>exact yes (by simp[Region.wanted,hg])|some p=>
  obtain⟨j,want⟩:=p;cases hj:ops.toList[j]? with
  |none=>simp only[hj];trivial|some p=>
   simp only[hj];have hj' :ops[j]? =some p:=by simpa using hj
   cases hd:p.dst with
   |none=>trivial|some t=>
    simp only[];refine bV λhlt=>Y7 ?_;have hsl:=R.slot t (FP hlt);have hyd:yielded ops a.tmps j=match a.tmps[t]? with|some (.bool b)=>some b|_=>none:=by unfold yielded;rw[hj'];simp only[iL,hd];rfl
    split<;>try trivial
    .rename_i y hS;rw[hS]at hsl;have hb:a.tmps.getD t Go.undef= .bool y:=hsl;have hy:yielded ops a.tmps j=some y:=by
      rw[hyd,Nu hb (by simp[Go.undef])]
     have hwt:Region.wanted o (yielded ops a.tmps)=(bif want then y else !y):=by unfold Region.wanted;rw[hg];simp only[hy];cases want<;>cases y<;>rfl
     cases hc:(bif want then y else !y)
     .simp only[cond_false];exact no (hwt.trans hc)
     .simp only[cond_true];exact yes (hwt.trans hc)
    .rename_i hS;rw[hS]at hsl;have hb:a.tmps.getD t Go.undef=Go.undef:=hsl;have hwt:Region.wanted o (yielded ops a.tmps)=false:=by
      unfold Region.wanted;rw[hg];simp only[hyd];rw[U1]at hb;cases hx:a.tmps[t]? with
      |none=>rfl|some x=>rw[hx]at hb;simp only[dW]at hb;subst hb;rfl
     exact no hwt
theorem a4M(H:FxOk X)(R:Rel X (CB*q) (CB*q+CB) S m ok a w)(hi:ops[i]? =some o):
  (oz X.E q ops.toList o).post S (λ_ S' =>JM X (CB*q) (CB*q+CB) ops i a w m ok S'):=by
 unfold oz;cases hp:Dc X.E o with
 |none=>exact a8g H R hi|some f=>
  refine zF (uI ?_ (Xl H R hi hp));intro x S' h;cases x with
  |none=>exact h|some c=>trivial
end
end Go.GP
namespace Go.GP
def UD(E:Env)(q:Nat)(all l:List Oper)(S:Nat->Sm)(T:Nat->Tr):Prop:=
 ∀i o,l[i]? =some o->(oz E q all o).eval (S i) ([],[])=some ((),S (i+1),T i)
def Xe(s:Sm)(S:Nat->Sm):Nat->Sm|0=>s|i+1=>S i
def Xf(t:Tr)(T:Nat->Tr):Nat->Tr|0=>t|i+1=>T i
variable {R:Type}{r:R}
theorem IX{t:Nat}{s:St}{K:St->Option R}(h:PT t s K=some r):∃s0,U7 s0=U7 s/\K s0=some r:=by
 unfold PT at h;rw[GG]at h;split at h<;>try (simp at h;done)
 .rename_i y hy;have key:∀b:Bool,y=b->U7 (.kv t (.b b)::s)=U7 s:=λb hb=>by
   subst hb;rw[vS];funext k;by_cases e:k=t
   .subst e;simp[hy]
   .rw[V7 _ _ e]
  cases y
  .exact⟨_,key false rfl,h⟩
  .exact⟨_,key true rfl,h⟩
 .exact⟨s,rfl,h⟩
def TU(n:Nat)(E:Env)(q:Nat)(all l:List Oper)(S:Nat->Sm)(T:Nat->Tr):Prop:=
 ∀i o,i<n->l[i]? =some o->(oz E q all o).eval (S i) ([],[])=some ((),S (i+1),T i)
variable {E:Env}{q:Nat}{all:List Oper}{o:Oper}
theorem a4L(h:Dc E o=none):oz E q all o=Jh E q all o:=by unfold oz;rw[h]
theorem a4N{f:Nat}(h:Dc E o=some f):oz E q all o=(Hr E q all o f).bind b9r:=by unfold oz;rw[h]
def a0s(E:Env)(q:Nat)(all l:List Oper)(P:Int->St->Tr->Trs->Option R)(s:St)(t:Trs)(K:St->Trs->Option R)(r:R):Prop:=
  (∃s' S T,S 0=U7 s/\S l.length=U7 s' /\UD E q all l S T/\K s' (((List.range l.length).map T).reverse++t)=some r)\/
  (∃k o f c s' tr S T,l[k]? =some o/\Dc E o=some f/\S 0=U7 s/\TU k E q all l S T/\(Hr E q all o f).eval (S k) ([],[])=some (some c,U7 s',tr)/\P c s' tr (((List.range k).map T).reverse++t)=some r)
theorem a0s.cons{P:Int->St->Tr->Trs->Option R}{l:List Oper}{s s0 s1:St}{t:Trs}{tr:Tr}{K:St->Trs->Option R}(hs0:U7 s0=U7 s)
  (e:(oz E q all o).eval (U7 s0) ([],[])=some ((),U7 s1,tr)) (h:a0s E q all l P s1 (tr::t) K r):a0s E q all (o::l) P s t K r:=by
 rcases h with⟨s',S,T,h0,h1,h2,h3⟩|⟨k,o',f,c,s',tr',S,T,g1,g2,h0,h2,g3,h3⟩
 .refine .inl ⟨s',Xe (U7 s) S,Xf tr T,rfl,h1,λi o' hi=>?_,?_⟩
  .cases i with
   |zero=>simp at hi;subst hi;show(oz E q all o).eval (U7 s) ([],[])=some ((),S 0,tr);rw[←hs0,e,h0]|succ i=>exact h2 i o' (by simpa using hi)
  .rw[D7,iF,aU,jX,F5,mM];exact h3
 .refine .inr ⟨k+1,o',f,c,s',tr',Xe (U7 s) S,Xf tr T,by simpa using g1,g2,rfl,λi o'' hik hi=>?_,g3,?_⟩
  .cases i with
   |zero=>simp at hi;subst hi;show(oz E q all o).eval (U7 s) ([],[])=some ((),S 0,tr);rw[←hs0,e,h0]|succ i=>exact h2 i o'' l7 (by simpa using hi)
  .rw[iF,aU,jX,F5,mM];exact h3
theorem CO{R:Type}{E:Env}{q:Nat}{all:List Oper}{P:Int->St->Tr->Trs->Option R} :∀(l:List Oper) {s:St} {t:Trs} {K:St->Trs->Option R} {r:R},CY E q all P l s t K=some r->
  a0s E q all l P s t K r
 |[],s,t,K,r,h=> .inl ⟨s,λ_=>U7 s,λ_=>([],[]),rfl,rfl,λi o hi=>by simp at hi,by simpa[CY]using h⟩|o::l,s,t,K,r,h=>by
  have key:∀s0,U7 s0=U7 s->Dc E o=none->(Jh E q all o).runK s0 ([],[]) (λ_ s' tr=>CY E q all P l s' (tr::t) K)=some r->a0s E q all (o::l) P s t K r:=λs0 hs0 hp h=>by obtain⟨x,s1,tr,e,hk⟩:=jI h;exact a0s.cons hs0 (by rw[a4L hp];exact e) (CO l hk)
  have keyP:∀s0 f,U7 s0=U7 s->Dc E o=some f->(Hr E q all o f).runK s0 ([],[]) (λx s' tr=>match x with|none=>CY E q all P l s' (tr::t) K|some c=>P c s' tr t)=some r->a0s E q all (o::l) P s t K r:=λs0 f hs0 hp h=>by
   obtain⟨x,s1,tr,e,hk⟩:=jI h;cases x with
   |none=>refine a0s.cons hs0 ?_ (CO l hk);rw[a4N hp,Bd,e];rfl|some c=>exact .inr ⟨0,o,f,c,s1,tr,λ_=>U7 s,λ_=>([],[]),rfl,hp,rfl,λi o' hi=>by omega,by rw[←hs0];exact e,by simpa using hk⟩
  unfold CY at h;split at h
  .rename_i hp;split at h
   .exact key s rfl hp h
   .obtain⟨s0,e,h⟩:=IX h;exact key s0 e hp h
  .rename_i f hp;split at h
   .exact keyP s f rfl hp h
   .obtain⟨s0,e,h⟩:=IX h;exact keyP s0 f e hp h
theorem qK{α:Type}(T:Nat->α)(n:Nat):((List.range (n+1)).map T).reverse=T n::((List.range n).map T).reverse:=by rw[iw,bC,List.reverse_append];rfl
theorem yj{a b:c5B}(h:OY a b=true):∀k∈a,k∉b:=by
 induction a with
 |nil=>intro k hk;cases hk|cons x a ih=>
  unfold OY at h;cases hm:Cj x b
  .simp only[hm,cond_false]at h;intro k hk hkb;rcases D5.1 hk with rfl|hk
   .have:∀(l:c5B),Cj k l=false->k∉l:=by
     intro l;induction l with
     |nil=>intro _ h;cases h|cons y l ih=>
      intro hm hk;unfold Cj at hm;cases hb:Nat.beq y k
      .simp only[hb,cond_false]at hm;rcases D5.1 hk with rfl|hk
       .simp at hb
       .exact ih hm hk
      .simp[hb]at hm
    exact this b hm hkb
   .exact ih h k hk hkb
  .simp[hm]at h
theorem Wh{k:Nat} :∀{l:c5B},Cj k l=true->k∈l
 |[],h=>by simp[Cj]at h|y::l,h=>by
  unfold Cj at h;cases hb:Nat.beq y k
  .simp only[hb,cond_false]at h;exact U3 _ (Wh h)
  .have:=fJ hb;subst this;simp
def Yg(x y:Tr):Prop:=(∀k∈x.2,k∉y.1/\k∉y.2)/\∀k∈x.1,k∉y.2
theorem SL{b:Bool}{x y:Tr}(h:Wy b x y=true):b=true\/Yg x y:=by
 unfold Wy at h;cases b
 .simp only[cond_false,x9]at h;exact .inr ⟨λk hk=>⟨yj h.1.1 k hk,yj h.1.2 k hk⟩,λk hk=>yj h.2 k hk⟩
 .exact .inl rfl
theorem IK{mask:Nat}{y:Tr}{T:Nat->Tr} :∀n,MI mask y ((List.range n).map T).reverse n=true->∀i,i<n->Nat.testBit mask i=true\/Yg (T i) y
 |0,_,i,hi=>by omega|n+1,h,i,hi=>by
  rw[qK]at h;unfold MI at h;simp only[Nat.add_sub_cancel,x9]at h;by_cases e:i=n
  .subst e;exact SL h.1
  .exact IK n h.2 i l7
theorem KL{M:Nat->Nat}{T:Nat->Tr} :∀n,Oh ((List.range n).map M).reverse ((List.range n).map T).reverse=true->∀i j,i<j->j<n->Nat.testBit (M j) i=true\/Yg (T i) (T j)
 |0,_,i,j,_,hj=>by omega|n+1,h,i,j,hi,hj=>by
  rw[qK,qK]at h;unfold Oh at h;simp only[x9,kX,J6,V4]at h;by_cases e:j=n
  .subst e;exact IK j h.1 i hi
  .exact KL n h.2 i j hi l7
theorem a5y{α:Type}{eq:α->α->Bool}(h:∀a b,eq a b=true->a=b):∀{l m:List α},b2F eq l m=true->l=m
 |[],[],_=>rfl|[],_::_,e=>by cases e|_::_,[],e=>by cases e|a::l,b::m,e=>by simp only[b2F,x9]at e;rw[h _ _ e.1,a5y h e.2]
theorem LW:∀{t:Ty} (a b:t.den),Vq t a b=true->a=b
 | .bool,a,b,e=>a4S e| .int _,a,b,e=>of_decide_eq_true e| .str,a,b,e=>of_decide_eq_true e| .sl t,a,b,e=>a5y (λx y h=>LW x y h) e| .prod p q,a,b,e=>by have e:(Vq p a.1 b.1&&Vq q a.2 b.2)=true:=e;rw[x9]at e;exact jW (LW _ _ e.1) (LW _ _ e.2)| .unit,a,b,e=>rfl| .any _,a,b,e=>rfl| .ent _ _ p q,a,b,e=>by have e:(Vq p a.1 b.1&&Vq q a.2 b.2)=true:=e;rw[x9]at e;exact jW (LW _ _ e.1) (LW _ _ e.2)
theorem a5a{a b:V}{K:Option R}(h:b2j a b K=some r):a=b/\K=some r:=by
 unfold b2j at h;rw[GG,GG]at h;cases a with
 |i k n=>
  cases b with
  |i k' n' =>
   cases hk:decide (k=k')
   .simp[hk]at h
   .have e:=of_decide_eq_true hk;subst e;simp only[hk,cond_true]at h;cases hi:D6 n n'<;>rw[hi]at h
    .cases h
    .have e:=of_decide_eq_true (show decide (n=n')=true from hi);subst e;exact⟨rfl,h⟩
  |_=>cases h
 |sl t xs=>
  cases b with
  |sl u ys=>
   simp only[Ty.castL]at h;by_cases e:u=t
   .subst e;simp only[dif_pos]at h;cases hi:deq (.sl u) xs ys<;>rw[hi]at h
    .cases h
    .rw[LW (t:=.sl u) xs ys hi];exact⟨rfl,h⟩
   .rw[dif_neg e]at h;cases h
  |_=>cases h
 |b x=>
  cases b with
  |b y=>
   cases hi:UV x y<;>simp only[hi,l9]at h
   .cases h
   .have e:x=y:=by simpa[UV]using hi
    subst e;exact⟨rfl,h⟩
  |_=>cases h
 |s x=>
  cases b with
  |s y=>
   cases hi:seq x y<;>simp only[hi,l9]at h
   .cases h
   .have e:x=y:=by simpa[seq]using hi
    subst e;exact⟨rfl,h⟩
  |_=>cases h
 |_=>cases h
theorem Lh:∀{a b:c5B},Fv a b=true->a=b
 |[],[],_=>rfl|[],_::_,h=>by cases h|_::_,[],h=>by cases h|a::l,b::m,h=>by
  unfold Fv at h;cases hb:Nat.beq a b
  .simp[hb]at h
  .simp only[hb,cond_true]at h;rw[fJ hb,Lh h]
def Rp(E:Env)(q:Nat)(all:List Oper)(o:Oper)(tr:Tr)(v:V)(S:Sm):Prop:=
 ∃d S',o.dst=some d/\tr.2=[d]/\(oz E q all o).eval S ([],[])=some ((),S',tr)/\S' d=v
theorem WM{R:Type}{E:Env}{q:Nat}{all:List Oper}{s:St} :∀{p:a6R} {K:Option R} {r:R},Zc E q all s p K=some r->
  (∀x∈p,Rp E q all x.1 x.2.1 x.2.2 (U7 s))/\K=some r
 |[],K,r,h=>⟨λx hx=>by(cases hx),h⟩|(o,tr,v)::p,K,r,h=>by
  unfold Zc at h;obtain⟨x,s2,tr2,e,hk⟩:=jI h;cases hd:o.dst with
  |none=>simp[hd]at hk|some d=>
   simp only[hd]at hk;cases hc:(Fv tr.1 tr2.1&&Fv tr.2 tr2.2&&Fv tr2.2 [d])
   .simp[hc]at hk
   .simp only[hc,cond_true]at hk;simp only[x9]at hc;obtain⟨⟨h1,h2⟩,h3⟩:=hc;have h1:=Lh h1;have h2:=Lh h2;have h3:=Lh h3;have etr:tr=tr2:=jW h1 h2;subst etr;obtain⟨hv,hk⟩:=a5a hk;obtain⟨g1,g2⟩:=WM hk;refine⟨λy hy=>?_,g2⟩;rcases D5.1 hy with rfl|hy
    .exact⟨d,_,hd,h3,e,hv.symm⟩
    .exact g1 y hy
theorem Qi{R:Type}{E:Env}{q:Nat}{all:List Oper} :∀(l:List Oper) {s:St} {t:Trs} {p:a6R} {K:St->Trs->Option R} {r:R},Aw E q all l s t p K=some r->
  ∃s' S T,S 0=U7 s/\S l.length=U7 s' /\UD E q all l S T/\K s' (((List.range l.length).map T).reverse++t)=some r/\
   (∀x∈p,∀j o',l[j]? =some o' ->qj o' =true->Rp E q all x.1 x.2.1 x.2.2 (S (j+1)))/\
   (∀i j o o',i<j->l[i]? =some o->l[j]? =some o' ->ZY E o=true->qj o' =true->∃d,o.dst=some d/\Rp E q all o (T i) (S (i+1) d) (S (j+1)))
 |[],s,t,p,K,r,h=>⟨s,λ_=>U7 s,λ_=>([],[]),rfl,rfl,λi o hi=>by simp at hi,by simpa[Aw]using h,λx _ j o' hj=>by simp at hj,λi j o o' _ hi=>by simp at hi⟩|o::l,s,t,p,K,r,h=>by
  have key:∀s0,U7 s0=U7 s->(oz E q all o).runK s0 ([],[]) (λ_ s' tr=>bif qj o then Zc E q all s' p (Aw E q all l s' (tr::t) p K)else Aw E q all l s' (tr::t) (WG E o s' tr p) K)=some r->
    ∃s' S T,S 0=U7 s/\S (o::l).length=U7 s' /\UD E q all (o::l) S T/\K s' (((List.range (o::l).length).map T).reverse++t)=some r/\
   (∀x∈p,∀j o',(o::l)[j]? =some o' ->qj o' =true->Rp E q all x.1 x.2.1 x.2.2 (S (j+1)))/\
   (∀i j o1 o',i<j->(o::l)[i]? =some o1->(o::l)[j]? =some o' ->ZY E o1=true->qj o' =true->∃d,o1.dst=some d/\Rp E q all o1 (T i) (S (i+1) d) (S (j+1))):=λs0 hs0 h=>by
   obtain⟨x,s1,tr,e,hk⟩:=jI h;have fin:∀p',(∀y∈p,y∈p')->(ZY E o=true->qj o=false->∃d,o.dst=some d/\(o,tr,U7 s1 d)∈p')->(qj o=true->∀y∈p,Rp E q all y.1 y.2.1 y.2.2 (U7 s1))->Aw E q all l s1 (tr::t) p' K=some r->
     ∃s' S T,S 0=U7 s/\S (o::l).length=U7 s' /\UD E q all (o::l) S T/\K s' (((List.range (o::l).length).map T).reverse++t)=some r/\
   (∀x∈p,∀j o',(o::l)[j]? =some o' ->qj o' =true->Rp E q all x.1 x.2.1 x.2.2 (S (j+1)))/\
   (∀i j o1 o',i<j->(o::l)[i]? =some o1->(o::l)[j]? =some o' ->ZY E o1=true->qj o' =true->∃d,o1.dst=some d/\Rp E q all o1 (T i) (S (i+1) d) (S (j+1))):=λp' hp' hex hcall hk=>by
    obtain⟨s',S,T,h0,h1,h2,h3,h4,h5⟩:=Qi l hk;refine⟨s',Xe (U7 s) S,Xf tr T,rfl,h1,λi o' hi=>?_,?_,λy hy j o' hj hc=>?_,λi j o1 o' hij hi hj he hc=>?_⟩
    .cases i with
     |zero=>simp at hi;subst hi;show(oz E q all o).eval (U7 s) ([],[])=some ((),S 0,tr);rw[←hs0,e,h0]|succ i=>exact h2 i o' (by simpa using hi)
    .rw[D7,iF,aU,jX,F5,mM];exact h3
    .cases j with
     |zero=>simp at hj;subst hj;show Rp E q all y.1 y.2.1 y.2.2 (S 0);rw[h0];exact hcall hc y hy|succ j=>exact h4 y (hp' y hy) j o' (by simpa using hj) hc
    .cases j with
     |zero=>omega|succ j=>
      cases i with
      |zero=>
       simp at hi;subst hi;have hnc:qj o=false:=by
        unfold ZY at he;cases hcc:qj o
        .rfl
        .simp[hcc]at he
       obtain⟨d,hd,hm⟩:=hex he hnc;refine⟨d,hd,?_⟩;have:=h4 _ hm j o' (by simpa using hj) hc;show Rp E q all o tr (S 0 d) (S (j+1));rw[h0];exact this
      |succ i=>exact h5 i j o1 o' l7 (by simpa using hi) (by simpa using hj) he hc
   cases hc:qj o
   .simp only[hc,cond_false]at hk;refine fin _ (λy hy=>?_) (λhe _=>?_) (λh=>by rw[hc]at h;cases h) hk
    .unfold WG;cases hx:ZY E o
     .exact hy
     .simp only[cond_true];cases hd:o.dst with
      |none=>exact hy|some d=>exact U3 _ hy
    .cases hd:o.dst with
     |none=>simp[ZY,hd]at he|some d=>exact⟨d,rfl,by simp[WG,he,hd]⟩
   .simp only[hc,cond_true]at hk;obtain⟨g1,g2⟩:=WM hk;exact fin p (λ_ h=>h) (λ_ h=>by rw[hc]at h;cases h) (λ_=>g1) g2
  unfold Aw at h;split at h
  .exact key s rfl h
  .obtain⟨s0,e,h⟩:=IX h;exact key s0 e h
def a0w(ord:Nat->Nat->Prop)(ex:Nat->Nat->Prop)(T:Nat->Tr)(i j:Nat):Prop:=
 ord i j\/((∀k∈(T i).2,k∉(T j).1/\k∉(T j).2)/\((∀k∈(T i).1,k∉(T j).2)\/
  (ex i j/\(∀k∈(T i).2,k∉(T i).1)/\∀m,i<m->m<j->ord m j\/∀k∈(T i).1,k∉(T m).2)))
theorem Wn{mask:Nat}{x:Tr} :∀{l:List (Nat×Tr)},a5Y mask x l=true->∀y∈l,Nat.testBit mask y.1=true\/∀k∈x.1,k∉y.2.2
 |[],_,y,hy=>by cases hy|(m,z)::l,h,y,hy=>by
  unfold a5Y at h;simp only[x9,jM]at h;rcases D5.1 hy with rfl|hy
  .exact h.1.imp id (λh=>yj h)
  .exact Wn h.2 y hy
theorem ND{E:Env}{all:List Oper}{mask:Nat}{y:Tr}{cy:Bool}{T:Nat->Tr}{N:Nat} :∀n (mids:List (Nat×Tr)),(∀m,n<=m->m<N->(m,T m)∈mids)->PG E all mask y cy ((List.range n).map T).reverse n mids=true->
  ∀i,i<n->Nat.testBit mask i=true\/((∀k∈(T i).2,k∉y.1/\k∉y.2)/\((∀k∈(T i).1,k∉y.2)\/((cy=true/\a8Y E all i=true)/\(∀k∈(T i).2,k∉(T i).1)/\∀m,i<m->m<N->Nat.testBit mask m=true\/∀k∈(T i).1,k∉(T m).2)))
 |0,_,_,_,i,hi=>by omega|n+1,mids,hm,h,i,hi=>by
  rw[qK]at h;unfold PG at h;simp only[Nat.add_sub_cancel,x9]at h;by_cases e:i=n
  .subst e;have h:=h.1;unfold a6f at h;cases hb:Nat.testBit mask i
   .simp only[hb,cond_false,x9]at h;refine .inr ⟨λk hk=>⟨yj h.1.1 k hk,yj h.1.2 k hk⟩,?_⟩;have h2:=h.2;cases hdj:OY (T i).1 y.2
    .simp only[hdj,cond_false,x9]at h2;exact .inr ⟨h2.1.1,yj h2.1.2,λm h3 h4=>Wn h2.2 _ (hm m l7 h4)⟩
    .exact .inl (yj hdj)
   .exact .inl rfl
  .refine ND n _ (λm h1 h2=>?_) h.2 i l7;by_cases e2:m=n
   .subst e2;simp
   .exact U3 _ (hm m l7 h2)
theorem PI{E:Env}{all:List Oper}{M:Nat->Nat}{T:Nat->Tr} :∀n,PH E all ((List.range n).map M).reverse ((List.range n).map T).reverse=true->∀i j,i<j->j<n->
  a0w (λi j=>Nat.testBit (M j) i=true) (λi j=>ZG all j=true/\a8Y E all i=true) T i j
 |0,_,i,j,_,hj=>by omega|n+1,h,i,j,hi,hj=>by
  rw[qK,qK]at h;unfold PH at h;simp only[x9,kX,J6,V4]at h;by_cases e:j=n
  .subst e;exact ND (N:=j) j [] (λm h1 h2=>by omega) h.1 i hi
  .exact PI n h.2 i j hi l7
theorem a9y{P:Nat->Prop} :∀(n:Nat),(∃j,j<n/\P j)->∃j,j<n/\P j/\∀m,j<m->m<n->¬P m
 |0,⟨j,h,_⟩=>by omega|n+1,⟨j,h,hp⟩=>by
  by_cases e:P n
  .exact⟨n,l7,e,λm h1 h2=>by omega⟩
  .have:j≠n:=λe2=>e (e2▸hp);obtain⟨j',h1,h2,h3⟩:=a9y n ⟨j,l7,hp⟩;refine⟨j',l7,h2,λm h4 h5=>?_⟩;by_cases e2:m=n
   .subst e2;exact e
   .exact h3 m h4 l7
variable {n:Nat}
theorem a0x{c:Nat->Cmd Unit}{S:Nat->Sm}{T:Nat->Tr}(hs:∀i,i<n->(c i).eval (S i) ([],[])=some ((),S (i+1),T i)){ord ex:Nat->Nat->Prop}
  (hc:∀i j,i<j->j<n->a0w ord ex T i j) (hex:∀i j,i<j->j<n->ex i j->∃S',(c i).eval (S (j+1)) ([],[])=some ((),S',T i)/\∀k∈(T i).2,S' k=S (i+1) k)
  {D:c5B} {i:Nat} (hi:i<n) (hD:i∉D) (hlt:∀j∈D,j<n) (hp:∀j,ord j i->j∈D) (hdown:∀j∈D,∀k,ord k j->k∈D):
  (c i).eval (SD S T D n) ([],[])=some ((),SD S T (i::D) n,T i):=by
 have before:∀k,(k∈(T i).1\/k∈(T i).2)->∀j,j<i->k∈(T j).2->j∈D:=λk hk j hj hw=>by
  rcases hc j i hj hi with h|⟨h1,_⟩
  .exact hp j h
  .rcases hk with hk|hk
   .exact absurd hk (h1 k hw).1
   .exact absurd hk (h1 k hw).2
 have afterW:∀k,k∈(T i).2->∀j,i<j->j<n->k∈(T j).2->j∉D:=λk hk j hj hjn hw hjD=>by
  rcases hc i j hj hjn with h|⟨h1,h2⟩
  .exact hD (hdown j hjD i h)
  .exact(h1 k hk).2 hw
 have fin:∀S0 S1:Sm,(c i).eval S0 ([],[])=some ((),S1,T i)->(∀k∈(T i).2,S1 k=S (i+1) k)->(∀k∈(T i).1,SD S T D n k=S0 k)->(c i).eval (SD S T D n) ([],[])=some ((),SD S T (i::D) n,T i):=λS0 S1 he hv hr=>by
  obtain⟨T',h1,_,h3,h4⟩:=tV he (SD S T D n) hr;rw[h1];have:T' =SD S T (i::D) n:=by
   funext k;by_cases hk:k∈(T i).2
   .rw[h4 k hk A7,hv k hk];rw[OQ (i::D) k (i+1) n l7 (λj h1 h2 hw=>by
     simp only[D5,not_or];exact⟨l7,afterW k hk j l7 h2 hw⟩)]
    simp[SD,hk]
   .rw[h3 k hk,a5g D i k hk]
  rw[this]
 by_cases hx:∃j,j<n/\(i<j/\j∈D/\∃k∈(T i).1,k∈(T j).2)
 .obtain⟨j,hjn,⟨hij,hjD,k0,hk0,hk1⟩,hmax⟩:=a9y n hx;rcases hc i j hij hjn with h|⟨_,h2⟩
  .exact absurd (hdown j hjD i h) hD
  .rcases h2 with h2|⟨h3,h4,h5⟩
   .exact absurd hk1 (h2 k0 hk0)
   .obtain⟨S',he,hv⟩:=hex i j hij hjn h3;refine fin (S (j+1)) S' he hv λk hk=>?_;rw[OQ D k (j+1) n l7 (λm g1 g2 hw hmD=>hmax m l7 g2 ⟨l7,hmD,k,hk,hw⟩)];refine Dw hs D k (j+1) l7 λm hm hw=>?_;rcases Nat.lt_trichotomy m i with g|g|g
    .exact before k (.inl hk) m g hw
    .subst g;exact absurd hk (h4 k hw)
    .by_cases e:m=j
     .subst e;exact hjD
     .rcases h5 m g l7 with g2|g2
      .exact hdown j hjD m g2
      .exact absurd hw (g2 k hk)
 .refine fin (S i) (S (i+1)) (hs i hi) (λ_ _=>rfl) λk hk=>?_;rw[OQ D k i n l7 (λj h1 h2 hw hjD=>by
   by_cases e:j=i
   .subst e;exact hD hjD
   .exact hx ⟨j,h2,l7,hjD,k,hk,hw⟩)]
  exact Dw hs D k i l7 (before k (.inl hk))
def qH(e:Edge):Prop:=match e.ground with| .textOnly _=>False| .gcOnly _=>False|_=>True
theorem qH.binds{e:Edge}(h:qH e)(md:Region.Mode):Region.binds md e=true:=by unfold qH at h;unfold Region.binds;split<;>simp_all
theorem Yo{e:Edge}(h:Region.binds .any e=true):qH e:=by unfold Region.binds at h;unfold qH;split<;>simp_all
theorem FZ{M:Nat->Nat}{n k:Nat}(hk:k<n):(((List.range n).map M).reverse).getD (n -1 -k) 0=M k:=by rw[NZ,jO F8];simp only[J6,V4,W9];rw[show n -1 -(n -1 -k)=k by omega];simp[hk]
theorem NS{M:Nat->Nat}{n:Nat} :∀(es:List Edge) {m m' :Nat},Np ((List.range n).map M).reverse n es m=some m' ->
  (∀e∈es,qH e->e.on<n)/\∀j,Nat.testBit m' j=true->Nat.testBit m j=true\/∃e∈es,qH e/\(j=e.on\/Nat.testBit (M e.on) j=true)
 |[],m,m',h=>by simp[Np]at h;subst h;exact⟨λ_ h=>absurd h A7,λj hj=> .inl hj⟩|e::es,m,m',h=>by
  have plain:(bif Nat.blt e.on n then Np ((List.range n).map M).reverse n es (m ||| 2^e.on ||| (((List.range n).map M).reverse).getD (n -1 -e.on) 0)else none)=some m' ->qH e->
    (∀e' ∈e::es,qH e' ->e'.on<n)/\∀j,Nat.testBit m' j=true->Nat.testBit m j=true\/∃e' ∈e::es,qH e' /\(j=e'.on\/Nat.testBit (M e'.on) j=true):=λh hp=>by
   cases hb:Nat.blt e.on n
   .simp[hb]at h
   .simp only[hb,cond_true]at h;have hlt:=FP hb;rw[FZ hlt]at h;obtain⟨h1,h2⟩:=NS es h;refine⟨λe' he' hp' =>?_,λj hj=>?_⟩
    .rcases D5.1 he' with rfl|he'
     .exact hlt
     .exact h1 e' he' hp'
    .rcases h2 j hj with h3|⟨e',he',hp',h3⟩
     .rw[ql,ql,jM,jM]at h3;rcases h3 with(h3|h3)|h3
      .exact .inl h3
      .rw[lg]at h3;exact .inr ⟨e,A7,hp,.inl (of_decide_eq_true h3).symm⟩
      .exact .inr ⟨e,A7,hp,.inr h3⟩
     .exact .inr ⟨e',by simp[he'],hp',h3⟩
  have skip:Np ((List.range n).map M).reverse n es m=some m' ->¬qH e->
    (∀e' ∈e::es,qH e' ->e'.on<n)/\∀j,Nat.testBit m' j=true->Nat.testBit m j=true\/∃e' ∈e::es,qH e' /\(j=e'.on\/Nat.testBit (M e'.on) j=true):=λh hp=>by
   obtain⟨h1,h2⟩:=NS es h;refine⟨λe' he' hp' =>?_,λj hj=>?_⟩
   .rcases D5.1 he' with rfl|he'
    .exact absurd hp' hp
    .exact h1 e' he' hp'
   .rcases h2 j hj with h3|⟨e',he',hp',h3⟩
    .exact .inl h3
    .exact .inr ⟨e',by simp[he'],hp',h3⟩
  unfold Np at h;cases hg:e.ground<;>simp only[hg]at h
  case textOnly=>exact skip h (by simp[qH,hg])
  case gcOnly=>exact skip h (by simp[qH,hg])
  all_goals exact plain h (by simp[qH,hg])
theorem Hg:∀(l:List Oper) {n:Nat} {M:Nat->Nat} {ms:c5B},TQ l n ((List.range n).map M).reverse=some ms->
  ∃M' :Nat->Nat,ms=((List.range (n+l.length)).map M').reverse/\(∀k,k<n->M' k=M k)/\
   ∀i o,l[i]? =some o->(∀e∈o.after.toList,qH e->e.on<n+i)/\∀j,Nat.testBit (M' (n+i)) j=true->∃e∈o.after.toList,qH e/\(j=e.on\/Nat.testBit (M' e.on) j=true)
 |[],n,M,ms,h=>by simp only[TQ,F7]at h;subst h;exact⟨M,rfl,λ_ _=>rfl,λi o hi=>by simp at hi⟩|o::l,n,M,ms,h=>by
  unfold TQ at h;cases he:Np ((List.range n).map M).reverse n o.after.toList 0 with
  |none=>simp[he]at h|some m=>
   simp only[he]at h;obtain⟨h1,h2⟩:=NS _ he;have hM:m::((List.range n).map M).reverse=((List.range (n+1)).map (λk=>if k=n then m else M k)).reverse:=by rw[qK];simp only[if_true];congr 2;apply iE;intro k hk;rw[if_neg];have:=aV.1 hk;omega
   rw[hM]at h;obtain⟨M',e1,e2,e3⟩:=Hg l h;have hMn:M' n=m:=by rw[e2 n l7];simp
   have hMk:∀k,k<n->M' k=M k:=λk hk=>by rw[e2 k l7,if_neg l7]
   refine⟨M',by rw[e1];congr 3;simp;omega,hMk,λi o' hi=>?_⟩;cases i with
   |zero=>
    simp at hi;subst hi;refine⟨h1,λj hj=>?_⟩;rw[aX,hMn]at hj;rcases h2 j hj with h3|⟨e,hem,hp,h3⟩
    .simp at h3
    .exact⟨e,hem,hp,by rwa[hMk _ (h1 e hem hp)]⟩
   |succ i=>have:=e3 i o' (by simpa using hi);rwa[show n+1+i=n+(i+1) by omega]at this
theorem Pz:∀(n:Nat) {D:c5B},D.Nodup->(∀x∈D,x<n)->D.length<=n
 |0,D,_,h=>by
  cases D with
  |nil=>simp|cons x D=>have:=h x A7;omega
 |n+1,D,hD,h=>by
  by_cases hn:n∈D
  .have h1:=Pz n (D:=D.erase n) (hD.erase n) (λx hx=>by
    have:=(hD.mem_erase_iff).1 hx;have:=h x this.2;omega)
   rw[List.length_erase_of_mem hn]at h1;omega
  .have h1:=Pz n hD (λx hx=>by
    have:=h x hx;have:x≠n:=λe=>hn (e▸hx);omega)
   omega
theorem a7C{D:c5B}(hD:D.Nodup)(h:∀x∈D,x<n)(hl:n<=D.length):∀i,i<n->i∈D:=λi hi=>by
 refine nX λhn=>?_;have:=Pz n (D:=i::D) (X3.2 ⟨hn,hD⟩) (λx hx=>by
  rcases D5.1 hx with rfl|hx
  .exact hi
  .exact h x hx)
 simp at this;omega
def AZ(md:Region.Mode)(ops:Array Oper):Prop:=∃rk:Nat->Nat,∀i o,ops[i]? =some o->∀e∈o.after.toList,Region.binds md e=true->e.on<ops.size/\rk e.on<rk i
theorem SX:∀{es:List Edge},Rh es=true->∀e∈es,qH e
 |[],_,e,he=>by cases he|e::es,h,e',he' =>by
  unfold Rh at h;have hp:qH e:=by cases hg:e.ground<;>simp[hg]at h<;>simp[qH,hg]
  have hr:Rh es=true:=by cases hg:e.ground<;>simp[hg]at h<;>exact h
  rcases D5.1 he' with rfl|he'
  .exact hp
  .exact SX hr e' he'
theorem Gi:∀{l:List Oper},Ak l=true->∀o∈l,∀e∈o.after.toList,qH e
 |[],_,o,ho=>by cases ho|o::l,h,o',ho' =>by
  unfold Ak at h;cases hp:Rh o.after.toList
  .simp[hp]at h
  .simp only[hp,cond_true]at h;rcases D5.1 ho' with rfl|ho'
   .exact SX hp
   .exact Gi h o' ho'
theorem SY{md:Region.Mode}{done:c5B} :∀{es:List Edge},Om md done es=true->∀e∈es,Region.binds md e=true->e.on∈done
 |[],_,e,he,_=>by cases he|e::es,h,e',he',hb=>by
  unfold Om at h;cases hc:(!Region.binds md e || Cj e.on done)
  .simp[hc]at h
  .simp only[hc,cond_true]at h;rcases D5.1 he' with rfl|he'
   .rw[hb]at hc;simp at hc;exact Wh hc
   .exact SY h e' he' hb
theorem Jr{md:Region.Mode}{done:c5B} :∀{l:List Oper} {n i:Nat},xK md done l n=some i->∃o,l[i -n]? =some o/\n<=i/\i<n+l.length/\Om md done o.after.toList=true
 |[],n,i,h=>by simp[xK]at h|o::l,n,i,h=>by
  unfold xK at h;have rec' :xK md done l (n+1)=some i->∃o',(o::l)[i -n]? =some o' /\n<=i/\i<n+(o::l).length/\Om md done o'.after.toList=true:=λh=>by obtain⟨o',h1,h2,h3,h4⟩:=Jr h;refine⟨o',?_,l7,by simp;omega,h4⟩;rw[show i -n=(i -(n+1))+1 by omega];simpa using h1
  cases hm:Cj n done
  .simp only[hm,cond_false]at h;cases hr:Om md done o.after.toList
   .simp only[hr,cond_false]at h;exact rec' h
   .simp only[hr,cond_true,F7]at h;subst h;exact⟨o,A7,A8 _,A7,hr⟩
  .simp only[hm,cond_true]at h;exact rec' h
theorem UL:∀{n:Nat} {d:c5B},a5h n d=true->∀i,i<n->i∈d
 |0,d,_,i,hi=>by omega|n+1,d,h,i,hi=>by
  unfold a5h at h;simp only[x9]at h;by_cases e:i=n
  .subst e;exact Wh h.1
  .exact UL h.2 i l7
theorem zJ{md:Region.Mode}{ops:Array Oper} :∀(k:Nat) {done:c5B} {rk:Nat->Nat},Xq md ops.toList k done=true->
  (∀x∈done,rk x<done.length)->(∀i∈done,∀o,ops[i]? =some o->∀e∈o.after.toList,Region.binds md e=true->e.on∈done/\e.on<ops.size/\rk e.on<rk i)->(∀x∈done,x<ops.size)->AZ md ops
 |0,done,rk,h,h1,h2,h3=>by have hall:=UL h;simp only[J5]at hall;exact⟨rk,λi o hi e he hb=>(h2 i (hall i (G7.1 hi).1) o hi e he hb).2⟩|k+1,done,rk,h,h1,h2,h3=>by
  unfold Xq at h;cases hf:xK md done ops.toList 0 with
  |none=>simp[hf]at h|some n=>
   simp only[hf]at h;obtain⟨o,e1,_,e2,e3⟩:=Jr hf;simp only[Nat.sub_zero,I4,fG,J5]at e1 e2;by_cases hn:n∈done
   .refine zJ k (rk:=rk) h (λx hx=>?_) (λi hi o' ho' e he hb=>?_) (λx hx=>?_)
    .rcases D5.1 hx with rfl|hx
     .have:=h1 x hn;simp;omega
     .have:=h1 x hx;simp;omega
    .have hi' :i∈done:=by rcases D5.1 hi with rfl|hi;exact hn;exact hi
     obtain⟨g1,g2,g3⟩:=h2 i hi' o' ho' e he hb;exact⟨by simp[g1],g2,g3⟩
    .rcases D5.1 hx with rfl|hx
     .exact e2
     .exact h3 x hx
   .refine zJ k (rk:=λx=>if x=n then done.length else rk x) h (λx hx=>?_) (λi hi o' ho' e he hb=>?_) (λx hx=>?_)
    .show(if x=n then done.length else rk x)<_;rcases D5.1 hx with rfl|hx
     .simp
     .have:=h1 x hx;rw[if_neg (show ¬x=n from λe=>hn (by rw[←e];exact hx))];simp;omega
    .show _/\_/\(if e.on=n then done.length else rk e.on)<(if i=n then done.length else rk i);rcases D5.1 hi with rfl|hi
     .rw[e1]at ho';cases ho';have hd:=SY e3 e he hb;refine⟨by simp[hd],h3 _ hd,?_⟩;rw[if_neg (show ¬e.on=i from λe' =>hn (by rw[←e'];exact hd)),if_pos rfl];exact h1 _ hd
     .obtain⟨g1,g2,g3⟩:=h2 i hi o' ho' e he hb;refine⟨by simp[g1],g2,?_⟩;rw[if_neg (show ¬e.on=n from λe' =>hn (by rw[←e'];exact g1)),if_neg (show ¬i=n from λe' =>hn (by rw[←e'];exact hi))];exact g3
    .rcases D5.1 hx with rfl|hx
     .exact e2
     .exact h3 x hx
end Go.GP
