import Derived.Test.YtbnndcenjpgdpaaGreatDoorV0
import Derived.Laws.MakeOwn
import Derived.ArgAppend
import Derived.MapKept
import Derived.WideKeyRuns
import Derived.Lib.AppendStr
import Derived.Laws.IdiomStrings
import Derived.Orders
import Derived.LoopN
set_option linter.all false
namespace Go.GP
variable {α:Type}{us:List α}{L:List α}{p:Nat}
theorem uU(h:p+us.length<=L.length)(i:Nat):
  (aU p us L)[i]? =if i<p then L[i]? else if i<p+us.length then us[i -p]? else L[i]?:=by
 grind [aU]
theorem vO(h:p+us.length<=L.length):(aU p us L).length=L.length:=by
 grind [aU]
variable {b:Nat}{n:Nat}
theorem a4j(h:p+us.length<=L.length)(hd:b+n<=p\/p+us.length<=b):((aU p us L).drop b).take n=(L.drop b).take n:=by
 apply aS;intro i;rw[kR,kR];split
 .rw[dW,uU h]
  grind
 .rfl
variable {off:Nat}
theorem QX(h:b+n<=L.length)(ho:off+us.length<=n):((aU (b+off) us L).drop b).take n=aU off us ((L.drop b).take n):=by
 have hl:((L.drop b).take n).length=n:=by grind
 apply aS;intro i;rw[kR,uU l9];by_cases hi:i<n
 .rw[dW,uU l9,kR,dW]
  grind
 grind
variable {blk:Nat}
theorem Kt{w:World}{c:Array Value}{T:TypeId}{f:Nat×Nat}(hb:w.heap[blk]? =some (.cells c T f))(L:c5x)(off n:Nat)(h:off+n<=L.length):
  bW (w.setRow blk L.toArray).heap blk off n=some ((L.drop off).take n):=by
 rw[jH (setRow_heap w blk c L.toArray T f hb) off n l9]
theorem a8l{a b:Nat}(h:a<b):Nat.blt a b=true:=by simp_all
theorem a8k{a b:Nat}(h:¬a<b):Nat.blt a b=false:=by
 cases e:Nat.blt a b
 .rfl
 simp_all [EY]
theorem pF{α:Type} :∀{Os:List (List α)} {i:Nat} {O1 P O2:List α},Os[i]? =some (O1++P++O2)->Os.flatten.Perm ((Os.set i (O1++O2)).flatten++P)
 |[],i,_,_,_,h=>by grind|A::Os,0,O1,P,O2,h=>by
  grind [List.Perm.append_left,List.perm_append_comm]
 |A::Os,i+1,O1,P,O2,h=>by simp_all [wR,pF]
variable {Op:c5y}{idx:Nat}{Q:α->Sm->Prop}{t:TypeId}{md:M}{xs:List md.den}{K:Cmd α}{bx:Nat}{u:Value}{i:Nat}{k:Option Nat}{sz:Nat}{q:Nat}{x:Operand}
section
variable {X:Fx} {cl ch:Nat} {S:Sm} {m:Mp} {ok:Nat->Ty->Prop} {a:Act} {w:World} {o:Oper}
theorem b0o{h h' :Array Obj}{ok:Nat->Ty->Prop}{m:Mp}(k:∀b t,ok b t->h'[b]? =h[b]?){cs:List V}{vs:c5x}(hr:fU ⟨h,ok,m⟩ cs vs):fU ⟨h',ok,m⟩ cs vs:=
 Bo (C:=⟨h,ok,m⟩) (D:=⟨h',ok,m⟩) ⟨λ_ _ h=>h,k,λ_ _ h=>h⟩ hr
theorem HY{α:Type}{Q:α->Sm->Prop}{S:Sm}{h:Array Obj}{ok:Nat->Ty->Prop} :∀(md:M) (off:Nat) {x:md.den} {es:c5x} {O:c5y} {K:V->Cmd α} (hr:lS h ok md none x es O)
  (hK:∀v l ks u O1 Op O2,O=O1++Op++O2->lS h ok md (some off) x es (O1++O2)->es[off]? =some u->l.view none u->
   (∀mp n,AY ⟨h,ok,nJ mp n l ks⟩ n v/\N8 (nJ mp n l ks) n v=Op/\nJ mp n l ks n=some l)->v≠.undef->(K v).post S Q),
  (RX md off x K .fail).post S Q
 | .own t,off,x,es,O,K,hr,hK=>by unfold RX;refine aX λhb=>?_;have:=fZ hb;subst this;obtain⟨l,v,rfl,hv,ha,rfl⟩:=xX.1 hr;refine hK _ l [] v [] l.blks [] x8 ⟨v,rfl,kW hv,rfl⟩ rfl hv (λmp n=>⟨⟨l,x8,Dw ha⟩,?_,x8⟩) x8;cases l<;>first|(simp[N8,Loc.blks];done)|cases ha
 | .owns md,off,x,es,O,K,hr,hK=>by unfold RX;refine aX λhb=>?_;have:=fZ hb;subst this;obtain⟨he,l,v,Os,rfl,hv,ha,rfl⟩:=xG.1 hr;refine hK _ l Os.flatten v [] (l.blks++Os.flatten) [] x8 ⟨v,rfl,kW hv,rfl⟩ rfl hv (λmp n=>⟨⟨he,l,Os,x8,⟨ha,trivial⟩,x8⟩,?_,x8⟩) x8;cases l<;>first|(simp[N8,Loc.blks];done)|cases ha
 | .pair p q,off,x,es,O,K,hr,hK=>by
  unfold RX;obtain⟨c,d,O1,O2,rfl,rfl,h1,h2⟩:=hr;have hc:=aG h1;by_cases hlt:off<p.size
  .have hb:Nat.blt off p.size=true:=a8l hlt;simp only[hb,cond_true];refine HY p off h1 λv l ks u A Op B e1 e2 e3 e4 e5 e6=>?_;refine hK v l ks u A Op (B++O2) (by subst e1;simp) ⟨c,d,A++B,O2,rfl,x8,?_,?_⟩ (by rw[Z7 (by rw[hc];exact hlt)];exact e3) e4 e5 e6
   .simp only[hlt,if_true];exact e2
   .simp only[hlt,if_true];exact h2
  .have hb:Nat.blt off p.size=false:=a8k hlt;simp only[hb,cond_false];refine HY q (off -p.size) h2 λv l ks u A Op B e1 e2 e3 e4 e5 e6=>?_;refine hK v l ks u (O1++A) Op B (by subst e1;simp) ⟨c,d,O1,A++B,rfl,x8,?_,?_⟩ (by rw[F7 l9,hc];exact e3) e4 e5 e6
   .simp only[hlt,if_false];exact h1
   .simp only[hlt,if_false];exact e2
 | .dat _,_,_,_,_,_,_,_=>trivial| .unit,_,_,_,_,_,_,_=>trivial| .box _,_,_,_,_,_,_,_=>trivial| .ownb _,_,_,_,_,_,_,_=>trivial| .cell _,_,_,_,_,_,_,_=>trivial| .fr _,_,_,_,_,_,_,_=>trivial| .mbx ..,_,_,_,_,_,_,_=>trivial| .lp _,_,_,_,_,_,_,_=>trivial| .dv ..,_,_,_,_,_,_,_=>trivial| .ownr ..,_,_,_,_,_,_,_=>trivial| .sit,_,_,_,_,_,_,_=>trivial| .rp _,_,_,_,_,_,_,_=>trivial| .fn _ _,_,_,_,_,_,_,_=>trivial| .ifc _ _,_,_,_,_,_,_,_=>trivial
def PY(h:Array Obj)(ok:Nat->Ty->Prop)(v:V)(u:Value)(Op:c5y):Prop:=
 (v= .nl/\u= .slice none 0 0/\Op=[])\/(∃t ys l,v= .barr t ys/\l.view none u/\arrOk ⟨h,ok,nom⟩ t ys l/\Op=l.blks)\/
 (∃md ys l Os,v= .barrs md ys none/\md.el=true/\l.view none u/\uB h md.size (λ_ x es O=>lS h ok md none x es O) ys Os l/\Op=l.blks++Os.flatten)
theorem PY.one{h:Array Obj}{v:V}(k:PY h ok v u Op):u.oneCell' =true:=by
 rcases k with⟨_,rfl,_⟩|⟨_,_,l,_,hv,_⟩|⟨_,_,l,_,_,_,hv,_⟩
 .rfl
 all_goals grind [kW]
theorem Gf{α:Type}{Q:α->Sm->Prop}{S:Sm}{h:Array Obj}{ok:Nat->Ty->Prop}{v:V}{u:Value}{Op:c5y}(hp:PY h ok v u Op):∀(md:M) (off:Nat) {ho:Option Nat} {x:md.den} {es:c5x} {O:c5y} {K:md.den->Cmd α}
  (hr:lS h ok md ho x es O) (hh:ho=none\/ho=some off) (hel:md.el=true)
  (hK:∀y O1 Old O2,O=O1++Old++O2->lS h ok md none y (es.set off u) (O1++Op++O2)->off<es.length->(K y).post S Q),
  (Vr md off v x K .fail).post S Q
 | .own t,off,ho,x,es,O,K,hr,hh,hel,hK=>by
  unfold Vr;refine aX λhb=>?_;have:=fZ hb;subst this;obtain⟨v0,rfl,_,_⟩:=hr;rcases hp with⟨rfl,rfl,rfl⟩|⟨t',ys,l,rfl,hv,ha,rfl⟩|⟨md',ys,l,Os,rfl,_,hv,ha,rfl⟩
  .have ht:t.isEnt=false:=by simpa[M.el]using hel
   simp only[ht,cond_false];exact hK [] [] O [] x8 ⟨_,rfl,rfl,.nil,rfl,⟨rfl,ht⟩,rfl⟩ x8
  .simp only;refine eH λe=>?_;subst e;exact hK _ [] O [] x8 ⟨u,rfl,kW hv,l,hv,ha,x8⟩ x8
  .trivial
 | .owns md,off,ho,x,es,O,K,hr,hh,hel,hK=>by
  unfold Vr;refine aX λhb=>?_;have:=fZ hb;subst this;obtain⟨v0,rfl,_,_⟩:=hr;rcases hp with⟨rfl,rfl,rfl⟩|⟨t',ys,l,rfl,hv,ha,rfl⟩|⟨md',ys,l,Os,rfl,he,hv,ha,rfl⟩
  .exact hK [] [] O [] x8 ⟨_,rfl,rfl,by simpa[M.el]using hel,.nil,[],rfl,⟨rfl,rfl⟩,rfl⟩ x8
  .trivial
  .simp only;refine GL λe=>?_;subst e;exact hK _ [] O [] x8 ⟨u,rfl,kW hv,he,l,Os,hv,ha,x8⟩ x8
 | .pair p q,off,ho,x,es,O,K,hr,hh,hel,hK=>by
  unfold Vr;obtain⟨c,d,O1,O2,rfl,rfl,h1,h2⟩:=hr;have hc:=aG h1;have hel' :p.el=true/\q.el=true:=by simpa[M.el]using hel
  by_cases hlt:off<p.size
  .have hb:Nat.blt off p.size=true:=a8l hlt;simp only[hb,cond_true];have h2' :lS h ok q none x.2 d O2:=by
    rcases hh with rfl|rfl
    .exact h2
    .simpa only[hlt,if_true]using h2
   refine Gf hp p off h1 (by rcases hh with rfl|rfl<;>first|exact .inl rfl|(right;simp only[hlt,if_true])) hel'.1 λy A Old B e1 e2 e3=>?_;refine hK _ A Old (B++O2) (by subst e1;simp) ⟨c.set off u,d,A++Op++B,O2,?_,x8,e2,h2'⟩ H7;rw[List.set_append_left _ _ l9]
  .have hb:Nat.blt off p.size=false:=a8k hlt;simp only[hb,cond_false];have h1' :lS h ok p none x.1 c O1:=by
    rcases hh with rfl|rfl
    .exact h1
    .simpa only[hlt,if_false]using h1
   refine Gf hp q (off -p.size) h2 (by rcases hh with rfl|rfl<;>first|exact .inl rfl|(right;simp only[hlt,if_false])) hel'.2 λy A Old B e1 e2 e3=>?_;refine hK _ (O1++A) Old B (by subst e1;simp) ⟨c,d.set (off -p.size) u,O1,A++Op++B,?_,x8,h1',e2⟩ H7;rw[List.set_append_right _ _ l9,hc]
 | .dat _,_,_,_,_,_,_,_,_,_,_=>trivial| .unit,_,_,_,_,_,_,_,_,_,_=>trivial| .box _,_,_,_,_,_,_,_,_,_,_=>trivial| .ownb _,_,_,_,_,_,_,_,_,_,_=>trivial| .cell _,_,_,_,_,_,_,_,_,_,_=>trivial| .fr _,_,_,_,_,_,_,_,_,_,_=>trivial| .mbx ..,_,_,_,_,_,_,_,_,_,_=>trivial| .lp _,_,_,_,_,_,_,_,_,_,_=>trivial| .dv ..,_,_,_,_,_,_,_,_,_,_=>trivial| .ownr ..,_,_,_,_,_,_,_,_,_,_=>trivial| .sit,_,_,_,_,_,_,_,_,_,_=>trivial| .rp _,_,_,_,_,_,_,_,_,_,_=>trivial| .fn _ _,_,_,_,_,_,_,_,_,_,_=>trivial| .ifc _ _,_,_,_,_,_,_,_,_,_,_=>trivial
theorem ET{α:Type}{Q:α->Sm->Prop}{C:Cx}{ln:Ty->Bool} :∀(t:Ty) {cs:List V} {K:t.den->List V->Cmd α} {S:Sm} {vs:c5x} (hf:t.flat=true) (hL:fU C cs vs)
  (hK:∀x r us us',vs=us++us' ->(∀h ok,kZ h ok t x us)->fU C r us' ->(K x r).post S Q),(mD ln t cs K).post S Q
 | .bool,cs,K,S,vs,hf,hL,hK=>by
  unfold mD;split
  .obtain⟨v,r,rfl,h1,_,h3⟩:=hL;exact hK _ _ [v] r rfl (λ_ _=>by simp_all [rP,kZ]) h3
  .trivial
 | .int k,cs,K,S,vs,hf,hL,hK=>by
  unfold mD;split
  .obtain⟨v,r,rfl,h1,_,h3⟩:=hL;refine U5 λe=>?_;have e:=of_decide_eq_true e;exact hK _ _ [v] r rfl (λ_ _=>by simp_all [rP,kZ]) h3
  .trivial
 | .str,cs,K,S,vs,hf,hL,hK=>by
  unfold mD;split
  .obtain⟨v,r,rfl,h1,_,h3⟩:=hL;exact hK _ _ [v] r rfl (λ_ _=>by simp_all [rP,kZ]) h3
  .trivial
 | .unit,cs,K,S,vs,hf,hL,hK=>by exact hK _ _ [] vs rfl (λ_ _=>rfl) hL
 | .prod p q,cs,K,S,vs,hf,hL,hK=>by simp[Ty.flat]at hf;refine ET p hf.1 hL λx r us us' e1 h1 l1=>?_;refine ET q hf.2 l1 λy r' vs2 vs2' e2 h2 l2=>?_;subst e1;subst e2;exact hK _ _ (us++vs2) vs2' x8 (λh ok=>⟨us,vs2,rfl,h1 h ok,h2 h ok⟩) l2| .sl t,cs,K,S,vs,hf,hL,hK=>by grind [Ty.flat]
theorem SE{us c d:List α}(h:off+us.length<=c.length):aU off us (c++d)=aU off us c++d:=by
 apply aS;intro i;have hs:=vO h;rw[uU (by grind)];by_cases hi:i<c.length
 .grind [aU]
 grind
theorem C_{us c d:List α}(h:(off -c.length)+us.length<=d.length)(h' :c.length<=off):aU off us (c++d)=c++aU (off -c.length) us d:=by
 apply aS;intro i;rw[uU (by grind)];by_cases hi:i<c.length
 .grind
 .rw[F7 l9,F7 l9,uU h]
  grind
theorem Qj{α:Type}{Q:α->Sm->Prop}{h:Array Obj}{ok:Nat->Ty->Prop}{m:Mp} :∀(md:M) (off:Nat) {ho:Option Nat} {x:md.den} {es us:c5x} {vs:List V} {O:c5y} {K:md.den->Cmd α} {S:Sm}
  (hr:lS h ok md ho x es O) (hv:fU ⟨h,ok,m⟩ vs us)
  (hK:∀y,off+us.length<=es.length->lS h ok md ho y (aU off us es) O->(K y).post S Q),(a6D md off vs x K).post S Q
 | .dat t,off,ho,x,es,us,vs,O,K,S,hr,hv,hK=>by
  unfold a6D;refine U5 λhf=>yZ _ _ _ λhle=>?_;rw[nU]at hle;obtain⟨hr,rfl⟩:=hr;have hl:=bV hr;have hlv:=gX hv;have hnew:=zg (off:=off) hv (oG (C:=⟨h,ok,m⟩) hr);refine ET t hf hnew λy q vs1 vs2 e1 h1 l1=>?_;cases q with
  |cons _ _=>trivial|nil=>
  simp only[fU]at l1;subst l1;simp only[E9]at e1;subst e1;exact hK y l9 ⟨h1 _ _,rfl⟩
 | .pair p q,off,ho,x,es,us,vs,O,K,S,hr,hv,hK=>by
  unfold a6D;obtain⟨c,d,O1,O2,rfl,rfl,h1,h2⟩:=hr;have hc:=aG h1;by_cases hlt:off<p.size
  .have hb:Nat.blt off p.size=true:=a8l hlt;simp only[hb,cond_true];refine Qj p off h1 hv λy hle e2=>?_;exact hK _ H7 ⟨_,d,O1,O2,SE hle,rfl,e2,h2⟩
  .have hb:Nat.blt off p.size=false:=a8k hlt;simp only[hb,cond_false];refine Qj q (off -p.size) h2 hv λy hle e2=>?_;refine hK _ H7 ⟨c,_,O1,O2,?_,rfl,h1,e2⟩;rw[C_ l9 l9,hc]
 | .own _,_,_,_,_,_,_,_,_,_,_,_,_=>trivial| .owns _,_,_,_,_,_,_,_,_,_,_,_,_=>trivial| .unit,_,_,_,_,_,_,_,_,_,_,_,_=>trivial| .box _,_,_,_,_,_,_,_,_,_,_,_,_=>trivial| .ownb _,_,_,_,_,_,_,_,_,_,_,_,_=>trivial| .cell _,_,_,_,_,_,_,_,_,_,_,_,_=>trivial| .fr _,_,_,_,_,_,_,_,_,_,_,_,_=>trivial| .mbx ..,_,_,_,_,_,_,_,_,_,_,_,_=>trivial| .lp _,_,_,_,_,_,_,_,_,_,_,_,_=>trivial| .dv ..,_,_,_,_,_,_,_,_,_,_,_,_=>trivial| .ownr ..,_,_,_,_,_,_,_,_,_,_,_,_=>trivial| .sit,_,_,_,_,_,_,_,_,_,_,_,_=>trivial| .rp _,_,_,_,_,_,_,_,_,_,_,_,_=>trivial| .fn _ _,_,_,_,_,_,_,_,_,_,_,_,_=>trivial| .ifc _ _,_,_,_,_,_,_,_,_,_,_,_,_=>trivial
theorem Ya(i:Nat):Xk none i=none:=rfl
theorem He{i o j:Nat}(h:j≠i):Xk (some (i,o,k)) j=none:=by simp[Xk,h]
theorem KU{i o:Nat} :Xk (some (i,o,k)) i=some o:=by simp[Xk]
theorem JQ{C:Cx}{hole:Option (Nat×Nat×Option Nat)}{blk off len cap sz:Nat}{Os:List c5y}(he:md.el=true)(hm:C.m n=some (.arr blk off len cap sz))
  (ha:uB C.h md.size (λi x es O=>lS C.h C.ok md (Xk hole i) x es O) xs Os (.arr blk off len cap sz)) (hk:C.m.kid n=Os.flatten) (hh:Vf C md.size (.arr blk off len cap sz) hole):AY C n (.barrs md xs hole):=⟨he,_,Os,hm,⟨ha,hh⟩,hk⟩
theorem EE{j o2 idx off:Nat}(h:Ve (some (j,o2,k)) idx off=true):j=idx/\o2=off:=by
 simp only[Ve]at h;cases hb:Nat.beq o2 off<;>rw[hb]at h
 .grind
 .exact⟨fZ h,fZ hb⟩
theorem a7e(H:FxOk X){S1:Sm}{m1:Mp}{ok1:Nat->Ty->Prop}{w0:World}(R:Rel X (CB*q) (CB*q+CB) S1 m1 ok1 a w)(hT:Tk X S1 m1 ok1 w Op)
  (hm:∀k l,m k=some l->m1 k=some l) (hok:∀b t,ok b t->ok1 b t) {v:V} {l:Loc} {ks:c5y} {x:Value} (hv:v≠.undef)
  (ho:N8 (nJ m1 (J7 q o.dst) l ks) (J7 q o.dst) v=Op) (hB:AY ⟨w.heap,ok1,nJ m1 (J7 q o.dst) l ks⟩ (J7 q o.dst) v)
  (hx:l.view none x) {bx idx off:Nat} {md:M} {xs:List md.den} (hS:S1 (U4+bx)= .barrs md xs (some (idx,off,none))) {blk o' len cap sz:Nat} (hmb:m1 bx=some (.arr blk o' len cap sz))
  (hc:bW w.heap blk (o' +idx*md.size+off) 1=some [x]) (hsz:sz=md.size)
  (run:(execOp a.eval o).run X.P w0= .ok (.value x) w):
  (uP (J7 q o.dst) v (Cmd.set (U4+bx) (.barrs md xs (some (idx,off,some (J7 q o.dst)))) (cu X.E o.dst (.own (J7 q o.dst) none)))).post S1 (λ_ S' =>gV X (CB*q) (CB*q+CB) o a w0 m ok S'):=by
 refine oC λhn=>?_;have key:∀n,n=J7 q o.dst->CB*q<=n->n<CB*q+CB->∃R2:Rel X (CB*q) (CB*q+CB) (upd (upd S1 (U4+n) v) (U4+bx) (.barrs md xs (some (idx,off,some n)))) (nJ m1 n l ks) ok1 a w,∀k l',m k=some l' ->nJ m1 n l ks k=some l' :=by
  rintro n rfl h1 h2;obtain⟨R',_,hm'⟩:=R.adopt (T:=[]) hn h1 hv (by simpa using hT) (λb h=>by simp_all) (by rw[ho];exact hT.nodup) hB;rw[BG l9]at R';have hne:bx≠J7 q o.dst:=λe=>by simp_all
  have hS' :upd S1 (U4+J7 q o.dst) v (U4+bx)= .barrs md xs (some (idx,off,none)):=by simp_all [aW]
  have hb:=R'.box bx;rw[hS']at hb;obtain⟨hel,l0,Os,hm0,⟨ha,_⟩,hk⟩:=hb;have hmb' :=hm' _ _ hmb;rw[hmb']at hm0;cases hm0;refine⟨R'.mod (by rw[hS'];rfl) x8 rfl rfl rfl rfl (λ_ _=>rfl) ⟨hel,_,Os,hmb',⟨?_,?_⟩,hk⟩,λk l' h=>hm' k l' (hm k l' h)⟩
  .exact uo (λ_ _=>rfl) (λi x es O _ hr=>hr) ha
  .exact⟨blk,o',len,cap,x,l,by grind,hc,Y4 _ _ _ _,hx⟩
 cases hd:o.dst with
 |none=>have hin:=uC H (q:=q) none (λt h=>by grind);obtain⟨R2,hm2⟩:=key (J7 q none) (by rw[hd]) hin.1 l9;have:=sV H R2 hm2 hok (v:=.own (J7 q none) none) ⟨l,Y4 _ _ _ _,hx⟩ run;rw[hd]at this;exact this
 |some t=>refine ed (aX λhb' =>?_);have hin:=uC H (q:=q) (some t) (λt' h=>by simp_all [yH]);obtain⟨R2,hm2⟩:=key (J7 q (some t)) (by rw[hd]) hin.1 l9;have:=sV H R2 hm2 hok (v:=.own (J7 q (some t)) none) ⟨l,Y4 _ _ _ _,hx⟩ run;simp_all [cu]
theorem Px{C:Cx}{c:V} :∀{n:Nat} {cs:List V} {vs:c5x},fU C cs vs->(∀u,vs[n]? =some u->rP C c u)->fU C (setCell n c cs) vs
 |0,[],_,h,_=>h|_+1,[],_,h,_=>h|0,_::_,_,⟨v,r,e,h1,h2,h3⟩,hc=>by subst e;exact⟨v,r,rfl,hc v rfl,h2,h3⟩|n+1,_::_,_,⟨v,r,e,h1,h2,h3⟩,hc=>by subst e;exact⟨v,r,rfl,h1,h2,Px h3 (λu hu=>hc u (by simp_all))⟩
theorem a1n{C:Cx}{v:V}{es:c5x}{k n:Nat}{l:Loc}{x:Value}(hv:kU C v u)(hu:u= .agg es.toArray)(hx:es[k]? =some x)(hn:C.m n=some l)(hl:l.view none x):kU C (a3u k n v) u:=by
 cases v<;>try exact hv
 case agg cs=>obtain⟨arr,e,h⟩:=hv;refine⟨arr,e,Px h λu' hu' =>?_⟩;rw[e]at hu;injection hu with hu;subst hu;rw[hx]at hu';cases hu';exact⟨l,hn,hl⟩
theorem Ff{m:M} :∀{n off o:Nat},m.firstOwn off n=some o->off<=o/\o<off+n
 |0,_,_,h=>by cases h|n+1,off,o,h=>by
  unfold M.firstOwn at h;cases hb:m.ownAt off<;>rw[hb]at h
  .have:=Ff (show m.firstOwn (off+1) n=some o from h);omega
  simp_all
theorem b1O{E:Env}{d:Option Nat}(h:tkD E d=true):∃t,d=some t/\RS E t=true:=by cases d<;>simp_all [tkD]
theorem b6B{Z n:Nat}{S1:Sm}{m1:Mp}{ok1:Nat->Ty->Prop}(R:Rel X Z (Z+CB) S1 m1 ok1 a w)(hT:Tk X S1 m1 ok1 w Op)
  (h1:Z<=n) (h2:n<Z+CB) {v:V} {l:Loc} {ks:c5y} {x:Value} (hv:v≠.undef)
  (ho:N8 (nJ m1 n l ks) n v=Op) (hB:AY ⟨w.heap,ok1,nJ m1 n l ks⟩ n v)
  (hx:l.view none x) {bx idx off:Nat} {md:M} {xs:List md.den} (hS:S1 (U4+bx)= .barrs md xs (some (idx,off,none))) {blk o' len cap sz:Nat} (hmb:m1 bx=some (.arr blk o' len cap sz))
  (hc:bW w.heap blk (o' +idx*md.size+off) 1=some [x]) (hsz:sz=md.size)
  (hK:∀S2 m2,Rel X Z (Z+CB) S2 m2 ok1 a w->(∀k l',m1 k=some l' ->m2 k=some l')->m2 n=some l->K.post S2 Q):
  (uP n v (Cmd.set (U4+bx) (.barrs md xs (some (idx,off,some n))) K)).post S1 Q:=by
 refine oC λhn=>ed ?_;obtain⟨R',_,hm'⟩:=R.adopt (T:=[]) hn h1 hv (by simpa using hT) (λb h=>by simp_all) (by rw[ho];exact hT.nodup) hB;rw[BG l9]at R';have hne:bx≠n:=λe=>by simp_all
 have hS' :upd S1 (U4+n) v (U4+bx)= .barrs md xs (some (idx,off,none)):=by simp_all [aW]
 have hb:=R'.box bx;rw[hS']at hb;obtain⟨hel,l0,Os,hm0,⟨ha,_⟩,hk⟩:=hb;have hmb' :=hm' _ _ hmb;rw[hmb']at hm0;cases hm0;refine hK _ _ (R'.mod (by rw[hS'];rfl) x8 rfl rfl rfl rfl (λ_ _=>rfl) ⟨hel,_,Os,hmb',⟨?_,?_⟩,hk⟩) hm' (Y4 _ _ _ _)
 .exact uo (λ_ _=>rfl) (λi x es O _ hr=>hr) ha
 .exact⟨blk,o',len,cap,x,l,by grind,hc,Y4 _ _ _ _,hx⟩
theorem b3b(H:FxOk X)(R:Rel X (CB*q) (CB*q+CB) S m ok a w)(ho:o.op= .load t x):(aQ X.E q o).post S (λ_ S' =>gV X (CB*q) (CB*q+CB) o a w m ok S'):=by
 unfold aQ;simp only[ho];refine Z8 R λp hp=>?_;have plain:(EH X.E t p λv=>cu X.E o.dst v).post S (λ_ S' =>gV X (CB*q) (CB*q+CB) o a w m ok S'):=by refine AQ H R hp λv u ad hv hx hr=>Y5 H R hv ?_;simp[execOp,ho,hx,Instr.loadAt,Instr.sureAddr,hr]
 unfold b4U;split
 .rename_i bx idx off;refine X3 ?_;split
  .rename_i md xs hS;cases hown:md.ownAt off
   .simp only[cond_false];cases htk:tkD X.E o.dst
    .simpa only[cond_false]using plain
    simp only[cond_true];obtain⟨dt,hdt,hok1⟩:=b1O htk;refine jG H λi hi=>?_;split
    .exact plain
    rename_i po hfo;obtain⟨hfo1,hfo2⟩:=Ff hfo;refine U5 λhi1=>bz λe0 he0=>?_;simp only[D5]at hi1;obtain⟨hagg,hfit⟩:=hi1;have hfit:=S9 hfit;have hp' :=hp;obtain⟨blk,o',len,cap,sz,hm,hlt,hx⟩:=hp;obtain⟨hel,l,Os,hm',⟨ha,hho⟩,hk⟩:=R.own_barrs hS;simp only at hm;rw[hm]at hm';cases hm';obtain⟨rfl,rfl,h3,h7,c,T,hh,hs,hxs⟩:=ha;obtain⟨es,O,hO,he,hr⟩:=hxs idx e0 he0;refine HY md po hr λv l2 ks u O1 Op O2 eO hr' hu hv hB hvu=>?_;refine ed ?_;have hOs:Os.flatten.Perm ((Os.set idx (O1++O2)).flatten++Op):=pF (by rw[hO,eO]);have hown0:N8 m bx (S (U4+bx))=blk::Os.flatten:=by simp[N8,hS,hm,hk]
    have hown1:N8 (Ac m bx (Os.set idx (O1++O2)).flatten) bx (.barrs md xs (some (idx,po,none)))=blk::(Os.set idx (O1++O2)).flatten:=by simp[N8,hm]
    have hnd:=R.nd bx;rw[hown0]at hnd;have hperm:(blk::Os.flatten).Perm ((blk::(Os.set idx (O1++O2)).flatten)++Op):=by simpa using hOs.cons blk
    have hnd' :=P5.1 (hperm.nodup_iff.1 hnd);have hB1:AY ⟨w.heap,ok,Ac m bx (Os.set idx (O1++O2)).flatten⟩ bx (.barrs md xs (some (idx,po,none))):=by
     refine JQ (Os:=Os.set idx (O1++O2)) hel hm ⟨rfl,rfl,h3,by grind,c,T,hh,hs,λj z hz=>?_⟩ x8 trivial;by_cases hj:j=idx
     .subst hj;rw[show xs[j]? =some e0 from he0]at hz;simp_all [KU]
     .obtain⟨es2,O',hO2,he2,hr2⟩:=hxs j z hz;refine⟨es2,O',?_,he2,by simp only[He hj];exact hr2⟩<;>grind
    obtain⟨R1,T1⟩:=R.modK (T:=[]) Tk.nil (n:=bx) (v:=.barrs md xs (some (idx,po,none))) (ks:=(Os.set idx (O1++O2)).flatten) (w' :=w) (T' :=Op) x8 (by simp_all)
     (λb hb=> .inl (by grind)) rfl rfl rfl rfl (λ_ _=>rfl) hB1 hnd'.2.1
     (λb hb=>⟨.inl (by grind),λh=>hnd'.2.2 b (by simp_all) b hb rfl⟩)
    obtain⟨hB2,hB3,hB4⟩:=hB (Ac m bx (Os.set idx (O1++O2)).flatten) (J7 q o.dst);have hlt2:=(aJ.1 hu);have hle:po+1<=md.size:=l9;have hc1:=pU he po 1 l9;have h1:(es.drop po).take 1=[u]:=by
     grind [List.drop_eq_getElem_cons]
    rw[h1]at hc1;have hin:=uC H (q:=q) (some dt) (λt h=>by simp_all [yH]);rw[hdt]at hB2 hB3;have e:=pU he off i.size hfit;have hr2:=qh hi w e;rw[hagg]at hr2;rw[hdt];refine b6B R1 T1 hin.1 l9 hvu hB3 hB2 hv x8 hm hc1 rfl λS2 m2 R2 k2 hn2=>?_;have hp2:kU ⟨w.heap,ok,m2⟩ (.ep bx idx off) (a.eval x):=Ij (C:=⟨w.heap,ok,m⟩) (D:=⟨w.heap,ok,m2⟩) ⟨λ_ _ h=>h,λ_ _ _=>rfl,k2⟩ hp';rw[←hdt]at hn2 ⊢;refine AQ H R2 hp2 λv3 u3 ad hv3 hx3 hr3=>?_;have had:ad=⟨blk,o' +idx*md.size+off,none⟩:=by simp_all
    subst had;have hu3:u3= .agg ((es.drop off).take i.size).toArray:=by rw[hr2]at hr3;injection hr3 with e1 e2;exact e1.symm
    refine sV (o:=o) H R2 (m0:=m) (ok0:=ok) k2 (λ_ _ h=>h) (a1n (x:=u) (l:=l2) hv3 hu3 ?_ hn2 hv) ?_
    .rw[jM l9,dW,show off+(po -off)=po by omega];omega
    .simp_all [execOp,Instr.loadAt,Instr.sureAddr]
   simp only[cond_true];refine jG H λi hi=>U5 λhi1=>?_;simp only[D5,fC]at hi1;obtain⟨hsz,hagg⟩:=hi1;have hsz:=fZ hsz;have hp' :=hp;obtain⟨blk,o',len,cap,sz,hm,hlt,hx⟩:=hp;obtain⟨hel,l,Os,hm',⟨ha,hho⟩,hk⟩:=R.own_barrs hS;simp only at hm;rw[hm]at hm';cases hm';cases Ea (match o.dst with|some d=>d|none=>U4) X.E.tk<;>simp only[cond_true,cond_false]
   .refine Bc (T:=[]) (.sl md.ty) R Tk.nil (cs:=[.own bx none]) (vs:=[.slice (some ⟨blk,o',none⟩) len cap]) ⟨_,_,rfl,⟨_,hm,rfl⟩,rfl,rfl⟩ λS1 ok1 _ _ us us' R1 T1 k1 s1 e1 h1 l1=>?_;refine AQ H R1 (Lp k1 hp') λv u ad hv hx hr=>sV H R1 (λ_ _ h=>h) k1 hv ?_<;>simp_all [execOp,Instr.loadAt,Instr.sureAddr]
   .refine bz λe0 he0=>?_;obtain⟨rfl,rfl,h3,h7,c,T,hh,hs,hxs⟩:=ha;obtain⟨es,O,hO,he,hr⟩:=hxs idx e0 he0;refine HY md off hr λv l2 ks u O1 Op O2 eO hr' hu hv hB hvu=>?_;refine ed ?_;have hOs:Os.flatten.Perm ((Os.set idx (O1++O2)).flatten++Op):=pF (by grind);have hown0:N8 m bx (S (U4+bx))=blk::Os.flatten:=by simp_all [N8]
    have hown1:N8 (Ac m bx (Os.set idx (O1++O2)).flatten) bx (.barrs md xs (some (idx,off,none)))=blk::(Os.set idx (O1++O2)).flatten:=by simp[N8,hm]
    have hnd:=R.nd bx;rw[hown0]at hnd;have hperm:(blk::Os.flatten).Perm ((blk::(Os.set idx (O1++O2)).flatten)++Op):=by simp_all
    have hnd' :=P5.1 (hperm.nodup_iff.1 hnd);have hB1:AY ⟨w.heap,ok,Ac m bx (Os.set idx (O1++O2)).flatten⟩ bx (.barrs md xs (some (idx,off,none))):=by
     refine JQ (Os:=Os.set idx (O1++O2)) hel hm ⟨rfl,rfl,h3,by grind,c,T,hh,hs,λj z hz=>?_⟩ x8 trivial;by_cases hj:j=idx
     .subst hj;rw[show xs[j]? =some e0 from he0]at hz;simp_all [KU]
     .obtain⟨es2,O',hO2,he2,hr2⟩:=hxs j z hz;refine⟨es2,O',?_,he2,by simp only[He hj];exact hr2⟩<;>grind
    obtain⟨R1,T1⟩:=R.modK (T:=[]) Tk.nil (n:=bx) (v:=.barrs md xs (some (idx,off,none))) (ks:=(Os.set idx (O1++O2)).flatten) (w' :=w) (T' :=Op) x8 (by simp_all)
     (λb hb=> .inl (by grind)) rfl rfl rfl rfl (λ_ _=>rfl) hB1 hnd'.2.1
     (λb hb=>⟨.inl (by grind),λh=>hnd'.2.2 b (by simp_all) b hb rfl⟩)
    obtain⟨hB2,hB3,hB4⟩:=hB (Ac m bx (Os.set idx (O1++O2)).flatten) (J7 q o.dst);have hlt2:=(aJ.1 hu);have hle:off+1<=md.size:=by grind [aG]
    have e:=pU he off i.size l9;have hr2:=qh hi w e;have h1:(es.drop off).take i.size=[u]:=by
     grind [List.drop_eq_getElem_cons]
    refine a7e (ok:=ok) (m:=m) H R1 T1 (λ_ _ h=>h) (λ_ _ h=>h) hvu hB3 hB2 hv (by rw[Eo]) hm (by rw[←h1,←hsz];exact e) rfl ?_<;>simp_all [execOp,Instr.loadAt,Instr.sureAddr,PV]
  .rename_i md xs i2 o2 n2 hS;cases hown:md.ownAt off
   .simp only[cond_false];cases htk:tkD X.E o.dst
    .simp_all
    simp only[cond_true];refine jG H λi hi=>?_;split
    .omega
    rename_i po hfo;obtain⟨hfo1,hfo2⟩:=Ff hfo;refine U5 λhi1=>⟨λhat=>?_,λ_=>trivial⟩;simp only[D5]at hi1;obtain⟨hagg,hfit⟩:=hi1;have hfit:=S9 hfit;obtain⟨e1,e2⟩:=EE hat
    subst e1;subst e2;have hp' :=hp;obtain⟨blk,o',len,cap,sz,hm,hlt,hx⟩:=hp;obtain⟨hel,l,Os,hm',⟨ha,blk',off',len',cap',u,l',hl,hc,hmn,hvw⟩,hk⟩:=R.own_barrs hS;simp only at hm;rw[hm]at hm';cases hm';cases hl;obtain⟨_,rfl,h3,h7,c,T,hh,hs,hxs⟩:=ha;refine AQ H R hp' λv3 u3 ad hv3 hx3 hr3=>?_;have had:ad=⟨blk,o' +i2*md.size+off,none⟩:=by simp_all
    subst had;have hltx:i2<xs.length:=hlt;obtain⟨es,O,hO,he,hr⟩:=hxs i2 _ (qC hltx);have e:=pU he off i.size hfit;have hr2:=qh hi w e;rw[hagg]at hr2;have hu3:u3= .agg ((es.drop off).take i.size).toArray:=by rw[hr2]at hr3;injection hr3 with e1 e2;exact e1.symm
    refine Y5 H R (a1n (x:=u) (l:=l') hv3 hu3 ?_ hmn hvw) ?_
    .have hes:=lC he;have hc2:=pU he o2 1 l9;rw[hc]at hc2;have:=congrArg (λl=>l[0]?) (fE hc2)
     grind
    simp_all [execOp,Instr.loadAt,Instr.sureAddr]
   simp only[cond_true];refine jG H λi hi=>U5 λhi1=>⟨λhat=>?_,λ_=>trivial⟩;simp only[D5,fC]at hi1;obtain⟨hsz,hagg⟩:=hi1;have hsz:=fZ hsz;obtain⟨e1,e2⟩:=EE hat
   subst e1;subst e2;obtain⟨blk,o',len,cap,sz,hm,hlt,hx⟩:=hp;obtain⟨hel,l,Os,hm',⟨ha,blk',off',len',cap',u,l',hl,hc,hmn,hvw⟩,hk⟩:=R.own_barrs hS;simp only at hm;rw[hm]at hm';cases hm';cases hl;have e:bW w.heap blk (o' +i2*md.size+o2) i.size=some [u]:=by simp_all
   have hr2:=qh hi w e;rw[hagg]at hr2;refine Y5 H R (v:=.own n2 none) (x:=u) ⟨l',hmn,hvw⟩ ?_<;>simp_all [execOp,Instr.loadAt,Instr.sureAddr,PV]
  .omega
 .omega
theorem Ba{S' :Sm}{x y:Operand}{w' :World}{m' :Mp}{ok' :Nat->Ty->Prop}(ho:o.op= .store t x y)(hd:o.dst=none)(run:(Instr.storeAt t (a.eval x) (a.eval y)).run X.P w= .ok () w')
  (R:Rel X cl ch S' m' ok' a w') (hm:∀k l,m k=some l->m' k=some l) (hok:∀b t,ok b t->ok' b t):gV X cl ch o a w m ok S' :=by
 intro next Q hn
 unfold Oper.wp;have e:(execOp a.eval o).run X.P w= .ok .skip w' :=by simp_all [execOp]
 rw[e,Oper.upon_skip,hd];exact hn m' ok' a w' R hm hok
theorem WG{u:α}(h:off<L.length):aU off [u] L=L.set off u:=by
 apply aS;intro i;rw[uU (by grind)]
 grind
theorem Qg(h:u.oneCell' =true):u.cells.toList=[u]:=by cases u<;>simp[Value.oneCell',Value.cells]at*
theorem PI{w:World}{blk o' sz len cap off idx:Nat}{c:Array Value}{T:TypeId}{f:Nat×Nat}(hh:w.heap[blk]? =some (.cells c T f))(hs:o' +cap*sz<=c.size)(hlc:len<=cap)(hlt:idx<len){us es:c5x}
  (he:bW w.heap blk (o' +idx*sz) sz=some es) (hf:off+us.length<=sz):
  o' +idx*sz+off+us.length<=c.size/\(aU (o' +idx*sz+off) us c.toList).length=c.size/\
  bW (w.setRow blk (aU (o' +idx*sz+off) us c.toList).toArray).heap blk (o' +idx*sz) sz=some (aU off us es)/\
  (∀j,j<len->j≠idx->bW (w.setRow blk (aU (o' +idx*sz+off) us c.toList).toArray).heap blk (o' +j*sz) sz=bW w.heap blk (o' +j*sz) sz):=by
 have hcap:(idx+1)*sz<=cap*sz:=F8 _ l9;rw[V4]at hcap;have hfit:o' +idx*sz+off+us.length<=c.size:=l9;have hcl:c.toList.length=c.size:=x8;have hsp:(aU (o' +idx*sz+off) us c.toList).length=c.size:=by simp_all [vO]
 refine⟨hfit,hsp,?_,λj hj hne=>?_⟩
 .rw[Kt hh _ _ _ l9,QX l9 l9];obtain⟨c2,T2,f2,hb2,hn2,rfl⟩:=qw he<;>simp_all
 .have hcap' :(j+1)*sz<=cap*sz:=F8 _ l9;rw[V4]at hcap';rw[Kt hh _ _ _ l9,jH hh _ _ l9,a4j l9];rcases Nat.lt_or_gt_of_ne hne with hlt'|hgt
  .have:(j+1)*sz<=idx*sz:=F8 _ l9
   grind
  .have:(idx+1)*sz<=j*sz:=F8 _ l9
   grind
theorem SG{Q:Unit->Sm->Prop}(R:Rel X cl ch S m ok a w)(hT:Tk X S m ok w Op){i:TI}(hi:TiOk X.P t i)(h1:i.size=1){hole:Option (Nat×Nat×Option Nat)}
  (hS:S (U4+bx)= .barrs md xs hole) {blk o' len cap sz:Nat} (hm:m bx=some (.arr blk o' len cap sz)) {v:V} {u:Value} (hp:PY w.heap ok v u Op)
  (hK:∀S' m' w',Rel X cl ch S' m' ok a w' ->(∀k l,m k=some l->m' k=some l)->(storeVar t ⟨blk,o' +idx*sz+off,none⟩ u).run X.P w= .ok () w' ->Q () S'):
  (D_ bx idx off md xs hole v (.ret ())).post S Q:=by
 unfold D_;refine⟨λhb=>?_,λ_=>trivial⟩;refine bz λe0 he0=>?_;have he0' :xs[idx]? =some e0:=he0;obtain⟨hel,l,Os,hm',⟨ha,hho⟩,hk⟩:=R.own_barrs hS;rw[hm]at hm';cases hm';obtain⟨rfl,rfl,h3,h7,c,T,hh,hs,hxs⟩:=ha;obtain⟨es,O,hO,he,hr⟩:=hxs idx e0 he0';have hho:Xk hole idx=none\/Xk hole idx=some off:=by
  rcases hole with _|⟨j,o2,o3⟩
  .exact .inl rfl
  grind [EE,KU]
 have hho' :∀j,j≠idx->Xk hole j=none:=λj hj=>by
  rcases hole with _|⟨j',o2,o3⟩
  .rfl
  grind [EE,He]
 refine Gf hp md off hr hho hel λy O1 Old O2 eO hr' hoff=>ed ?_;have hlt:idx<xs.length:=(aJ.1 he0').1;have hes:es.length=md.size:=aG hr;have hu1:=hp.one;have huc:=Qg hu1;obtain⟨hfit,hsp,hnew,hold⟩:=PI (us:=[u]) (off:=off) hh hs h3 hlt he (by grind);have run:=xH hi w (off:=o' +idx*md.size+off) hh (.inl rfl) (v:=u) (by grind) (by simp_all) (by simp_all);rw[huc]at run;generalize hw' :w.setRow blk (aU (o' +idx*md.size+off) [u] c.toList).toArray=w' at run hnew hold;have hrow:w'.heap[blk]? =some (.cells (aU (o' +idx*md.size+off) [u] c.toList).toArray T (0,0)):=by subst hw';exact setRow_heap w blk c _ T (0,0) hh
 have hoth:∀b,b≠blk->w'.heap[b]? =w.heap[b]?:=λb hb=>by grind [setRow_other]
 have hsize:w'.heap.size=w.heap.size:=by subst hw';simp
 have hos:w'.os=w.os:=by subst hw';rfl
 have htp:w'.tape=w.tape:=by subst hw';rfl
 have hdrn:w.drawn<=w'.drawn:=by subst hw';simp
 have hout:w'.output=w.output:=by subst hw';rfl
 have hO1:Os.flatten.Perm ((Os.set idx (O1++O2)).flatten++Old):=pF (by grind);have hO2:(Os.set idx (O1++Op++O2)).flatten.Perm ((Os.set idx (O1++O2)).flatten++Op):=by have:=pF (Os:=Os.set idx (O1++Op++O2)) (i:=idx) (O1:=O1) (P:=Op) (O2:=O2) (by simp_all);simp_all
 have hown0:N8 m bx (S (U4+bx))=blk::Os.flatten:=by simp_all [N8]
 have hown1:N8 (Ac m bx (Os.set idx (O1++Op++O2)).flatten) bx (.barrs md (mQ xs idx y) none)=blk::(Os.set idx (O1++Op++O2)).flatten:=by simp[N8,hm]
 have hnd:=R.nd bx;rw[hown0]at hnd;have hnd0:=Y9.1 hnd;have hndA:=P5.1 (hO1.nodup_iff.1 hnd0.2);have hfreeOp:∀b∈Op,b∉blk::Os.flatten:=λb hb h=>(hT.free b hb).2.2.2 bx (by simp_all);have hsubA:∀b∈(Os.set idx (O1++O2)).flatten,b∈Os.flatten:=λb hb=>hO1.mem_iff.2 (U8 _ hb);have hneO:∀b∈Os.flatten,b≠blk:=λb hb e=>hnd0.1 (e▸hb);have hneP:∀b∈Op,b≠blk:=λb hb e=>hfreeOp b hb (by grind);have hkeep:∀b t,ok b t->w'.heap[b]? =w.heap[b]?:=λb t hb=>hoth b (λe=>(R.sep bx blk (by simp_all)).1 t (e▸hb));have hB:AY ⟨w'.heap,ok,Ac m bx (Os.set idx (O1++Op++O2)).flatten⟩ bx (.barrs md (mQ xs idx y) none):=by
  refine JQ (Os:=Os.set idx (O1++Op++O2)) hel hm ⟨rfl,by simp[mQ],h3,by grind [mQ],_,T,hrow,by simp_all,λj z hz=>?_⟩ x8 trivial;unfold mQ at hz;rw[lF]at hz;split at hz
  .rename_i hj;subst hj;cases hz;refine⟨_,O1++Op++O2,by simp_all,hnew,?_⟩;rw[WG l9];refine gZ (λ_ _ h=>h) hkeep (λb hb=>hoth b ?_) hr';rcases F9.1 hb with hb|hb
   .rcases F9.1 hb with hb|hb
    .exact hneO b (X7.2 ⟨O,rD hO,by simp_all⟩)
    simp_all
   .exact hneO b (X7.2 ⟨O,rD hO,by simp_all⟩)
  .rename_i hj;obtain⟨es2,O',hO2',he2,hr2⟩:=hxs j z hz;refine⟨es2,O',by simp_all,by grind,?_⟩;simp only[Ya];rw[hho' j (λe=>hj e.symm)]at hr2;exact gZ (λ_ _ h=>h) hkeep (λb hb=>hoth b (hneO b (X7.2 ⟨O',rD hO2',hb⟩))) hr2
 have hmod:=R.modK hT (n:=bx) (v:=.barrs md (mQ xs idx y) none) (ks:=(Os.set idx (O1++Op++O2)).flatten) (w' :=w') (T' :=[]) x8
  (by rw[hown1];refine Y9.2 ⟨λh=>?_,hO2.nodup_iff.2 (P5.2 ⟨hndA.1,hT.nodup,λx hx z hz e=>?_⟩)⟩<;>grind)
  (λb hb=>by
   grind)
  hos htp hout hsize (λb hb=>hoth b (λe=>hb (by simp_all))) hB dD (λb hb=>by grind) (λ_=>hdrn)
 exact hK _ _ w' hmod.1 (λ_ _ h=>h) run
theorem a1Y{Q:Unit->Sm->Prop}(R:Rel X cl ch S m ok a w)(hT:Tk X S m ok w Op){i:TI}(hi:TiOk X.P t i)(h1:i.size=1){kn:Int}{ko:Nat}
  (hS:S (U4+bx)= .barrp md xs kn ko) (hoff:off=ko) (hidx:idx=kn.toNat) {blk o' len cap sz:Nat} (hm:m bx=some (.arr blk o' len cap sz)) {v:V} {u:Value} (hp:PY w.heap ok v u Op)
  (hK:∀S' m' w',Rel X cl ch S' m' ok a w' ->(∀k l,m k=some l->m' k=some l)->(storeVar t ⟨blk,o' +idx*sz+off,none⟩ u).run X.P w= .ok () w' ->Q () S'):
  (Cmd.opt (jg xs idx) λx=>Vr md off v x (λy=>Cmd.set (U4+bx) (.barrp md (mQ xs idx y) (Vm kn) ko) (.ret ())) .fail).post S Q:=by
 refine bz λe0 he0=>?_;have he0' :xs[idx]? =some e0:=he0;obtain⟨hel,hk0,l,Os,hm',ha,hk⟩:=R.own_barrp hS;rw[hm]at hm';cases hm';obtain⟨rfl,rfl,h3,h7,c,T,hh,hs,hxs⟩:=ha;obtain⟨es,O,hO,he,hr⟩:=hxs idx e0 he0';have hho:vU ko kn.toNat idx=none\/vU ko kn.toNat idx=some off:=.inr (by simp_all [vU]);have hsuc:(Vm kn).toNat=kn.toNat+1:=by grind [Vm]
 have hho1:vU ko (Vm kn).toNat idx=none:=by grind [vU]
 have hho' :∀j,j≠idx->vU ko (Vm kn).toNat j=vU ko kn.toNat j:=λj hj=>by
  grind [vU]
 refine Gf hp md off hr hho hel λy O1 Old O2 eO hr' hoff=>ed ?_;have hlt:idx<xs.length:=(aJ.1 he0').1;have hes:es.length=md.size:=aG hr;have hu1:=hp.one;have huc:=Qg hu1;obtain⟨hfit,hsp,hnew,hold⟩:=PI (us:=[u]) (off:=off) hh hs h3 hlt he (by grind);have run:=xH hi w (off:=o' +idx*md.size+off) hh (.inl rfl) (v:=u) (by grind) (by simp_all) (by simp_all);rw[huc]at run;generalize hw' :w.setRow blk (aU (o' +idx*md.size+off) [u] c.toList).toArray=w' at run hnew hold;have hrow:w'.heap[blk]? =some (.cells (aU (o' +idx*md.size+off) [u] c.toList).toArray T (0,0)):=by subst hw';exact setRow_heap w blk c _ T (0,0) hh
 have hoth:∀b,b≠blk->w'.heap[b]? =w.heap[b]?:=λb hb=>by grind [setRow_other]
 have hsize:w'.heap.size=w.heap.size:=by subst hw';simp
 have hos:w'.os=w.os:=by subst hw';rfl
 have htp:w'.tape=w.tape:=by subst hw';rfl
 have hdrn:w.drawn<=w'.drawn:=by subst hw';simp
 have hout:w'.output=w.output:=by subst hw';rfl
 have hO1:Os.flatten.Perm ((Os.set idx (O1++O2)).flatten++Old):=pF (by grind);have hO2:(Os.set idx (O1++Op++O2)).flatten.Perm ((Os.set idx (O1++O2)).flatten++Op):=by have:=pF (Os:=Os.set idx (O1++Op++O2)) (i:=idx) (O1:=O1) (P:=Op) (O2:=O2) (by simp_all);simp_all
 have hown0:N8 m bx (S (U4+bx))=blk::Os.flatten:=by simp_all [N8]
 have hown1:N8 (Ac m bx (Os.set idx (O1++Op++O2)).flatten) bx (.barrp md (mQ xs idx y) (Vm kn) ko)=blk::(Os.set idx (O1++Op++O2)).flatten:=by simp[N8,hm]
 have hnd:=R.nd bx;rw[hown0]at hnd;have hnd0:=Y9.1 hnd;have hndA:=P5.1 (hO1.nodup_iff.1 hnd0.2);have hfreeOp:∀b∈Op,b∉blk::Os.flatten:=λb hb h=>(hT.free b hb).2.2.2 bx (by simp_all);have hsubA:∀b∈(Os.set idx (O1++O2)).flatten,b∈Os.flatten:=λb hb=>hO1.mem_iff.2 (U8 _ hb);have hneO:∀b∈Os.flatten,b≠blk:=λb hb e=>hnd0.1 (e▸hb);have hneP:∀b∈Op,b≠blk:=λb hb e=>hfreeOp b hb (by grind);have hkeep:∀b t,ok b t->w'.heap[b]? =w.heap[b]?:=λb t hb=>hoth b (λe=>(R.sep bx blk (by simp_all)).1 t (e▸hb));have hB:AY ⟨w'.heap,ok,Ac m bx (Os.set idx (O1++Op++O2)).flatten⟩ bx (.barrp md (mQ xs idx y) (Vm kn) ko):=by
  refine⟨hel,l9,_,Os.set idx (O1++Op++O2),hm,⟨rfl,by simp[mQ],h3,by grind [mQ],_,T,hrow,by simp_all,λj z hz=>?_⟩,x8⟩;unfold mQ at hz;rw[lF]at hz;split at hz
  .rename_i hj;subst hj;cases hz;refine⟨_,O1++Op++O2,by simp_all,hnew,?_⟩;rw[WG l9];show lS w'.heap ok md (vU ko (Vm kn).toNat idx) y _ _;rw[hho1];refine gZ (λ_ _ h=>h) hkeep (λb hb=>hoth b ?_) hr';rcases F9.1 hb with hb|hb
   .rcases F9.1 hb with hb|hb
    .exact hneO b (X7.2 ⟨O,rD hO,by simp_all⟩)
    simp_all
   .exact hneO b (X7.2 ⟨O,rD hO,by simp_all⟩)
  .rename_i hj;obtain⟨es2,O',hO2',he2,hr2⟩:=hxs j z hz;refine⟨es2,O',by simp_all,by grind,?_⟩;show lS w'.heap ok md (vU ko (Vm kn).toNat j) z es2 O';rw[hho' j (λe=>hj e.symm)];exact gZ (λ_ _ h=>h) hkeep (λb hb=>hoth b (hneO b (X7.2 ⟨O',rD hO2',hb⟩))) hr2
 have hmod:=R.modK hT (n:=bx) (v:=.barrp md (mQ xs idx y) (Vm kn) ko) (ks:=(Os.set idx (O1++Op++O2)).flatten) (w' :=w') (T' :=[]) x8
  (by rw[hown1];refine Y9.2 ⟨λh=>?_,hO2.nodup_iff.2 (P5.2 ⟨hndA.1,hT.nodup,λx hx z hz e=>?_⟩)⟩<;>grind)
  (λb hb=>by
   grind)
  hos htp hout hsize (λb hb=>hoth b (λe=>hb (by simp_all))) hB dD (λb hb=>by grind) (λ_=>hdrn)
 exact hK _ _ w' hmod.1 (λ_ _ h=>h) run
theorem b0U{l:List α}{u:α}(h:l[i]? =some u):l.set i u=l:=by apply aS<;>grind
theorem a2R(R:Rel X cl ch S m ok a w){T Op:c5y}(hT:Tk X S m ok w (T++Op)){k0:Option Nat}
  (hS:S (U4+bx)= .barrs md xs (some (idx,off,k0))) {blk o' len cap sz:Nat} (hm:m bx=some (.arr blk o' len cap sz)) {v:V} {u:Value} (hp:PY w.heap ok v u Op)
  (hu:bW w.heap blk (o' +idx*sz+off) 1=some [u])
  (hK:∀S' m',Rel X cl ch S' m' ok a w->Tk X S' m' ok w T->(∀k l,m k=some l->m' k=some l)->K.post S' Q):
  (Cmd.opt (jg xs idx) λx=>Vr md off v x (λy=>Cmd.set (U4+bx) (.barrs md (mQ xs idx y) none) K) .fail).post S Q:=by
 refine bz λe0 he0=>?_;have he0' :xs[idx]? =some e0:=he0;obtain⟨hel,l,Os,hm',⟨ha,hho⟩,hk⟩:=R.own_barrs hS;rw[hm]at hm';cases hm';obtain⟨rfl,rfl,h3,h7,c,T0,hh,hs,hxs⟩:=ha;obtain⟨es,O,hO,he,hr⟩:=hxs idx e0 he0';rw[KU]at hr;refine Gf hp md off hr (.inr rfl) hel λy O1 Old O2 eO hr' hoff=>ed ?_;have hlt:idx<xs.length:=(aJ.1 he0').1;have hes:es.length=md.size:=aG hr;have hnd1:=P5.1 hT.nodup;have hTo:Tk X S m ok w Op:=⟨hnd1.2.1,λb hb=>hT.free b (gy _ hb)⟩;have heu:es[off]? =some u:=by obtain⟨c2,T2,f2,hb2,hn2,e2⟩:=qw he;obtain⟨c3,T3,f3,hb3,hn3,e3⟩:=qw hu<;>grind [List.getElem?_cons_zero]
 rw[b0U heu]at hr';have hO1:Os.flatten.Perm ((Os.set idx (O1++O2)).flatten++Old):=pF (by grind);have hO2:(Os.set idx (O1++Op++O2)).flatten.Perm ((Os.set idx (O1++O2)).flatten++Op):=by have:=pF (Os:=Os.set idx (O1++Op++O2)) (i:=idx) (O1:=O1) (P:=Op) (O2:=O2) (by simp_all);simp_all
 have hown0:N8 m bx (S (U4+bx))=blk::Os.flatten:=by simp_all [N8]
 have hown1:N8 (Ac m bx (Os.set idx (O1++Op++O2)).flatten) bx (.barrs md (mQ xs idx y) none)=blk::(Os.set idx (O1++Op++O2)).flatten:=by simp[N8,hm]
 have hnd:=R.nd bx;rw[hown0]at hnd;have hnd0:=Y9.1 hnd;have hndA:=P5.1 (hO1.nodup_iff.1 hnd0.2);have hfreeOp:∀b∈Op,b∉blk::Os.flatten:=λb hb h=>(hTo.free b hb).2.2.2 bx (by simp_all);have hsubA:∀b∈(Os.set idx (O1++O2)).flatten,b∈Os.flatten:=λb hb=>hO1.mem_iff.2 (U8 _ hb);have hneP:∀b∈Op,b≠blk:=λb hb e=>hfreeOp b hb (by grind);have hB:AY ⟨w.heap,ok,Ac m bx (Os.set idx (O1++Op++O2)).flatten⟩ bx (.barrs md (mQ xs idx y) none):=by refine JQ (Os:=Os.set idx (O1++Op++O2)) hel hm ⟨rfl,by simp[mQ],h3,by simp[h7,mQ],c,T0,hh,hs,λj z hz=>?_⟩ x8 trivial<;>grind [mQ,Ya,He]
 have hmod:=R.modK hT (n:=bx) (v:=.barrs md (mQ xs idx y) none) (ks:=(Os.set idx (O1++Op++O2)).flatten) (w' :=w) (T' :=T) x8
  (by
   grind)
  (λb hb=>by
   grind)
  rfl rfl rfl rfl (λb hb=>rfl) hB hnd1.1 (λb hb=>⟨.inr (U8 _ hb),λh=>by
   rw[hown1]at h;have h1:b∉blk::Os.flatten:=λh' =>(hT.free b (U8 _ hb)).2.2.2 bx (by simp_all)
   grind⟩)
 exact hK _ _ hmod.1 hmod.2 (λ_ _ h=>h)
theorem Rk(R:Rel X cl ch S m ok a w){T:c5y}(hT:Tk X S m ok w T)
  (hK:∀S' m',Rel X cl ch S' m' ok a w->Tk X S' m' ok w T->(∀k l,m k=some l->m' k=some l)->K.post S' Q):(a2D bx K).post S Q:=by
 refine X3 ?_;split
 .rename_i md0 xs0 i0 o0 n hS;refine U5 λharr=>ed (X3 ?_);split<;>try trivial
  rename_i md xs i o n' hS2;have hne:n≠bx:=λe=>by simp_all
  have hS3:S (U4+bx)= .barrs md xs (some (i,o,some n')):=by grind [aW]
  have hn:n' =n:=by simp_all
  subst hn;obtain⟨hel,l,Os,hm',⟨ha,hho⟩,hk⟩:=R.own_barrs hS3;obtain⟨blk,off,len,cap,u,l',rfl,hu,hmn,hvu⟩:=hho;have T1:=Tk.kill R hT n' (λ_ h=>h) (R.nd n');refine a2R (R.kill n') T1 hS2 hm' ?_ hu hK;cases hb2:S (U4+n')<;>rw[hb2]at harr<;>try cases harr
  .rename_i t2 ys;obtain⟨l2,hm2,ha'⟩:=R.own_arr hb2;have e:=fE (hmn.symm.trans hm2);subst e;refine .inr (.inl ⟨t2,ys,l',rfl,hvu,Dw ha',?_⟩);cases l'<;>first|(simp[N8,hm2,Loc.blks];done)|cases ha'
  .rename_i md3 ys hole3;obtain⟨hel3,l2,Os3,hm2,⟨ha',hho3⟩,hk'⟩:=R.own_barrs hb2;have e:=fE (hmn.symm.trans hm2);subst e;rcases hole3 with _|⟨p1,p2,p3⟩
   .refine .inr (.inr ⟨md3,ys,l',Os3,rfl,hel3,hvu,ha',?_⟩);cases l'<;>first|(simp[N8,hm2,Loc.blks,hk'];done)|cases ha'
   .cases harr
 grind
theorem Et{α:Type}{Q:α->Sm->Prop}{K:Cmd α} :∀(cs:List V) {S:Sm} {m:Mp} (R:Rel X cl ch S m ok a w) {T:c5y} (hT:Tk X S m ok w T)
  (hK:∀S' m',Rel X cl ch S' m' ok a w->Tk X S' m' ok w T->(∀k l,m k=some l->m' k=some l)->K.post S' Q),(Qh cs K).post S Q
 |[],S,m,R,T,hT,hK=>hK S m R hT (λ_ _ h=>h)|v::r,S,m,R,T,hT,hK=>by
  unfold Qh;split
  .exact Rk R hT λS1 m1 R1 T1 k1=>Et r R1 T1 λS2 m2 R2 T2 k2=>hK S2 m2 R2 T2 (λk l h=>k2 k l (k1 k l h))
  .exact Et r R hT hK
theorem wL{α:Type}{Q:α->Sm->Prop}{K:Cmd α} :∀(cs:List V) {S:Sm} {m:Mp} (R:Rel X cl ch S m ok a w) {T:c5y} (hT:Tk X S m ok w T)
  (hK:∀S' m',Rel X cl ch S' m' ok a w->Tk X S' m' ok w T->(∀k l,m k=some l->m' k=some l)->K.post S' Q),(GN cs K).post S Q
 |[],S,m,R,T,hT,hK=>hK S m R hT (λ_ _ h=>h)|v::r,S,m,R,T,hT,hK=>by
  unfold GN;split
  .exact Rk R hT λS1 m1 R1 T1 k1=>wL r R1 T1 λS2 m2 R2 T2 k2=>hK S2 m2 R2 T2 (λk l h=>k2 k l (k1 k l h))
  .refine X3 ?_;split
   .exact Et _ R hT λS1 m1 R1 T1 k1=>wL r R1 T1 λS2 m2 R2 T2 k2=>hK S2 m2 R2 T2 (λk l h=>k2 k l (k1 k l h))
   .exact wL r R hT hK
  .exact Et _ R hT λS1 m1 R1 T1 k1=>wL r R1 T1 λS2 m2 R2 T2 k2=>hK S2 m2 R2 T2 (λk l h=>k2 k l (k1 k l h))
  .exact wL r R hT hK
theorem a9H(H:FxOk X)(R:Rel X cl ch S m ok a w){x y:Operand}(ho:o.op= .store t x y):(aQ X.E q o).post S (λ_ S' =>gV X cl ch o a w m ok S'):=by
 unfold aQ;simp only[ho];cases hd:o.dst with
 |some d=>trivial|none=>
 refine Z8 R λp hp=>Z8 R λv hv=>?_;unfold b1G;refine jG H λi hi=>?_;cases p<;>try trivial
 case ptr bx off=>
  obtain⟨blk,hm,hx⟩:=hp;refine X3 ?_;split<;>try trivial
  .rename_i cs hS;obtain⟨blk',arr,T,hm',hh,hl⟩:=R.own_cells hS;simp only at hm hm';rw[hm]at hm';cases hm';refine rq hv λvs hvs=>U5 λhlen=>yZ _ _ _ λhle=>ed ?_;have hlen' :=fZ hlen;have hL:=gX hl;have hL2:=gX hvs;have hsz:(a.eval y).cells.size=i.size:=by simp at hL2;omega
   have hown:N8 m bx (S (U4+bx))=[blk]:=by simp[N8,hS,hm]
   have hfit:off+i.size<=arr.size:=by simp at hL;omega
   have run:=xH hi w hh (.inl rfl) (v:=a.eval y) hsz hfit (JR hvs);refine Ba ho hd (w' :=w.setRow blk (aU off (a.eval y).cells.toList arr.toList).toArray) (by simp[Instr.storeAt,Instr.sureAddr,hx,run]) ?_ (λ_ _ h=>h) (λ_ _ h=>h);refine R.mod (by rw[hown];simp[N8,hm]) x8 rfl rfl rfl x8 (λb hb=>setRow_other w blk b _ (by rw[hown]at hb;simpa using hb)) ?_;refine⟨blk,_,T,hm,setRow_heap w blk arr _ T (0,0) hh,?_⟩;refine b0o (λb t hb=>setRow_other w blk b _ (λe=>(R.sep bx blk (by rw[hown];simp)).1 t (e▸hb))) ?_;simpa using zg hvs hl
  .rename_i tb cs c hS;obtain⟨blk',arr,es,a0,v0,hm',hh,he,hl,hs,hc⟩:=R.own_bsb hS;simp only at hm hm';rw[hm]at hm';cases hm';refine rq hv λvs hvs=>U5 λhlen=>yZ _ _ _ λhle=>ed ?_;have hlen' :=fZ hlen;have hL:=gX hl;have hL2:=gX hvs;have hsz:(a.eval y).cells.size=i.size:=by simp at hL2;omega
   have hlen2:=congrArg List.length he;simp only[P7,A7,A8,F6]at hlen2;have hown:N8 m bx (S (U4+bx))=[blk]:=by simp[N8,hS,hm]
   have hle2:off+(a.eval y).cells.toList.length<=es.length:=by simp;omega
   have run:=xH hi w hh (.inl rfl) (v:=a.eval y) hsz (show off+i.size<=arr.size by omega) (JR hvs);refine Ba ho hd (w' :=w.setRow blk (aU off (a.eval y).cells.toList arr.toList).toArray) (by simp[Instr.storeAt,Instr.sureAddr,hx,run]) ?_ (λ_ _ h=>h) (λ_ _ h=>h);refine R.mod (by rw[hown];simp[N8,hm]) x8 rfl rfl rfl x8 (λb hb=>setRow_other w blk b _ (by rw[hown]at hb;simpa using hb)) ?_;have hh2:∀b t,ok b t->(w.setRow blk (aU off (a.eval y).cells.toList arr.toList).toArray).heap[b]? =w.heap[b]?:=λb t hb=>setRow_other w blk b _ (λe=>(R.sep bx blk (by rw[hown];simp)).1 t (e▸hb));refine⟨blk,_,aU off (a.eval y).cells.toList es,a0,v0,hm,setRow_heap w blk arr _ tb (0,0) hh,by rw[he];exact SE hle2,b0o hh2 (zg hvs hl),by rw[vO hle2];exact hs,TT (C:=⟨w.heap,ok,m⟩) (D:=⟨(w.setRow blk (aU off (a.eval y).cells.toList arr.toList).toArray).heap,ok,m⟩) ⟨λ_ _ h=>h,hh2,λ_ _ h=>h⟩ hc⟩
 case ep bx ix off=>
  obtain⟨blk,o',len,cap,sz,hm,hlt,hx⟩:=hp;simp only at hm;refine X3 ?_;split<;>try trivial
  .rename_i u xs hS;obtain⟨l,hm',ha⟩:=R.own_arr hS;rw[hm]at hm';cases hm';obtain⟨hE0,rfl,rfl,h3,c,T,f,hh,hz,hs,hxs⟩:=ha;refine bz λe0 he0=>?_;obtain⟨es,he,hr⟩:=hxs ix e0 he0;refine rq hv λvs hvs=>U5 λhlen=>yZ _ _ _ λhle=>?_;rw[nU]at hle;have hlen' :=fZ hlen;have hL2:=gX hvs;have hsz:(a.eval y).cells.size=i.size:=by simp at hL2;omega
   have hes:=lC he;have hnew:=zg (off:=off) hvs (oG (C:=⟨w.heap,ok,m⟩) hr);refine Bc (T:=[]) u R Tk.nil hnew λS1 ok1 y1 q1 us us' R1 T1 k1 s1 e1 h1 l1=>?_;cases q1 with
   |cons _ _=>trivial|nil=>
   simp only[fU]at l1;subst l1;simp only[E9]at e1;subst e1;refine X3 ?_;split<;>try trivial
   rename_i u' xs' hS1;refine eH λe=>?_;subst e;refine ed ?_;obtain⟨l,hm',ha⟩:=R1.own_arr hS1;rw[hm]at hm';cases hm';obtain⟨_,hszu,hlen2,h3',c',T',f',hh',hz',hs',hxs'⟩:=ha;rw[hh]at hh';cases hh';have hown:N8 m bx (S1 (U4+bx))=[blk]:=by simp[N8,hS1,hm]
   have hvl:(a.eval y).cells.toList.length=i.size:=by simpa using hsz
   obtain⟨hfit,hsp,hnew2,hold⟩:=PI (us:=(a.eval y).cells.toList) (off:=off) hh hs h3 hlt he (by rw[hvl];omega);have run:=xH hi w (off:=o' +ix*u'.size+off) hh hz.of (v:=a.eval y) hsz (by rw[hvl]at hfit;exact hfit) (JR hvs);refine Ba ho hd (w' :=w.setRow blk (aU (o' +ix*u'.size+off) (a.eval y).cells.toList c.toList).toArray) (by simp[Instr.storeAt,Instr.sureAddr,hx,run]) ?_ (λ_ _ h=>h) k1;refine R1.mod (by rw[hown];simp[N8,hm]) x8 rfl rfl rfl x8 (λb hb=>setRow_other w blk b _ (by rw[hown]at hb;simpa using hb)) ?_;have hkeep:∀b t,ok1 b t->(w.setRow blk (aU (o' +ix*u'.size+off) (a.eval y).cells.toList c.toList).toArray).heap[b]? =w.heap[b]?:=
    λb t hb=>setRow_other w blk b _ (λe=>(R1.sep bx blk (by rw[hown];simp)).1 t (e▸hb))
   refine⟨_,hm,hE0,rfl,by simp[mQ,hlen2],h3,_,T,f,setRow_heap w blk c _ T f hh,by rw[jr,hsp];exact hz,by simp[hsp];exact hs,λj z hz=>?_⟩;unfold mQ at hz;rw[lF]at hz;split at hz
   .rename_i hj;subst hj;split at hz
    .cases hz;exact⟨_,hnew2,dm (λ_ _ h=>h) hkeep h1⟩
    .cases hz
   .rename_i hj;obtain⟨es2,he2,hr2⟩:=hxs' j z hz;have hj2:=(aJ.1 hz).1;exact⟨_,(hold j (by rw[hlen2];exact hj2) (λe=>hj e.symm)).trans he2,dm (λ_ _ h=>h) hkeep hr2⟩
  .rename_i md xs hole hS;cases hcd:(md.ownAt off&&Nat.beq i.size 1&&!az i.td)
   .simp only[cond_false];cases hole with
    |some _=>trivial|none=>
    refine rq hv λvs hvs=>U5 λhlen=>bz λe0 he0=>?_;have he0' :xs[ix]? =some e0:=he0;obtain⟨hel,l,Os,hm',⟨ha,hho⟩,hk⟩:=R.own_barrs hS;rw[hm]at hm';cases hm';obtain⟨rfl,rfl,h3,h7,c,T,hh,hs,hxs⟩:=ha;obtain⟨es,O,hO,he,hr⟩:=hxs ix e0 he0';refine Qj md off hr hvs λy1 hle hr' =>ed ?_;have hes:es.length=md.size:=aG hr;have hlen' :=fZ hlen;have hL2:=gX hvs;have hsz:(a.eval y).cells.size=i.size:=by simp at hL2;omega
    have hvl:(a.eval y).cells.toList.length=i.size:=by simpa using hsz
    obtain⟨hfit,hsp,hnew2,hold⟩:=PI (us:=(a.eval y).cells.toList) (off:=off) hh hs h3 hlt he l9;have run:=xH hi w (off:=o' +ix*md.size+off) hh (.inl rfl) (v:=a.eval y) hsz (by rw[hvl]at hfit;exact hfit) (JR hvs);have hown:N8 m bx (S (U4+bx))=blk::Os.flatten:=by simp[N8,hS,hm,hk]
    have hnd:=R.nd bx;rw[hown]at hnd;have hnd0:=Y9.1 hnd;have hneO:∀b∈Os.flatten,b≠blk:=λb hb e=>hnd0.1 (e▸hb);refine Ba ho hd (w' :=w.setRow blk (aU (o' +ix*md.size+off) (a.eval y).cells.toList c.toList).toArray) (by simp[Instr.storeAt,Instr.sureAddr,hx,run]) ?_ (λ_ _ h=>h) (λ_ _ h=>h);have hkeep:∀b t,ok b t->(w.setRow blk (aU (o' +ix*md.size+off) (a.eval y).cells.toList c.toList).toArray).heap[b]? =w.heap[b]?:=
     λb t hb=>setRow_other w blk b _ (λe=>(R.sep bx blk (by rw[hown];simp)).1 t (e▸hb))
    refine R.mod (by rw[hown];simp[N8,hm,hk]) x8 rfl rfl rfl x8 (λb hb=>setRow_other w blk b _ (λe=>hb (by rw[hown,e];simp))) ?_;refine JQ (Os:=Os) hel hm ⟨rfl,by simp[mQ],h3,by simp[h7,mQ],_,T,setRow_heap w blk c _ T (0,0) hh,by simp[hsp];exact hs,λj z hz=>?_⟩ hk trivial;unfold mQ at hz;rw[lF]at hz;split at hz
    .rename_i hj;subst hj;cases hz;exact⟨_,O,hO,hnew2,gZ (λ_ _ h=>h) hkeep (λb hb=>setRow_other w blk b _ (hneO b (X7.2 ⟨O,rD hO,hb⟩))) hr'⟩
    .rename_i hj;obtain⟨es2,O2,hO2,he2,hr2⟩:=hxs j z hz;have hj2:=(aJ.1 hz).1;exact⟨_,O2,hO2,(hold j l9 (λe=>hj e.symm)).trans he2,gZ (λ_ _ h=>h) hkeep (λb hb=>setRow_other w blk b _ (hneO b (X7.2 ⟨O2,rD hO2,hb⟩))) hr2⟩
   .simp only[cond_true];simp only[D5,fC]at hcd;obtain⟨⟨_,hsz1⟩,_⟩:=hcd;have hsz1:=fZ hsz1;have fin:∀{S' :Sm} {m' :Mp} {w' :World},Rel X cl ch S' m' ok a w' ->(∀k l,m k=some l->m' k=some l)->(storeVar t ⟨blk,o' +ix*sz+off,none⟩ (a.eval y)).run X.P w= .ok () w' ->gV X cl ch o a w m ok S' :=
     λR' hm' run=>Ba ho hd (by simp[Instr.storeAt,Instr.sureAddr,hx,run]) R' hm' (λ_ _ h=>h)
    split
    .have hv' :a.eval y= .slice none 0 0:=hv;exact SG (Op:=[]) R Tk.nil hi hsz1 hS hm (.inl ⟨rfl,hv',rfl⟩) (λS' m' w' R' h' run=>fin R' h' run)
    .rename_i b2;obtain⟨l2,hm2,hv2⟩:=hv;simp only at hm2;refine X3 ?_;refine U5 λharr=>ed (X3 ?_);split<;>try trivial
     rename_i md2 xs2 hole2 hS2;have T1:=Tk.kill R (T:=[]) Tk.nil b2 (bs:=N8 m b2 (S (U4+b2))) (λ_ h=>h) (R.nd b2);rw[G8]at T1;refine SG (R.kill b2) T1 hi hsz1 hS2 hm ?_ (λS' m' w' R' h' run=>fin R' h' run);cases hb2:S (U4+b2)<;>rw[hb2]at harr<;>try cases harr
     .rename_i t2 ys;obtain⟨l',hm',ha'⟩:=R.own_arr hb2;rw[hm2]at hm';cases hm';refine .inr (.inl ⟨t2,ys,l2,rfl,hv2,Dw ha',?_⟩);cases l2<;>first|(simp[N8,hm2,Loc.blks];done)|cases ha'
     .rename_i md3 ys hole3;obtain⟨hel3,l',Os,hm',⟨ha',hho⟩,hk'⟩:=R.own_barrs hb2;rw[hm2]at hm';cases hm';rcases hole3 with _|⟨p1,p2,p3⟩
      .refine .inr (.inr ⟨md3,ys,l2,Os,rfl,hel3,hv2,ha',?_⟩);cases l2<;>first|(simp[N8,hm2,Loc.blks,hk'];done)|cases ha'
      .cases harr
    .trivial
  .rename_i md xs kn ko hS;refine U5 λhcd=>?_;simp only[D5,fC]at hcd;obtain⟨⟨hoff,hsz1⟩,_⟩:=hcd;have hsz1:=fZ hsz1;have hoff:=fZ hoff;have fin:∀{S' :Sm} {m' :Mp} {w' :World},Rel X cl ch S' m' ok a w' ->(∀k l,m k=some l->m' k=some l)->(storeVar t ⟨blk,o' +ix*sz+off,none⟩ (a.eval y)).run X.P w= .ok () w' ->gV X cl ch o a w m ok S' :=
    λR' hm' run=>Ba ho hd (by simp[Instr.storeAt,Instr.sureAddr,hx,run]) R' hm' (λ_ _ h=>h)
   split<;>try trivial
   rename_i b2;obtain⟨l2,hm2,hv2⟩:=hv;simp only at hm2;refine X3 ?_;refine U5 λharr=>ed (X3 ?_);split<;>try trivial
   rename_i md2 xs2 kn2 ko2 hS2;have hb2x:b2≠bx:=λe=>by subst e;rw[Eo]at hS2;cases hS2
   have hko:ko2=ko:=by rw[aW _ _ l9,hS]at hS2;injection hS2 with _ _ _ e4;exact e4.symm
   refine⟨λhidx=>?_,λ_=>trivial⟩;have hidx:ix=kn2.toNat:=fZ hidx;have T1:=Tk.kill R (T:=[]) Tk.nil b2 (bs:=N8 m b2 (S (U4+b2))) (λ_ h=>h) (R.nd b2);rw[G8]at T1;refine a1Y (R.kill b2) T1 hi hsz1 hS2 (hoff.trans hko.symm) hidx hm ?_ (λS' m' w' R' h' run=>fin R' h' run);cases hb2:S (U4+b2)<;>rw[hb2]at harr<;>try cases harr
   .rename_i t2 ys;obtain⟨l',hm',ha'⟩:=R.own_arr hb2;rw[hm2]at hm';cases hm';refine .inr (.inl ⟨t2,ys,l2,rfl,hv2,Dw ha',?_⟩);cases l2<;>first|(simp[N8,hm2,Loc.blks];done)|cases ha'
   .rename_i md3 ys hole3;obtain⟨hel3,l',Os,hm',⟨ha',hho⟩,hk'⟩:=R.own_barrs hb2;rw[hm2]at hm';cases hm';rcases hole3 with _|⟨p1,p2,p3⟩
    .refine .inr (.inr ⟨md3,ys,l2,Os,rfl,hel3,hv2,ha',?_⟩);cases l2<;>first|(simp[N8,hm2,Loc.blks,hk'];done)|cases ha'
    .cases harr
theorem Uu{c:Nat}{u:V}{x:Value}{K:Nat->Cmd α}(R:Rel X cl ch S m ok a w)(hu:kU ⟨w.heap,ok,m⟩ u x)
  (hK:∀b l v,m b=some l->l.view none v->atV w.heap c x v->(∀a1 a2 a3,atV w.heap c x (.slice a1 a2 a3)->v= .slice a1 a2 a3)->(K b).post S Q):(a4L c u K).post S Q:=by
 unfold a4L;split<;>try trivial
 .rename_i b;obtain⟨l,hm,hv⟩:=hu;refine hK b l x hm hv (.inl rfl) λa1 a2 a3 h=>?_;rcases h with h|⟨_,_,_,_,h,_⟩
  .omega
  .rw[h]at hv;cases l<;>simp[Loc.view]at hv
 .obtain⟨blk,hm,hx⟩:=hu;refine X3 ?_;split<;>try trivial
  rename_i cs hS;obtain⟨blk',arr,T,hm',hh,hl⟩:=R.own_cells hS;rw[hm]at hm';cases hm';refine vP λhle=>?_;split<;>try trivial
  rename_i b hcs;have hl1:=rf 1 (qp c hl);rw[hcs]at hl1;obtain⟨v,r,e,⟨l,hmb,hv⟩,_,_⟩:=hl1;have hcv:arr.toList[c]? =some v:=by
   have:=congrArg (λl=>l[0]?) e
   grind
  refine hK b l v hmb hv (.inr ⟨blk,arr,T,_,hx,hh,hcv⟩) λa1 a2 a3 h=>?_;rcases h with h|⟨b',arr',T',f',h,h2,h3⟩<;>simp_all
theorem YH(R:Rel X cl ch S m ok a w){l:Loc}(hm:m b=some l)
  (hK:(∀blk off len cap sz',l= .arr blk off len cap sz' ->sz' =sz)->K.post S Q):(b8Z b sz K).post S Q:=by
 refine X3 ?_;split<;>try trivial
 .rename_i md xs hole hS;refine U5 λh=>hK λblk off len cap sz' e=>?_;subst e;obtain⟨_,l,Os,hm',⟨ha,_⟩,_⟩:=R.own_barrs hS;rw[hm]at hm';cases hm';exact ha.1.trans (fZ h)
 .rename_i t xs hS;refine U5 λh=>hK λblk off len cap sz' e=>?_;subst e;obtain⟨l,hm',ha⟩:=R.own_arr hS;rw[hm]at hm';cases hm';exact ha.2.1.trans (fZ h)
theorem Qa{α:Type}{Q:α->Sm->Prop}(R:Rel X cl ch S m ok a w):∀(als:List (Nat×Nat×Option (Nat×Nat×Nat×Nat))) {K:Cmd α}
  (hK:(∀p∈als,alR w.heap a.tmps p)->K.post S Q),(b2h als K).post S Q
 |[],K,hK=>hK (λp hp=>by grind)|(n,k,none)::r,K,hK=>by
  refine U5 λhb=>?_;simp only[D5]at hb;refine U5 λhv=>Qa R r λh=>hK λp hp=>?_;rcases D7.1 hp with rfl|hp
  .have h1:=hb.1;have h2:=hb.2;rw[bK]at h1 h2;exact b0R hv (R.slot n h1) (R.slot k h2)
  simp_all
 |(n,k,some (c,j,o2,sz))::r,K,hK=>by
  refine U5 λhb=>?_;simp only[D5]at hb;obtain⟨⟨h1,h2⟩,h3⟩:=hb;rw[bK]at h1 h2 h3;refine X3 (X3 (X3 ?_));have hn:=R.slot n h1;have hj:=R.slot j h3;split<;>try trivial
  rename_i b' i o' k2 y hSn hSj;rw[hSn]at hn;rw[hSj]at hj;obtain⟨blk,off,len,cap,sz',hmb,hlt,hx⟩:=hn;refine Uu R (R.slot k h2) λb l v hm hv hat _=>U5 λhbb=>?_;simp only[D5]at hbb;have e1:=fZ hbb.1;have e2:=fZ hbb.2;subst e1;subst e2;rw[hm]at hmb;cases hmb;refine YH R hm λhsz=>⟨λhi=>?_,λ_=>trivial⟩;have hi:=fZ hi;have hsz:=hsz _ _ _ _ _ rfl;subst hsz;subst hi;subst hv;refine Qa R r λh=>hK λp hp=>?_;rcases D7.1 hp with rfl|hp
  .exact⟨blk,off,len,cap,k2,y,hat,hj,hlt,hx⟩
  simp_all
theorem a2Q{sg:Sig}{Q:qJ sg->Sm->Prop}(R:Rel X cl ch S m ok a w)
  (hK:∀S' m' ok' y O,Rel X cl ch S' m' ok' a w->Tk X S' m' ok' w O->(∀k l,m k=some l->m' k=some l)->(∀b t,ok b t->ok' b t)->
   a2o w.heap ok' sg y a.tmps O->Q y S'):(b4J sg).post S Q:=by
 refine Qa R _ λhals=>Rw _ R.slot λvs hvs=>?_;refine wL _ R Tk.nil λS1 m1 R1 T1 k1=>?_;refine a0B _ R1 T1 (j_ k1 hvs) λS' ok' y O R' T' k s h=>?_;exact hK S' m1 ok' y O R' T' k1 k ⟨h,hals⟩
theorem Kr{Q:Unit->Sm->Prop} :∀(als:List (Nat×Nat×Option (Nat×Nat×Nat×Nat))) {S:Sm} (R:Rel X cl ch S m ok a w) (h:∀p∈als,alR w.heap a.tmps p)
  (hK:∀S',Rel X cl ch S' m ok a w->Q () S'),(v_ als).post S Q
 |[],S,R,h,hK=>hK S R
 |(n,k,none)::r,S,R,h,hK=>by refine U5 λhb=>?_;simp only[D5]at hb;have h1:=hb.1;have h2:=hb.2;rw[bK]at h1 h2;refine Kr r (R.slotV h1 ?_) (λp hp=>h p (U9 _ hp)) hK;have e:=h (n,k,none) gz;rw[e];exact R.slot k h2|(n,k,some (c,j,o2,sz))::r,S,R,h,hK=>by
  refine U5 λhb=>?_;simp only[D5]at hb;obtain⟨⟨h1,h2⟩,h3⟩:=hb;rw[bK]at h1 h2 h3;refine X3 (X3 ?_);have hj:=R.slot j h3;split<;>try trivial
  rename_i k2 y hSj;rw[hSj]at hj;obtain⟨blk,off,len,cap,q2,y2,hat,hj2,hlt,hn⟩:=h (n,k,some (c,j,o2,sz)) gz;have ey:y2=y:=by have hj:a.tmps.getD j Go.undef= .int k2 y:=hj;simp_all
  subst ey;refine Uu R (R.slot k h2) λb l v hm hv _ huniq=>YH R hm λhsz=>ed ?_;have ev:=huniq _ _ _ hat
  subst ev;refine Kr r (R.slotV h1 ?_) (λp hp=>h p (U9 _ hp)) hK;cases l with
  |nil=>grind [Loc.view]|st b=>cases hv|mp b=>grind [Loc.view]
  |arr blk' off' len' cap' sz' =>have e:=hsz _ _ _ _ _ rfl;subst e;injection hv with e1 e2 e3;injection e1 with e1;injection e1 with e1 e4;subst e1;subst e2;subst e3;subst e4;exact⟨blk,off,len,cap,sz',hm,hlt,hn⟩
theorem a2M{sg:Sig}{x:qJ sg}{nb lim:Nat}{Q:Unit->Sm->Prop}{O:c5y}(R:Rel X cl ch S m ok a w)(hcl:cl<=nb)(hT:Tk X S m ok w O)
  (h:a2o w.heap ok sg x a.tmps O)
  (hK:∀S' m',Rel X cl (max ch lim) S' m' ok a w->(∀k l,m k=some l->m' k=some l)->Q () S'):(b4I sg x nb lim).post S Q:=by
 refine GY (T:=[]) _ R hcl (by simp_all) h.1 λS1 m1 vs n1 ch1 R1 c1 T1 k1 s1 l1 e1=>?_;cases hb:Nat.ble n1 lim
 .trivial
 .have:=S9 hb;exact Ip _ (R1.chmono l9) l1 λS' R' =>Kr _ R' h.2 λS'' R'' =>hK S'' m1 R'' k1
end
end Go.GP
namespace Go.GP
variable {α:Type}{t:TypeId}{q:Nat}{sz:Nat}{f:Nat}{P:Program}{j:TI}{x:Operand}{Q:α->Sm->Prop}
section
variable {X:Fx} {cl ch:Nat} {S:Sm} {m:Mp} {ok:Nat->Ty->Prop} {a:Act} {w:World} {o:Oper}
theorem Fa(H:FxOk X){t f off n:Nat}{ag:Bool}(h:Jo X.E t f=some (off,n,ag)):
  ∃fields fld j,X.P.underlying t=some (.struct fields)/\fields[f]? =some fld/\fld.offset=off/\TiOk X.P fld.type j/\j.size=n/\n≠0/\ag=az j.td:=by
 unfold Jo at h;cases hi:bZ X.E.tt t with
 |none=>simp_all|some i=>
  have Hi:=H.tt t i hi;have htd:=Hi.td;simp[hi]at h;cases hd:i.td<;>simp[hd]at h<;>try (simp at h)
  rename_i fs;rw[hd]at htd;obtain⟨fields,hu,hf⟩:=htd;cases hfs:fs[f]? with
  |none=>simp_all|some x=>
   obtain⟨ft,off'⟩:=x;simp[hfs]at h;cases hj:bZ X.E.tt ft with
   |none=>simp_all|some j=>
    simp[hj]at h;cases hb:Nat.beq j.size 0
    .simp[hb,cond_false,G6,mZ]at h;obtain⟨rfl,rfl,rfl⟩:=h;rw[←hf]at hfs;simp at hfs;obtain⟨fld,hfl,he⟩:=hfs;obtain⟨rfl,rfl⟩:=he;refine⟨fields,fld,j,hu,by simpa using hfl,rfl,H.tt _ _ hj,rfl,λe=>?_,rfl⟩<;>simp_all
    simp_all
theorem Ko{t f off:Nat}{fields:Array Field}{fld:Field}(w:World)(hu:P.underlying t=some (.struct fields))(hf:fields[f]? =some fld)(ho:fld.offset=off)
  (hj:TiOk P fld.type j) (hn:j.size≠0) (b p:Nat):(Instr.fieldAt t (.pointer (some ⟨b,p,none⟩)) f).run P w= .ok (.pointer (some ⟨b,p+off,none⟩)) w:=by
 simp[Instr.fieldAt,run_underlying hu,hf,Instr.sureAddr,fieldPlace,sD hj,hn,jL,ho]
theorem ZP(H:FxOk X)(R:Rel X cl ch S m ok a w)(ho:o.op= .fieldAddr t x f):(aQ X.E q o).post S (λ_ S' =>gV X cl ch o a w m ok S'):=by
 unfold aQ;simp[ho];refine Z8 R λp hp=>?_;split<;>try trivial
 rename_i off n ag hfo;obtain⟨fields,fld,j,hu,hf,hoff,hj,hn,hn0,_⟩:=Fa H hfo;have hj0:j.size≠0:=l9;cases p<;>try trivial
 case ptr bx o' =>obtain⟨blk,h1,h2⟩:=hp;exact Y5 H R ⟨blk,h1,rfl⟩ (by simp[execOp,ho,h2,Ko w hu hf hoff hj hj0])
 case ep bx ix o' =>obtain⟨blk,o2,len,cap,sz,h1,h2,h3⟩:=hp;exact Y5 H R ⟨blk,o2,len,cap,sz,h1,h2,rfl⟩ (by simp[execOp,ho,h3,Ko w hu hf hoff hj hj0,uK])
 case dp u y o' =>obtain⟨blk,o2,es,h1,h2⟩:=hp;exact Y5 H R ⟨blk,o2,es,rfl,h2⟩ (by simp[execOp,ho,h1,Ko w hu hf hoff hj hj0,uK])
theorem a9D(H:FxOk X)(R:Rel X cl ch S m ok a w)(ho:o.op= .field t x f):(aQ X.E q o).post S (λ_ S' =>gV X cl ch o a w m ok S'):=by
 unfold aQ;simp[ho];refine Z8 R λp hp=>?_;split<;>try trivial
 rename_i off n ag hfo;obtain⟨fields,fld,j,hu,hf,hoff,hj,hn,hn0,rfl⟩:=Fa H hfo;refine BA hp λps us hg hl=>vP λhle=>?_;obtain⟨arr,hx,rfl⟩:=hg;have hL:=gX hl;have hlen:((arr.toList.drop off).take n).length=n:=by grind
 refine Y5 H R (yK (rf n (qp off hl)) (λha=>by rw[hlen,←hn];exact hj.one ha)) ?_;have hpart:(part fld.type arr off).run X.P w= .ok (PV (az j.td) ((arr.toList.drop off).take n)) w:=by
  unfold part;rw[J9,Dp hj.td];cases ha:az j.td
  .have h1:=hj.one ha;simp[oz,if_false,PV];have:n=1:=l9;simp_all [List.take_one]
  .simp[if_true,PV,J9,sD hj,L8,hn,jQ];congr 2
   grind
 simp_all [execOp,Instr.field,run_underlying,asAgg]
theorem GV(H:FxOk X){t n sz:Nat}(h:GU X.E t=some (false,n,sz)):∃e j,X.P.underlying t=some (.slice e)/\TiOk X.P e j/\j.size=sz:=by
 unfold GU at h;cases hi:bZ X.E.tt t with
 |none=>simp_all|some i=>
  have htd:=(H.tt t i hi).td;simp[hi]at h;cases hd:i.td<;>simp[hd]at h<;>try (simp at h)
  .rename_i e;rw[hd]at htd;cases hj:bZ X.E.tt e with
   |none=>simp_all|some j=>simp[hj]at h;exact⟨e,j,htd,H.tt _ _ hj,h.2⟩
  grind
theorem a2L(H:FxOk X){t n sz:Nat}(h:GU X.E t=some (true,n,sz)):∃e j,X.P.underlying t=some (.array n e)/\TiOk X.P e j/\j.size=sz:=by
 unfold GU at h;cases hi:bZ X.E.tt t with
 |none=>simp_all|some i=>
  have htd:=(H.tt t i hi).td;simp[hi]at h;cases hd:i.td<;>simp[hd]at h<;>try (simp at h)
  .grind
  .rename_i l e;rw[hd]at htd;cases hj:bZ X.E.tt e with
   |none=>simp_all|some j=>simp[hj]at h;obtain⟨rfl,h⟩:=h;exact⟨e,j,htd,H.tt _ _ hj,h⟩
theorem xW{l:List α}{n:Int}{y:α}(h:P8 l n=some y):0<=n/\l[n.toNat]? =some y/\n.toNat<l.length/\n<l.length:=by
 grind [P8]
theorem uf{t e:TypeId}(w:World)(hu:P.underlying t=some (.slice e))(hj:TiOk P e j){k:IntKind}{n:Int}{b p len cap:Nat}(h0:0<=n)(hlt:n<len):
  (Instr.indexAt t (.slice (some ⟨b,p,none⟩) len cap) (.int k n)).run P w= .ok (.pointer (some ⟨b,p+n.toNat*j.size,none⟩)) w:=by
 simp[Instr.indexAt,asIntOf,run_underlying hu,h0,hlt,sD hj,jL]
theorem PM{t e:TypeId}(w:World){len:Nat}(hu:P.underlying t=some (.array len e))(hj:TiOk P e j){k:IntKind}{n:Int}{b p:Nat}(h0:0<=n)(hlt:n<len):
  (Instr.indexAt t (.pointer (some ⟨b,p,none⟩)) (.int k n)).run P w= .ok (.pointer (some ⟨b,p+n.toNat*j.size,none⟩)) w:=by
 simp[Instr.indexAt,asIntOf,run_underlying hu,h0,hlt,sD hj,jL,Instr.sureAddr]
theorem AB{w:World}{r:Nat}{es:Array MapEntry}{ck:Nat}(hb:w.heap[r]? =some (.map es ck)):(getObj r).run P w= .ok (.map es ck) w:=by
 grind [getObj,Sem.run]
theorem BN{u:Ty}(h:szB sz u=true):u.isEnt=false/\sz=u.size:=by simp_all [szB]
theorem a7U{C:Cx}{t:Ty}{xs:List t.den}{l:Loc}{vw:Option (Nat×Nat)}{v:Value}(h0:t.isEnt=false)(ha:arrOk C t xs l)(hv:l.view vw v){i:Nat}{y:t.den}(hy:(kF vw xs)[i]? =some y):
  ∃blk off len cap,l= .arr blk off len cap t.size/\xs[a9c vw+i]? =some y/\∃p c,v= .slice (some ⟨blk,p,none⟩) (kF vw xs).length c/\p+i*t.size=off+(a9c vw+i)*t.size:=by
 cases l with
 |nil=>obtain⟨ha,_⟩:=ha;subst ha;rcases vw with _|⟨lo,hi⟩<;>simp[kF,lq]at hy
 |st b=>cases ha|mp b=>exact absurd ha.1 (by grind)
 |arr blk off len cap sz=>obtain⟨_,rfl,rfl,hc,_⟩:=ha;rcases vw with _|⟨lo,hi⟩<;>grind [Loc.view,a9c,kF,lq]
theorem ZQ(H:FxOk X)(R:Rel X cl ch S m ok a w){x ix:Operand}(ho:o.op= .indexAddr t x ix):(aQ X.E q o).post S (λ_ S' =>gV X cl ch o a w m ok S'):=by
 unfold aQ;simp[ho];refine Z8 R λu hu=>Z8 R λv hv=>?_;unfold Vj;split<;>try trivial
 ·
  rename_i k n l sz hsz;obtain⟨e,j,hut,hj,hjs⟩:=GV H hsz;have hix:=tZ hv;cases u<;>try trivial
  case sl u xs=>refine aX λhb=>bz λy hy=>?_;obtain⟨hE0,hb'⟩:=BN hb;obtain⟨h0,hget,hlt,hlt'⟩:=xW hy;obtain⟨ad,cap,hx,hc,hel⟩:=(yL hE0).1 hu;simp at hx;obtain⟨blk,off,es,rfl,hok,he,hr⟩:=hel _ y hget;refine Y5 H R ⟨blk,off+n.toNat*u.size,es,rfl,hok,he,hr⟩ ?_;simp[execOp,ho,hx,hix,uf w hut hj h0 hlt',hjs,hb']
  case own bx vw=>
   obtain⟨loc,hm,hview⟩:=hu;refine X3 ?_;split
   .rename_i ln sz' hSl;split<;>try trivial
    refine U5 λhb=>⟨λhin=>?_,λ_=>trivial⟩;have hb' :=fZ hb;have hin' :=of_decide_eq_true (show decide (0<=n/\n<ln)=true from hin);have hbx:=R.box (MN+bx);rw[hSl]at hbx;obtain⟨k',l',e,hm',hl⟩:=hbx;have e' :k' =bx:=l9;subst e';rw[hm]at hm';cases hm';cases loc with
    |nil=>omega|st b=>grind|mp b=>grind|arr blk off len cap sz2=>obtain⟨rfl,rfl⟩:=hl;simp[Loc.view]at hview;refine Y5 H R (x:=.pointer (some ⟨blk,off+n.toNat*sz',none⟩)) ⟨blk,off,len,cap,sz',hm,by simp_all [dV],rfl⟩ ?_;simp[execOp,ho,hview,hix,uf w hut hj hin'.1 hin'.2,hjs,hb']
   refine X3 ?_;split<;>try trivial
   .rename_i u xs hS;refine aX λhb=>bz λy hy=>?_;obtain⟨hE0,hb'⟩:=BN hb;obtain⟨h0,hget,hlt,hlt'⟩:=xW hy;obtain⟨loc',hm',ha⟩:=R.own_arr hS;rw[hm]at hm';cases hm';obtain⟨blk,off,len,cap,rfl,hx2,p,c,hvv,hp⟩:=a7U hE0 ha hview hget;have hlen:=ha.2.2.1;have hlt2:=(aJ.1 hx2).1;rw[b2O];refine Y5 H R (x:=.pointer (some ⟨blk,p+n.toNat*u.size,none⟩)) ⟨blk,off,len,cap,u.size,hm,by rw[hlen];exact hlt2,by rw[hp];rfl⟩ ?_;simp[execOp,ho,hvv,hix,uf w hut hj h0 hlt',hjs,hb']
   .rename_i u xs hS;refine aX λhb=>bz λy hy=>?_;obtain⟨hE0,hb'⟩:=BN hb;obtain⟨h0,hget,hlt,hlt'⟩:=xW hy;obtain⟨loc',hm',ha,hok⟩:=R.own_frz hS;rw[hm]at hm';cases hm';obtain⟨ad,cap,hx,hc,hel⟩:=(yL hE0).1 (oP ha hview (λ_ _ h=>h) hok);simp at hx;obtain⟨blk,off,es,rfl,hok',he,hr⟩:=hel _ y hget;refine Y5 H R ⟨blk,off+n.toNat*u.size,es,rfl,hok',he,hr⟩ ?_;simp[execOp,ho,hx,hix,uf w hut hj h0 hlt',hjs,hb']
   .rename_i md xs hole hS;split<;>try trivial
    refine U5 λhb=>bz λy hy=>?_;have hb' :=fZ hb;obtain⟨h0,hget,hlt,hlt'⟩:=xW hy;obtain⟨hel,loc',Os,hm',⟨ha,hho⟩,hk⟩:=R.own_barrs hS;rw[hm]at hm';cases hm';cases loc with
    |st b=>cases ha|mp b=>cases ha|nil=>obtain⟨e1,_⟩:=ha<;>simp_all
    |arr blk off len cap sz' =>obtain⟨rfl,rfl,h3,_⟩:=ha;simp[Loc.view]at hview;refine Y5 H R (x:=.pointer (some ⟨blk,off+n.toNat*md.size,none⟩)) ⟨blk,off,xs.length,cap,md.size,hm,hlt,rfl⟩ ?_;simp[execOp,ho,hview,hix,uf w hut hj h0 hlt',hjs,hb']
   .rename_i md xs kn ko hS;split<;>try trivial
    refine U5 λhb=>bz λy hy=>?_;have hb' :=fZ hb;obtain⟨h0,hget,hlt,hlt'⟩:=xW hy;obtain⟨hel,_,loc',Os,hm',ha,hk⟩:=R.own_barrp hS;rw[hm]at hm';cases hm';cases loc with
    |st b=>cases ha|mp b=>cases ha|nil=>obtain⟨e1,_⟩:=ha<;>simp_all
    |arr blk off len cap sz' =>obtain⟨rfl,rfl,h3,_⟩:=ha;simp[Loc.view]at hview;refine Y5 H R (x:=.pointer (some ⟨blk,off+n.toNat*md.size,none⟩)) ⟨blk,off,xs.length,cap,md.size,hm,hlt,rfl⟩ ?_;simp[execOp,ho,hview,hix,uf w hut hj h0 hlt',hjs,hb']
 ·
  rename_i k n l sz hsz;obtain⟨e,j,hut,hj,hjs⟩:=a2L H hsz;have hix:=tZ hv;cases u<;>try trivial
  case glob g=>
   cases hg:bZ X.E.gl g with
   |none=>simp[hg];trivial|some p=>
   obtain⟨u,xs⟩:=p;simp[hg];refine aX λhb=>bz λy hy=>?_;simp only[D5]at hb;have hb2:=fZ hb.2;obtain⟨h0,hget,hlt,hlt'⟩:=xW hy;obtain⟨hok,_,hel⟩:=R.gl g _ hg;obtain⟨es,he,hr⟩:=hel _ y hget;have hx:a.eval x= .pointer (some ⟨g,0,none⟩):=hu;refine Y5 H R (x:=.pointer (some ⟨g,0+n.toNat*u.size,none⟩)) ⟨g,n.toNat*u.size,es,x8,hok,he,hr⟩ ?_;have:=PM w hut hj (k:=k) (b:=g) (p:=0) h0 l9;simp_all [execOp]
  case ptr bx off=>refine⟨λhin=>?_,λ_=>trivial⟩;have hin' :=of_decide_eq_true (show decide (0<=n/\n<(l:Int))=true from hin);obtain⟨blk,hm,hx⟩:=hu;refine Y5 H R (x:=.pointer (some ⟨blk,off+n.toNat*sz,none⟩)) ⟨blk,hm,rfl⟩ ?_;have:=PM w hut hj (k:=k) (b:=blk) (p:=off) hin'.1 hin'.2;simp_all [execOp]
theorem Vq(R:Rel X cl ch S m ok a w){sz fo:Nat}{c:V}{u:Value}(hu:rP ⟨w.heap,ok,m⟩ c u){K:V->Cmd α}
  (hK:∀r y,kU ⟨w.heap,ok,m⟩ r y->(∃b bo n k,u= .slice (some ⟨b,bo,none⟩) n k/\0<=L6 .i64 (n:Int) 1/\L6 .i64 (n:Int) 1<(n:Int)/\y= .pointer (some ⟨b,bo+(L6 .i64 (n:Int) 1).toNat*sz+fo,none⟩))->(K r).post S Q):
  (a5n sz fo c K).post S Q:=by
 unfold a5n;split<;>try trivial
 .rename_i u' xs;refine aX λhb=>bz λy hy=>?_;obtain⟨hE0,hb'⟩:=BN hb;obtain⟨h0,hget,hlt,hlt'⟩:=xW hy;obtain⟨ad,cap,hx,hc,hel⟩:=(yL hE0).1 hu;simp at hx;obtain⟨blk,off,es,rfl,hok,he,hr⟩:=hel _ y hget;refine hK (.dp u' y fo) _ ⟨blk,off+(L6 .i64 (x9 xs) 1).toNat*u'.size,es,rfl,hok,he,hr⟩ ⟨blk,off,xs.length,cap,hx,h0,hlt',?_⟩;rw[hb'];rfl
 .rename_i bx;obtain⟨loc,hm,hview⟩:=hu;refine X3 ?_;split
  .rename_i ln sz' hSl;refine U5 λhb=>⟨λhin=>?_,λ_=>trivial⟩;have hb' :=fZ hb;have hin' :=of_decide_eq_true (show decide (0<=L6 .i64 ln 1/\L6 .i64 ln 1<ln)=true from hin);have hbx:=R.box (MN+bx);rw[hSl]at hbx;obtain⟨k',l',e,hm',hl⟩:=hbx;have e' :k' =bx:=l9;subst e';simp at hm hm';rw[hm]at hm';cases hm';cases loc with
   |nil=>omega|st b=>grind|mp b=>grind|arr blk off len cap sz2=>
    obtain⟨rfl,rfl⟩:=hl;refine hK (.ep k' (dV (L6 .i64 (len:Int) 1)) fo) (.pointer (some ⟨blk,off+(L6 .i64 (len:Int) 1).toNat*sz' +fo,none⟩)) ⟨blk,off,len,cap,sz',hm,by simp_all [dV],rfl⟩ ⟨blk,off,len,cap,hview,hin'.1,hin'.2,?_⟩
    grind
  refine X3 ?_;split<;>try trivial
  .rename_i u xs hS;refine aX λhb=>bz λy hy=>?_;obtain⟨hE0,hb'⟩:=BN hb;obtain⟨h0,hget,hlt,hlt'⟩:=xW hy;obtain⟨loc',hm',ha⟩:=R.own_arr hS;rw[hm]at hm';cases hm';cases loc with
   |nil=>obtain⟨e1,_⟩:=ha<;>simp_all
   |st b=>cases ha|mp b=>rw[ha.1]at hE0;grind|arr blk off len cap sz2=>obtain⟨_,rfl,rfl,_⟩:=ha;refine hK (.ep bx (dV (L6 .i64 (x9 xs) 1)) fo) (.pointer (some ⟨blk,off+(L6 .i64 (x9 xs) 1).toNat*u.size+fo,none⟩)) ⟨blk,off,xs.length,cap,u.size,hm,hlt,rfl⟩ ⟨blk,off,xs.length,cap,hview,h0,hlt',?_⟩;rw[hb'];rfl
  .rename_i u xs hS;refine aX λhb=>bz λy hy=>?_;obtain⟨hE0,hb'⟩:=BN hb;obtain⟨h0,hget,hlt,hlt'⟩:=xW hy;obtain⟨loc',hm',ha,hok⟩:=R.own_frz hS;rw[hm]at hm';cases hm';obtain⟨ad,cap,hx,hc,hel⟩:=(yL hE0).1 (oP ha hview (λ_ _ h=>h) hok);simp at hx;obtain⟨blk,off,es,rfl,hok',he,hr⟩:=hel _ y hget;refine hK (.dp u y fo) _ ⟨blk,off+(L6 .i64 (x9 xs) 1).toNat*u.size,es,rfl,hok',he,hr⟩ ⟨blk,off,xs.length,cap,hx,h0,hlt',?_⟩;rw[hb'];rfl
  .rename_i md xs hole hS;refine U5 λhb=>bz λy hy=>?_;have hb' :=fZ hb;obtain⟨h0,hget,hlt,hlt'⟩:=xW hy;obtain⟨hel,loc',Os,hm',⟨ha,hho⟩,hk⟩:=R.own_barrs hS;rw[hm]at hm';cases hm';cases loc with
   |st b=>cases ha|mp b=>cases ha|nil=>obtain⟨e1,_⟩:=ha<;>simp_all
   |arr blk off len cap sz' =>obtain⟨rfl,rfl,h3,_⟩:=ha;refine hK (.ep bx (dV (L6 .i64 (x9 xs) 1)) fo) (.pointer (some ⟨blk,off+(L6 .i64 (x9 xs) 1).toNat*md.size+fo,none⟩)) ⟨blk,off,xs.length,cap,md.size,hm,hlt,rfl⟩ ⟨blk,off,xs.length,cap,hview,h0,hlt',?_⟩;rw[hb'];rfl
theorem Sr{C:Cx}{c:V}{vs:c5x}(h:fU C [c] vs):∃v,vs=[v]/\rP C c v:=by
 grind [fU]
theorem NH(R:Rel X cl ch S m ok a w){off sz fo:Nat}{p:V}{x:Value}(hp:kU ⟨w.heap,ok,m⟩ p x){K:V->Cmd α}
  (hK:∀r y,kU ⟨w.heap,ok,m⟩ r y->MO w.heap x off sz fo y->(K r).post S Q):(a1o off sz fo p K).post S Q:=by
 unfold a1o;split<;>try trivial
 .rename_i bx o;obtain⟨blk,hm,rfl⟩:=hp;refine X3 ?_;split<;>try trivial
  rename_i cs hS;obtain⟨blk',arr,T,hm',hh,hl⟩:=R.own_cells hS;rw[hm]at hm';refine vP λhle=>?_;have hlen:=gX hl;have e:=jH hh (o+off) 1 (by simp_all);have hl1:=rf 1 (qp (o+off) hl);split<;>try trivial
  rename_i c hc;rw[hc]at hl1;obtain⟨u,hu,hr⟩:=Sr hl1;refine Vq R hr λr y h1 ⟨b,bo,n,k,h2,h3,h4,h5⟩=>hK r y h1 ⟨blk,o,b,bo,n,k,rfl,by grind,h3,h4,h5⟩
 .rename_i t z o;obtain⟨blk,o',es,rfl,hb,he,hr⟩:=hp;refine vP λhle=>?_;rw[nU]at hle;have e:=pU he (o+off) 1 hle;have hl1:=rf 1 (qp (o+off) (oG hr));split<;>try trivial
  rename_i c hc;rw[hc]at hl1;obtain⟨u,hu,hr⟩:=Sr hl1;refine Vq R hr λr y h1 ⟨b,bo,n,k,h2,h3,h4,h5⟩=>hK r y h1 ⟨blk,o' +o,b,bo,n,k,rfl,by grind,h3,h4,h5⟩
theorem a1f{C:Cx} :∀{vs:List V} {xs:c5x} (k:Nat),jk C vs xs->b2Y vs k= .un\/∃x,xs[k]? =some x/\kU C (b2Y vs k) x
 |[],_,k,_=> .inl (by cases k<;>rfl)|v::r,_,0,⟨x,xr,e,h1,h2⟩=> .inr ⟨x,by simp_all,h1⟩|v::r,_,k+1,⟨x,xr,e,h1,h2⟩=>by subst e;exact a1f k h2
theorem a0w(R:Rel X cl ch S m ok a w){all:List V}{xall:c5x}(hall:jk ⟨w.heap,ok,m⟩ all xall):∀(ms:List MG) {vs:List V} {xs:c5x} {K:Cmd α}
  (hv:jk ⟨w.heap,ok,m⟩ vs xs) (hK:U_ w.heap xall ms xs->K.post S Q),(dvC all ms vs K).post S Q:=by
 intro ms;induction ms with
 |nil=>
  intro vs xs K hv hK;cases vs with
  |nil=>exact hK trivial|cons v vs=>trivial
 |cons md ms ih=>
  intro vs xs K hv hK;obtain⟨g,md⟩:=md;cases vs with
  |nil=>cases md<;>trivial|cons v vs=>
   obtain⟨x,r,rfl,h1,h2⟩:=hv;cases md
   case dv k off sz fo=>
    unfold dvC;rcases a1f k hall with e|⟨p,hp,hr⟩
    .rw[e];trivial
    .refine NH R hr λr0 y h3 h4=>?_;unfold b9D;split<;>try trivial
     refine aX λhb=>⟨λhi=>?_,λ_=>trivial⟩;simp only[D5]at hb;have e1:=fZ hb.1;have e2:=fZ hb.2;have e3:=fZ hi;subst e1;subst e2;subst e3;obtain⟨b1,o1,l1,c1,s1,m1,_,rfl⟩:=h1;obtain⟨b2,o2,l2,c2,s2,m2,_,rfl⟩:=h3;rw[m1]at m2;cases m2;exact ih h2 λhd=>hK ⟨⟨p,hp,h4⟩,hd⟩
   all_goals
    exact ih h2 λhd=>hK hd
theorem a9b{α β:Type}{f:α->β}{args:Array α}{u:β}(h:args.toList.map f=[u]):∃y,args=#[y]/\f y=u:=by
 grind [List.map_eq_cons_iff,List.map_eq_nil_iff]
theorem a0T{α β:Type}{f:α->β}{args:Array α}{u v:β}(h:args.toList.map f=[u,v]):∃y z,args=#[y,z]/\f y=u/\f z=v:=by
 grind [List.map_eq_cons_iff,List.map_eq_nil_iff]
theorem b6J(H:FxOk X)(R:Rel X cl ch S m ok a w){c:Call}(ho:o.op= .call c)(hc:c.callee= .builtin .len):(aQ X.E q o).post S (λ_ S' =>gV X cl ch o a w m ok S'):=by
 obtain⟨cal,args,ats⟩:=c;simp only at hc;subst hc;unfold aQ;simp only[ho];refine kM R _ λvs hvs=>?_;split<;>try trivial
 rename_i t rt x hat
 obtain⟨u,r,he,hx,hr⟩:=hvs;simp only[jk]at hr;subst hr;refine jG H λi hi=>?_;have htd:=hi.td;obtain⟨y,rfl,rfl⟩:=a9b he;have h0:ats[0]? =some t:=by obtain⟨l⟩:=ats<;>simp_all
 have fin:∀(v:V) (n:Nat),kU ⟨w.heap,ok,m⟩ v (.int .i64 n)->(Builtin.len_ ats o.type #[a.eval y]).run X.P w= .ok (.int .i64 n) w->(cu X.E o.dst v).post S (λ_ S' =>gV X cl ch o a w m ok S'):=λv n hv h=>
  Y5 H R hv (by simp[execOp,ho,resolve,invoke,builtin,h])
 have mapLen:∀{ke e n:Nat},X.P.underlying t=some (.map ke e)->(∃mv,a.eval y= .map mv/\(mv=none->n=0)/\∀blk,mv=some blk->∃es ck,w.heap[blk]? =some (.map es ck)/\vS es ck n)->
   (cu X.E o.dst (.i .i64 n)).post S (λ_ S' =>gV X cl ch o a w m ok S'):=λ{ke e n} hu ⟨mv,hv,h1,h2⟩=>by
  refine fin _ n rfl ?_;cases mv with
  |none=>simp_all [Builtin.len_,run_underlying,goInt]|some blk=>obtain⟨es,ck,h3,h4⟩:=h2 blk rfl;simp[Builtin.len_,h0,run_underlying hu,hv,goInt,AB h3,h4.1]
 unfold b9L;split<;>try trivial
 .rename_i l htd';rw[htd']at htd;refine fin _ l.length rfl ?_;simp[Builtin.len_,h0,run_underlying (show X.P.underlying t=some .string from htd),JS hx,goInt];rfl
 .rename_i e u xs htd';rw[htd']at htd;cases hE0:u.isEnt
  .simp only[cond_false];obtain⟨ad,cap,hv,_⟩:=(yL hE0).1 hx;refine fin _ xs.length rfl ?_;simp[Builtin.len_,h0,run_underlying (show X.P.underlying t=some (.slice e)from htd),hv,goInt]
  .trivial
 .rename_i ke e u xs htd';rw[htd']at htd;cases hE0:u.isEnt
  .trivial
  .simp only[cond_true];refine mapLen htd ?_;obtain⟨mv,hv,h1,h2⟩:=(a3K hE0).1 hx;exact⟨mv,by simp_all,(λe=>by simp_all),λblk hb=>by grind⟩
 .rename_i ke e bx htd';rw[htd']at htd;obtain⟨loc,hm,hview⟩:=hx;simp only at hm;refine X3 ?_;have key:∀{u:Ty} {xs:List u.den},u.isEnt=true->arrOk ⟨w.heap,ok,m⟩ u xs loc->(cu X.E o.dst (.i .i64 (x9 xs))).post S (λ_ S' =>gV X cl ch o a w m ok S'):=λ{u xs} hE0 ha=>by
   refine mapLen htd ?_;cases loc with
   |nil=>exact absurd ha.2 (by grind)|st b=>cases ha|arr blk off len cap sz=>exact absurd ha.1 (by grind)|mp b=>simp only[Loc.view]at hview;obtain⟨_,es,ck,h3,h4,_⟩:=ha<;>grind
  split<;>try trivial
  .rename_i u xs hS;obtain⟨loc',hm',ha⟩:=R.own_arr hS;rw[hm]at hm';cases hm';cases hE0:u.isEnt
   .trivial
   simp_all
  .rename_i u xs hS;obtain⟨loc',hm',ha,_⟩:=R.own_frz hS;rw[hm]at hm';cases hm';cases hE0:u.isEnt
   .trivial
   simp_all
 .rename_i e htd';rw[htd']at htd;have hv:a.eval y= .slice none 0 0:=hx;refine fin _ 0 rfl ?_;simp[Builtin.len_,h0,run_underlying (show X.P.underlying t=some (.slice e)from htd),hv,goInt]
 .rename_i e bx vw htd';rw[htd']at htd;obtain⟨loc,hm,hview⟩:=hx;refine X3 ?_;split
  .rename_i ln sz' hSl;split<;>try trivial
   have hbx:=R.box (MN+bx);rw[hSl]at hbx;obtain⟨k',l',e',hm',hl⟩:=hbx;have e2:k' =bx:=l9;subst e2;simp only at hm hm';rw[hm]at hm';cases hm';cases loc with
   |nil=>simp only at hl;subst hl;simp only[Loc.view]at hview;refine fin _ 0 rfl ?_;simp[Builtin.len_,h0,run_underlying (show X.P.underlying t=some (.slice e)from htd),hview,goInt]|st b=>grind|mp b=>grind|arr blk off len cap sz2=>obtain⟨rfl,rfl⟩:=hl;simp only[Loc.view]at hview;refine fin _ len rfl ?_;simp[Builtin.len_,h0,run_underlying (show X.P.underlying t=some (.slice e)from htd),hview,goInt]
  refine X3 ?_;have key:∀{u:Ty} {xs:List u.den},u.isEnt=false->arrOk ⟨w.heap,ok,m⟩ u xs loc->(cu X.E o.dst (.i .i64 (x9 (kF vw xs)))).post S (λ_ S' =>gV X cl ch o a w m ok S'):=λ{u xs} hE0 ha=>by obtain⟨ad,cap,hv,_⟩:=(yL hE0).1 (oP (C:=⟨w.heap,ok,m⟩) (ok' :=λ_ _=>True) ha hview (λ_ _ _=>trivial) (λ_ _=>trivial));refine fin _ (kF vw xs).length rfl ?_;simp[Builtin.len_,h0,run_underlying (show X.P.underlying t=some (.slice e)from htd),hv,goInt]
  split<;>try trivial
  .rename_i u xs hS;obtain⟨loc',hm',ha⟩:=R.own_arr hS;simp only at hm;rw[hm]at hm';cases hm';cases hE0:u.isEnt
   .simp_all
   .trivial
  .rename_i u xs hS;obtain⟨loc',hm',ha,_⟩:=R.own_frz hS;simp only at hm;rw[hm]at hm';cases hm';cases hE0:u.isEnt
   .simp_all
   .trivial
  .rename_i md xs hole hS;split<;>try trivial
   obtain⟨hel,loc',Os,hm',⟨ha,hho⟩,hk⟩:=R.own_barrs hS;simp only at hm;rw[hm]at hm';cases hm';cases loc with
   |st b=>cases ha|mp b=>cases ha|nil=>obtain⟨e1,_⟩:=ha;subst e1;simp only[Loc.view]at hview;refine fin _ 0 rfl ?_;simp[Builtin.len_,h0,run_underlying (show X.P.underlying t=some (.slice e)from htd),hview,goInt]
   |arr blk off len cap sz' =>obtain⟨rfl,rfl,h3,_⟩:=ha;simp only[Loc.view]at hview;refine fin _ xs.length rfl ?_;simp[Builtin.len_,h0,run_underlying (show X.P.underlying t=some (.slice e)from htd),hview,goInt]
  .rename_i md xs kn ko hS;split<;>try trivial
   obtain⟨hel,_,loc',Os,hm',ha,hk⟩:=R.own_barrp hS;simp only at hm;rw[hm]at hm';cases hm';cases loc with
   |st b=>cases ha|mp b=>cases ha|nil=>obtain⟨e1,_⟩:=ha;subst e1;simp only[Loc.view]at hview;refine fin _ 0 rfl ?_;simp[Builtin.len_,h0,run_underlying (show X.P.underlying t=some (.slice e)from htd),hview,goInt]
   |arr blk off len cap sz' =>obtain⟨rfl,rfl,h3,_⟩:=ha;simp only[Loc.view]at hview;refine fin _ xs.length rfl ?_;simp[Builtin.len_,h0,run_underlying (show X.P.underlying t=some (.slice e)from htd),hview,goInt]
theorem Yq(H:FxOk X)(R:Rel X cl ch S m ok a w){c:Call}(ho:o.op= .call c)(hc:c.callee= .builtin .min\/c.callee= .builtin .max):(aQ X.E q o).post S (λ_ S' =>gV X cl ch o a w m ok S'):=by
 obtain⟨cal,args,ats⟩:=c;rcases hc with rfl|rfl
 all_goals
  unfold aQ;simp[ho];refine kM R _ λvs hvs=>?_;split<;>try trivial
  rename_i k p k' r;obtain⟨u,r',he,hx,v,r'',he',hy,hr⟩:=hvs;subst hr;rw[he']at he;refine aX λhk=>?_;have hk' :=of_decide_eq_true hk;obtain⟨y,z,rfl,rfl,rfl⟩:=a0T he
 .refine Y5 H R rfl ?_;simp[execOp,ho,resolve,invoke,builtin,Builtin.min_,Builtin.min2,tZ hx,tZ hy,IR]
 .refine Y5 H R rfl ?_;simp[execOp,ho,resolve,invoke,builtin,Builtin.max_,Builtin.max2,tZ hx,tZ hy,Fh]
end
end Go.GP
namespace Go.GP
def Bnd(d:Int)(o:Option Value)(n:Int):Prop:=(o=none/\n=d)\/∃k,o=some (.int k n)
theorem Ej{P:Program}{w:World}{isS:Bool}{len cap:Nat}{lo hi:Option Value}{x y:Int}(hlo:Bnd 0 lo x)(hhi:Bnd len hi y)(h0:0<=x)(h1:x<=y)(h2:y<=len)(hc:len<=cap):
  (Instr.sliceBounds isS len cap lo hi none).run P w= .ok (x.toNat,y.toNat,cap) w:=by
 have hyc:y<=cap:=l9;have hy0:0<=y:=l9;have e:((y.toNat:Nat):Int)=y:=l9;rcases hlo with⟨rfl,rfl⟩|⟨k,rfl⟩<;>rcases hhi with⟨rfl,rfl⟩|⟨k',rfl⟩
 all_goals simp_all [Instr.sliceBounds,Instr.sliceBound,asIntOf]
theorem Yj{α:Type}{l r:List α}{x y:Int}(h:dM l x y=some r):0<=x/\x<=y/\y<=l.length/\r=(l.take y.toNat).drop x.toNat:=by simp_all [dM]
theorem Xc(l:c5v)(x y:Nat):(⟨l.toArray⟩:ByteArray).extract x y=⟨((l.take y).drop x).toArray⟩:=by apply ByteArray.ext<;>simp_all [LD]
theorem b3D{h:Array Obj}{ok:Nat->Ty->Prop}{t:Ty}(ht:t.isEnt=false){xs:List t.den}{ad:Option Addr}{cap:Nat}{x y:Nat}(hr:kZ h ok (.sl t) xs [.slice ad xs.length cap])(h1:x<=y)(h2:y<=xs.length):
  kZ h ok (.sl t) ((xs.take y).drop x) [.slice (if cap=x then ad else ad.map (·.add (x*t.size))) (y -x) (cap -x)]:=by
 obtain⟨ad',cap',e,hc,hel⟩:=(yL ht).1 hr;obtain⟨rfl,rfl⟩:=e;have hl:((xs.take y).drop x).length=y -x:=by simp_all
 refine(yL ht).2 ⟨_,cap -x,by rw[hl],l9,λi z hz=>?_⟩<;>grind [Addr.add_lit]
section
variable {X:Fx} {cl ch:Nat} {S:Sm} {m:Mp} {ok:Nat->Ty->Prop} {a:Act} {w:World} {o:Oper}
theorem wK{C:Cx}{d n:Int}{v:Option V}{u:Option Value}(h:Ar d v=some n)(hr:(v=none/\u=none)\/∃c x,v=some c/\u=some x/\kU C c x):Bnd d u n:=by
 rcases hr with⟨rfl,rfl⟩|⟨c,x,rfl,rfl,hr⟩
 .simp[Ar]at h;subst h;exact .inl ⟨rfl,rfl⟩
 .cases c<;>simp[Ar]at h;subst h;exact .inr ⟨_,by rw[tZ hr]⟩
theorem ES(H:FxOk X)(R:Rel X cl ch S m ok a w){t:TypeId}{x:V}{u:Value}{lo hi:Option V}{lv hv:Option Value}(hx:kU ⟨w.heap,ok,m⟩ x u)
  (hlo:(lo=none/\lv=none)\/∃c y,lo=some c/\lv=some y/\kU ⟨w.heap,ok,m⟩ c y) (hhi:(hi=none/\hv=none)\/∃c y,hi=some c/\hv=some y/\kU ⟨w.heap,ok,m⟩ c y)
  {K:V->Cmd Unit} {Q:Unit->Sm->Prop} (hK:∀v z,kU ⟨w.heap,ok,m⟩ v z->(Instr.sliceAt t u lv hv none).run X.P w= .ok z w->(K v).post S Q):(QT X.E t x lo hi K).post S Q:=by
 unfold QT;cases x<;>try trivial
 case s l=>
  refine jG H λi hi' =>?_;have htd:=hi'.td;split<;>try trivial
  rename_i p q htd' hp hq;rw[htd']at htd;refine bz λr hr=>?_;obtain⟨h0,h1,h2,rfl⟩:=Yj hr;have hb:=Ej (P:=X.P) (w:=w) (isS:=false) (wK hp hlo) (wK hq hhi) h0 h1 h2 (E5 _);refine hK (.s _) (.string ⟨((l.take q.toNat).drop p.toNat).toArray⟩) rfl ?_;have hus:=htd;have hs:(⟨l.toArray⟩:ByteArray).size=l.length:=rfl;simp[Instr.sliceAt,run_underlying hus,Instr.slice,JS hx,hs,hb,Xc]
 case sl v l=>
  dsimp only;split<;>try trivial
  rename_i n sz p q hsz hp hq;obtain⟨e,j,hut,hj,hjs⟩:=GV H hsz;refine aX λhbq=>bz λr hr=>?_;obtain⟨hE0,hbq'⟩:=BN hbq;obtain⟨h0,h1,h2,rfl⟩:=Yj hr;have hx' :=hx;obtain⟨ad,cap,hu,hc,_⟩:=(yL hE0).1 hx';simp at hu;subst hu;have hb:=Ej (P:=X.P) (w:=w) (isS:=true) (wK hp hlo) (wK hq hhi) h0 h1 h2 hc;refine hK (.sl v _) _ (b3D hE0 hx' l9 l9) ?_;simp[Instr.sliceAt,run_underlying hut,Instr.slice,hb,sD hj,hjs,hbq']
 case own bx vw=>
  cases vw with
  |some _=>trivial|none=>
  obtain⟨loc,hm,hview⟩:=hx;refine X3 ?_;have key:∀{v:Ty} {xs:List v.den} {n sz:Nat} {p q:Int},arrOk ⟨w.heap,ok,m⟩ v xs loc->GU X.E t=some (false,n,sz)->Ar 0 lo=some p->Ar (x9 xs) hi=some q->
    (bif szB sz v then Cmd.br (nK p q (x9 xs)) (K (.own bx (some (dV p,dV q)))) .fail else .fail).post S Q:=λ{v xs n sz p q} ha hsz hp hq=>by
   obtain⟨e,j,hut,hj,hjs⟩:=GV H hsz;refine aX λhbq=>⟨λhr=>?_,λ_=>trivial⟩;obtain⟨hE0,hbq'⟩:=BN hbq;have hr' :=of_decide_eq_true (show decide (0<=p/\p<=q/\q<=x9 xs)=true from hr);obtain⟨h0,h1,h2⟩:=hr';have h2' :q<=(xs.length:Int):=h2;cases loc with
   |st b=>cases ha|mp b=>exact absurd ha.1 (by grind)|nil=>obtain⟨ha,_⟩:=ha;subst ha;subst hview;have h2'' :q<=((0:Nat):Int):=l9;have hb:=Ej (P:=X.P) (w:=w) (isS:=true) (wK hp hlo) (by have:=wK hq hhi;simpa[x9]using this) h0 h1 h2'' (E5 _);have ep:p=0:=l9;have eq:q=0:=l9;subst ep;subst eq;refine hK (.own bx (some (dV 0,dV 0))) (.slice none 0 0) ⟨.nil,hm,rfl,rfl,rfl⟩ ?_;simp[Instr.sliceAt,run_underlying hut,Instr.slice,hb,sD hj]
   |arr blk off len cap sz' =>
    obtain⟨_,rfl,rfl,hc,_⟩:=ha;subst hview;have hb:=Ej (P:=X.P) (w:=w) (isS:=true) (wK hp hlo) (wK hq hhi) h0 h1 h2' hc;refine hK (.own bx (some (dV p,dV q))) _ ⟨_,hm,by grind [dV],by simp_all [dV],rfl⟩ ?_;have e1:(if cap=p.toNat then some (⟨blk,off,none⟩:Addr)else some ⟨blk,off+p.toNat*v.size,none⟩)=some (if cap=p.toNat then⟨blk,off,none⟩else⟨blk,off+p.toNat*v.size,none⟩):=by grind
    simp[Instr.sliceAt,run_underlying hut,Instr.slice,hb,sD hj,hjs,hbq',jL,dV,e1]
    grind
  split<;>try trivial
  .rename_i v xs hS;obtain⟨loc',hm',ha⟩:=R.own_arr hS;rw[hm]at hm';split<;>try trivial
   simp_all
  .rename_i v xs hS;obtain⟨loc',hm',ha,_⟩:=R.own_frz hS;rw[hm]at hm';split<;>try trivial
   simp_all
theorem a7r(H:FxOk X)(R:Rel X cl ch S m ok a w){t:TypeId}{x:Operand}{lo hi:Option Operand}{q:Nat}(ho:o.op= .slice t x lo hi none)
  (hA:∀bx,lo=none->hi=none->kU ⟨w.heap,ok,m⟩ (.ptr bx 0) (a.eval x)->(a1O X.E (J7 q o.dst) t bx λr=>cu X.E o.dst r).post S (λ_ S' =>gV X cl ch o a w m ok S')):(aQ X.E q o).post S (λ_ S' =>gV X cl ch o a w m ok S'):=by
 unfold aQ;simp[ho];refine Z8 R λv hv=>kM R _ λbs hbs=>?_;split<;>try trivial
 .split
  .simp_all
  refine ES H R hv (.inl ⟨rfl,rfl⟩) (.inl ⟨rfl,rfl⟩) λr z hr hz=>Y5 H R hr ?_;simp_all [execOp]
 .obtain⟨y,r,he,h1,h2⟩:=hbs;simp at he;refine ES H R hv (.inr ⟨_,_,rfl,rfl,h1⟩) (.inl ⟨rfl,rfl⟩) λr z hr hz=>Y5 H R hr ?_;simp_all [execOp]
 .obtain⟨y,r,he,h1,h2⟩:=hbs;simp at he;refine ES H R hv (.inl ⟨rfl,rfl⟩) (.inr ⟨_,_,rfl,rfl,h1⟩) λr z hr hz=>Y5 H R hr ?_;simp_all [execOp]
 .rename_i l h c d;obtain⟨y,r,he,h1,y',r',he',h2,h3⟩:=hbs;obtain⟨rfl,rfl⟩:=he;refine ES H R hv (.inr ⟨_,_,rfl,rfl,h1⟩) (.inr ⟨_,_,rfl,rfl,h2⟩) λr z hr hz=>Y5 H R hr ?_;simp_all [execOp]
end
end Go.GP
namespace Go.GP
def dN(h:Array Obj)(ok:Nat->Ty->Prop)(t:Ty)(xs:List t.den)(cs:c5x):Prop:=
 cs.length=xs.length*t.size/\∀i x,xs[i]? =some x->kZ h ok t x ((cs.drop (i*t.size)).take t.size)
variable {h:Array Obj}{ok:Nat->Ty->Prop}{t:Ty}
theorem dN.nil :dN h ok t [] []:=⟨x8,λi x hi=>by simp_all⟩
theorem dN.append{xs ys:List t.den}{cs ds:c5x}(hx:dN h ok t xs cs)(hy:dN h ok t ys ds):dN h ok t (xs++ys) (cs++ds):=by
 refine⟨by simp[hx.1,hy.1,V4],λi x hi=>?_⟩;by_cases hlt:i<xs.length
 .rw[Z7 hlt]at hi;have h1:=hx.2 i x hi;have hle:(i+1)*t.size<=cs.length:=by rw[hx.1];exact F8 _ l9
  grind
 .rw[F7 l9]at hi;have h1:=hy.2 _ x hi;have hle:cs.length<=i*t.size:=by rw[hx.1];simp_all [F8]
  rw[List.drop_append,dG hle];have:i*t.size -cs.length=(i -xs.length)*t.size:=by rw[hx.1,Nat.sub_mul]
  simp_all
variable {cs:c5x}{x:t.den}
theorem dN.one(hr:kZ h ok t x cs):dN h ok t [x] cs:=by
 refine⟨by grind [bV],λi y hi=>?_⟩;have:i=0:=by
  grind
 subst this;simp at hi;have:(List.drop (0*t.size) cs).take t.size=cs:=by simp[←bV hr]
 simp_all
variable {xs:List t.den}
theorem dN.mono{h h' :Array Obj}{ok ok' :Nat->Ty->Prop}(hok:∀b t,ok b t->ok' b t)(hh:∀b t,ok b t->h'[b]? =h[b]?)(hr:dN h ok t xs cs):dN h' ok' t xs cs:=
 ⟨hr.1,λi x hi=>dm hok hh (hr.2 i x hi)⟩
theorem dN.rep_all{h:Array Obj}{ok:Nat->Ty->Prop}{t:Ty}{x:t.den}{cs:c5x}(hr:kZ h ok t x cs):∀n,dN h ok t (List.replicate n x) ((List.replicate n cs).flatten)
 |0=>by simp[dN.nil]|n+1=>by have:=(dN.one hr).append (dN.rep_all hr n);simpa[jY]using this
theorem dN.one_cell{h:Array Obj}{ok:Nat->Ty->Prop}{t:Ty} :∀{xs:List t.den} {cs:c5x},dN h ok t xs cs->∀v∈cs,v.oneCell' =true
 |[],cs,hr=>by have:=hr.1;simp_all|x::xs,cs,hr=>by
  intro v hv;have h0:=hr.2 0 x rfl;simp at h0;have hl:=hr.1;simp[A8,V4,Nat.one_mul]at hl;have hrest:dN h ok t xs (cs.drop t.size):=by refine⟨by simp;omega,λi y hi=>?_⟩;have:=hr.2 (i+1) y (by simpa using hi);rw[lX];rwa[show t.size+i*t.size=(i+1)*t.size by rw[V4];omega]
  rw[←gB t.size cs]at hv;rcases F9.1 hv with hv|hv
  .exact wY h0 v hv
  .exact dN.one_cell hrest v hv
variable {blk:Nat}{off:Nat}{cap:Nat}{C:Cx}
theorem dN.arrOk(h0:t.isEnt=false)(hr:dN C.h C.ok t xs cs){c:Array Value}{T:TypeId}{f:Nat×Nat}(hb:C.h[blk]? =some (.cells c T f))(hz:fzo t c.size f)
  (hcap:xs.length<=cap) (hfit:off+cap*t.size<=c.size) (he:(c.toList.drop off).take (xs.length*t.size)=cs):Go.GP.arrOk C t xs (.arr blk off xs.length cap t.size):=by
 refine⟨h0,rfl,rfl,hcap,c,T,f,hb,hz,hfit,λi x hi=>?_⟩;have hlt:=(aJ.1 hi).1;have hle:(i+1)*t.size<=xs.length*t.size:=F8 _ l9;rw[V4]at hle;have hle2:xs.length*t.size<=cap*t.size:=F8 _ hcap;refine⟨_,jH hb _ _ l9,?_⟩;have h1:=hr.2 i x hi
 grind [List.drop_take,List.drop_drop]
theorem XG{blk off len cap sz:Nat}(h:arrOk C t xs (.arr blk off len cap sz)):
  ∃c T f,C.h[blk]? =some (.cells c T f)/\fzo t c.size f/\sz=t.size/\len=xs.length/\len<=cap/\off+cap*sz<=c.size/\dN C.h C.ok t xs ((c.toList.drop off).take (len*sz)):=by
 obtain⟨_,rfl,rfl,h3,c,T,f,hb,hz,hf,hx⟩:=h;refine⟨c,T,f,hb,hz,rfl,rfl,h3,hf,?_,λi x hi=>?_⟩
 .have:xs.length*t.size<=cap*t.size:=F8 _ h3
  grind
 .obtain⟨es,he,hr⟩:=hx i x hi;obtain⟨c',T',f',hb',hn',rfl⟩:=qw he;rw[hb]at hb';have hlt:=(aJ.1 hi).1;have hle:(i+1)*t.size<=xs.length*t.size:=F8 _ l9
  grind [List.drop_take,List.drop_drop]
def xk(h:Array Obj)(ok:Nat->Ty->Prop)(m:M)(xs:List m.den)(cs:c5x)(Os:List c5y):Prop:=
 cs.length=xs.length*m.size/\Os.length=xs.length/\∀i x,xs[i]? =some x->∃O,Os[i]? =some O/\lS h ok m none x ((cs.drop (i*m.size)).take m.size) O
theorem xk.nil{m:M} :xk h ok m [] [] []:=⟨x8,rfl,λi x hi=>by simp_all⟩
theorem xk.append{t:M}{xs ys:List t.den}{cs ds:c5x}{Os Ps:List c5y}(hx:xk h ok t xs cs Os)(hy:xk h ok t ys ds Ps):xk h ok t (xs++ys) (cs++ds) (Os++Ps):=by
 refine⟨by simp[hx.1,hy.1,V4],by simp[hx.2.1,hy.2.1],λi x hi=>?_⟩;by_cases hlt:i<xs.length
 .rw[Z7 hlt]at hi;obtain⟨O,hO,h1⟩:=hx.2.2 i x hi;have hle:(i+1)*t.size<=cs.length:=by rw[hx.1];exact F8 _ l9
  grind
 .rw[F7 l9]at hi;obtain⟨O,hO,h1⟩:=hy.2.2 _ x hi;have hle:cs.length<=i*t.size:=by rw[hx.1];simp_all [F8]
  rw[List.drop_append,dG hle];have:i*t.size -cs.length=(i -xs.length)*t.size:=by rw[hx.1,Nat.sub_mul]
  rw[this];exact⟨O,by rw[F7 (by rw[hx.2.1];omega),hx.2.1];omega,h1⟩
theorem xk.one{t:M}{x:t.den}{O:c5y}(hr:lS h ok t none x cs O):xk h ok t [x] cs [O]:=by
 refine⟨by grind [aG],rfl,λi y hi=>?_⟩;have:i=0:=by
  grind
 subst this;simp at hi;have:(List.drop (0*t.size) cs).take t.size=cs:=by simp[←aG hr]
 simp_all
variable {Os:List c5y}
theorem xk.mono{h h' :Array Obj}{ok ok' :Nat->Ty->Prop}{t:M}{xs:List t.den}(hok:∀b t,ok b t->ok' b t)(hh:∀b t,ok b t->h'[b]? =h[b]?)(hO:∀b∈Os.flatten,h'[b]? =h[b]?)(hr:xk h ok t xs cs Os):xk h' ok' t xs cs Os:=
 ⟨hr.1,hr.2.1,λi x hi=>by obtain⟨O,h1,h2⟩:=hr.2.2 i x hi;exact⟨O,h1,gZ hok hh (λb hb=>hO b (X7.2 ⟨O,rD h1,hb⟩)) h2⟩⟩
theorem xk.rep_all{h:Array Obj}{ok:Nat->Ty->Prop}{t:M}{x:t.den}{cs:c5x}(hr:lS h ok t none x cs []):∀n,xk h ok t (List.replicate n x) ((List.replicate n cs).flatten) (List.replicate n [])
 |0=>by simp[xk.nil]|n+1=>by have:=(xk.one hr).append (xk.rep_all hr n);simpa[jY]using this
theorem xk.one_cell{h:Array Obj}{ok:Nat->Ty->Prop}{t:M} :∀{xs:List t.den} {cs:c5x} {Os:List c5y},xk h ok t xs cs Os->∀v∈cs,v.oneCell' =true
 |[],cs,_,hr=>by have:=hr.1;simp_all|x::xs,cs,Os,hr=>by
  intro v hv;obtain⟨O,hO,h0⟩:=hr.2.2 0 x rfl;simp at h0;have hl:=hr.1;simp[A8,V4,Nat.one_mul]at hl;have hl2:=hr.2.1;simp at hl2;have hrest:xk h ok t xs (cs.drop t.size) (Os.drop 1):=by refine⟨by simp;omega,by simp;omega,λi y hi=>?_⟩;obtain⟨O',hO',this⟩:=hr.2.2 (i+1) y (by simpa using hi);rw[lX];refine⟨O',by rw[dW,Nat.add_comm];exact hO',?_⟩;rwa[show t.size+i*t.size=(i+1)*t.size by rw[V4];omega]
  rw[←gB t.size cs]at hv;rcases F9.1 hv with hv|hv
  .exact nX h0 v hv
  .exact xk.one_cell hrest v hv
theorem xk.arrs{t:M}{xs:List t.den}(hr:xk h ok t xs cs Os){c:Array Value}{T:TypeId}(hb:h[blk]? =some (.cells c T (0,0)))
  (hcap:xs.length<=cap) (hfit:off+cap*t.size<=c.size) (he:(c.toList.drop off).take (xs.length*t.size)=cs):uB h t.size (λ_ x es O=>lS h ok t none x es O) xs Os (.arr blk off xs.length cap t.size):=by
 refine⟨rfl,rfl,hcap,hr.2.1,c,T,hb,hfit,λi x hi=>?_⟩;have hlt:=(aJ.1 hi).1;have hle:(i+1)*t.size<=xs.length*t.size:=F8 _ l9;rw[V4]at hle;have hle2:xs.length*t.size<=cap*t.size:=F8 _ hcap;obtain⟨O,hO,h1⟩:=hr.2.2 i x hi;refine⟨_,O,hO,jH hb _ _ l9,?_⟩<;>grind [List.drop_take,List.drop_drop]
theorem a0j{t:M}{xs:List t.den}{blk off len cap sz:Nat}(k:uB h t.size (λ_ x es O=>lS h ok t none x es O) xs Os (.arr blk off len cap sz)):
  ∃c T,h[blk]? =some (.cells c T (0,0))/\sz=t.size/\len=xs.length/\len<=cap/\off+cap*sz<=c.size/\xk h ok t xs ((c.toList.drop off).take (len*sz)) Os:=by
 obtain⟨rfl,rfl,h3,h7,c,T,hb,hf,hx⟩:=k;refine⟨c,T,hb,rfl,rfl,h3,hf,?_,h7,λi x hi=>?_⟩
 .have:xs.length*t.size<=cap*t.size:=F8 _ h3
  grind
 .obtain⟨es,O,hO,he,hr⟩:=hx i x hi;obtain⟨c',T',f',hb',hn',rfl⟩:=qw he;rw[hb]at hb';have hlt:=(aJ.1 hi).1;have hle:(i+1)*t.size<=xs.length*t.size:=F8 _ l9
  grind [List.drop_take,List.drop_drop]
theorem a8p{α β:Type}(e:α=β)(e' :List α=List β):cast e' []=[]:=by grind
theorem WY{h:Array Obj}{ok:Nat->Ty->Prop}{C:Cx} :∀(m:M) (he:m.el=true) {zs:List V} {cs r:c5x},kZ h ok m.ty m.ty.zero cs->fU C zs (cs++r)->RP m zs=true->lS h ok m none (m.zero he) cs []
 | .dat t,_,_,_,_,hr,_,_=>⟨hr,rfl⟩| .unit,_,_,_,_,hr,_,_=>⟨hr,rfl⟩| .own t,he,zs,cs,r,hr,hz,hn=>by
  have ht:t.isEnt=false:=by simpa[M.el]using he
  obtain⟨a,cap,rfl,_⟩:=(yL ht).1 hr;unfold RP at hn;split at hn
  .obtain⟨v,r',e,h1,_⟩:=hz;simp only[G9,G8,H8]at e;obtain⟨rfl,rfl⟩:=e;exact⟨_,rfl,rfl,.nil,h1,⟨rfl,ht⟩,rfl⟩
  .cases hn
 | .owns t,he,zs,cs,r,hr,hz,hn=>by
  obtain⟨a,cap,rfl,_⟩:=(yL (M.ty_ent (m:=t) (by simpa[M.el]using he))).1 hr;unfold RP at hn;split at hn
  .obtain⟨v,r',e,h1,_⟩:=hz;simp only[G9,G8,H8]at e;obtain⟨rfl,rfl⟩:=e;have he' :t.el=true:=by simpa[M.el]using he
   refine xG.2 ⟨he',.nil,_,[],rfl,h1,⟨?_,rfl⟩,rfl⟩;exact a8p (M.denEq t he').symm _
  .cases hn
 | .pair p q,he,zs,cs,r,hr,hz,hn=>by
  obtain⟨c,d,rfl,h1,h2⟩:=hr;have he' :p.el=true/\q.el=true:=by simpa[M.el]using he
  have hp:=bV h1;rw[M.ty_size he'.1]at hp;unfold RP at hn;split at hn
  .rename_i r' hd;obtain⟨_,rfl⟩:=UL _ _ _ hd;cases hb:RP p zs<;>rw[hb]at hn
   .cases hn
   .have a1:=WY p he'.1 (r:=d++r) h1 (by simpa using hz) hb;have hz' :=qp p.size hz;rw[show(c++d++r).drop p.size=d++r by rw[←hp,E8,Y6]]at hz';have a2:=WY q he'.2 (r:=r) h2 hz' hn;refine⟨c,d,[],[],rfl,rfl,?_,?_⟩
    .have:=FO (M.denEq p he'.1).symm (M.denEq q he'.2).symm (M.denEq (.pair p q) he).symm (p.ty.zero,q.ty.zero);exact(congrArg (λz:p.den×q.den=>lS h ok p none z.1 c []) this).mpr a1
    .have:=FO (M.denEq p he'.1).symm (M.denEq q he'.2).symm (M.denEq (.pair p q) he).symm (p.ty.zero,q.ty.zero);exact(congrArg (λz:p.den×q.den=>lS h ok q none z.2 d []) this).mpr a2
  .cases hn
 | .box _,he,_,_,_,_,_,_=>by simp[M.el]at he| .ownb _,he,_,_,_,_,_,_=>by simp[M.el]at he| .cell _,he,_,_,_,_,_,_=>by simp[M.el]at he| .fr _,he,_,_,_,_,_,_=>by simp[M.el]at he| .mbx ..,he,_,_,_,_,_,_=>by simp[M.el]at he| .lp _,he,_,_,_,_,_,_=>by simp[M.el]at he| .dv ..,he,_,_,_,_,_,_=>by simp[M.el]at he| .sit,he,_,_,_,_,_,_=>by simp[M.el]at he| .rp _,he,_,_,_,_,_,_=>by simp[M.el]at he| .fn _ _,he,_,_,_,_,_,_=>by simp[M.el]at he| .ifc _ _,he,_,_,_,_,_,_=>by simp[M.el]at he
theorem JC(z:Array Value):∀n,(madeCells z (n*z.size)).toList=(List.replicate n z.toList).flatten:=by
 intro n;rcases iW z.size with h0|h0
 .simp_all [madeCells]
 induction n with
 |zero=>simp[madeCells]|succ n ih=>rw[qQ,nO,←ih];simp[madeCells,Array.toList_map,Array.toList_range,List.flatten_cons,List.flatten_nil,E9];rw[V4,List.range_add,rF];congr 1;apply jV<;>simp_all [Nat.mod_eq_of_lt]
theorem GX{E:Env}{t e:Nat}{u:Ty}(h:DK E t=some (e,u)):u.isEnt=false:=by unfold DK at h<;>grind
theorem yS{X:Fx}(H:FxOk X){t e:Nat}{u:Ty}(h:DK X.E t=some (e,u)):
  ∃j z inf,X.P.underlying t=some (.slice e)/\TiOk X.P e j/\X.P.info? e=some inf/\inf.size=u.size/\j.size=u.size/\inf.bytes<=65536/\inf.zero=some z/\kZ #[] (λ_ _=>False) u u.zero z.cells.toList:=by
 unfold DK at h;cases hi:bZ X.E.tt t with
 |none=>simp_all|some i=>
  have htd:=(H.tt t i hi).td;simp[hi]at h;cases hd:i.td<;>simp[hd]at h<;>try (simp at h)
  rename_i e';rw[hd]at htd;cases hj:bZ X.E.tt e' with
  |none=>simp_all|some j=>
   simp[hj]at h;cases hy:j.ty with
   |none=>simp_all|some u' =>
    simp[hy]at h;cases hb:(Nat.beq u'.size j.size&&Nat.ble j.bytes 65536&&!u'.isEnt)
    .simp_all
    .simp[hb,cond_true,G6,mZ]at h;obtain⟨rfl,rfl⟩:=h;simp only[D5]at hb;have h2:=S9 hb.1.2;obtain⟨inf,a1,a2,a3,a4,a5⟩:=(H.tt e' j hj).info;obtain⟨b1,z,b2,b3⟩:=a5 u' hy;exact⟨j,z,inf,htd,H.tt _ _ hj,a1,l9,l9,l9,b2,b3⟩
variable {q:Nat}{w1:World}{T:c5y}
section
variable {X:Fx} {cl ch:Nat} {S:Sm} {m:Mp} {ok:Nat->Ty->Prop} {a:Act} {w:World} {o:Oper}
theorem Yz(h:kZ #[] (λ_ _=>False) t x cs):kZ C.h C.ok t x cs:=
 dm (λ_ _ h=>h.elim) (λ_ _ h=>h.elim) h
theorem Ec(H:FxOk X){v vv:V}{Q:Unit->Sm->Prop}
  (hK:∀n,n=J7 q o.dst->CB*q<=n->n+64<=CB*q+CB->S (U4+n)= .undef->(cu X.E o.dst vv).post (upd S (U4+n) v) Q):
  (uP (J7 q o.dst) v (cu X.E o.dst vv)).post S Q:=by
 refine oC λhn=>?_;cases hd:o.dst with
 |none=>
  grind [J7]
 |some t=>
  cases hb:RS X.E t with
  |false=>unfold cu;simp[hb,cond_false];trivial|true=>have hin:=uC H (q:=q) (some t) (λt' h=>by simp_all [yH]);simp_all
theorem a7d(H:FxOk X){v vv u:V}{Q:Unit->Sm->Prop}
  (hK:∀n,n=J7 q o.dst->CB*q<=n->n+64<=CB*q+CB->S (U4+n)= .undef->(Cmd.set (U4+(MN+n)) u (cu X.E o.dst vv)).post (upd S (U4+n) v) Q):
  (uP (J7 q o.dst) v (.set (U4+(MN+J7 q o.dst)) u (cu X.E o.dst vv))).post S Q:=by
 refine oC λhn=>?_;cases hd:o.dst with
 |none=>
  grind [J7]
 |some t=>
  cases hb:RS X.E t with
  |false=>unfold cu;simp[hb,cond_false];trivial|true=>have hin:=uC H (q:=q) (some t) (λt' h=>by simp_all [yH]);simp_all
theorem a3l(R:Rel X cl ch S m ok a w)(hos:w1.os=w.os)(htp:w1.tape=w.tape)(hout:w1.output=w.output)(hh:w1.heap=w.heap)
  {u:Ty} (ht:u.isEnt=false) {xs:List u.den} {cs:c5x} {e:TypeId} {c:Array Value} {cap n:Nat} (hr:dN w.heap ok u xs cs)
  (hcap:xs.length<=cap) (hfit:cap*u.size<=c.size) (he:c.toList.take (xs.length*u.size)=cs) (hcl:cl<=n) (hch:n<ch) (hn:S (U4+n)= .undef) {f:Nat×Nat} (hz:fzo u c.size f) (hdr:w.drawn<=w1.drawn:=by first|exact E5 _|exact eQ _):
  Rel X cl ch (upd S (U4+n) (.barr u xs)) (nJ m n (.arr w.heap.size 0 xs.length cap u.size) []) ok a (w1.alloc (.cells c e f)):=by
 have R1:=R.same hos htp hout hh (λ_=>hdr);have hblk:(w1.alloc (.cells c e f)).heap[w.heap.size]? =some (.cells c e f):=by grind [heap_alloc_new]
 refine R1.new hn hcl hch x8 (by simp[N8,hh]) ⟨_,Y4 _ _ _ _,?_⟩;refine dN.arrOk ht (hr.mono (λ_ _ h=>h) (λb t hb=>?_)) hblk hz hcap l9 (by simp_all);have:=R.okLt b t hb;show(w1.heap.push (.cells c e f))[b]? =_
 grind
theorem La(H:FxOk X)(R:Rel X (CB*q) (CB*q+CB) S m ok a w)(hos:w1.os=w.os)(htp:w1.tape=w.tape)(hout:w1.output=w.output)(hh:w1.heap=w.heap)
  {u:Ty} (ht:u.isEnt=false) {xs:List u.den} {cs:c5x} {e:TypeId} {c:Array Value} {cap:Nat} (hr:dN w.heap ok u xs cs)
  (hcap:xs.length<=cap) (hfit:cap*u.size<=c.size) (he:c.toList.take (xs.length*u.size)=cs) {w0:World} {m0:Mp} {ok0:Nat->Ty->Prop} (hm:∀k l,m0 k=some l->m k=some l) (hok:∀b t,ok0 b t->ok b t)
  {f:Nat×Nat} (hz:fzo u c.size f)
  (run:(execOp a.eval o).run X.P w0= .ok (.value (.slice (some ⟨w.heap.size,0,none⟩) xs.length cap)) (w1.alloc (.cells c e f)))
  (hdr:w.drawn<=w1.drawn:=by first|exact E5 _|exact eQ _):(uP (J7 q o.dst) (.barr u xs) (cu X.E o.dst (.own (J7 q o.dst) none))).post S (λ_ S' =>gV X (CB*q) (CB*q+CB) o a w0 m0 ok0 S'):=by
 refine Ec H λn e1 h1 h2 hn=>?_;rw[←e1];have R' :=a3l R hos htp hout hh ht (e:=e) hr hcap hfit he h1 l9 hn hz hdr;refine sV H R' (λk l h=>?_) hok ⟨_,Y4 _ _ _ _,rfl⟩ run;by_cases ek:k=n
 .subst ek;have:=R.fresh k h1 hn;simp_all
 simp_all [jl]
theorem RN(R:Rel X cl ch S m ok a w)(hT:Tk X S m ok w T)(hos:w1.os=w.os)(htp:w1.tape=w.tape)(hout:w1.output=w.output)(hh:w1.heap=w.heap)
  {md:M} (hel:md.el=true) {xs:List md.den} {cs:c5x} {Os:List c5y} {e:TypeId} {c:Array Value} {cap n:Nat} (hr:xk w.heap ok md xs cs Os) (hnd:Os.flatten.Nodup) (hO:∀b∈Os.flatten,b∈T)
  (hcap:xs.length<=cap) (hfit:cap*md.size<=c.size) (he:c.toList.take (xs.length*md.size)=cs) (hcl:cl<=n) (hch:n<ch) (hn:S (U4+n)= .undef) (hdr:w.drawn<=w1.drawn:=by first|exact E5 _|exact eQ _):
  Rel X cl ch (upd S (U4+n) (.barrs md xs none)) (nJ m n (.arr w.heap.size 0 xs.length cap md.size) Os.flatten) ok a (w1.alloc (.cells c e)):=by
 have R1:=R.same hos htp hout hh (λ_=>hdr);have T1:Tk X S m ok w1 T:=⟨hT.nodup,λb hb=>by rw[hh];exact hT.free b hb⟩;have hblk:(w1.alloc (.cells c e)).heap[w.heap.size]? =some (.cells c e (0,0)):=by grind [heap_alloc_new]
 have hold:∀b,b<w.heap.size->(w1.alloc (.cells c e)).heap[b]? =w.heap[b]?:=λb hb=>by
  show(w1.heap.push (.cells c e))[b]? =_
  grind
 refine R1.newK T1 hn hcl hch x8 (by simp[N8,hh]) hnd hO ⟨hel,_,Os,Y4 _ _ _ _,?_,x8⟩;exact⟨xk.arrs (hr.mono (λ_ _ h=>h) (λb t hb=>hold b (R.okLt b t hb)) (λb hb=>hold b (hT.free b (hO b hb)).2.1)) hblk hcap l9 (by simp_all),trivial⟩
theorem VJ(H:FxOk X)(R:Rel X (CB*q) (CB*q+CB) S m ok a w)(hT:Tk X S m ok w T)(hos:w1.os=w.os)(htp:w1.tape=w.tape)(hout:w1.output=w.output)(hh:w1.heap=w.heap)
  {md:M} (hel:md.el=true) {xs:List md.den} {cs:c5x} {Os:List c5y} {e:TypeId} {c:Array Value} {cap:Nat} (hr:xk w.heap ok md xs cs Os) (hnd:Os.flatten.Nodup) (hO:∀b∈Os.flatten,b∈T)
  (hcap:xs.length<=cap) (hfit:cap*md.size<=c.size) (he:c.toList.take (xs.length*md.size)=cs) {w0:World} {m0:Mp} {ok0:Nat->Ty->Prop} (hm:∀k l,m0 k=some l->m k=some l) (hok:∀b t,ok0 b t->ok b t)
  (run:(execOp a.eval o).run X.P w0= .ok (.value (.slice (some ⟨w.heap.size,0,none⟩) xs.length cap)) (w1.alloc (.cells c e)))
  (hdr:w.drawn<=w1.drawn:=by first|exact E5 _|exact eQ _):(uP (J7 q o.dst) (.barrs md xs none) (cu X.E o.dst (.own (J7 q o.dst) none))).post S (λ_ S' =>gV X (CB*q) (CB*q+CB) o a w0 m0 ok0 S'):=by
 refine Ec H λn e1 h1 h2 hn=>?_;rw[←e1];have R' :=RN R hT hos htp hout hh (e:=e) hel hr hnd hO hcap hfit he h1 l9 hn hdr;refine sV H R' (λk l h=>?_) hok ⟨_,Y4 _ _ _ _,rfl⟩ run;by_cases ek:k=n
 .subst ek;have:=R.fresh k h1 hn;simp_all
 simp_all [jl]
theorem a1d(H:FxOk X)(R:Rel X (CB*q) (CB*q+CB) S m ok a w)(hT:Tk X S m ok w T)(hos:w1.os=w.os)(htp:w1.tape=w.tape)(hout:w1.output=w.output)(hh:w1.heap=w.heap)
  {md:M} (hel:md.el=true) {xs:List md.den} {cs:c5x} {Os:List c5y} {e:TypeId} {c:Array Value} {cap:Nat} (hr:xk w.heap ok md xs cs Os) (hnd:Os.flatten.Nodup) (hO:∀b∈Os.flatten,b∈T)
  (hcap:xs.length<=cap) (hfit:cap*md.size<=c.size) (he:c.toList.take (xs.length*md.size)=cs) {w0:World} {m0:Mp} {ok0:Nat->Ty->Prop} (hm:∀k l,m0 k=some l->m k=some l) (hok:∀b t,ok0 b t->ok b t)
  (run:(execOp a.eval o).run X.P w0= .ok (.value (.slice (some ⟨w.heap.size,0,none⟩) xs.length cap)) (w1.alloc (.cells c e)))
  (hdr:w.drawn<=w1.drawn:=by first|exact E5 _|exact eQ _):(uP (J7 q o.dst) (.barrs md xs none) (.set (U4+(MN+J7 q o.dst)) (.blen (x9 xs) md.size) (cu X.E o.dst (.own (J7 q o.dst) none)))).post S (λ_ S' =>gV X (CB*q) (CB*q+CB) o a w0 m0 ok0 S'):=by
 refine a7d H λn e1 h1 h2 hn=>?_;rw[←e1];have R' :=RN R hT hos htp hout hh (e:=e) hel hr hnd hO hcap hfit he h1 l9 hn hdr;refine sV H (R'.mark (Eo _ _ _)) (λk l h=>?_) hok ⟨_,Y4 _ _ _ _,rfl⟩ run;by_cases ek:k=n
 .subst ek;have:=R.fresh k h1 hn;simp_all
 simp_all [jl]
theorem ZR(H:FxOk X)(R:Rel X (CB*q) (CB*q+CB) S m ok a w){t:TypeId}{l c:Operand}(ho:o.op= .makeSlice t l c):(aQ X.E q o).post S (λ_ S' =>gV X (CB*q) (CB*q+CB) o a w m ok S'):=by
 unfold aQ;simp[ho];split
 .rename_i md hom;split<;>try trivial
  rename_i e u het;obtain⟨j,z,inf,hu,hj,h1,h2,h3,h4,h5,h6⟩:=yS H het;have hz:=bV h6;refine Z8 R λv hv=>?_;split<;>try trivial
  rename_i k n;refine U5 λhc=>?_;simp only[D5]at hc;obtain⟨⟨hs,hsz⟩,hza⟩:=hc;split<;>try trivial
  rename_i hel;obtain⟨hel,rfl⟩:=hel;refine bz λxs hxs=>?_;have hec:a.eval c=a.eval l:=by unfold Wx at hs<;>grind [Nat.eq_of_beq_eq_true]
  unfold Ny at hxs;split at hxs
  .rename_i hh;cases hxs;have e1:=tZ hv;have hms:=M.ty_size hel;have hby:(inf.bytes:Int)*n<=65536*1073741824:=by
    have:inf.bytes*n.toNat<=65536*1073741824:=Nat.mul_le_mul h4 l9
    grind
   have hrun:=run_make w t e inf z hu h1 h5 k k n n hh.1 (xy _) l9 l9;have hflat:=JC z.cells n.toNat
   have hzero:lS w.heap ok md none (md.zero hel) z.cells.toList []:=by
    unfold a6p at hza;rw[het]at hza;simp at hza;cases hj2:bZ X.E.tt e with
    |none=>simp_all|some j2=>
     rw[hj2]at hza;simp only at hza;cases hb:Nat.beq j2.zero.length j2.size<;>rw[hb]at hza
     .grind
     .obtain⟨inf2,a1,a2,a3,a4,a5⟩:=(H.tt e j2 hj2).info;rw[h1]at a1;cases a1;obtain⟨z2,b1,b2⟩:=a4 (fZ hb);rw[h5]at b1;cases b1;exact WY md hel (r:=[]) (Yz (C:=⟨w.heap,ok,m⟩) h6) (by simpa using b2) hza
   refine a1d H R Tk.nil rfl rfl rfl rfl (c:=madeCells z.cells (n.toNat*inf.size)) (cap:=n.toNat) (e:=e) hel (xk.rep_all hzero _) x8 x8 x8 (by simp[size_madeCells,h2,hms]) ?_ (λ_ _ h=>h) (λ_ _ h=>h) ?_<;>simp_all [aH,execOp]
  grind
 split<;>try trivial
 rename_i e u het;obtain⟨j,z,inf,hu,hj,h1,h2,h3,h4,h5,h6⟩:=yS H het;have hz:=bV h6;have key:∀{k k' :IntKind} {n n' :Int},a.eval l= .int k n->a.eval c= .int k' n' ->0<=n->n<=n' ->n' <=1073741824->
   (uP (J7 q o.dst) (.barr u (List.replicate n.toNat u.zero)) (cu X.E o.dst (.own (J7 q o.dst) none))).post S (λ_ S' =>gV X (CB*q) (CB*q+CB) o a w m ok S'):=λ{k k' n n'} e1 e2 g0 g1 g2=>by
  have hby:(inf.bytes:Int)*n' <=65536*1073741824:=by
   have:inf.bytes*n'.toNat<=65536*1073741824:=Nat.mul_le_mul h4 l9
   grind
  have hrun:=run_make w t e inf z hu h1 h5 k k' n n' g0 g1 l9 l9;have hflat:=JC z.cells n'.toNat
  have hzs:z.cells.size=u.size:=l9;refine La H R rfl rfl rfl rfl (GX het) (c:=madeCells z.cells (n'.toNat*inf.size)) (cap:=n'.toNat) (e:=e) (dN.rep_all (Yz (C:=⟨w.heap,ok,m⟩) h6) _) (by grind) (by grind [size_madeCells]) ?_ (λ_ _ h=>h) (λ_ _ h=>h) (.inl rfl) ?_
  .rw[h2,←hzs,hflat];have:n'.toNat=n.toNat+(n'.toNat -n.toNat):=l9;rw[this,←List.replicate_append_replicate,nO,ik x8,aH x8]
  simp_all [execOp]
 refine Z8 R λv hv=>?_;split<;>try trivial
 rename_i k n;cases hs:Wx l c
 .refine Z8 R λv' hv' =>?_;split<;>try trivial
  rename_i k' n';refine⟨λhr=>bz λxs hxs=>?_,λ_=>trivial⟩;have hr' :=of_decide_eq_true (show decide (0<=n/\n<=n' /\n' <=1073741824)=true from hr);unfold Ny at hxs;split at hxs
  .cases hxs;exact key (tZ hv) (tZ hv') hr'.1 hr'.2.1 hr'.2.2
  omega
 .refine bz λxs hxs=>?_;have hec:a.eval c=a.eval l:=by
   unfold Wx at hs<;>grind [Nat.eq_of_beq_eq_true]
  unfold Ny at hxs;split at hxs
  .rename_i hh;cases hxs;exact key (tZ hv) (hec.trans (tZ hv)) hh.1 (xy _) hh.2
  grind
end
end Go.GP
namespace Go.GP
theorem FX:∀(vs:c5x) (k off:Nat) (cs:Array Value),off+k+vs.length<=cs.size->
  (vs.zipIdx k).foldl (λcs (x:Value×Nat)=>cs.setIfInBounds (off+x.2) x.1) cs=(aU (off+k) vs cs.toList).toArray
 |[],k,off,cs,h=>by simp[aU]|v::vs,k,off,cs,h=>by
  simp;rw[FX vs (k+1) off (cs.setIfInBounds (off+k) v) (by grind)];congr 1;apply aS;intro i;rw[uU (by grind),uU l9]
  grind
theorem R_(v:Value)(off:Nat)(cs:Array Value)(h:off+v.cells.size<=cs.size):
  v.cells.zipIdx.foldl (λcs (c,j)=>cs.setIfInBounds (off+j) c) cs=(aU off v.cells.toList cs.toList).toArray:=by
 have:=FX v.cells.toList 0 off cs l9
 grind [Array.toList_zipIdx]
theorem Qs{place:Nat->Option (Nat×Nat)}{cs:Array Value}{i off size:Nat}{v:Value}{rest:List (Nat×Value)}(hp:place i=some (off,size))(hs:v.cells.size=size)(hf:off+v.cells.size<=cs.size):
  Instr.fill place cs ((i,v)::rest)=Instr.fill place (aU off v.cells.toList cs.toList).toArray rest:=by
 simp only[Instr.fill,hp];rw[if_neg (by simp_all),R_ v off cs hf]
theorem UV{size:Nat} :∀(vs:c5x) (n:Nat) (cs:Array Value),(∀v∈vs,v.cells.size=size)->cs.size=(n+vs.length)*size->
  Instr.fill (λi=>some (i*size,size)) cs ((List.range' n vs.length).zip vs)=some (cs.toList.take (n*size)++vs.flatMap (λv=>v.cells.toList)).toArray
 |[],n,cs,_,h=>by simp only[F6,jO]at h;have:cs.toList.take (n*size)=cs.toList:=aH (by rw[←h];exact E5 _);simp[Instr.fill,this]|v::vs,n,cs,hv,h=>by
  have h1:=hv v x8;simp only[A8]at h;have e1:(n+(vs.length+1))*size=n*size+size+vs.length*size:=by grind
  simp only[A8,mO,iV];rw[Qs (off:=n*size) (size:=size) rfl h1 l9];rw[UV vs (n+1) _ (λu hu=>hv u (by grind)) (by
   grind [vO])]
  grind [aU,List.take_of_length_le]
theorem JZ{P:Program}{w:World}{t e:TypeId}{inf:TypeInfo}{z:Value}{n sz:Nat}{parts:Array (Nat×Value)}{F:Array Value}(hu:P.underlying t=some (.slice e))(hi:P.info? e=some inf)(hs:inf.size=sz)(hz:inf.zero=some z)
  (hle:n*sz<=16777216) (hf:∀cs:Array Value,cs.size=n*sz->Instr.fill (λi=>some (i*sz,sz)) cs parts.toList=some F):
  (Instr.buildSlice t n parts).run P w= .ok (.slice (some ⟨w.heap.size,0,none⟩) n n) (w.alloc (.cells F e)):=by
 subst hs;have hsz:(sizeOf e).run P w= .ok inf.size w:=by simp[sizeOf,typeInfo,hi]
 have hnle:¬(n*inf.size>2^24):=l9;unfold Instr.buildSlice;simp[J9,run_underlying hu,L8,hsz,if_neg hnle];simp_all [newRow,zeroValue,typeInfo]
variable {t:TypeId}
section
variable {X:Fx} {cl ch:Nat} {S:Sm} {m:Mp} {ok:Nat->Ty->Prop} {a:Act} {w:World} {o:Oper}
theorem IB{α:Type}{Q:α->Sm->Prop}(u:Ty):∀(is:c5y) (vs:List V) {us:c5x} (n k:Nat) {K:List u.den->Cmd α} {S:Sm} {ok:Nat->Ty->Prop} (R:Rel X cl ch S m ok a w) (hl:is.length=us.length)
  (hv:jk ⟨w.heap,ok,m⟩ vs us)
  (hK:∀S' ok' xs,Rel X cl ch S' m ok' a w->(∀b t,ok b t->ok' b t)->us.length=k->is=List.range' n us.length->(∀v∈us,v.cells.size=u.size)->xs.length=us.length->dN w.heap ok' u xs (us.flatMap λv=>v.cells.toList)->(K xs).post S' Q),
  (MQ u (is.zip vs) n k K).post S Q
 |[],vs,us,n,k,K,S,ok,R,hl,hv,hK=>by
  have:us=[]:=by cases us<;>simp at hl ⊢
  subst this;cases k with
  |zero=>exact hK S ok [] R (λ_ _ h=>h) rfl rfl x8 rfl dN.nil|succ k=>trivial
 |i::is,vs,us,n,k,K,S,ok,R,hl,hv,hK=>by
  cases us with
  |nil=>simp at hl|cons x us=>
  cases vs with
  |nil=>simp[jk]at hv|cons v vs=>
  obtain⟨x',r,e,h1,h2⟩:=hv;cases k with
  |zero=>trivial|succ k=>
  refine aX λhi=>rq h1 λcs hcs=>?_;have hi' :=fZ hi;subst hi';refine Bc u R Tk.nil hcs λS1 ok1 y q ws ws' R1 T1 k1 s1 e1 g1 l1=>?_;cases q with
  |cons _ _=>trivial|nil=>
  subst l1;refine IB u is vs (i+1) k R1 (by simp_all) (JU k1 h2) λS2 ok2 ys R2 k2 c1 c2 c3 c4 c5=>?_;refine hK S2 ok2 (y::ys) R2 (λb t h=>k2 b t (k1 b t h)) (by grind) ?_ ?_ (by grind) ?_
  .grind [List.range'_succ]
  .intro z hz;rcases D7.1 hz with rfl|hz
   .have:=bV g1;grind
   simp_all
  .have:=(dN.one (dm k2 (λ_ _ _=>rfl) g1)).append c5;simp_all
theorem FN{α:Type}{Q:α->Sm->Prop}(md:M):∀(is:c5y) (vs:List V) {us:c5x} (n k:Nat) {K:List md.den->Cmd α} {S:Sm} {ok:Nat->Ty->Prop} {T:c5y} (R:Rel X cl ch S m ok a w) (hT:Tk X S m ok w T) (hl:is.length=us.length)
  (hv:jk ⟨w.heap,ok,m⟩ vs us)
  (hK:∀S' ok' xs Os,Rel X cl ch S' m ok' a w->Tk X S' m ok' w (T++Os.flatten)->(∀b t,ok b t->ok' b t)->us.length=k->is=List.range' n us.length->(∀v∈us,v.cells.size=md.size)->xs.length=us.length->xk w.heap ok' md xs (us.flatMap λv=>v.cells.toList) Os->(K xs).post S' Q),
  (Jb md (is.zip vs) n k K).post S Q
 |[],vs,us,n,k,K,S,ok,T,R,hT,hl,hv,hK=>by
  have:us=[]:=by cases us<;>simp at hl ⊢
  subst this;cases k with
  |zero=>exact hK S ok [] [] R (by simpa using hT) (λ_ _ h=>h) rfl rfl x8 rfl xk.nil|succ k=>trivial
 |i::is,vs,us,n,k,K,S,ok,T,R,hT,hl,hv,hK=>by
  cases us with
  |nil=>simp at hl|cons x us=>
  cases vs with
  |nil=>simp[jk]at hv|cons v vs=>
  obtain⟨x',r,e,h1,h2⟩:=hv;obtain⟨rfl,rfl⟩:=e;cases k with
  |zero=>trivial|succ k=>
  refine U5 λhi=>rq h1 λcs hcs=>?_;have hi' :=fZ hi;subst hi';refine DN md R hT hcs λS1 ok1 y q ws ws' O R1 T1 k1 s1 e1 g1 l1=>?_;cases q with
  |cons _ _=>trivial|nil=>
  subst l1;refine FN md is vs (i+1) k R1 T1 (by simpa using hl) (JU k1 h2) λS2 ok2 ys Os R2 T2 k2 c1 c2 c3 c4 c5=>?_;refine hK S2 ok2 (y::ys) (O::Os) R2 (by simpa[E8]using T2) (λb t h=>k2 b t (k1 b t h)) (by simp[c1]) ?_ ?_ (by simp[c4]) ?_
  .simp[mO,c2]
  .intro z hz;rcases D7.1 hz with rfl|hz
   .have:=aG g1;grind
   simp_all
  .have:=(xk.one (gZ k2 (λ_ _ _=>rfl) (λ_ _=>rfl) g1)).append c5;simp_all
theorem Xo(H:FxOk X){q:Nat}(R:Rel X (CB*q) (CB*q+CB) S m ok a w){n:Nat}{ps:Array (Nat×Operand)}(ho:o.op= .buildSlice t n ps):(aQ X.E q o).post S (λ_ S' =>gV X (CB*q) (CB*q+CB) o a w m ok S'):=by
 unfold aQ;simp only[ho];split<;>try trivial
 rename_i e u het;obtain⟨j,z,inf,hu,hj,h1,h2,h3,h4,h5,h6⟩:=yS H het;have hz:=bV h6;refine aX λhle=>kM R _ λvs hvs=>?_;have hle' :n*u.size<=16777216:=S9 hle;split
 rotate_left
 .rename_i md hom;refine U5 λhc=>?_;simp only[D5]at hc;have hms:=fZ hc.1;refine FN md _ vs 0 n (T:=[]) R Tk.nil x8 hvs λS' ok' xs Os R' T' k c1 c2 c3 c4 c5=>?_;rw[G8]at T';simp only[jd]at c1 c2;have hparts:(ps.map λ(i,x)=>(i,a.eval x)).toList=(List.range' 0 ((ps.toList.map (·.2)).map a.eval).length).zip ((ps.toList.map (·.2)).map a.eval):=by
   grind [Array.toList_map]
  have hxl:xs.length=n:=by simp_all
  have hflat:=c5.1;have hcl:((ps.toList.map (·.2)).map a.eval).length=n:=l9;have hfill:∀cs:Array Value,cs.size=n*u.size->Instr.fill (λi=>some (i*u.size,u.size)) cs (ps.map λ(i,x)=>(i,a.eval x)).toList=some ((((ps.toList.map (·.2)).map a.eval).flatMap λv=>v.cells.toList)).toArray:=λcs hcs=>by rw[hparts,UV _ 0 cs (by grind) (by simp_all)];simp
  refine VJ (w1:=w) (e:=e) (cap:=xs.length) H R' T' rfl rfl rfl rfl hc.2 c5 T'.nodup (λ_ h=>h) (E5 _) (by simp_all) (c:=((((ps.toList.map (·.2)).map a.eval).flatMap λv=>v.cells.toList)).toArray) (aH (by simp_all)) (λ_ _ h=>h) k ?_;have hrun:=JZ (w:=w) (n:=n) hu h1 h2 h5 hle' hfill;simp_all [execOp]
 refine IB u _ vs 0 n R x8 hvs λS' ok' xs R' k c1 c2 c3 c4 c5=>?_;have hsz:(sizeOf e).run X.P w= .ok u.size w:=by simp_all [sizeOf,typeInfo]
 simp only[jd]at c1 c2;have hparts:(ps.map λ(i,x)=>(i,a.eval x)).toList=(List.range' 0 ((ps.toList.map (·.2)).map a.eval).length).zip ((ps.toList.map (·.2)).map a.eval):=by
  grind [Array.toList_map]
 have hxl:xs.length=n:=by simp_all
 have hflat:=c5.1;have hcl:((ps.toList.map (·.2)).map a.eval).length=n:=l9;have hfill:∀cs:Array Value,cs.size=n*u.size->Instr.fill (λi=>some (i*u.size,u.size)) cs (ps.map λ(i,x)=>(i,a.eval x)).toList=some ((((ps.toList.map (·.2)).map a.eval).flatMap λv=>v.cells.toList)).toArray:=λcs hcs=>by rw[hparts,UV _ 0 cs c3 (by simp_all)];simp
 refine La (w1:=w) (e:=e) (cap:=xs.length) H R' rfl rfl rfl rfl (GX het) c5 (E5 _) (by simp_all) (c:=((((ps.toList.map (·.2)).map a.eval).flatMap λv=>v.cells.toList)).toArray) (aH (by simp_all)) (λ_ _ h=>h) k (.inl rfl) ?_;have hrun:=JZ (w:=w) (n:=n) hu h1 h2 h5 hle' hfill;simp_all [execOp]
theorem Ul{E:Env} :∀{fs:List (Nat×Nat)},a4E E fs=true->∀p∈fs,∃i,bZ E.tt p.1=some i
 |[],_,p,hp=>by grind|(t,o)::r,h,p,hp=>by
  unfold a4E at h;cases hi:bZ E.tt t with
  |none=>simp[hi]at h|some i=>
   simp[hi]at h;rcases D7.1 hp with rfl|hp
   .exact⟨i,hi⟩
   .exact Ul h p hp
def VR(P:Program)(fields:Array Field):List (Nat×Nat):=fields.toList.map λf=>(f.offset,((P.info? f.type).map (·.size)).getD 0)
theorem RY{P:Program} :∀(fs:List Field),(∀f∈fs,∃i,P.info? f.type=some i)->
  fs.mapM (λf=>(P.info? f.type).map λi=>(f.offset,i.size))=some (fs.map λf=>(f.offset,((P.info? f.type).map (·.size)).getD 0))
 |[],_=>by simp|f::fs,h=>by
  obtain⟨i,hi⟩:=h f x8;rw[List.mapM_cons,RY fs (λg hg=>h g (by grind))]
  grind
theorem Gw{α:Type}{Q:α->Sm->Prop}(H:FxOk X){t:Nat}{fields:Array Field}(hu:X.P.underlying t=some (.struct fields)):
  ∀(is:c5y) (vs:List V) {us:c5x} {cs:List V} {arr:Array Value} {K:List V->Cmd α} (hl:is.length=us.length) (hv:jk ⟨w.heap,ok,m⟩ vs us) (hc:fU ⟨w.heap,ok,m⟩ cs arr.toList)
  (hK:∀cs' arr',Instr.fill ((VR X.P fields).toArray[·]?) arr (is.zip us)=some arr' ->fU ⟨w.heap,ok,m⟩ cs' arr'.toList->(K cs').post S Q),(BM X.E t (is.zip vs) cs K).post S Q
 |[],vs,us,cs,arr,K,hl,hv,hc,hK=>by simp_all [BM,Instr.fill]|i::is,vs,us,cs,arr,K,hl,hv,hc,hK=>by
  cases us with
  |nil=>simp_all|cons x us=>
  cases vs with
  |nil=>grind [jk]|cons v vs=>
  obtain⟨x',r,e,h1,h2⟩:=hv;obtain⟨rfl,rfl⟩:=e;simp;unfold BM;split<;>try trivial
  rename_i off n ag hf;obtain⟨fields',fld,j,hu',hfl,hoff,hj,hn,hn0,_⟩:=Fa H hf;rw[hu]at hu';obtain⟨inf,i1,i2,_⟩:=hj.info;refine rq h1 λws hws=>aX λhb=>yZ off ws cs λhle=>?_;have hL:=gX hc;have hLw:=gX hws;have hxs:x.cells.size=n:=by simp_all
  have hpl:((VR X.P fields).toArray[i]?)=some (off,n):=by simp_all [VR]
  refine Gw H hu is vs (arr:=(aU off x.cells.toList arr.toList).toArray) (by simp_all) h2 (by simp_all [zg]) λcs' arr' hfill hrel=>?_;refine hK cs' arr' ?_ hrel;rw[iV,Qs hpl hxs (by simp_all)];omega
theorem LU{α:Type}{Q:α->Sm->Prop}{sz:Nat} :
  ∀(is:c5y) (vs:List V) {us:c5x} {cs:List V} {arr:Array Value} {K:List V->Cmd α} (hl:is.length=us.length) (hv:jk ⟨w.heap,ok,m⟩ vs us) (hc:fU ⟨w.heap,ok,m⟩ cs arr.toList)
  (hK:∀cs' arr',Instr.fill (λi=>some (i*sz,sz)) arr (is.zip us)=some arr' ->fU ⟨w.heap,ok,m⟩ cs' arr'.toList->(K cs').post S Q),(Oj sz (is.zip vs) cs K).post S Q
 |[],vs,us,cs,arr,K,hl,hv,hc,hK=>by simp_all [Oj,Instr.fill]|i::is,vs,us,cs,arr,K,hl,hv,hc,hK=>by
  cases us with
  |nil=>simp_all|cons x us=>
  cases vs with
  |nil=>grind [jk]|cons v vs=>
  obtain⟨x',r,e,h1,h2⟩:=hv;obtain⟨rfl,rfl⟩:=e;refine rq h1 λws hws=>aX λhb=>yZ (i*sz) ws cs λhle=>?_;have hL:=gX hc;have hLw:=gX hws;have hxs:x.cells.size=sz:=by simp_all
  refine LU is vs (arr:=(aU (i*sz) x.cells.toList arr.toList).toArray) (by simp_all) h2 (by simp_all [zg]) λcs' arr' hfill hrel=>?_;refine hK cs' arr' ?_ hrel;rw[iV,Qs rfl hxs (by simp_all)];omega
theorem a9A(H:FxOk X)(R:Rel X cl ch S m ok a w){ps:Array (Nat×Operand)}{q:Nat}(ho:o.op= .build t ps):(aQ X.E q o).post S (λ_ S' =>gV X cl ch o a w m ok S'):=by
 unfold aQ;simp[ho];refine jG H λi hi=>?_;split<;>try trivial
 case h_2=>
  rename_i n e htd';have htd:=hi.td;rw[htd']at htd;refine jG H λj hj=>aX λhb=>kM R _ λvs hvs=>?_;obtain⟨inf,h1,h2,h3,h4,h5⟩:=hi.info;obtain⟨ine,e1,e2,_⟩:=hj.info;obtain⟨z,hz1,hz2⟩:=h4 (fZ hb);refine LU _ vs x8 hvs (Ii hz2) λcs' arr' hfill hrel=>?_;refine Y5 H R ⟨arr',rfl,hrel⟩ ?_;have hparts:(ps.map λ(i,x)=>(i,a.eval x)).toList=(ps.toList.map (·.1)).zip ((ps.toList.map (·.2)).map a.eval):=by simp[List.zip_map']
  have hbuilt:X.P.built t (ps.map λ(i,x)=>(i,a.eval x)).toList=some arr' :=by unfold Program.built;simp[h1,show X.P.underlying t=some (.array n e)from htd,hz1,e1];simp_all
  simp_all [run_build,execOp]
 rename_i fs htd';have htd:=hi.td;rw[htd']at htd;obtain⟨fields,hu,hfs⟩:=htd;refine aX λhb=>kM R _ λvs hvs=>?_;simp only[D5]at hb;obtain⟨inf,h1,h2,h3,h4,h5⟩:=hi.info;obtain⟨z,hz1,hz2⟩:=h4 (fZ hb.2);refine Gw H hu _ vs x8 hvs (Ii hz2) λcs' arr' hfill hrel=>?_;refine Y5 H R ⟨arr',rfl,hrel⟩ ?_;have hparts:(ps.map λ(i,x)=>(i,a.eval x)).toList=(ps.toList.map (·.1)).zip ((ps.toList.map (·.2)).map a.eval):=by simp[List.zip_map']
 have hmap:=RY (P:=X.P) fields.toList (λf hf=>by obtain⟨i',hi'⟩:=Ul hb.1 (f.type,f.offset) (by grind);obtain⟨inf',q1,_⟩:=(H.tt _ _ hi').info<;>simp_all)
 have hbuilt:X.P.built t (ps.map λ(i,x)=>(i,a.eval x)).toList=some arr' :=by unfold Program.built;simp only[h1,hu,hz1,hmap];rw[hparts];exact hfill
 simp_all [run_build,execOp]
end
end Go.GP
namespace Go.GP
def Du(h:Array Obj)(sz:Nat)(v:Value)(n:Nat)(es:c5x):Prop:=
 es.length=n*sz/\((n=0/\∃ad cap,v= .slice ad 0 cap)\/(∃blk off cap,v= .slice (some ⟨blk,off,none⟩) n cap/\0<n/\bW h blk off (n*sz)=some es)\/∃b:ByteArray,v= .string b/\n=b.size/\es=Lib.strCells b)
variable {v:Value}{h:Array Obj}
theorem b3C{ok:Nat->Ty->Prop}{t:Ty}{ys:List t.den}(ht:t.isEnt=false)(hr:kZ h ok (.sl t) ys [v]):∃es,Du h t.size v ys.length es/\dN h ok t ys es:=by
 obtain⟨ad,cap,e,hc,hel⟩:=(yL ht).1 hr;simp[H8,and_true]at e;subst e;rcases iW ys.length with h0|h0
 .have:=aZ.1 h0;subst this;exact⟨[],⟨x8,.inl ⟨rfl,ad,cap,rfl⟩⟩,dN.nil⟩
 .obtain⟨y,hy⟩:∃y,ys[ys.length -1]? =some y:=by
   refine⟨ys[ys.length -1]'l9,?_⟩<;>grind
  obtain⟨blk,off,es,rfl,hok,he,hr⟩:=hel _ y hy;obtain⟨c,T,f,hb,hn,_⟩:=qw he;have hle:off+ys.length*t.size<=c.size:=by
   have:ys.length*t.size=(ys.length -1)*t.size+t.size:=by
    conv=>lhs;rw[show ys.length=(ys.length -1)+1 by omega,V4,Nat.one_mul]
   omega
  refine⟨(c.toList.drop off).take (ys.length*t.size),⟨by grind,.inr (.inl ⟨blk,off,cap,rfl,h0,jH hb _ _ hle⟩)⟩,by grind,λi x hi=>?_⟩;obtain⟨blk',off',es',ha',hok',he',hr'⟩:=hel i x hi;obtain⟨rfl,rfl⟩:=ha';obtain⟨c',T',f',hb',hn',rfl⟩:=qw he';rw[hb]at hb';cases hb';have hlt:=(aJ.1 hi).1;have hle2:(i+1)*t.size<=ys.length*t.size:=F8 _ l9
  grind [List.drop_take,List.drop_drop]
variable {C:Cx}{l:Loc}
theorem WU{t:Ty}{xs:List t.den}(ht:t.isEnt=false)(ha:arrOk C t xs l)(hv:l.view none v):∃es,Du C.h t.size v xs.length es/\dN C.h C.ok t xs es:=by
 cases l with
 |st b=>cases ha|mp b=>exact absurd ha.1 (by grind)|nil=>obtain⟨ha,_⟩:=ha;subst ha;subst hv;exact⟨[],⟨x8,.inl ⟨rfl,none,0,rfl⟩⟩,dN.nil⟩
 |arr blk off len cap sz=>
  obtain⟨c,T,f,hb,hz,rfl,rfl,hc,hf,hr⟩:=XG ha;subst hv;have hle:xs.length*t.size<=cap*t.size:=F8 _ hc;refine⟨_,⟨hr.1,?_⟩,hr⟩;rcases iW xs.length with h0|h0
  .simp_all
  .exact .inr (.inl ⟨blk,off,cap,rfl,h0,jH hb _ _ l9⟩)
variable {P:Program}{es:c5x}
theorem wH{w w' :World}{sz n:Nat}(h:Du w.heap sz v n es)(hh:w'.heap=w.heap):(Builtin.firstCells sz n v).run P w' = .ok es.toArray w' :=by
 obtain⟨hl,h⟩:=h;rcases h with⟨rfl,ad,cap,rfl⟩|⟨blk,off,cap,rfl,hn,hc⟩|⟨b,rfl,rfl,rfl⟩
 .have:es=[]:=aZ.1 l9;subst this;cases ad with
  |none=>simp[Builtin.firstCells]|some b=>
   grind [run_loadCells_list,Builtin.firstCells]
 .refine run_firstCells_some w' sz n _ _ cap es hl λj u hu=>?_;rw[jL];exact xZ (by rw[hh];omega) hu
 .simp[Lib.run_firstCells_string]
theorem Du.lenOf{sz n:Nat}(hs:Du h sz v n es)(w:World):(Builtin.lenOf v).run P w= .ok n w:=by rcases hs.2 with⟨rfl,ad,cap,rfl⟩|⟨blk,off,cap,rfl,hn,hc⟩|⟨b,rfl,rfl,rfl⟩<;>rfl
section runs
variable {P:Program} {w:World} {t ty e:TypeId} {i:TypeInfo} {z:Value}
theorem MI(ht:P.underlying t=some (.slice e))(hi:P.info? e=some i){blk off len cap n:Nat}{c:Array Value}{T:TypeId}{f:Nat×Nat}(hb:w.heap[blk]? =some (.cells c T f))(hz:f=(0,0)\/f=(c.size,c.size+1))(hv:Du w.heap i.size v n es)
  (h1:∀u∈es,u.oneCell' =true) (hroom:len+n<=cap) (hfit:off+cap*i.size<=c.size):
  (Builtin.append_ #[t,t] ty #[.slice (some ⟨blk,off,none⟩) len cap,v]).run P w= .ok (.slice (some ⟨blk,off,none⟩) (len+n) cap) (w.setRow blk (aU (off+len*i.size) es c.toList).toArray):=by
 have hle:(len+n)*i.size<=cap*i.size:=F8 _ hroom;rw[V4,←hv.1]at hle;have hf:=wH (P:=P) hv rfl;have hst:=AZ (P:=P) blk (off+len*i.size) T es 0 c f w hb hz l9 h1;simp[Builtin.append_,run_underlying ht,sizeOf,typeInfo,hi,hv.lenOf,hroom,hf,jL,hst,aU]
theorem IP(ht:P.underlying t=some (.slice e))(hi:P.info? e=some i)(hv:Du w.heap i.size v 0 es):
  (Builtin.append_ #[t,t] ty #[.slice none 0 0,v]).run P w= .ok (.slice none 0 0) w:=by
 have hf:=wH (P:=P) hv rfl;simp[Builtin.append_,run_underlying ht,sizeOf,typeInfo,hi,hv.lenOf,hf]
theorem JY(ht:P.underlying t=some (.slice e))(hi:P.info? e=some i)(hz:i.zero=some z)(hby:i.bytes<=65536){s v:Value}{sAd:Option Addr}{len cap n:Nat}{olds es:c5x}(hse:s= .slice sAd len cap)
  (hs:Du w.heap i.size s len olds) (hv:Du w.heap i.size v n es) (hg:cap<len+n) (hmax:len+n<=1073741824):
  (Builtin.append_ #[t,t] ty #[s,v]).run P w= .ok (.slice (some ⟨w.heap.size,0,none⟩) (len+n) (grownCap w (len+n) cap e))
   (w.drew.alloc (.cells ((olds++es).toArray++Builtin.zeroCells z.cells (grownCap w (len+n) cap e -(len+n))) e)):=by
 subst hse;have hn:=l9;have h63' :=l9;have hb2:=Nat.mul_le_mul hmax hby;have h48' :=by have:=growslice_fits hg (show(len+n)*i.bytes<=140737488355328 by omega);omega
 have hf:=wH (P:=P) (w' :=w.drew) hv rfl;have hfo:=wH (P:=P) (w' :=w.drew) hs rfl;simp[Builtin.append_,run_underlying ht,sizeOf,typeInfo,zeroValue,hi,hz,hv.lenOf,hn,h63',h48',Question.forced,hf,hfo,newRow,grownCap]
 grind
end runs
variable {q:Nat}{t:TypeId}{α:Type}{u:Ty}{e:TypeId}{z:Value}{Q:α->Sm->Prop}{inf:TypeInfo}{x:Operand}
section
variable {X:Fx} {cl ch:Nat} {S:Sm} {m:Mp} {ok:Nat->Ty->Prop} {a:Act} {w:World} {o:Oper}
theorem Xv(R:Rel X cl ch S m ok a w)(ht:u.isEnt=false){y:V}{vy:Value}{K:List u.den->Cmd α}(hy:kU ⟨w.heap,ok,m⟩ y vy)
  (hK:∀ys es,Du w.heap u.size vy ys.length es->dN w.heap ok u ys es->(K ys).post S Q):(a7v u y K).post S Q:=by
 unfold a7v;split<;>try trivial
 .have hy' :=hy;subst hy';simp[ht,cond_false];exact hK [] [] ⟨x8,.inl ⟨rfl,none,0,rfl⟩⟩ dN.nil
 .obtain⟨ad,c,rfl,_⟩:=(show ∃a c,vy=Value.slice a 0 c/\a.isNone=_ from hy);simp[ht,cond_false];exact hK [] [] ⟨x8,.inl ⟨rfl,ad,c,rfl⟩⟩ dN.nil
 .rename_i t' xs;refine eH λe=>?_;subst e;obtain⟨es,h1,h2⟩:=b3C ht (show kZ w.heap ok (.sl t') xs [vy]from hy)<;>grind
 .obtain⟨l,hm,hv⟩:=hy;refine X3 ?_;split<;>try trivial
  .rename_i t' xs hS;obtain⟨l',hm',ha⟩:=R.own_arr hS;rw[hm]at hm';cases hm';refine eH λe=>?_;obtain⟨a1,a2,_⟩:=GI ha hv<;>grind [WU]
  .rename_i t' xs hS;obtain⟨l',hm',ha,_⟩:=R.own_frz hS;rw[hm]at hm';cases hm';refine eH λe=>?_;obtain⟨a1,a2,_⟩:=GI ha hv<;>grind [WU]
theorem Rt{T:c5y}(R:Rel X cl ch S m ok a w)(hT:Tk X S m ok w T){md:M}{y:V}{vy:Value}{K:List md.den->List V->Cmd α}(hy:kU ⟨w.heap,ok,m⟩ y vy)
  (hK:∀S' ok' ys r O,Rel X cl ch S' m ok' a w->Tk X S' m ok' w (T++O)->(∀b t,ok b t->ok' b t)->ay S S' ->lS w.heap ok' (.owns md) none ys [vy] O->(K ys r).post S' Q):
  (exM zu (.owns md) [y] K).post S Q:=by
 have key:rP ⟨w.heap,ok,m⟩ y vy->vy.oneCell' =true->(exM zu (.owns md) [y] K).post S Q:=λh1 h2=>by
  refine DN (.owns md) R hT ⟨vy,[],rfl,h1,h2,rfl⟩ λS' ok' ys r us us' O R' T' k s e hr l=>?_;have:us=[vy]:=by obtain⟨v,e',_⟩:=hr<;>simp_all
  grind
 cases y<;>try (trivial)
 .exact key hy (by have h:=hy;subst h;rfl)
 .refine key hy ?_;obtain⟨l,_,hv⟩:=hy
  grind [kW]
theorem YL{ok:Nat->Ty->Prop}{md:M}{xs:List md.den}{Os:List c5y}(ha:uB h md.size (λ_ x es O=>lS h ok md none x es O) xs Os l)(hv:l.view none v):∃es,Du h md.size v xs.length es/\xk h ok md xs es Os:=by
 cases l with
 |st b=>cases ha|mp b=>cases ha|nil=>obtain⟨rfl,rfl⟩:=ha;subst hv;exact⟨[],⟨x8,.inl ⟨rfl,none,0,rfl⟩⟩,xk.nil⟩
 |arr blk off len cap sz=>
  obtain⟨c,T,hb,rfl,rfl,hc,hf,hr⟩:=a0j ha;subst hv;have hle:xs.length*md.size<=cap*md.size:=F8 _ hc;refine⟨_,⟨hr.1,?_⟩,hr⟩;rcases iW xs.length with h0|h0
  .simp_all
  .exact .inr (.inl ⟨blk,off,cap,rfl,h0,jH hb _ _ l9⟩)
theorem Qz{xs ys zs:List α}(h:iy xs ys=some zs):xs.length+ys.length<=1073741824/\zs=xs++ys:=by simp_all [iy]
theorem KD(z:Array Value)(n:Nat):(Builtin.zeroCells z n).size=n*z.size:=by simp[Builtin.zeroCells]
theorem LM(H:FxOk X)(R:Rel X (CB*q) (CB*q+CB) S m ok a w)(ht:u.isEnt=false){j:TI}(hu:X.P.underlying t=some (.slice e))(h1:X.P.info? e=some inf)(h2:inf.size=u.size)(h4:inf.bytes<=65536)
  (h5:inf.zero=some z) (hz:z.cells.size=u.size) {xs ys:List u.den} {s v:Value} {sAd:Option Addr} {cap:Nat} {olds es:c5x} (hse:s= .slice sAd xs.length cap)
  (hs:Du w.heap u.size s xs.length olds) (hv:Du w.heap u.size v ys.length es) (r1:dN w.heap ok u xs olds) (r2:dN w.heap ok u ys es) (hg:cap<xs.length+ys.length) (hmax:xs.length+ys.length<=1073741824)
  (run:∀r w',(Builtin.append_ #[t,t] o.type #[s,v]).run X.P w= .ok r w' ->(execOp a.eval o).run X.P w= .ok (.value r) w'):
  (uP (J7 q o.dst) (.barr u (xs++ys)) (cu X.E o.dst (.own (J7 q o.dst) none))).post S (λ_ S' =>gV X (CB*q) (CB*q+CB) o a w m ok S'):=by
 have hrun:=JY (ty:=o.type) hu h1 h5 h4 hse (by rw[h2];omega) (by rw[h2];omega) hg hmax;have hge:=grownCap_ge w (xs.length+ys.length) cap e;have r:=r1.append r2;rw[←A7]at hrun hge;refine La H R (w1:=w.drew) rfl rfl rfl rfl ht r hge ?_ ?_ (λ_ _ h=>h) (λ_ _ h=>h) (.inl rfl) (run _ _ hrun)
 .have hl:=r.1;simp[Array.size_append,jr,hl,KD,hz,←V4];simp_all
 .have hl:=r.1
  grind
theorem LP(H:FxOk X)(R:Rel X (CB*q) (CB*q+CB) S m ok a w)(ht:u.isEnt=false)(hu:X.P.underlying t=some (.slice e))(h1:X.P.info? e=some inf)(h2:inf.size=u.size)(h4:inf.bytes<=65536)
  (h5:inf.zero=some z) (hz:z.cells.size=u.size) {ys:List u.den} {s v:Value} {es:c5x} (hse:s= .slice none 0 0)
  (hv:Du w.heap u.size v ys.length es) (r2:dN w.heap ok u ys es) (hmax:ys.length<=1073741824)
  (run:∀r w',(Builtin.append_ #[t,t] o.type #[s,v]).run X.P w= .ok r w' ->(execOp a.eval o).run X.P w= .ok (.value r) w'):
  (uP (J7 q o.dst) (.barr u ys) (cu X.E o.dst (.own (J7 q o.dst) none))).post S (λ_ S' =>gV X (CB*q) (CB*q+CB) o a w m ok S'):=by
 rcases iW ys.length with h0|h0
 .have hy:=aZ.1 h0;subst hy;have hrun:=IP (ty:=o.type) hu h1 (by rw[h2];omega);rw[←hse]at hrun;refine Ec H λn e1 g1 g2 hn=>?_;rw[←e1];generalize CB*q=Z at*;have R' :Rel X Z (Z+CB) (upd S (U4+n) (.barr u [])) (nJ m n .nil []) ok a w:=by
   refine R.lay hn g1 l9 x8 rfl rfl rfl (E5 _) (λ_ _ _=>rfl) (by simp[N8]) (λb hb=>by simp[N8]at hb) ⟨.nil,Y4 _ _ _ _,rfl,ht⟩
  refine sV H R' (λk l h=>?_) (λ_ _ h=>h) ⟨.nil,Y4 _ _ _ _,hse⟩ (run _ _ hrun);by_cases ek:k=n
  .subst ek;have:=R.fresh k g1 hn;simp_all
  simp_all [jl]
 .have:=LM (j:=⟨0,0,.bool,none,[]⟩) H R ht hu h1 h2 h4 h5 hz hse ⟨x8,.inl ⟨rfl,none,0,hse⟩⟩ hv dN.nil r2 l9 (by simp_all) run;simp_all
theorem a2q(H:FxOk X)(R:Rel X (CB*q) (CB*q+CB) S m ok a w){md:M}{j:TI}(hu:X.P.underlying t=some (.slice e))(h1:X.P.info? e=some inf)(h2:inf.size=md.size)(h4:inf.bytes<=65536)
  (h5:inf.zero=some z) (hz:z.cells.size=md.size) {x y:V} {s v:Value} (hx:kU ⟨w.heap,ok,m⟩ x s) (hy:kU ⟨w.heap,ok,m⟩ y v)
  (run:∀r w',(Builtin.append_ #[t,t] o.type #[s,v]).run X.P w= .ok r w' ->(execOp a.eval o).run X.P w= .ok (.value r) w'):
  (exM zu (.owns md) [y] λys _=>exM zu (.owns md) [x] λxs _=>Cmd.opt (iy xs ys) λzs=>uP (J7 q o.dst) (.barrs md zs none) (cu X.E o.dst (.own (J7 q o.dst) none))).post S (λ_ S' =>gV X (CB*q) (CB*q+CB) o a w m ok S'):=by
 refine Rt (T:=[]) R Tk.nil hy λS1 ok1 ys _ O1 R1 T1 k1 s1 g1=>?_;refine Rt R1 T1 (Lp k1 hx) λS2 ok2 xs _ O2 R2 T2 k2 s2 g2=>?_;have k12:∀b t,ok b t->ok2 b t:=λb t h=>k2 b t (k1 b t h);have g1:=gZ k2 (λ_ _ _=>rfl) (λ_ _=>rfl) g1;obtain⟨hel,ly,vy,Oy,ey,hvy,hay,rfl⟩:=xG.1 g1;obtain⟨_,lx,vx,Ox,ex,hvx,hax,rfl⟩:=xG.1 g2;simp only[H8,and_true]at ey ex;subst ey;subst ex;refine bz λzs hzs=>?_;obtain⟨hmax,rfl⟩:=Qz hzs;obtain⟨es,hv,ry⟩:=YL hay hvy;obtain⟨olds,hs,rx⟩:=YL hax hvx;have hnd2:=T2.nodup;have rr:=rx.append ry;have hT3:∀b∈(Ox++Oy).flatten,b∈[]++(ly.blks++Oy.flatten)++(lx.blks++Ox.flatten):=λb hb=>by
  simp only[nO,F9]at hb ⊢;rcases hb with hb|hb
  .exact .inr (.inr hb)
  .exact .inl (.inr (.inr hb))
 have hnd3:(Ox++Oy).flatten.Nodup:=by rw[nO];have h:=P5.1 hnd2;simp only[G8]at h;refine P5.2 ⟨(P5.1 h.2.1).2.1,(P5.1 h.1).2.1,λp hp r hr e=>h.2.2 r (by simp[hr]) p (by simp[hp]) e.symm⟩
 have fresh:∀{sAd:Option Addr} {cap:Nat},s= .slice sAd xs.length cap->cap<xs.length+ys.length->(uP (J7 q o.dst) (.barrs md (xs++ys) none) (cu X.E o.dst (.own (J7 q o.dst) none))).post S2 (λ_ S' =>gV X (CB*q) (CB*q+CB) o a w m ok S'):=λ{sAd cap} hse hg=>by
  have hrun:=JY (P:=X.P) (w:=w) (t:=t) (ty:=o.type) hu h1 h5 h4 (s:=s) (v:=v) hse (by rw[h2];exact hs) (by rw[h2];exact hv) hg hmax;have hge:=grownCap_ge w (xs.length+ys.length) cap e;rw[←A7]at hrun hge;refine VJ H R2 T2 (w1:=w.drew) rfl rfl rfl rfl hel rr hnd3 hT3 hge ?_ ?_ (λ_ _ h=>h) k12 (run _ _ hrun)
  .have hl:=rr.1;simp only[Array.size_append,jr,hl,KD,hz,←V4];exact F8 _ l9
  .have hl:=rr.1;simp only[Array.toList_append];rw[ik (by rw[hl];exact E5 _),←hl];exact iL
 cases lx with
 |st b=>cases hax|mp b=>cases hax|nil=>
  obtain⟨rfl,rfl⟩:=hax;simp only[Loc.view]at hvx;rcases iW ys.length with h0|h0
  .have hy0:ys=[]:=aZ.1 h0;subst hy0;have hO0:Oy=[]:=aZ.1 ry.2.1;subst hO0;have hrun:=IP (P:=X.P) (w:=w) (t:=t) (ty:=o.type) hu h1 (v:=v) (by rw[h2];exact hv);rw[←hvx]at hrun;refine Ec H λn e1 g1 g2 hn=>?_;rw[←e1];clear e1;generalize CB*q=Z at*;have R' :Rel X Z (Z+CB) (upd S2 (U4+n) (.barrs md ([]++[]) none)) (nJ m n .nil []) ok2 a w:=by
    refine R2.lay hn g1 (by show n<Z+1000000;change n+64<=Z+1000000 at g2;omega) x8 rfl rfl rfl (E5 _) (λ_ _ _=>rfl) (by simp[N8]) (λb hb=>by simp[N8]at hb) ⟨hel,.nil,[],Y4 _ _ _ _,⟨⟨rfl,rfl⟩,trivial⟩,x8⟩
   refine sV H R' (λk l h=>?_) k12 ⟨.nil,Y4 _ _ _ _,hvx⟩ (run _ _ hrun);by_cases ek:k=n
   .subst ek;have:=R2.fresh k g1 hn;rw[this]at h;cases h
   .rw[jl _ _ _ ek];exact h
  .exact fresh (sAd:=none) (cap:=0) hvx (by simpa using h0)
 |arr blk off len cap sz=>
  obtain⟨c,T,hb,rfl,rfl,hcap,hfit,r1⟩:=a0j hax;simp only[Loc.view]at hvx;by_cases hroom:xs.length+ys.length<=cap
  .have hrun:=MI (P:=X.P) (w:=w) (t:=t) (ty:=o.type) (off:=off) (cap:=cap) hu h1 hb (.inl rfl) (v:=v) (n:=ys.length) (es:=es) (by simp_all) ry.one_cell hroom (by simp_all);rw[←hvx]at hrun;obtain⟨q1,q2,q3,q4⟩:=T2.free blk (by simp[Loc.blks]);have hle:(xs.length+ys.length)*md.size<=cap*md.size:=F8 _ hroom;rw[V4]at hle;have hesl:=hv.1;have hcl:c.toList.length=c.size:=rfl;have hsp:(aU (off+xs.length*md.size) es c.toList).length=c.size:=by grind [vO]
   have hblk:∀b∈(Ox++Oy).flatten,b≠blk:=λb hbm e=>by
    grind [Loc.blks]
   refine Ec H λn e1 g1 g2 hn=>?_;rw[←e1];clear e1;generalize CB*q=Z at*;have hoth:∀b,b≠blk->(w.setRow blk (aU (off+xs.length*md.size) es c.toList).toArray).heap[b]? =w.heap[b]?:=λb hb=>setRow_other w blk b _ hb;have hown1:N8 (nJ m n (.arr blk off (xs.length+ys.length) cap md.size) (Ox++Oy).flatten) n (.barrs md (xs++ys) none)=blk::(Ox++Oy).flatten:=by simp[N8]
   have R' :Rel X Z (Z+CB) (upd S2 (U4+n) (.barrs md (xs++ys) none)) (nJ m n (.arr blk off (xs.length+ys.length) cap md.size) (Ox++Oy).flatten) ok2 a (w.setRow blk (aU (off+xs.length*md.size) es c.toList).toArray):=by
    refine R2.lay hn g1 l9 x8 rfl rfl rfl x8 (λb _ hne=>hoth b (λe=>hne (by simp_all))) (by grind) (λb hbb=>?_) ⟨hel,_,Ox++Oy,Y4 _ _ _ _,?_,x8⟩
    .rw[hown1]at hbb;obtain⟨q1,q2,q3,q4⟩:=T2.free b (by
      grind [Loc.blks])
     simp_all
    .refine⟨?_,trivial⟩;have:=xk.arrs (h:=(w.setRow blk (aU (off+xs.length*md.size) es c.toList).toArray).heap) (ok:=ok2) (cs:=((c.toList.drop off).take (xs.length*md.size))++es) (cap:=cap) (off:=off) ((r1.append ry).mono (λ_ _ h=>h) (λb t hb=>hoth b (λe=>q1 t (e▸hb))) (λb hb=>hoth b (hblk b hb))) (setRow_heap w blk c _ T (0,0) hb) (by simp_all) (by simp_all) ?_
     .rw[A7]at this;exact this
     .simp only[A7,V4];rw[QX (n:=xs.length*md.size+ys.length*md.size) l9 l9];simp_all [aU,List.take_take]
   refine sV H R' (λk l h=>?_) k12 ⟨_,Y4 _ _ _ _,rfl⟩ (run _ _ (by simp_all));by_cases ek:k=n
   .subst ek;have:=R2.fresh k g1 hn;simp_all
   simp_all [jl]
  .simp_all
theorem Ws{w:World}{t t' ty e:TypeId}{i:TypeInfo}(ht:P.underlying t=some (.slice e))(hs:P.underlying t' =some .string)(hi:P.info? e=some i){s:Value}{b:ByteArray} :
  (Builtin.append_ #[t,t'] ty #[s,.string b]).run P w=(Builtin.append_ #[t,t] ty #[s,.string b]).run P w:=by
 cases s<;>simp[Builtin.append_,run_underlying ht,run_underlying hs,sizeOf,typeInfo,hi]
theorem Uo(H:FxOk X)(R:Rel X (CB*q) (CB*q+CB) S m ok a w){p:Operand}{x:V}{j:TI}(ht:u.isEnt=false)(hu:X.P.underlying t=some (.slice e))(h1:X.P.info? e=some inf)(h2:inf.size=u.size)(h4:inf.bytes<=65536)
  (h5:inf.zero=some z) (hz:z.cells.size=u.size) (hx:kU ⟨w.heap,ok,m⟩ x (a.eval p)) {ys:List u.den} {v:Value} {es:c5x} (hv:Du w.heap u.size v ys.length es) (r2:dN w.heap ok u ys es)
  (run:∀r w',(Builtin.append_ #[t,t] o.type #[a.eval p,v]).run X.P w= .ok r w' ->(execOp a.eval o).run X.P w= .ok (.value r) w'):
  (TA (J7 q o.dst) u x ys λv=>cu X.E o.dst v).post S (λ_ S' =>gV X (CB*q) (CB*q+CB) o a w m ok S'):=by
 unfold TA;split<;>try trivial
 ·
  refine bz λzs hzs=>?_;obtain⟨hmax,rfl⟩:=Qz hzs;have hx' :a.eval p= .slice none 0 0:=hx;exact LP H R ht hu h1 h2 h4 h5 hz hx' hv r2 l9 run
 .rename_i bx vw;obtain⟨loc,hm,hview⟩:=hx;refine X3 ?_;split<;>try trivial
  rename_i u' xs hS;refine eH λeu=>?_;subst eu;refine bz λzs hzs=>ed ?_;obtain⟨hmax,rfl⟩:=Qz hzs;obtain⟨loc',hm',ha⟩:=R.own_arr hS;rw[hm]at hm';cases hm';have R1:=R.kill bx;obtain⟨a1,a2,a3⟩:=GI ha hview;generalize hl2:IA loc vw=l2 at*;generalize kF vw xs=xs' at*;cases l2 with
  |st b=>cases a1|mp b=>exact absurd a1.1 (by grind)|nil=>obtain⟨a1,_⟩:=a1;subst a1;simp;exact LP H R1 ht hu h1 h2 h4 h5 hz a2 hv r2 l9 run
  |arr blk off len cap sz=>
   obtain⟨c,T,f,hb,hfz,rfl,rfl,hcap,hfit,r1⟩:=XG a1;simp at hb r1;by_cases hroom:xs'.length+ys.length<=cap
   ·
    have hrun:=MI (ty:=o.type) (off:=off) hu h1 hb hfz.of (v:=v) (by simp_all) r2.one_cell hroom (by simp_all);rw[←a2]at hrun;have hown:N8 m bx (S (U4+bx))=[blk]:=by
     cases loc with
     |nil=>grind [Loc.blks]|st _=>cases ha|mp b=>exact absurd ha.1 (by grind)|arr b2 _ _ _ _=>simp_all [Loc.blks,N8]
    obtain⟨s1,s2,s3⟩:=R.sep bx blk (by simp_all);have hle:(xs'.length+ys.length)*u'.size<=cap*u'.size:=F8 _ hroom;rw[V4]at hle;have hel:=hv.1;have hcl:c.toList.length=c.size:=rfl;have hsp:(aU (off+xs'.length*u'.size) es c.toList).length=c.size:=by grind [vO]
    refine Ec H λn e1 g1 g2 hn=>?_;rw[←e1];generalize CB*q=Z at*;have hkeep:∀b t,ok b t->(w.setRow blk (aU (off+xs'.length*u'.size) es c.toList).toArray).heap[b]? =w.heap[b]?:=λb t hb=>setRow_other w blk b _ (λe=>s1 t (e▸hb));have R' :Rel X Z (Z+CB) (upd (upd S (U4+bx) .dead) (U4+n) (.barr u' (xs' ++ys))) (nJ m n (.arr blk off (xs'.length+ys.length) cap u'.size) []) ok a (w.setRow blk (aU (off+xs'.length*u'.size) es c.toList).toArray):=by
     refine R1.lay hn g1 l9 x8 rfl rfl rfl x8 (λb _ hne=>?_) (by simp[N8]) (λb hbb=>?_) ⟨_,Y4 _ _ _ _,?_⟩
     .refine setRow_other w blk b _ (λe=>hne ?_)<;>simp_all [N8]
     .simp[N8]at hbb;subst hbb;refine⟨s1,by simp_all,s3,λk e=>?_⟩;obtain⟨k1,k2⟩:=yX rfl e;exact k1 (R.inj k bx b k2 (by simp_all))
     .rw[←A7];refine dN.arrOk ht (cs:=((c.toList.drop off).take (xs'.length*u'.size))++es) ((r1.append r2).mono (λ_ _ h=>h) hkeep) (setRow_heap w blk c _ T f hb) (by simp_all) (by simp_all) (by simp_all) ?_;simp[A7,V4];rw[QX l9 l9];simp_all [aU,List.take_take]
    refine sV H R' (λk l h=>?_) (λ_ _ h=>h) ⟨_,Y4 _ _ _ _,rfl⟩ (run _ _ (by simp_all))
    .by_cases ek:k=n
     .subst ek;have:=R1.fresh k g1 hn;simp_all
     simp_all [jl]
   .obtain⟨olds,q1,q2⟩:=WU (C:=⟨w.heap,ok,m⟩) ht a1 a2;exact LM (j:=j) H R1 ht hu h1 h2 h4 h5 hz a2 q1 hv q2 r2 l9 hmax run
theorem a7l(H:FxOk X)(R:Rel X (CB*q) (CB*q+CB) S m ok a w){c:Call}(ho:o.op= .call c)(hc:c.callee= .builtin .append):(aQ X.E q o).post S (λ_ S' =>gV X (CB*q) (CB*q+CB) o a w m ok S'):=by
 obtain⟨cal,args,ats⟩:=c;subst hc;unfold aQ;simp[ho];refine kM R _ λvs hvs=>?_;split<;>try trivial
 rename_i t t' x y hat
 obtain⟨u1,r,he,hx,u2,r',he',hy,hr⟩:=hvs;subst hr;rw[he']at he;obtain⟨p,p',rfl,rfl,rfl⟩:=a0T he;cases htt:Nat.beq t t'
 ·
  split<;>try trivial
  rename_i l;refine jG H λi hi=>?_;have hd:=hi.td;split<;>try trivial
  rename_i htd;rw[htd]at hd;unfold a4H;split<;>try trivial
  rename_i e het;obtain⟨j,z,inf,hu,hj,h1,h2,h3,h4,h5,h6⟩:=yS H het;have hz:=by have:=bV h6;omega
  split<;>try trivial
  have hats:ats=#[t,t']:=by
   grind
  have hs:a.eval p' = .string ⟨l.toArray⟩:=hy;refine Uo (j:=j) H R (GX het) hu h1 h2 h4 h5 hz hx (v:=.string ⟨l.toArray⟩) (es:=Lib.strCells ⟨l.toArray⟩) ?_ ?_ ?_
  .refine⟨?_,.inr (.inr ⟨_,rfl,?_,rfl⟩)⟩<;>simp_all [Lib.strCells_length,ZG,Ty.size,ByteArray.size]
  .refine⟨by simp[Lib.strCells_length,ZG,Ty.size,ByteArray.size],λi x hi=>?_⟩;show(((Lib.strCells ⟨l.toArray⟩).drop (i*1)).take 1)=[.int .u8 x]
   grind [ZG,Lib.strCells,List.drop_eq_getElem_cons]
  .intro r w' h;rw[←Ws hu hd h1]at h;simp_all [execOp,resolve,invoke,builtin]
 simp;have htt' :=fZ htt;have hats:ats=#[t,t]:=by
  grind
 have run:∀(s v:Value),a.eval p=s->a.eval p' =v->∀r w',(Builtin.append_ #[t,t] o.type #[s,v]).run X.P w= .ok r w' ->(execOp a.eval o).run X.P w= .ok (.value r) w' :=λs v e1 e2 r w' h=>by simp_all [execOp,resolve,invoke,builtin]
 unfold a4G;split
 .trivial
 rename_i e u het;obtain⟨j,z,inf,hu,hj,h1,h2,h3,h4,h5,h6⟩:=yS H het;have hz:z.cells.size=u.size:=by have:=bV h6;omega
 split
 rotate_left
 .refine U5 λhms=>?_;have hms:=fZ hms;exact a2q (j:=j) H R hu h1 l9 h4 h5 l9 hx hy (run _ _ rfl rfl)
 have ht:=GX het;refine Xv R ht hy λys es hv r2=>?_;exact Uo (j:=j) H R ht hu h1 h2 h4 h5 hz hx hv r2 (run _ _ rfl rfl)
theorem WM{α:Type}{Q:α->Sm->Prop}{S:Sm}{C:Cx}{u:Ty}(hf:u.flat=true):∀(n:Nat) {cs:List V} {vs:c5x} {K:List u.den->Cmd α},fU C cs vs->
  (∀xs,xs.length=n->dN C.h C.ok u xs vs->(K xs).post S Q)->(a6f u n cs K).post S Q
 |0,cs,vs,K,hL,hK=>by
  unfold a6f;cases cs with
  |nil=>simp_all [fU,dN.nil]|cons _ _=>trivial
 |n+1,cs,vs,K,hL,hK=>by refine ET u hf hL λx r us us' e hr hL' =>?_;refine WM hf n hL' λxs hl hxs=>?_;subst e;exact hK (x::xs) (by grind) ((dN.one (hr C.h C.ok)).append hxs)
theorem a9G(H:FxOk X)(R:Rel X (CB*q) (CB*q+CB) S m ok a w){lo hi:Option Operand}(ho:o.op= .slice t x lo hi none):(aQ X.E q o).post S (λ_ S' =>gV X (CB*q) (CB*q+CB) o a w m ok S'):=by
 refine a7r H R ho λbx hlo hhi hx=>?_;subst hlo;subst hhi;obtain⟨blk,hm,hx⟩:=hx;refine jG H λi hi=>?_;have htd:=hi.td;split<;>try trivial
 rename_i n e hd;rw[hd]at htd;have hut:=htd;refine jG H λj hj=>?_;split<;>try trivial
 rename_i u hju;refine U5 λhf=>X3 ?_;split<;>try trivial
 rename_i cs hS;obtain⟨blk',arr,T,hm',hh,hl⟩:=R.own_cells hS;rw[hm]at hm';cases hm';refine WM hf n hl λxs hlen hr=>ed ?_;have ht:u.isEnt=false:=by cases u<;>first|rfl|(cases hf)
 have hown:N8 m bx (S (U4+bx))=[blk]:=by simp_all [N8]
 obtain⟨s1,s2,s3⟩:=R.sep bx blk (by simp_all);have R1:=R.kill bx;refine Ec H λnn e1 g1 g2 hn=>?_;rw[←e1];generalize CB*q=Z at*;have hsz:=hr.1;have R' :Rel X Z (Z+CB) (upd (upd S (U4+bx) .dead) (U4+nn) (.barr u xs)) (nJ m nn (.arr blk 0 xs.length xs.length u.size) []) ok a w:=by
  refine R1.lay hn g1 l9 x8 rfl rfl rfl (E5 _) (λ_ _ _=>rfl) (by simp[N8]) (λb hbb=>?_) ⟨_,Y4 _ _ _ _,?_⟩
  .simp[N8]at hbb;subst hbb;refine⟨s1,s2,s3,λk e=>?_⟩;obtain⟨k1,k2⟩:=yX rfl e;exact k1 (R.inj k bx b k2 (by simp_all))
  .refine dN.arrOk ht hr hh (.inl rfl) (E5 _) (by rw[←hsz];simp) ?_<;>simp_all [aH]
 refine sV H R' (λk l h=>?_) (λ_ _ h=>h) ⟨_,Y4 _ _ _ _,by rw[hlen];rfl⟩ ?_
 .by_cases ek:k=nn
  .subst ek;have:=R1.fresh k g1 hn;simp_all
  simp_all [jl]
 .have hb:=Ej (P:=X.P) (w:=w) (isS:=false) (y:=n) (.inl ⟨rfl,rfl⟩) (.inl ⟨rfl,rfl⟩) l9 l9 l9 (E5 _);simp[execOp,ho,hx,Instr.sliceAt,run_underlying hut,Instr.sureAddr,hb,sD hj,jL]
theorem a3p(H:FxOk X)(R:Rel X (CB*q) (CB*q+CB) S m ok a w){src t:TypeId}(ho:o.op= .convert src t x):
  (aQ X.E q o).post S (λ_ S' =>gV X (CB*q) (CB*q+CB) o a w m ok S'):=by
 refine a1i H R ho λl hl hsrc=>?_;unfold a8s;split<;>try trivial
 rename_i e het;obtain⟨j,z,inf,hu,hj,h1,h2,h3,h4,h5,h6⟩:=yS H het;refine jG H λk hk=>?_;have hkd:=hk.td;split<;>try trivial
 rename_i hke;rw[hke]at hkd;have hrun:=run_bytes_of_string w src t e ⟨l.toArray⟩ hsrc hu hkd;have hsz:(⟨l.toArray⟩:ByteArray).size=l.length:=by simp[ByteArray.size]
 have hge:=grownCap_ge w (⟨l.toArray⟩:ByteArray).size 0 e;generalize hcap:grownCap w (⟨l.toArray⟩:ByteArray).size 0 e=cap at*;have hll:(ZG l).length=l.length:=by simp[ZG]
 refine La H R (w1:=w.drew) (e:=e) (cap:=cap) (c:=bytesRow ⟨l.toArray⟩ cap) (cs:=Lib.strCells ⟨l.toArray⟩) rfl rfl rfl rfl rfl ?_ ?_ ?_ ?_ (λ_ _ h=>h) (λ_ _ h=>h) (.inr ⟨rfl,rfl⟩) ?_
 .refine⟨by simp[Lib.strCells_length,ZG,Ty.size,ByteArray.size],λi x hi=>?_⟩;show(((Lib.strCells ⟨l.toArray⟩).drop (i*1)).take 1)=[.int .u8 x]
  grind [ZG,Lib.strCells,List.drop_eq_getElem_cons]
 all_goals simp_all [Ty.size,bytesRow,Lib.strCells,execOp]
end
def qO{α β:Type}(eq:α->α->Bool):List (α×β)->α->Option Nat
 |[],_=>none|p::r,k=>bif eq k p.1 then some 0 else(qO eq r k).map (·+1)
theorem Hq{α β:Type}{eq:α->α->Bool} :∀{xs:List (α×β)} {k:α} {i:Nat},qO eq xs k=some i->∃p,xs[i]? =some p/\eq k p.1=true
 |[],_,_,h=>by cases h|p::r,k,i,h=>by
  unfold qO at h;cases he:eq k p.1<;>rw[he]at h
  .simp at h;obtain⟨j,h1,rfl⟩:=h;obtain⟨q,h2,h3⟩:=Hq h1;exact⟨q,by simpa using h2,h3⟩
  .cases h;exact⟨p,rfl,he⟩
theorem VD{α β:Type}(eq:α->α->Bool):∀(xs:List (α×β)) (k:α) (z:β),JG eq xs k z=(match qO eq xs k with|some i=>(match xs[i]? with|some p=>p.2|none=>z)|none=>z)
 |[],_,_=>rfl|p::r,k,z=>by
  unfold JG qO;cases he:eq k p.1
  .rw[VD eq r k z]
   grind
  .rfl
variable {β:Type}
theorem a6Y(eq:α->α->Bool):∀(xs:List (α×β)) (k:α) (z:β),Xl eq xs k z=(match qO eq xs k with|some i=>(match xs[i]? with|some p=>p.2|none=>z)|none=>z):=
 VD eq
theorem VE{α β:Type}(eq:α->α->Bool):∀(xs:List (α×β)) (k:α),JH eq xs k=(qO eq xs k).isSome
 |[],_=>rfl|p::r,k=>by
  unfold JH qO;cases he:eq k p.1
  .rw[VE eq r k];cases qO eq r k<;>simp
  .rfl
theorem a6Z(eq:α->α->Bool):∀(xs:List (α×β)) (k:α),OL eq xs k=(qO eq xs k).isSome:=
 VE eq
theorem VH{α β:Type}(eq:α->α->Bool):∀(xs:List (α×β)) (k:α) (x:β),Md eq xs k x=(match qO eq xs k with|some i=>xs.set i (k,x)|none=>xs++[(k,x)])
 |[],_,_=>rfl|p::r,k,x=>by
  unfold Md qO;cases he:eq k p.1
  .rw[VH eq r k x];cases qO eq r k<;>simp
  .rfl
theorem Yo(eq:α->α->Bool):∀(xs:List (α×β)) (k:α) (x:β),VG eq xs k x=(match qO eq xs k with|some i=>xs.set i (k,x)|none=>xs++[(k,x)]):=
 VH eq
theorem TK:∀{k:Ty} (hf:k.flat=true) (a b:k.den),keq k a b=true↔a=b
 | .bool,_,a,b=>by simp[keq,WZ]| .int _,_,a,b=>by simp[keq,D8]| .str,_,a,b=>by simp[keq,seq]| .unit,_,a,b=>⟨λ_=>rfl,λ_=>rfl⟩| .prod p q,hf,a,b=>by simp[Ty.flat,D5]at hf;simp[keq,qM,D5,TK hf.1,TK hf.2];exact⟨λh=>xU h.1 h.2,λh=>by subst h;exact⟨rfl,rfl⟩⟩| .sl _,hf,_,_=>by cases hf| .ent ..,hf,_,_=>by cases hf
theorem TU{h h' :Array Obj}{ok ok' :Nat->Ty->Prop} :∀{t:Ty} (hf:t.flat=true) {x:t.den} {c d:c5x},kZ h ok t x c->kZ h' ok' t x d->c=d
 | .bool,_,_,_,_,h1,h2=>by simp_all [kZ]| .int _,_,_,_,_,h1,h2=>by simp_all [kZ]| .str,_,_,_,_,h1,h2=>by simp_all [kZ]| .unit,_,_,_,_,h1,h2=>by simp_all [kZ]| .prod p q,hf,_,_,_,h1,h2=>by simp[Ty.flat,D5]at hf;obtain⟨a,b,rfl,a1,a2⟩:=h1;obtain⟨a',b',rfl,b1,b2⟩:=h2;rw[TU hf.1 a1 b1,TU hf.2 a2 b2]
 | .sl _,hf,_,_,_,_,_=>by cases hf| .ent ..,hf,_,_,_,_,_=>by cases hf
theorem l_{h h' :Array Obj}{ok ok' :Nat->Ty->Prop} :∀{t:Ty} (hf:t.flat=true) {x y:t.den} {c:c5x},kZ h ok t x c->kZ h' ok' t y c->x=y
 | .bool,_,_,_,_,h1,h2=>by simp_all [kZ]| .int _,_,_,_,_,h1,h2=>by simp_all [kZ]| .str,_,_,_,_,h1,h2=>by simp_all [kZ]| .unit,_,_,_,_,_,_=>rfl| .prod p q,hf,_,_,_,h1,h2=>by simp[Ty.flat,D5]at hf;obtain⟨a,b,rfl,a1,a2⟩:=h1;obtain⟨a',b',e,b1,b2⟩:=h2;obtain⟨rfl,rfl⟩:=List.append_inj e ((bV a1).trans (bV b1).symm);exact xU (l_ hf.1 a1 b1) (l_ hf.2 a2 b2)
 | .sl _,hf,_,_,_,_,_=>by cases hf| .ent ..,hf,_,_,_,_,_=>by cases hf
theorem QN{h:Array Obj}{ok:Nat->Ty->Prop} :∀{k:Ty} (hf:k.flat=true) {x:k.den} {c:c5x},kZ h ok k x c->∀{sh:List Ty} {d:c5x},lg sh d->lg (k.leaves++sh) (c++d)
 | .bool,_,x,_,h1,_,_,hd=>by subst h1;exact⟨_,_,rfl,hd⟩| .int _,_,x,_,h1,_,_,hd=>by subst h1;exact⟨_,_,rfl,hd⟩| .str,_,x,_,h1,_,_,hd=>by subst h1;exact⟨_,_,rfl,hd⟩| .unit,_,x,_,h1,_,_,hd=>by subst h1;exact hd| .prod p q,hf,_,_,h1,_,_,hd=>by simp[Ty.flat,D5]at hf;obtain⟨a,b,rfl,a1,a2⟩:=h1;simp[Ty.leaves,E8];exact QN hf.1 a1 (QN hf.2 a2 hd)
 | .sl _,hf,_,_,_,_,_,_=>by cases hf| .ent ..,hf,_,_,_,_,_,_=>by cases hf
theorem YD:∀{a b:List Ty},QR a b=true->a=b
 |[],[],_=>rfl|[],_::_,h=>by cases h|_::_,[],h=>by cases h|a::r,b::q,h=>by
  unfold QR at h;cases hb:Ty.beq a b<;>rw[hb]at h
  .cases h
  .rw[Ty.beq_eq hb,YD (show QR r q=true from h)]
def Ah(ag:Bool)(k:Ty)(x:k.den)(kv:Value):Prop:=gok ag kv/\kZ #[] (λ_ _=>False) k x (tq ag kv)
variable {ag:Bool}
theorem a2X{u v:Value}(hu:gok ag u)(hv:gok ag v)(h:tq ag u=tq ag v):u=v:=by
 cases ag
 .simp_all [tq]
 .obtain⟨a,rfl⟩:=hu;obtain⟨b,rfl⟩:=hv;have:a.toList=b.toList:=h;simp_all
variable {k:Ty}
theorem Ah.det(hf:k.flat=true){x:k.den}{u v:Value}(h1:Ah ag k x u)(h2:Ah ag k x v):u=v:=
 a2X h1.1 h2.1 (TU hf h1.2 h2.2)
theorem MJ:∀(v:Value),(∃b,v= .bool b)\/(∃k n,v= .int k n)\/(∃s,v= .string s)->∀n,Instr.sameBits n v v=true:=by
 grind [Instr.sameBits,MapKept.bytes_beq]
theorem QM{h:Array Obj}{ok:Nat->Ty->Prop} :∀{k:Ty} (hf:k.flat=true) {x:k.den} {c:c5x},kZ h ok k x c->∀v∈c,(∃b,v= .bool b)\/(∃k n,v= .int k n)\/(∃s,v= .string s)
 | .bool,_,x,_,h1,v,hv=>by simp_all [kZ]| .int _,_,x,_,h1,v,hv=>by simp_all [kZ]| .str,_,x,_,h1,v,hv=>by simp_all [kZ]| .unit,_,x,_,h1,v,hv=>by simp_all [kZ]| .prod p q,hf,_,_,h1,v,hv=>by
  simp[Ty.flat,D5]at hf;obtain⟨a,b,rfl,a1,a2⟩:=h1;rcases F9.1 hv with hv|hv
  .exact QM hf.1 a1 v hv
  .exact QM hf.2 a2 v hv
 | .sl _,hf,_,_,_,_,_=>by cases hf| .ent ..,hf,_,_,_,_,_=>by cases hf
theorem Ah.stays{w:World}(hf:k.flat=true){x:k.den}(h:Ah ag k x v):(Instr.keyThatStays v v).run P w= .ok v w:=by
 have hs:Instr.sameBits 10000 v v=true:=by
  have hc:=QM hf h.2;cases ag
  .simp_all [MJ,tq]
  .obtain⟨arr,rfl⟩:=h.1;simp only[Instr.sameBits,beq_self_eq_true,Bool.true_and,ax];intro p hp;obtain⟨i,hi,e⟩:=bP hp;rw[List.getElem_zip]at e;rw[←e];exact MJ _ (hc _ (aK _)) _
 simp[Instr.keyThatStays,hs]
variable {M:MT}
section
variable {X:Fx} {cl ch:Nat} {S:Sm} {m:Mp} {ok:Nat->Ty->Prop} {a:Act} {w:World} {T:c5y} {o:Oper}
theorem Vp(H:FxOk X){ke:Nat}{i:TI}(hi:TiOk X.P ke i)(hk:a0P X.E ke i.td k=true)(hf:k.flat=true){x:k.den}{u:Value}(hu:Ah (az i.td) k x u)(w:World):
  (∀em,(Instr.checkKey em 10000 ke u).run X.P w= .ok () w)/\
  ∀{β:Type} (es:List MapEntry) (xs:List (k.den×β)),es.length=xs.length->(∀(j:Nat) (p:k.den×β),xs[j]? =some p->∃e:MapEntry,es[j]? =some e/\Ah (az i.td) k p.1 e.key)->
   (Instr.findKey ke u es).run X.P w= .ok ((qO (keq k) xs x).bind λj=>(es[j]?).map λe=>(j,e.val)) w:=by
 have htd:=hi.td;have scal:∀d,X.P.underlying ke=some d->az i.td=false->(∀y v,Ah (az i.td) k y v->Instr.sameNow d u v=some (keq k x y))->
   ∀{β:Type} (es:List MapEntry) (xs:List (k.den×β)),es.length=xs.length->(∀(j:Nat) (p:k.den×β),xs[j]? =some p->∃e:MapEntry,es[j]? =some e/\Ah (az i.td) k p.1 e.key)->
   (Instr.findKey ke u es).run X.P w= .ok ((qO (keq k) xs x).bind λj=>(es[j]?).map λe=>(j,e.val)) w:=by
  intro d hd _ hs β es xs hl he;refine MapKept.run_findKey hd ?_;have:∀(es:List MapEntry) (xs:List (k.den×β)) (n:Nat),es.length=xs.length->(∀(j:Nat) (p:k.den×β),xs[j]? =some p->∃e:MapEntry,es[j]? =some e/\Ah (az i.td) k p.1 e.key)->
    Instr.findNow d u es n=some ((qO (keq k) xs x).bind λj=>(es[j]?).map λe=>(n+j,e.val)):=by
   intro es;induction es with
   |nil=>
    intro xs n hl he;cases xs with
    |nil=>rfl|cons _ _=>cases hl
   |cons e es ih=>
    intro xs n hl he;cases xs with
    |nil=>cases hl|cons p xs=>
     obtain⟨e',h1,h2⟩:=he 0 p rfl;simp only[aA,G6]at h1;subst h1;unfold Instr.findNow qO;rw[hs _ _ h2];cases hq:keq k x p.1
     .simp only[cond_false];rw[ih xs (n+1) (by simpa using hl) (λj q hj=>by simpa using he (j+1) q (by simpa using hj))];cases qO (keq k) xs x with
      |none=>rfl|some j=>simp[uK,Nat.add_comm 1 j]
     .simp
  simpa using this es xs 0 hl he
 have one:∀{v:Value} {y:k.den},az i.td=false->Ah (az i.td) k y v->kZ #[] (λ_ _=>False) k y [v]:=λha h=>by have:=h.2;rw[ha]at this;exact this
 unfold a0P at hk;split at hk
 .rename_i htd';rw[htd']at htd;have ha:az i.td=false:=by rw[htd'];rfl
  have hu1:=one ha hu;simp only[kZ,H8,and_true]at hu1;subst hu1;refine⟨λem=>qR htd (by simp[MapKept.IsKey]) em 9999,scal _ htd ha λy v hv=>?_⟩;have hv1:=one ha hv;simp only[kZ,H8,and_true]at hv1;subst hv1;rfl
 .rename_i p q htd';have:=of_decide_eq_true hk;subst this;rw[htd']at htd;have ha:az i.td=false:=by rw[htd'];rfl
  have hu1:=one ha hu;simp only[kZ,H8,and_true]at hu1;subst hu1;refine⟨λem=>qR htd (by simp[MapKept.IsKey]) em 9999,scal _ htd ha λy v hv=>?_⟩;have hv1:=one ha hv
  grind [kZ,Instr.sameNow,keq,D8]
 .rename_i htd';rw[htd']at htd;have ha:az i.td=false:=by rw[htd'];rfl
  have hu1:=one ha hu;simp only[kZ,H8,and_true]at hu1;subst hu1;refine⟨λem=>qR htd (by simp[MapKept.IsKey]) em 9999,scal _ htd ha λy v hv=>?_⟩<;>grind [kZ,Instr.sameNow,keq,seq,MapKept.bytes_beq]
 .rename_i k _ _ fs htd';cases hkf:k.flat<;>rw[hkf]at hk
  .grind
  simp only[cond_true]at hk;cases hq:bZ X.E.eqs ke with
  |none=>simp_all|some sh=>
  rw[hq]at hk;have hsh:=YD (show QR sh k.leaves=true from hk);subst hsh;obtain⟨⟨fields,hund⟩,hks⟩:=(H.eqs ke _ hq).2;have ha:az i.td=true:=by rw[htd'];rfl
  rw[ha]at hu;obtain⟨xs0,rfl⟩:=hu.1;have shp:∀{y:k.den} {arr:Array Value},Ah true k y (.agg arr)->lg k.leaves arr.toList:=λ{y arr} h=>by have:=QN hf (show kZ #[] (λ_ _=>False) k y arr.toList from h.2) (sh:=[]) (d:=[]) rfl;simp_all
  obtain⟨c1,c2⟩:=hks w xs0 (shp hu);refine⟨c1,λ{β} es xs hl he=>?_⟩;rw[run_findKey_eq w (by grind)];rw[ha]at he;have:∀(es:List MapEntry) (xs:List (k.den×β)) (n:Nat),es.length=xs.length->(∀(j:Nat) (p:k.den×β),xs[j]? =some p->∃e:MapEntry,es[j]? =some e/\Ah true k p.1 e.key)->
    (Instr.findAsking ke (.agg xs0) es n).run X.P w= .ok ((qO (keq k) xs x).bind λj=>(es[j]?).map λe=>(n+j,e.val)) w:=by
   intro es;induction es with
   |nil=>
    intro xs n hl he;cases xs with
    |nil=>rfl|cons _ _=>grind
   |cons e es ih=>
    intro xs n hl he;cases xs with
    |nil=>grind|cons p xs=>
     obtain⟨e',h1,h2⟩:=he 0 p rfl;simp only[aA,G6]at h1;subst h1;obtain⟨ys,hys⟩:=h2.1;rw[hys]at h2;obtain⟨r,hr,hre⟩:=c2 ys (shp h2);have hrq:r=keq k x p.1:=by
      rw[Bool.eq_iff_iff,hre,TK hf];constructor
      .intro h;have h3:=h2.2;rw[show tq true (Value.agg ys)=ys.toList from rfl,←h]at h3;exact l_ hf hu.2 h3
      .intro h;have h3:=h2.2;rw[←h]at h3;exact TU hf hu.2 h3
     subst hrq;unfold Instr.findAsking qO;simp only[hys,J9,hr,L8];cases hq:keq k x p.1
     .simp only[cond_false,oz,if_false];rw[ih xs (n+1) (by simp_all) (λj q hj=>by simpa using he (j+1) q (by simp_all))];cases qO (keq k) xs x<;>grind
     .simp
  grind
 .grind
theorem Ho(H:FxOk X){t:Nat}(h:JE X.E t=some M):X.P.underlying t=some (.map M.ke M.el)/\M.k.flat=true/\
  (∃i,TiOk X.P M.ke i/\a0P X.E M.ke i.td M.k=true/\M.ka=az i.td)/\(∃j,TiOk X.P M.el j/\j.ty=some M.v/\M.va=az j.td):=by
 unfold JE at h;split at h<;>try (cases h)
 rename_i i hi;split at h<;>try (cases h)
 rename_i ke el htd;split at h<;>try (cases h)
 rename_i p q hp hq;split at h<;>try (cases h)
 rename_i k v hk hv;cases hc:(a0P X.E ke p.td k&&k.flat)<;>rw[hc]at h
 .grind
 .simp at h;subst h;simp at hc;have h1:=(H.tt t i hi).td;rw[htd]at h1;exact⟨h1,hc.2,⟨p,H.tt _ p hp,hc.1,rfl⟩,⟨q,H.tt _ q hq,hv,rfl⟩⟩
theorem KJ{t:Ty}{v:V}{x:Value}{K:t.den->Cmd α}(R:Rel X cl ch S m ok a w)(hT:Tk X S m ok w T)(hv:kU ⟨w.heap,ok,m⟩ v x)
  (hK:∀S' ok' y,Rel X cl ch S' m ok' a w->Tk X S' m ok' w T->(∀b t,ok b t->ok' b t)->ay S S' ->gok ag x->kZ w.heap ok' t y (tq ag x)->(K y).post S' Q):
  (a8x ag t v K).post S Q:=by
 refine BA hv λcs us hg hl=>?_;refine Bc t R hT hl λS1 ok1 y q us1 us' R1 T1 k1 s1 e1 h1 l1=>?_;cases q with
 |cons _ _=>trivial|nil=>
 subst l1;simp at e1;subst e1;have hgc:gok ag x/\tq ag x=us:=by
  cases ag
  .subst hg;exact⟨wY h1 x x8,rfl⟩
  .obtain⟨arr,rfl,rfl⟩:=hg;exact⟨⟨arr,rfl⟩,rfl⟩
 grind
def IX(h:Array Obj)(ok:Nat->Ty->Prop)(t:Ty)(xs:List t.den)(v:Value):Prop:=
 ∃mv,v= .map mv/\(mv=none->xs=[])/\∀blk,mv=some blk->∃(es:Array MapEntry) (ck:Nat),h[blk]? =some (.map es ck)/\vS es ck (xs:List t.den).length/\
  ∀(i:Nat) (x:t.den),(xs:List t.den)[i]? =some x->∃e:MapEntry,es[i]? =some e/\LY t e/\kZ h ok t x (xR t e)
theorem IX.of_rep{ok:Nat->Ty->Prop}{t:Ty}{xs:List t.den}(ht:t.isEnt=true)(hr:kZ h ok (.sl t) xs [v]):IX h ok t xs v:=by obtain⟨mv,e,h1,h2⟩:=(a3K ht).1 hr;exact⟨mv,by simp_all,h1,λblk hb=>(h2 blk hb).2⟩
theorem IX.of_arr{t:Ty}{xs:List t.den}(ht:t.isEnt=true)(ha:arrOk C t xs l)(hv:l.view none v):IX C.h C.ok t xs v:=by
 cases l with
 |nil=>have:=ha.2;simp_all|st b=>cases ha|arr blk off len cap sz=>have:=ha.1;simp_all|mp b=>subst hv;exact⟨_,rfl,(λh=>nomatch h),λblk hb=>by cases hb;exact ha.2⟩
theorem a3v(R:Rel X cl ch S m ok a w)(hu:u.isEnt=true){v:V}{x:Value}{K:List u.den->Cmd α}(hv:kU ⟨w.heap,ok,m⟩ v x)
  (hK:∀xs,IX w.heap ok u xs x->(K xs).post S Q):(a9M u v K).post S Q:=by
 unfold a9M;split<;>try trivial
 .refine eH λe=>?_;subst e;exact hK _ (IX.of_rep hu hv)
 .obtain⟨l,hm,hvw⟩:=hv;refine X3 ?_;split<;>try trivial
  .rename_i t xs hS;obtain⟨l',hm',ha⟩:=R.own_arr hS;rw[hm]at hm';cases hm';refine eH λe=>?_;subst e;exact hK _ (IX.of_arr hu ha hvw)
  .rename_i t xs hS;obtain⟨l',hm',ha,_⟩:=R.own_frz hS;rw[hm]at hm';cases hm';refine eH λe=>?_;subst e;exact hK _ (IX.of_arr hu ha hvw)
theorem FU{ok:Nat->Ty->Prop}{x:M.k.den×M.v.den}{e:MapEntry}(h1:LY M.ent e)(h2:kZ h ok M.ent x (xR M.ent e)):
  gok M.ka e.key/\gok M.va e.val/\kZ h ok M.k x.1 (tq M.ka e.key)/\kZ h ok M.v x.2 (tq M.va e.val):=by
 obtain⟨g1,g2,g3⟩:=h1;obtain⟨c,d,e1,r1,r2⟩:=h2;obtain⟨rfl,rfl⟩:=List.append_inj (show tq M.ka e.key++tq M.va e.val=c++d from e1) (g3.trans (bV r1).symm)<;>grind
theorem a8E{ok:Nat->Ty->Prop}{x:M.k.den}{y:M.v.den}{e:MapEntry}(g1:gok M.ka e.key)(g2:gok M.va e.val)(r1:kZ h ok M.k x (tq M.ka e.key))(r2:kZ h ok M.v y (tq M.va e.val)):
  LY M.ent e/\kZ h ok M.ent (x,y) (xR M.ent e):=⟨⟨g1,g2,bV r1⟩,_,_,rfl,r1,r2⟩
theorem g_{c:V}(h:rP C c v):VZ C c v:=by cases c<;>simp only[rP]at h<;>try exact h
theorem b0m{cs:List V}{us:c5x}{x:Value}(hg:Xr ag x us)(hl:fU C cs us):VZ C (mkV ag cs) x:=by
 cases ag
 .subst hg;cases cs with
  |nil=>grind [fU]|cons c r=>
   obtain⟨v,r',e,h1,h2,h3⟩:=hl;obtain⟨rfl,rfl⟩:=e;cases r with
   |nil=>exact g_ h1|cons d r=>obtain⟨_,_,e,_⟩:=h3;grind
 .obtain⟨arr,rfl,rfl⟩:=hg;exact⟨arr,rfl,hl⟩
theorem a1w(h:gok ag v):Xr ag v (tq ag v):=by
 cases ag
 .rfl
 .obtain⟨arr,rfl⟩:=h;exact⟨arr,rfl,rfl⟩
theorem Tn{w:World}{t ke el:TypeId}{mv:Option Nat}{es:Array MapEntry}{key z:Value}{ok:Bool}(hund:P.underlying t=some (.map ke el))
  (hes:mv=none/\es=#[]\/∃r ck,mv=some r/\w.heap[r]? =some (.map es ck)) (hck:∀em,(Instr.checkKey em 10000 ke key).run P w= .ok () w) {r:Option (Nat×Value)}
  (hfind:(Instr.findKey ke key es.toList).run P w= .ok r w) (hz:(zeroValue el).run P w= .ok z w):
  (Instr.lookup t (.map mv) key ok).run P w= .ok (if ok then .tuple #[(r.map (·.2)).getD z,.bool r.isSome]else(r.map (·.2)).getD z) w:=by
 rcases hes with⟨rfl,rfl⟩|⟨b,ck,rfl,hb⟩
 .simp[Instr.lookup,J9,run_underlying hund,L8,jQ,hck,hfind];cases r<;>simp_all
 .simp[Instr.lookup,J9,run_underlying hund,AB hb,L8,jQ,hck,hfind];cases r<;>simp_all
theorem a7q(H:FxOk X)(R:Rel X cl ch S m ok a w){x ix:Operand}{okk:Bool}(ho:o.op= .lookup t x ix okk):(aQ X.E q o).post S (λ_ S' =>gV X cl ch o a w m ok S'):=by
 unfold aQ;simp only[ho];refine Z8 R λu hu=>Z8 R λkv hk=>?_;unfold a5p;cases hM:JE X.E t with
 |none=>trivial|some M=>
 obtain⟨hund,hf,⟨i,hi,hko,hka⟩,⟨j,hj,hjt,hva⟩⟩:=Ho H hM;simp only[];refine KJ (T:=[]) R Tk.nil hk λS1 ok1 key R1 T1 k1 s1 hg hr=>?_;refine a3v R1 rfl (Lp k1 hu) λxs hxs=>?_;obtain⟨mv,hx,hnil,hmap⟩:=hxs;have hkey:Ah (az i.td) M.k key (a.eval ix):=by rw[←hka];exact⟨hg,wX hf hr⟩
 obtain⟨c1,c2⟩:=Vp H hi hko hf hkey w;obtain⟨inf,hinf,_,_,_,hzero⟩:=hj.info;obtain⟨_,z,hz,hzr⟩:=hzero _ hjt;have hzrun:(zeroValue M.el).run X.P w= .ok z w:=by simp_all [zeroValue,typeInfo]
 have hzg:gok M.va z/\kZ w.heap ok1 M.v M.v.zero (tq M.va z):=by
  have hr0:kZ w.heap ok1 M.v M.v.zero z.cells.toList:=dm (λ_ _ h=>h.elim) (λ_ _ h=>h.elim) hzr;have hag:=hj.agg inf z hinf hz;rw[←hva]at hag;cases hva' :M.va
  .have h1:=hag.2 hva';have hcz:z.cells.toList=[z]:=by cases z<;>first|rfl|cases h1
   rw[hcz]at hr0;exact⟨h1,hr0⟩
  .exact⟨hag.1 hva',hr0⟩
 have hE:∃es:Array MapEntry,(mv=none/\es=#[]\/∃r ck,mv=some r/\w.heap[r]? =some (.map es ck))/\es.size=xs.length/\
   ∀(i:Nat) (x:M.k.den×M.v.den),xs[i]? =some x->∃e:MapEntry,es[i]? =some e/\LY M.ent e/\kZ w.heap ok1 M.ent x (xR M.ent e):=by
  cases mv with
  |none=>simp_all|some blk=>obtain⟨es,ck,h1,h2,h3⟩:=hmap blk rfl;exact⟨es,.inr ⟨blk,ck,rfl,h1⟩,h2.1,h3⟩
 obtain⟨es,hes,hsz,hent⟩:=hE;have hfind:=c2 (β:=M.v.den) es.toList xs l9 (λj p hp=>by obtain⟨e,h1,h2,h3⟩:=hent j p hp;obtain⟨g1,g2,r1,r2⟩:=FU h2 h3;exact⟨e,by simp_all,by rw[←hka];exact⟨g1,wX hf r1⟩⟩)
 have run:=Tn (ok:=okk) hund hes c1 hfind hzrun;have hval:∃val,(((qO (keq M.k) xs key).bind λj=>(es.toList[j]?).map λe=>(j,e.val)).map (·.2)).getD z=val/\gok M.va val/\
   kZ w.heap ok1 M.v (Xl (keq M.k) xs key M.v.zero) (tq M.va val)/\(((qO (keq M.k) xs key).bind λj=>(es.toList[j]?).map λe=>(j,e.val))).isSome=OL (keq M.k) xs key:=by
  rw[a6Y,a6Z];cases hfi:qO (keq M.k) xs key with
  |none=>simp_all|some j=>obtain⟨p,hp,_⟩:=Hq hfi;obtain⟨e,h1,h2,h3⟩:=hent j p hp;obtain⟨g1,g2,r1,r2⟩:=FU h2 h3<;>simp_all
 obtain⟨val,e1,g,r,e2⟩:=hval;rw[e1,e2]at run;have hrel:=a1w g;have hL:=oG (C:=⟨w.heap,ok1,m⟩) r;cases okk
 .simp only[cond_false];refine sV H R1 (λ_ _ h=>h) k1 (Pz hrel hL) ?_<;>simp_all [execOp]
 .simp only[cond_true];refine sV H R1 (λ_ _ h=>h) k1 (v:=.tup _) (x:=.tuple #[val,.bool (OL (keq M.k) xs key)]) ⟨_,rfl,⟨_,_,rfl,b0m hrel hL,_,_,rfl,rfl,rfl⟩⟩ ?_<;>simp_all [execOp]
theorem vS.push{es:Array MapEntry}{ck n m:Nat}{k v:Value}(h:vS es ck n)(hm:m=n+1):vS (es.push { key:=k,val:=v,born:=ck }) (ck+1) m:=by obtain⟨h1,h2,h3⟩:=h;refine⟨by simp[h1,hm],λe he=>?_,?_⟩<;>grind
theorem vS.modify{es:Array MapEntry}{ck n m j:Nat}{k v:Value}(h:vS es ck n)(hm:m=n):vS (es.modify j λe=> { e with key:=k,val:=v }) ck m:=by
 obtain⟨h1,h2,h3⟩:=h;have hb:((es.modify j λe=> { e with key:=k,val:=v }).toList.map (·.born))=es.toList.map (·.born):=by apply aS<;>grind
 refine⟨by simp_all,λe he=>?_,by simp_all⟩;have:e.born∈(es.modify j λe=> { e with key:=k,val:=v }).toList.map (·.born):=P9.2 ⟨e,he,rfl⟩
 grind
theorem a3r(H:FxOk X)(R:Rel X (CB*q) (CB*q+CB) S m ok a w){r:Option Operand}(ho:o.op= .makeMap t r):(aQ X.E q o).post S (λ_ S' =>gV X (CB*q) (CB*q+CB) o a w m ok S'):=by
 have go:((Instr.makeMap t (r.map a.eval)).run X.P w= .ok (.map (some w.heap.size)) (w.alloc (.map #[] 0)))->
   (JD X.E (J7 q o.dst) t λv=>cu X.E o.dst v).post S (λ_ S' =>gV X (CB*q) (CB*q+CB) o a w m ok S'):=λrun=>by
  unfold JD;cases hM:JE X.E t with
  |none=>trivial|some M=>
  refine Dk (l:=.mp w.heap.size) (obj:=.map #[] 0) H R x8 (by simp[N8]) (λhn hc=>?_) ⟨.mp w.heap.size,x8,rfl⟩ ?_
  .exact⟨.mp w.heap.size,x8,rfl,#[],0,heap_alloc_new w _,⟨rfl,x8,x8⟩,λi x h=>by grind⟩
  simp_all [execOp]
 unfold aQ;simp[ho];cases r with
 |none=>simp_all [Instr.makeMap]|some hd=>
  refine Z8 R λv hv=>?_;split<;>try trivial
  cases hM:JE X.E t with
  |none=>unfold JD;rw[hM];trivial|some M=>
  refine go ?_;simp[Instr.makeMap,tZ hv,run_underlying (Ho H hM).1,asInt,asIntOf]
theorem OY(H:FxOk X)(R:Rel X cl ch S m ok a w){x ix y:Operand}(ho:o.op= .mapUpdate t x ix y\/o.op= .insert t x ix y):(aQ X.E q o).post S (λ_ S' =>gV X cl ch o a w m ok S'):=by
 suffices h:((match o.dst with|none=>qI x λm=>qI ix λk=>qI y λv=>H_ X.E t m k v|some _=> .fail:Cmd Unit)).post S (λ_ S' =>gV X cl ch o a w m ok S') by
  grind [aQ]
 cases hd:o.dst with
 |some _=>trivial|none=>
 refine Z8 R λu hu=>Z8 R λkv hk=>Z8 R λyv hy=>?_;unfold H_;cases hM:JE X.E t with
 |none=>trivial|some M=>
 obtain⟨hund,hf,⟨i,hi,hko,hka⟩,⟨j,hj,hjt,hva⟩⟩:=Ho H hM;simp only[];refine KJ (T:=[]) R Tk.nil hk λS1 ok1 key R1 T1 k1 s1 hg hr=>?_;refine KJ R1 T1 (Lp k1 hy) λS2 ok2 z R2 T2 k2 s2 hg2 hr2=>?_;have hkey:Ah (az i.td) M.k key (a.eval ix):=by rw[←hka];exact⟨hg,wX hf hr⟩
 obtain⟨c1,c2⟩:=Vp H hi hko hf hkey w;split<;>try trivial
 rename_i bx;obtain⟨l0,hm0,hvw⟩:=hu;simp only at hm0;refine X3 ?_;split<;>try trivial
 rename_i u xs hS;refine eH λe=>?_;subst e;refine ed ?_;obtain⟨l,hm,ha⟩:=R2.own_arr hS;rw[hm0]at hm;cases hm;cases l0 with
 |nil=>exact absurd ha.2 (by simp[Ty.isEnt])|st b=>cases ha|arr blk off len cap sz=>exact absurd ha.1 (by simp[Ty.isEnt])|mp blk=>
 simp only[Loc.view]at hvw;obtain⟨_,es,ck,hb,⟨hsz,hst,hnd⟩,hent⟩:=ha;simp only at hb hent;have hown:N8 m bx (S2 (U4+bx))=[blk]:=by simp_all [N8]
 have hsep:=R2.sep bx blk (by simp_all);have hfind:=c2 (β:=M.v.den) es.toList xs l9 (λj p hp=>by obtain⟨e,h1,h2,h3⟩:=hent j p hp;obtain⟨g1,g2,r1,r2⟩:=FU h2 h3;exact⟨e,by simp_all,by rw[←hka];exact⟨g1,wX hf r1⟩⟩)
 have fin:∀(es' :Array MapEntry) (ck' :Nat) (xs' :List (M.k.den×M.v.den)),xs' =VG (keq M.k) xs key z->
   (Instr.mapUpdate t (a.eval x) (a.eval ix) (a.eval y)).run X.P w= .ok () { w with heap:=w.heap.setIfInBounds blk (.map es' ck') }->vS es' ck' xs'.length->
   (∀(i:Nat) (x:M.k.den×M.v.den),xs'[i]? =some x->∃e:MapEntry,es'[i]? =some e/\LY M.ent e/\kZ w.heap ok2 M.ent x (xR M.ent e))->
   gV X cl ch o a w m ok (upd S2 (U4+bx) (.barr M.ent (VG (keq M.k) xs key z))):=by
  intro es' ck' xs' hxs' run hsz' hent';subst hxs';obtain⟨q1,q2⟩:=MapKept.heap_set (o' :=.map es' ck') hb;have R3:Rel X cl ch (upd S2 (U4+bx) (.barr M.ent (VG (keq M.k) xs key z))) m ok2 a { w with heap:=w.heap.setIfInBounds blk (.map es' ck') }:=by refine R2.mod (by simp_all [N8]) x8 rfl rfl rfl x8 (λb hb=>q2 b (by simp_all)) ?_;refine⟨.mp blk,hm0,rfl,es',ck',q1,hsz',λi x hx=>?_⟩;obtain⟨e,h1,h2,h3⟩:=hent' i x hx;exact⟨e,h1,h2,dm (λ_ _ h=>h) (λb t hb=>q2 b (λe=>hsep.1 t (e▸hb))) h3⟩
  intro next Q hn
  unfold Oper.wp;have e:(execOp a.eval o).run X.P w= .ok .skip { w with heap:=w.heap.setIfInBounds blk (.map es' ck') }:=by rcases ho with ho|ho<;>simp[execOp,ho,run]
  rw[e,Oper.upon_skip,hd];exact hn m ok2 a _ R3 (λ_ _ h=>h) (λb t h=>k2 b t (k1 b t h))
 have hnew:∀n,LY M.ent { key:=a.eval ix,val:=a.eval y,born:=n }/\kZ w.heap ok2 M.ent (key,z) (xR M.ent { key:=a.eval ix,val:=a.eval y,born:=n }):=λn=>
  a8E (e:={ key:=a.eval ix,val:=a.eval y,born:=n }) hg hg2 (wX hf hr) hr2
 show gV X cl ch o a w m ok (upd S2 (U4+bx) (.barr M.ent (VG (keq M.k) xs key z)));cases hfi:qO (keq M.k) xs key with
 |none=>
  rw[hfi]at hfind;refine fin (es.push { key:=a.eval ix,val:=a.eval y,born:=ck }) (ck+1) (xs++[(key,z)]) (by rw[Yo,hfi]) ?_ (vS.push ⟨hsz,hst,hnd⟩ x8) λi x hx=>?_
  .rw[hvw];simp only[Instr.mapUpdate,J9,run_underlying hund,AB hb,L8,c1,hfind,Option.bind_none];exact kX _ hb
  .rw[List.getElem?_append]at hx;split at hx
   .grind
   .rename_i hge;have hi0:i=xs.length:=by
     grind
    subst hi0;simp at hx;subst hx;exact⟨_,by grind,hnew ck⟩
 |some j=>
  obtain⟨p,hp,hpk⟩:=Hq hfi;obtain⟨e,h1,h2,h3⟩:=hent j p hp;obtain⟨g1,g2,r1,r2⟩:=FU h2 h3;have h1' :es.toList[j]? =some e:=by simp_all
  have hpe:=(TK hf _ _).1 hpk;have hke:e.key=a.eval ix:=Ah.det hf (ag:=M.ka) (x:=key) ⟨g1,by grind [wX]⟩ ⟨hg,wX hf hr⟩;rw[hfi]at hfind;simp only[mP,h1',ah]at hfind;refine fin (es.modify j λe=> { e with key:=a.eval ix,val:=a.eval y }) ck (xs.set j (key,z)) (by rw[Yo,hfi]) ?_ (vS.modify ⟨hsz,hst,hnd⟩ x8) λi x hx=>?_
  .rw[hvw];simp only[Instr.mapUpdate,J9,run_underlying hund,AB hb,L8,c1,hfind,h1,ah,X8,hke,Ah.stays (P:=X.P) (w:=w) hf hkey];exact kX _ hb
  grind
theorem Nz{α β:Type}(eq:α->α->Bool):∀(xs:List (α×β)) (k:α),a5r eq xs k=(match qO eq xs k with|some i=>xs.eraseIdx i|none=>xs)
 |[],_=>rfl|p::r,k=>by
  unfold a5r qO;cases h:eq k p.1
  .rw[Nz eq r k];cases qO eq r k<;>rfl
  .rfl
theorem vS.erase{es:Array MapEntry}{ck n m i:Nat}(h:vS es ck n)(hi:i<n)(hm:m+1=n):vS (es.eraseIdxIfInBounds i) ck m:=by
 obtain⟨h1,h2,h3⟩:=h;have he:(es.eraseIdxIfInBounds i).toList=es.toList.eraseIdx i:=by simp
 refine⟨?_,λe h=>?_,?_⟩<;>grind
theorem a7o(H:FxOk X)(R:Rel X cl ch S m ok a w){c:Call}(ho:o.op= .call c)(hc:c.callee= .builtin .delete):(aQ X.E q o).post S (λ_ S' =>gV X cl ch o a w m ok S'):=by
 obtain⟨cal,args,ats⟩:=c;simp only at hc;subst hc;unfold aQ;simp only[ho];refine kM R _ λvs hvs=>?_;split<;>try trivial
 rename_i d t rt x ix hd hat
 obtain⟨xv,r,he,hu,kv,r2,he2,hk,hr⟩:=hvs;simp only[jk]at hr;subst hr;unfold a4P;cases hM:JE X.E t with
 |none=>trivial|some M=>
 obtain⟨hund,hf,⟨i,hi,hko,hka⟩,⟨j,hj,hjt,hva⟩⟩:=Ho H hM;simp only[];refine KJ (T:=[]) R Tk.nil hk λS1 ok1 key R1 T1 k1 s1 hg hr=>?_;have hkey:Ah (az i.td) M.k key kv:=by rw[←hka];exact⟨hg,wX hf hr⟩
 obtain⟨c1,c2⟩:=Vp H hi hko hf hkey w;split<;>try trivial
 rename_i bx;obtain⟨l0,hm0,hvw⟩:=hu;simp only at hm0;refine X3 ?_;split<;>try trivial
 rename_i u xs hS;refine eH λe=>?_;subst e;refine ed ?_;obtain⟨l,hm,ha⟩:=R1.own_arr hS;rw[hm0]at hm;cases hm;cases l0 with
 |nil=>exact absurd ha.2 (by simp[Ty.isEnt])|st b=>cases ha|arr blk off len cap sz=>exact absurd ha.1 (by simp[Ty.isEnt])|mp blk=>
 simp only[Loc.view]at hvw;subst hvw;obtain⟨_,es,ck,hb,hso,hent⟩:=ha;simp only at hb hent;have hown:N8 m bx (S1 (U4+bx))=[blk]:=by simp_all [N8]
 have hsep:=R1.sep bx blk (by simp_all);have hfind:=c2 (β:=M.v.den) es.toList xs (by rw[P7];exact hso.1) (λj p hp=>by obtain⟨e,h1,h2,h3⟩:=hent j p hp;obtain⟨g1,g2,r1,r2⟩:=FU h2 h3;exact⟨e,by simp_all,by rw[←hka];exact⟨g1,wX hf r1⟩⟩)
 have h0:ats[0]? =some t:=by obtain⟨l⟩:=ats<;>simp_all
 have hargs:args.map a.eval=#[.map (some blk),kv]:=by
  grind
 have fin:∀(es' :Array MapEntry) (xs' :List (M.k.den×M.v.den)),xs' =a3j (keq M.k) xs key->
   (Builtin.delete_ ats o.type #[.map (some blk),kv]).run X.P w= .ok (.tuple #[]) { w with heap:=w.heap.setIfInBounds blk (.map es' ck) }->vS es' ck xs'.length->
   (∀(i:Nat) (x:M.k.den×M.v.den),xs'[i]? =some x->∃e:MapEntry,es'[i]? =some e/\LY M.ent e/\kZ w.heap ok1 M.ent x (xR M.ent e))->
   gV X cl ch o a w m ok (upd S1 (U4+bx) (.barr M.ent (a3j (keq M.k) xs key))):=by
  intro es' xs' hxs' run hsz' hent';subst hxs';obtain⟨q1,q2⟩:=MapKept.heap_set (o' :=.map es' ck) hb;have R3:Rel X cl ch (upd S1 (U4+bx) (.barr M.ent (a3j (keq M.k) xs key))) m ok1 a { w with heap:=w.heap.setIfInBounds blk (.map es' ck) }:=by refine R1.mod (by simp_all [N8]) x8 rfl rfl rfl x8 (λb hb=>q2 b (by simp_all)) ?_;refine⟨.mp blk,hm0,rfl,es',ck,q1,hsz',λi x hx=>?_⟩;obtain⟨e,h1,h2,h3⟩:=hent' i x hx;exact⟨e,h1,h2,dm (λ_ _ h=>h) (λb t hb=>q2 b (λe=>hsep.1 t (e▸hb))) h3⟩
  intro next Q hn
  unfold Oper.wp;have e:(execOp a.eval o).run X.P w= .ok (.value (.tuple #[])) { w with heap:=w.heap.setIfInBounds blk (.map es' ck) }:=by simp_all [execOp,resolve,invoke,builtin]
  rw[e,kS,hd];exact hn m ok1 a _ R3 (λ_ _ h=>h) k1
 show gV X cl ch o a w m ok (upd S1 (U4+bx) (.barr M.ent (a3j (keq M.k) xs key)));have hk0:ats[0]? =some t/\(#[Value.map (some blk),kv]:Array Value)[0]? =some (.map (some blk))/\(#[Value.map (some blk),kv]:Array Value)[1]? =some kv:=⟨h0,rfl,rfl⟩;cases hfi:qO (keq M.k) xs key with
 |none=>rw[hfi]at hfind;refine fin es xs (by simp_all [a3j,Nz]) ?_ hso λi x hx=>hent i x hx;simp only[Builtin.delete_,hk0.1,hk0.2.1,hk0.2.2,J9,run_underlying hund,AB hb,L8,c1,hfind,Option.bind_none];rw[kX _ hb];rfl|some j=>
  obtain⟨p,hp,hpk⟩:=Hq hfi;obtain⟨e,h1,h2,h3⟩:=hent j p hp;have h1' :es.toList[j]? =some e:=by simp_all
  have hj:j<xs.length:=(aJ.1 hp).1;rw[hfi]at hfind;simp only[mP,h1',ah]at hfind;refine fin (es.eraseIdxIfInBounds j) (xs.eraseIdx j) (by simp_all [a3j,Nz]) ?_ (hso.erase hj (by grind)) λi x hx=>?_
  .simp only[Builtin.delete_,hk0.1,hk0.2.1,hk0.2.2,J9,run_underlying hund,AB hb,L8,c1,hfind];rw[kX _ hb];rfl
  grind
end
end Go.GP
namespace Go.GP
theorem YG:∀(n:Nat) (vs a b:List V),Cc n vs=some (a,b)->vs=a++b/\a.length=n
 |0,vs,a,b,h=>by simp_all [Cc]|n+1,[],a,b,h=>by grind [Cc]|n+1,v::vs,a,b,h=>by
  unfold Cc at h;cases hs:Cc n vs with
  |none=>simp[hs]at h|some p=>simp[hs,G6,mZ]at h;obtain⟨rfl,rfl⟩:=h;obtain⟨rfl,hl⟩:=YG n vs _ _ hs;exact⟨rfl,by simp[hl]⟩
theorem Sv{C:Cx} :∀{a b:List V} {xs ys:c5x},a.length=xs.length->jk C (a++b) (xs++ys)->jk C a xs/\jk C b ys
 |[],b,xs,ys,hl,h=>by
  have:xs=[]:=by grind
  subst this;exact⟨rfl,h⟩
 |c::a,b,xs,ys,hl,h=>by
  cases xs with
  |nil=>simp at hl|cons x xs=>obtain⟨v,r,e,h1,h2⟩:=h;obtain⟨rfl,rfl⟩:=e;obtain⟨h3,h4⟩:=Sv (by simpa using hl) h2;exact⟨⟨_,_,rfl,h1,h3⟩,h4⟩
theorem a5G{C:Cx} :∀{a:List V} {xs:c5x},BV a=false->jk C a xs->h_ C a xs
 |[],xs,_,h=>h|c::a,xs,ht,⟨v,r,e,h1,h2⟩=>by
  have ht2:=by cases c<;>first|exact ht|grind [BV]
  refine⟨v,r,e,?_,a5G ht2 h2⟩;cases c<;>first|exact h1|grind [BV]
variable {v:Value}
theorem b0r{C:Cx}{a:List V}{xs:c5x}{n:Nat}(ht:BV a=false)(h:jk C a xs)(hr:SQ n v xs):kU C (a3L a) v:=by
 obtain⟨_,hv⟩:=hr;cases a with
 |nil=>subst h;subst hv;exact⟨_,rfl,rfl⟩|cons c a=>
  obtain⟨x,r,rfl,h1,h2⟩:=h;cases a with
  |nil=>subst h2;subst hv;exact h1|cons d a=>obtain⟨y,r',rfl,h3,h4⟩:=h2;subst hv;exact⟨_,rfl,a5G ht ⟨_,_,rfl,h1,_,_,rfl,h3,h4⟩⟩
theorem Uz{h:Array Obj}{ok ok' :Nat->Ty->Prop} :∀{ts:List Ty} {x:Rf ts} {vs:c5x},(∀b u,ok b u->RQ u ts=true->ok' b u)->Dx h ok (QZ ts x) vs->Dx h ok' (QZ ts x) vs
 |[],_,_,_,hr=>hr|[t],x,_,f,hr=>by obtain⟨v,r,e,⟨b,o,es,hv,hb,hc,hp⟩,h2⟩:=hr;exact⟨v,r,e,⟨b,o,es,hv,f _ _ hb (by simp[RQ]),hc,wG (λb u h k=>f b u h (by simp[RQ,k])) hp⟩,h2⟩
 |t::t' ::ts,x,_,f,hr=>by obtain⟨v,r,e,⟨b,o,es,hv,hb,hc,hp⟩,h2⟩:=hr;exact⟨v,r,e,⟨b,o,es,hv,f _ _ hb (by simp[RQ]),hc,wG (λb u h k=>f b u h (by simp[RQ,k])) hp⟩,Uz (λb u h k=>f b u h (by rw[RQ,k];simp)) h2⟩
theorem Qb{h:Array Obj}{ok ok' :Nat->Ty->Prop}{m:Mp}{t:Ty}{xs:List t.den}{l:Loc}(f:∀b u,ok b u->Ty.occ u t=true->ok' b u)(hr:arrOk ⟨h,ok,m⟩ t xs l):arrOk ⟨h,ok',m⟩ t xs l:=by
 cases l with
 |nil=>exact hr|st b=>exact hr|mp b=>obtain⟨h1,es,ck,h2,h3,h4⟩:=hr;refine⟨h1,es,ck,h2,h3,λi y hi=>?_⟩<;>grind [wG]
 |arr blk off len cap sz=>obtain⟨h0,h1,h2,h3,c,T,g,h4,hz,h5,h6⟩:=hr;refine⟨h0,h1,h2,h3,c,T,g,h4,hz,h5,λi y hi=>?_⟩<;>grind [wG]
theorem BJ{h:Array Obj}{ok ok' :Nat->Ty->Prop} :∀{m:M} {ho:Option Nat} {x:m.den} {cs:c5x} {O:c5y},(∀b u,ok b u->m.occ u=true->ok' b u)->lS h ok m ho x cs O->lS h ok' m ho x cs O
 | .dat t,_,_,_,_,f,hr=>⟨wG f hr.1,hr.2⟩| .unit,_,_,_,_,_,hr=>hr| .pair a b,_,_,_,_,f,⟨c,d,O1,O2,e,eo,h1,h2⟩=>⟨c,d,O1,O2,e,eo,BJ (λb u h k=>f b u h (by simp[M.occ,k])) h1,BJ (λb u h k=>f b u h (by simp[M.occ,k])) h2⟩| .box m,_,_,_,_,f,⟨blk,arr,T,O',e,hh,hr,eo⟩=>⟨blk,arr,T,O',e,hh,BJ f hr,eo⟩| .own t,ho,_,_,_,f,⟨v,e,h1,ha⟩=>by
  refine⟨v,e,h1,?_⟩;split at ha
  .exact ha
  .obtain⟨l,hv,ha,hO⟩:=ha;exact⟨l,hv,Qb f ha,hO⟩
 | .owns m,ho,_,_,_,f,⟨v,e,h1,ha⟩=>by
  refine⟨v,e,h1,?_⟩;split at ha
  .exact ha
  .obtain⟨he,l,Os,hv,ha,hO⟩:=ha;exact⟨he,l,Os,hv,uo (λ_ _=>rfl) (λi x es O _ hr=>BJ f hr) ha,hO⟩
 | .ownb t,_,_,_,_,f,⟨l,v,e,hv,ha,hO⟩=>⟨l,v,e,hv,Qb f ha,hO⟩| .rp t,_,_,_,_,f,⟨v,e,⟨b,o,es,hv,hb,hc,hp⟩,h2⟩=>⟨v,e,⟨b,o,es,hv,f _ _ hb (by simp[M.occ]),hc,wG (λb u h k=>f b u h (by simp[M.occ,k])) hp⟩,h2⟩| .fn g ts,_,_,_,_,f,⟨vs,e,h1,h2⟩=>⟨vs,e,Uz f h1,h2⟩| .ifc t m,_,_,_,_,f,⟨u,e,h1⟩=>⟨u,e,BJ f h1⟩| .cell _,_,_,_,_,_,h=>h| .fr t,_,_,_,_,f,⟨l,v,e,hv,ha,hk,hO⟩=>⟨l,v,e,hv,Qb (λb u h k=>f b u h (by simp[M.occ,k])) ha,λb h=>f b t (hk b h) (by simp[M.occ]),hO⟩| .mbx t ..,_,_,_,_,f,⟨b,arr,es,a,v,l,e,h1,h2,h3,h4⟩=>⟨b,arr,es,a,v,l,e,h1,h2,wG (λb u h k=>f b u h (by simp[M.occ,k])) h3,h4⟩| .lp t,_,_,_,_,f,⟨v,e,⟨b,o,es,hv,hb,hc,hp⟩,h2⟩=>⟨v,e,⟨b,o,es,hv,f _ _ hb (by simp[M.occ]),hc,wG (λb u h k=>f b u h (by simp[M.occ,k])) hp⟩,h2⟩| .dv ..,_,_,_,_,f,h=>h| .ownr m o,_,_,_,_,f,⟨v,e,h1,he,h0,l,Os,hv,ha,hO⟩=>⟨v,e,h1,he,h0,l,Os,hv,uo (λ_ _=>rfl) (λi x es O _ hr=>BJ f hr) ha,hO⟩| .sit,_,_,_,_,f,h=>h
theorem Wj{h:Array Obj}{ok ok' :Nat->Ty->Prop} :∀{ms:List MG} {x:Y3 ms} {vs:c5x} {O:c5y},(∀b u,ok b u->JJ u ms=true->ok' b u)->nI h ok ms x vs O->nI h ok' ms x vs O
 |[],_,_,_,_,e=>e|[m],_,_,_,f,⟨v,cs,e,hg,hr⟩=>⟨v,cs,e,hg,BJ (λb u h k=>f b u h (by simp[JJ,k])) hr⟩|m::m' ::r,_,_,_,f,⟨v,cs,vs',O1,O2,e,eo,hg,h1,h2⟩=>
  ⟨v,cs,vs',O1,O2,e,eo,hg,BJ (λb u h k=>f b u h (by simp[JJ,k])) h1,Wj (λb u h k=>f b u h (by grind [JJ])) h2⟩
theorem OU{u:Ty} :∀{a b:List MG},JJ u (a++b)=(JJ u a || JJ u b)
 |[],_=>rfl|m::a,b=>by simp[JJ,OU,Bool.or_assoc]
theorem QF:∀{fs:List (Nat×FSpec)} {f:Nat} {vs:List V} {s:FSpec},Yr fs f vs=some s->(f,s)∈fs
 |[],_,_,_,h=>by grind [Yr]|(g,s')::r,f,vs,s,h=>by
  unfold Yr at h;cases hb:(Nat.beq g f&&Js s'.ps vs)
  .rw[hb]at h;exact U9 _ (QF h)
  .rw[hb]at h;simp at h;subst h;simp only[D5]at hb;have:=fZ hb.1;subst this;exact gz
theorem b4u{l l0:Loc}(h:l.view none v)(h0:l0.view none v)(hs:∀b o n c s b' o' n' c' s',l= .arr b o n c s->l0= .arr b' o' n' c' s' ->s=s'):l=l0:=by
 cases l<;>cases l0<;>simp[Loc.view]at h h0
 all_goals grind
theorem MH{h:Array Obj}{ok:Nat->Ty->Prop} :∀{ms:List MG} {x:Y3 ms} {vs:c5x} {O:c5y},nI h ok ms x vs O->vs.length=ms.length
 |[],_,_,_,e=>by simp[e.1]|[m],_,_,_,⟨v,cs,e,hg,hr⟩=>by grind|m::m' ::r,_,_,_,⟨v,cs,vs',O1,O2,e,eo,hg,h1,h2⟩=>by have:=MH h2;subst e;simp[this]
variable {q:Nat}{f:FuncId}{vs:List V}{vals:c5x}{s:FSpec}{c:Call}
section
variable {X:Fx} {cl ch:Nat} {S:Sm} {m:Mp} {ok:Nat->Ty->Prop} {a:Act} {w:World} {o:Oper}
theorem Z5{α:Type}{Q:α->Sm->Prop}{h0:Array Obj}{ok0:Nat->Ty->Prop}{m0:Mp} :∀(ms:List MG) {vs:List V} {vals:c5x} {ws:List V} {os:c5x} {B:c5y} {K:Cmd α} {S:Sm}
  (R:Rel X cl ch S m ok a w) (hm:∀k l,m0 k=some l->m k=some l) (hT:Tk X S m ok w B) (hv:jk ⟨h0,ok0,m0⟩ vs vals) (ho:rV w.heap ms vals os B) (hw:jk ⟨w.heap,ok,m⟩ ws os)
  (hK:∀S',Rel X cl ch S' m ok a w->K.post S' Q),(X9 ms vs ws K).post S Q
 |[],vs,vals,ws,os,B,K,S,R,hm,hT,hv,ho,hw,hK=>by
  cases vs with
  |cons _ _=>unfold X9;trivial|nil=>
   cases ws with
   |cons _ _=>unfold X9;trivial|nil=>unfold X9;exact hK S R
 |(g,.dat t)::ms,vs,vals,ws,os,B,K,S,R,hm,hT,hv,ho,hw,hK=>by
  cases vs with
  |nil=>unfold X9;trivial|cons v vs=>obtain⟨x,r,rfl,h1,h2⟩:=hv;unfold X9;exact Z5 ms R hm hT h2 ho hw hK
 |(g,.own t)::ms,vs,vals,ws,os,B,K,S,R,hm,hT,hv,ho,hw,hK=>by
  cases vs with
  |nil=>unfold X9;trivial|cons v vs=>obtain⟨x,r,rfl,h1,h2⟩:=hv;unfold X9;exact Z5 ms R hm hT h2 ho hw hK
 |(g,.pair p q)::ms,vs,vals,ws,os,B,K,S,R,hm,hT,hv,ho,hw,hK=>by
  cases vs with
  |nil=>unfold X9;trivial|cons v vs=>obtain⟨x,r,rfl,h1,h2⟩:=hv;unfold X9;exact Z5 ms R hm hT h2 ho hw hK
 |(g,.unit)::ms,vs,vals,ws,os,B,K,S,R,hm,hT,hv,ho,hw,hK=>by
  cases vs with
  |nil=>unfold X9;trivial|cons v vs=>obtain⟨x,r,rfl,h1,h2⟩:=hv;unfold X9;exact Z5 ms R hm hT h2 ho hw hK
 |(g,.cell _)::ms,vs,vals,ws,os,B,K,S,R,hm,hT,hv,ho,hw,hK=>by
  cases vs with
  |nil=>unfold X9;trivial|cons v vs=>obtain⟨x,r,rfl,h1,h2⟩:=hv;unfold X9;exact Z5 ms R hm hT h2 ho hw hK
 |(g,.fr _)::ms,vs,vals,ws,os,B,K,S,R,hm,hT,hv,ho,hw,hK=>by
  cases vs with
  |nil=>unfold X9;trivial|cons v vs=>obtain⟨x,r,rfl,h1,h2⟩:=hv;unfold X9;exact Z5 ms R hm hT h2 ho hw hK
 |(g,.box md)::ms,vs,vals,ws,os,B,K,S,R,hm,hT,hv,ho,hw,hK=>by
  cases vs with
  |nil=>unfold X9;trivial|cons v0 vs=>
  cases v0<;>try (unfold X9;trivial)
  case ptr bx off=>
  cases ws with
  |nil=>unfold X9;trivial|cons o0 ws=>
  cases o0<;>try (unfold X9;trivial)
  case agg cs=>
   unfold X9;refine X3 ?_;split<;>try trivial
   rename_i hS;refine ed ?_;obtain⟨x,r,rfl,h1,h2⟩:=hv;obtain⟨y,r',rfl,h3,h4⟩:=hw;obtain⟨b,arr,T,os',B',e1,hh,e2,rfl,ho'⟩:=ho;simp only[H8]at e2;obtain⟨rfl,rfl⟩:=e2;obtain⟨blk,hmb,e3⟩:=h1;subst e1;simp only[Value.pointer.injEq,G6,Addr.mk.injEq,and_true]at e3;obtain⟨rfl,rfl⟩:=e3;obtain⟨arr',e4,hl⟩:=h3;simp only[Value.agg.injEq]at e4;subst e4;have hmb' :=hm _ _ hmb;obtain⟨R',T'⟩:=R.backV (n:=bx) (v:=.bcells cs) (O1:=[b]) (B:=B') x8 (by simpa using hT) (by simp[N8,hmb']) ⟨b,_,T,hmb',hh,hl⟩;exact Z5 ms R' hm T' h2 ho' h4 hK
 |(g,.ifc t (.box md))::ms,vs,vals,ws,os,B,K,S,R,hm,hT,hv,ho,hw,hK=>by
  cases vs with
  |nil=>unfold X9;trivial|cons v0 vs=>
  cases v0<;>try (unfold X9;trivial)
  case ifc t' v1=>
  cases v1<;>try (unfold X9;trivial)
  case ptr bx off=>
  cases ws with
  |nil=>unfold X9;trivial|cons o0 ws=>
  cases o0<;>try (unfold X9;trivial)
  case agg cs=>
   unfold X9;refine X3 ?_;split<;>try trivial
   rename_i hS;refine ed ?_;obtain⟨x,r,rfl,h1,h2⟩:=hv;obtain⟨y,r',rfl,h3,h4⟩:=hw;obtain⟨t2,b,arr,T,os',B',e1,hh,e2,rfl,ho'⟩:=ho;simp only[H8]at e2;obtain⟨rfl,rfl⟩:=e2;obtain⟨u,e5,_,h1⟩:=h1;obtain⟨blk,hmb,e3⟩:=h1;subst e1;subst e3;simp only[Value.iface.injEq,Value.pointer.injEq,G6,Addr.mk.injEq,and_true]at e5;obtain⟨rfl,rfl,rfl⟩:=e5;obtain⟨arr',e4,hl⟩:=h3;simp only[Value.agg.injEq]at e4;subst e4;have hmb' :=hm _ _ hmb;obtain⟨R',T'⟩:=R.backV (n:=bx) (v:=.bcells cs) (O1:=[b]) (B:=B') x8 (by simpa using hT) (by simp[N8,hmb']) ⟨b,_,T,hmb',hh,hl⟩;exact Z5 ms R' hm T' h2 ho' h4 hK
 |(g,.ownb t)::ms,vs,vals,ws,os,B,K,S,R,hm,hT,hv,ho,hw,hK=>by
  cases vs with
  |nil=>unfold X9;trivial|cons v0 vs=>
  obtain⟨x,r,rfl,h1,h2⟩:=hv;obtain⟨os',rfl,ho'⟩:=ho;cases v0<;>try (unfold X9;trivial)
  case nl=>
   cases ws with
   |nil=>unfold X9;trivial|cons o0 ws=>
   cases o0<;>try (unfold X9;trivial)
   case own nm vw=>
   cases vw with
   |some _=>unfold X9;trivial|none=>
   unfold X9;obtain⟨y,r',e,h3,h4⟩:=hw;simp only[H8]at e;obtain⟨rfl,rfl⟩:=e;refine ed ?_;have T1:=Tk.kill R hT nm (bs:=[]) (λb h=>by cases h) dD;rw[E9]at T1;exact Z5 ms (R.kill nm) hm T1 h2 ho' h4 hK
  case own bx vw=>
   cases vw with
   |some _=>unfold X9;trivial|none=>
   cases ws with
   |nil=>unfold X9;trivial|cons o0 ws=>
   cases o0<;>try (unfold X9;trivial)
   case own nm vw=>
   cases vw with
   |some _=>unfold X9;trivial|none=>
   unfold X9;obtain⟨y,r',e,h3,h4⟩:=hw;simp only[H8]at e;obtain⟨rfl,rfl⟩:=e;obtain⟨l0,hm0,hv0⟩:=h1;obtain⟨l,hml,hvl⟩:=h3;have hm0' :=hm _ _ hm0;refine X3 ?_;split<;>try trivial
   rename_i u xs hS;refine ed (X3 ?_);split<;>try trivial
   rename_i t' hS2;refine eH λe=>?_;subst e;refine ed ?_;obtain⟨l',hml',ha⟩:=R.own_arr hS;simp only at hml;rw[hml]at hml';cases hml';have R1:=R.kill nm;have hob:N8 m nm (S (U4+nm))=l.blks:=by rw[hS];cases l<;>first|(simp[N8,hml,Loc.blks];done)|cases ha
   have T1:=Tk.kill R hT nm (bs:=l.blks) (λb h=>by rw[hob];exact h) (Loc.blks_nodup l);have hg:=R1.box bx;rw[hS2]at hg;obtain⟨l1,hm1,hsz⟩:=hg;simp only at hm1;rw[hm0']at hm1;cases hm1;have hll:l=l0:=b4u hvl hv0 (λb o n c s b' o' n' c' s' e1 e2=>by subst e1;rw[hsz _ _ _ _ _ e2];exact ha.2.1);subst hll;obtain⟨R',T'⟩:=R1.backV (n:=bx) (v:=.barr u xs) (O1:=l.blks) (B:=B) x8 (T1.perm lI) (by cases l<;>first|(simp[N8,hm0',Loc.blks];done)|cases ha) ⟨l,hm0',ha⟩;exact Z5 ms R' hm T' h2 ho' h4 hK
 |(g,.lp _)::ms,vs,vals,ws,os,B,K,S,R,hm,hT,hv,ho,hw,hK=>by
  cases vs with
  |nil=>unfold X9;trivial|cons v vs=>obtain⟨x,r,rfl,h1,h2⟩:=hv;unfold X9;exact Z5 ms R hm hT h2 ho hw hK
 |(g,.ownr ..)::ms,vs,vals,ws,os,B,K,S,R,hm,hT,hv,ho,hw,hK=>by
  cases vs with
  |nil=>unfold X9;trivial|cons v vs=>obtain⟨x,r,rfl,h1,h2⟩:=hv;unfold X9;exact Z5 ms R hm hT h2 ho hw hK
 |(g,.dv ..)::ms,vs,vals,ws,os,B,K,S,R,hm,hT,hv,ho,hw,hK=>by
  cases vs with
  |nil=>unfold X9;trivial|cons v vs=>obtain⟨x,r,rfl,h1,h2⟩:=hv;unfold X9;exact Z5 ms R hm hT h2 ho hw hK
 |(g,.sit)::ms,vs,vals,ws,os,B,K,S,R,hm,hT,hv,ho,hw,hK=>by cases vs<;>(unfold X9;trivial)|(g,.mbx ..)::ms,vs,vals,ws,os,B,K,S,R,hm,hT,hv,ho,hw,hK=>by
  cases vs with
  |nil=>unfold X9;trivial|cons v0 vs=>
  obtain⟨x,r,rfl,h1,h2⟩:=hv;obtain⟨os',rfl,ho'⟩:=ho;cases v0<;>try (unfold X9;trivial)
  case ptr bx off=>
  cases ws with
  |nil=>unfold X9;trivial|cons o0 ws=>
  cases o0<;>try (unfold X9;trivial)
  case ptr nm off' =>
   unfold X9;obtain⟨y,r',e,h3,h4⟩:=hw;simp only[H8]at e;obtain⟨rfl,rfl⟩:=e;obtain⟨b0,hm0,hv0⟩:=h1;obtain⟨b1,hm1,hv1⟩:=h3;have hm0' :=hm _ _ hm0;have hbb:b0=b1:=by rw[hv0]at hv1;simp only[Value.pointer.injEq,G6,Addr.mk.injEq,and_true]at hv1;exact hv1.1
   subst hbb;refine X3 ?_;split<;>try trivial
   rename_i tb0 cs0 c hS;refine ed (X3 ?_);split<;>try trivial
   rename_i hS2;refine ed ?_;have hb:=R.box nm;rw[hS]at hb;obtain⟨blk',arr,es,a0,v0,hm',hh,he,hl,hs,g1⟩:=hb;simp only at hm1 hm';rw[hm1]at hm';cases hm';have R1:=R.kill nm;have T1:=Tk.kill R hT nm (bs:=[b0]) (λb h=>by rw[hS];simp[N8,hm1];simpa using h) x8;obtain⟨R',T'⟩:=R1.backV (n:=bx) (v:=.bsb tb0 cs0 c) (O1:=[b0]) (B:=B) x8 (T1.perm lI) (by simp[N8,hm0']) ⟨b0,arr,es,a0,v0,hm0',hh,he,hl,hs,g1⟩;exact Z5 ms R' hm T' h2 ho' h4 hK
 |(g,.owns md)::ms,vs,vals,ws,os,B,K,S,R,hm,hT,hv,ho,hw,hK=>by
  cases vs with
  |nil=>unfold X9;trivial|cons v vs=>obtain⟨x,r,rfl,h1,h2⟩:=hv;unfold X9;exact Z5 ms R hm hT h2 ho hw hK
 |(g,.rp t)::ms,vs,vals,ws,os,B,K,S,R,hm,hT,hv,ho,hw,hK=>by
  cases vs with
  |nil=>unfold X9;trivial|cons v vs=>obtain⟨x,r,rfl,h1,h2⟩:=hv;unfold X9;exact Z5 ms R hm hT h2 ho hw hK
 |(g,.fn f ts)::ms,vs,vals,ws,os,B,K,S,R,hm,hT,hv,ho,hw,hK=>by
  cases vs with
  |nil=>unfold X9;trivial|cons v vs=>obtain⟨x,r,rfl,h1,h2⟩:=hv;unfold X9;exact Z5 ms R hm hT h2 ho hw hK
 |(g,.ifc t (.dat u))::ms,vs,vals,ws,os,B,K,S,R,hm,hT,hv,ho,hw,hK=>by
  cases vs with
  |nil=>unfold X9;trivial|cons v vs=>obtain⟨x,r,rfl,h1,h2⟩:=hv;unfold X9;exact Z5 ms R hm hT h2 ho hw hK
 |(g,.ifc t (.own u))::ms,vs,vals,ws,os,B,K,S,R,hm,hT,hv,ho,hw,hK=>by
  cases vs with
  |nil=>unfold X9;trivial|cons v vs=>obtain⟨x,r,rfl,h1,h2⟩:=hv;unfold X9;exact Z5 ms R hm hT h2 ho hw hK
 |(g,.ifc t (.pair p q))::ms,vs,vals,ws,os,B,K,S,R,hm,hT,hv,ho,hw,hK=>by
  cases vs with
  |nil=>unfold X9;trivial|cons v vs=>obtain⟨x,r,rfl,h1,h2⟩:=hv;unfold X9;exact Z5 ms R hm hT h2 ho hw hK
 |(g,.ifc t (.unit))::ms,vs,vals,ws,os,B,K,S,R,hm,hT,hv,ho,hw,hK=>by
  cases vs with
  |nil=>unfold X9;trivial|cons v vs=>obtain⟨x,r,rfl,h1,h2⟩:=hv;unfold X9;exact Z5 ms R hm hT h2 ho hw hK
 |(g,.ifc t (.cell _))::ms,vs,vals,ws,os,B,K,S,R,hm,hT,hv,ho,hw,hK=>by
  cases vs with
  |nil=>unfold X9;trivial|cons v vs=>obtain⟨x,r,rfl,h1,h2⟩:=hv;unfold X9;exact Z5 ms R hm hT h2 ho hw hK
 |(g,.ifc t (.lp _))::ms,vs,vals,ws,os,B,K,S,R,hm,hT,hv,ho,hw,hK=>by
  cases vs with
  |nil=>unfold X9;trivial|cons v vs=>obtain⟨x,r,rfl,h1,h2⟩:=hv;unfold X9;exact Z5 ms R hm hT h2 ho hw hK
 |(g,.ifc t (.ownr ..))::ms,vs,vals,ws,os,B,K,S,R,hm,hT,hv,ho,hw,hK=>by
  cases vs with
  |nil=>unfold X9;trivial|cons v vs=>obtain⟨x,r,rfl,h1,h2⟩:=hv;unfold X9;exact Z5 ms R hm hT h2 ho hw hK
 |(g,.ifc t (.dv ..))::ms,vs,vals,ws,os,B,K,S,R,hm,hT,hv,ho,hw,hK=>by
  cases vs with
  |nil=>unfold X9;trivial|cons v vs=>obtain⟨x,r,rfl,h1,h2⟩:=hv;unfold X9;exact Z5 ms R hm hT h2 ho hw hK
 |(g,.ifc t (.fr _))::ms,vs,vals,ws,os,B,K,S,R,hm,hT,hv,ho,hw,hK=>by
  cases vs with
  |nil=>unfold X9;trivial|cons v vs=>obtain⟨x,r,rfl,h1,h2⟩:=hv;unfold X9;exact Z5 ms R hm hT h2 ho hw hK
 |(g,.ifc t (.owns md))::ms,vs,vals,ws,os,B,K,S,R,hm,hT,hv,ho,hw,hK=>by
  cases vs with
  |nil=>unfold X9;trivial|cons v vs=>obtain⟨x,r,rfl,h1,h2⟩:=hv;unfold X9;exact Z5 ms R hm hT h2 ho hw hK
 |(g,.ifc t .sit)::ms,vs,vals,ws,os,B,K,S,R,hm,hT,hv,ho,hw,hK=>by
  cases vs with
  |nil=>unfold X9;trivial|cons v vs=>obtain⟨x,r,rfl,h1,h2⟩:=hv;unfold X9;exact Z5 ms R hm hT h2 ho hw hK
 |(g,.ifc t (.mbx ..))::ms,vs,vals,ws,os,B,K,S,R,hm,hT,hv,ho,hw,hK=>by
  cases vs with
  |nil=>unfold X9;trivial|cons v vs=>obtain⟨x,r,rfl,h1,h2⟩:=hv;unfold X9;exact Z5 ms R hm hT h2 ho hw hK
 |(g,.ifc t (.ownb u))::ms,vs,vals,ws,os,B,K,S,R,hm,hT,hv,ho,hw,hK=>by
  cases vs with
  |nil=>unfold X9;trivial|cons v vs=>obtain⟨x,r,rfl,h1,h2⟩:=hv;unfold X9;exact Z5 ms R hm hT h2 ho hw hK
 |(g,.ifc t (.rp u))::ms,vs,vals,ws,os,B,K,S,R,hm,hT,hv,ho,hw,hK=>by
  cases vs with
  |nil=>unfold X9;trivial|cons v vs=>obtain⟨x,r,rfl,h1,h2⟩:=hv;unfold X9;exact Z5 ms R hm hT h2 ho hw hK
 |(g,.ifc t (.fn f ts))::ms,vs,vals,ws,os,B,K,S,R,hm,hT,hv,ho,hw,hK=>by
  cases vs with
  |nil=>unfold X9;trivial|cons v vs=>obtain⟨x,r,rfl,h1,h2⟩:=hv;unfold X9;exact Z5 ms R hm hT h2 ho hw hK
 |(g,.ifc t (.ifc t2 md))::ms,vs,vals,ws,os,B,K,S,R,hm,hT,hv,ho,hw,hK=>by
  cases vs with
  |nil=>unfold X9;trivial|cons v vs=>obtain⟨x,r,rfl,h1,h2⟩:=hv;unfold X9;exact Z5 ms R hm hT h2 ho hw hK
theorem CU{P:Program}{w:World}{fn:Func}(hf:P.funcs[f]? =some fn)(hb:fn.body.isSome=true)(hn:(fn.name== "runtime.NumGoroutine")=false)(args:Array Value):
  (callFunc f args).run P w= .ok (.enter f args) w:=by
 have hb' :¬fn.body=none:=by grind
 simp_all [callFunc]
theorem a6z(H:FxOk X)(R:Rel X (CB*q) (CB*q+CB) S m ok a w){h0:Array Obj}{ok0:Nat->Ty->Prop}{r:Y3 (s.rs++s.outs)}{rs os:c5x}{O' B:c5y}
  (hT:Tk X S m ok w (O' ++B)) (hv:jk ⟨h0,ok0,m⟩ vs vals) (hret:SQ s.rs.length v rs) (ho:rV w.heap s.ps vals os B) (hr:nI w.heap ok (s.rs++s.outs) r (rs++os) O') {Q:Unit->Sm->Prop}
  (hK:∀S' m',Rel X (CB*q) (CB*q+CB) S' m' ok (a.put o.dst v) w->(∀k l,m k=some l->m' k=some l)->Q () S'):
  (Jl (s.rs++s.outs) r (J7 q o.dst) λws n' =>bif Nat.ble n' (J7 q o.dst+64)then(match Cc s.rs.length ws with
    |some (a,o')=>bif BV a then .fail else X9 s.ps vs o' (cu X.E o.dst (a3L a))
    |none=> .fail)else .fail).post S Q:=by
 have hcl:CB*q<=J7 q o.dst:=by
  cases o.dst with
  |none=>exact bu _ _|some t=>exact bu _ _
 refine GY _ R hcl hT hr λS1 m1 ws n1 ch1 R1 c1 T1 k1 s1 l1 e1=>aX λhle=>?_;have hle' :=S9 hle;split<;>try trivial
 rename_i p p' hsp;obtain⟨rfl,hpl⟩:=YG _ _ _ _ hsp;obtain⟨l2,l3⟩:=Sv (by rw[hpl,hret.1]) l1;cases ht:BV p
 .refine Z5 s.ps R1 k1 T1 hv ho l3 λS2 R2=>?_;have hres:=b0r ht l2 hret;cases hd:o.dst with
  |none=>have hin:=uC H (q:=q) none (λt h=>by grind);rw[hd]at hle' hK;exact hK S2 m1 (R2.chmono l9) k1
  |some t=>refine aX λhb=>?_;have hin:=uC H (q:=q) (some t) (λt' h=>by simp_all [yH]);rw[hd]at hle' hK;have R3:Rel X (CB*q) (CB*q+CB) S2 m1 ok a w:=R2.chmono l9;exact hK _ m1 (R3.put H.ntB hb hres) k1
 .trivial
theorem b2o(H:FxOk X)(hvs:jk ⟨w.heap,ok,m⟩ vs vals){S1:Sm}{ok1:Nat->Ty->Prop}(R1:Rel X (CB*q) (CB*q+CB) S1 m ok1 a w){O:c5y}(T1:Tk X S1 m ok1 w O)
  (k1:∀b t,ok b t->ok1 b t) {okc:Nat->Ty->Prop} (hokc:okL (Jz s) S1 m ok1=okc) {r:Y3 (s.rs++s.outs)} {e:Ending} {w' :World}
  (hp:∃v ok' O' rs os B,e= .returned v/\Frame' (X.E.gl=[]) w w' O/\(∀b t,okc b t->ok' b t)/\(∀b t,ok' b t->b<w'.heap.size/\(okc b t\/w.heap.size<=b\/b∈O))/\
   (O' ++B).Nodup/\(∀b∈O' ++B,(∀t,¬ok' b t)/\b<w'.heap.size/\(w.heap.size<=b\/b∈O))/\
   SQ s.rs.length v rs/\rV w'.heap s.ps vals os B/\nI w'.heap ok' (s.rs++s.outs) r (rs++os) O'):
  (Jl (s.rs++s.outs) r (J7 q o.dst) λws n' =>bif Nat.ble n' (J7 q o.dst+64)then(match Cc s.rs.length ws with
   |some (a,o')=>bif BV a then .fail else X9 s.ps vs o' (cu X.E o.dst (a3L a))
   |none=> .fail)else .fail).post S1 (λ_ S' =>∃v m' okf,e= .returned v/\Rel X (CB*q) (CB*q+CB) S' m' okf (a.put o.dst v) w' /\(∀k l,m k=some l->m' k=some l)/\(∀b t,ok b t->okf b t)):=by
 have c1:∀b t,ok1 b t->okc b t:=λb t h=>by rw[←hokc];exact .inl h
 have hsep1:∀b t,ok1 b t->∀n,b∉N8 m n (S1 (U4+n)):=λb t h n e=>(R1.sep n b e).1 t h;have hown:∀b,(w.heap.size<=b\/b∈O)->(X.w0.heap.size<=b\/b∈X.O)/\∀n,b∉N8 m n (S1 (U4+n)):=λb hb=>by
  rcases hb with hb|hb
  .have:=R1.frame.size;exact⟨.inl l9,λn e=>by have:=(R1.sep n b e).2.1;omega⟩
  .exact(T1.free b hb).2.2
 obtain⟨v,ok',O',rs,os,B,rfl,fr,k2,hok',hnd,hfr,hret,houts,hrel'⟩:=hp;have k3:∀b t,ok1 b t->(ok' b t/\∀n,b∉N8 m n (S1 (U4+n))):=λb t h=>⟨k2 b t (c1 b t h),hsep1 b t h⟩;have R2:Rel X (CB*q) (CB*q+CB) S1 m (λb t=>ok' b t/\∀n,b∉N8 m n (S1 (U4+n))) a w' :=by
  refine R1.world fr.os fr.tape fr.output fr.size (λb hb h=>fr.block b hb λhO=>?_) k3 (λb t h=>⟨(hok' b t h.1).1,?_⟩) fr.drawn
  .obtain⟨f1,f2,f3,f4⟩:=T1.free b hO<;>simp_all
  .rcases(hok' b t h.1).2 with h'|h'
   .rw[←hokc]at h';rcases h' with h'|⟨_,n,h',_⟩<;>simp_all
   simp_all
 have hrel2:nI w'.heap (λb t=>ok' b t/\∀n,b∉N8 m n (S1 (U4+n))) (s.rs++s.outs) r (rs++os) O' :=by
  refine Wj (λb u h k=>⟨h,λn e=>?_⟩) hrel';rcases(hok' b u h).2 with h'|h'
  .rw[←hokc]at h';rcases h' with h'|⟨hl,_⟩<;>grind [OU,Jz]
  simp_all
 refine a6z H R2 (h0:=w.heap) (ok0:=ok) (vals:=vals) (rs:=rs) (os:=os) (O' :=O') (B:=B) (v:=v) ⟨hnd,λb hb=>?_⟩ hvs hret houts hrel2 λS' m' R' km=>⟨v,m',_,rfl,R',km,λb t hb=>k3 b t (k1 b t hb)⟩<;>simp_all
theorem XJ(H:FxOk X)(hvs:jk ⟨w.heap,ok,m⟩ vs vals){S1:Sm}{ok1:Nat->Ty->Prop}(R1:Rel X (CB*q) (CB*q+CB) S1 m ok1 a w){O:c5y}(T1:Tk X S1 m ok1 w O)
  (k1:∀b t,ok b t->ok1 b t) {okc:Nat->Ty->Prop} (hokc:okL (Jz s) S1 m ok1=okc) {r:Y3 (s.rs++s.outs)}
  (hC:Calls X.P f vals.toArray w λe w' =>∃v ok' O' rs os B,e= .returned v/\Frame' (X.E.gl=[]) w w' O/\(∀b t,okc b t->ok' b t)/\(∀b t,ok' b t->b<w'.heap.size/\(okc b t\/w.heap.size<=b\/b∈O))/\
   (O' ++B).Nodup/\(∀b∈O' ++B,(∀t,¬ok' b t)/\b<w'.heap.size/\(w.heap.size<=b\/b∈O))/\
   SQ s.rs.length v rs/\rV w'.heap s.ps vals os B/\nI w'.heap ok' (s.rs++s.outs) r (rs++os) O')
  (hrun:(execOp a.eval o).run X.P w= .ok (.enter f vals.toArray) w):
  (Jl (s.rs++s.outs) r (J7 q o.dst) λws n' =>bif Nat.ble n' (J7 q o.dst+64)then(match Cc s.rs.length ws with
   |some (a,o')=>bif BV a then .fail else X9 s.ps vs o' (cu X.E o.dst (a3L a))
   |none=> .fail)else .fail).post S1 (λ_ S' =>gV X (CB*q) (CB*q+CB) o a w m ok S'):=by
 revert hC;generalize hPost:(λ(e:Ending) (w' :World)=>∃v ok' O' rs os B,e= .returned v/\Frame' (X.E.gl=[]) w w' O/\(∀b t,okc b t->ok' b t)/\(∀b t,ok' b t->b<w'.heap.size/\(okc b t\/w.heap.size<=b\/b∈O))/\
  (O' ++B).Nodup/\(∀b∈O' ++B,(∀t,¬ok' b t)/\b<w'.heap.size/\(w.heap.size<=b\/b∈O))/\
  SQ s.rs.length v rs/\rV w'.heap s.ps vals os B/\nI w'.heap ok' (s.rs++s.outs) r (rs++os) O')=Post
 intro hC;have hall:∀p: { p:Ending×World // Post p.1 p.2 },(Jl (s.rs++s.outs) r (J7 q o.dst) λws n' =>bif Nat.ble n' (J7 q o.dst+64)then(match Cc s.rs.length ws with
   |some (a,o')=>bif BV a then .fail else X9 s.ps vs o' (cu X.E o.dst (a3L a))
   |none=> .fail)else .fail).post S1 (λ_ S' =>∃v m' okf,p.1.1= .returned v/\Rel X (CB*q) (CB*q+CB) S' m' okf (a.put o.dst v) p.1.2/\(∀k l,m k=some l->m' k=some l)/\(∀b t,ok b t->okf b t)):=by
  rintro⟨⟨e,w'⟩,hp⟩;rw[←hPost]at hp;exact b2o H hvs R1 T1 k1 hokc hp
 refine tX ?_ (Gp hall);intro _ S' hS' next Q hn
 unfold Oper.wp;rw[hrun];refine Calls.mono hC λe w' hp=>?_;obtain⟨v,m',okf,he,R',km,kok⟩:=hS' ⟨(e,w'),hp⟩<;>grind
theorem Om(H:FxOk X)(R:Rel X (CB*q) (CB*q+CB) S m ok a w)(hvs:jk ⟨w.heap,ok,m⟩ vs vals)
  (run:∀fn,X.P.funcs[f]? =some fn->fn.body.isSome=true->(fn.name== "runtime.NumGoroutine")=false->(execOp a.eval o).run X.P w= .ok (.enter f vals.toArray) w):
  (XI X.E q o.dst f vs).post S (λ_ S' =>gV X (CB*q) (CB*q+CB) o a w m ok S'):=by
 unfold XI;cases hPB:Nat.ble 1000000000 f
 case true=>trivial
 split
 .trivial
 rename_i s hs;have hmem:=QF hs;have hF:=H.fs _ hmem;unfold a6s at hF;simp[PB,hPB,cond_false]at hF;obtain⟨fn,hf,hb,hnm⟩:=H.fn _ hmem;simp[a6K,PB,hPB,cond_false]at hf;have hrun:=run fn hf hb hnm;refine a0w R hvs s.ps hvs λhdv=>?_;refine DL s.ps R Tk.nil hvs λS1 ok1 x O R1 T1 k1 s1 hrel=>bz λr hr=>?_;generalize hokc:okL (Jz s) S1 m ok1=okc at hrel;have c1:∀b t,ok1 b t->okc b t:=λb t h=>by rw[←hokc];exact .inl h
 have hlt:∀b t,okc b t->b<w.heap.size:=λb t h=>by
  rw[←hokc]at h;rcases h with h|⟨_,n,h,_⟩
  .exact R1.okLt b t h
  .exact(R1.sep n b h).2.1
 have hfree:∀b∈O,(∀t,¬okc b t)/\b<w.heap.size:=λb hb=>by obtain⟨f1,f2,f3,f4⟩:=T1.free b hb;refine⟨λt h=>?_,f2⟩;rw[←hokc]at h;rcases h with h|⟨_,n,h,_⟩<;>simp_all
 have hC:=hF w okc O _ x r hlt T1.nodup hfree (λg u hg=>by obtain⟨g1,g3,g2⟩:=R1.gl g u hg;refine⟨c1 _ _ g1,g3,λi y hi=>?_⟩<;>grind [dm]) hrel hdv hr
 exact XJ H hvs R1 T1 k1 hokc hC hrun
theorem a8o(H:FxOk X)(R:Rel X (CB*q) (CB*q+CB) S m ok a w)(hvs:jk ⟨w.heap,ok,m⟩ vs vals)
  (run:∀fn,X.P.funcs[f]? =some fn->fn.body.isSome=true->(fn.name== "runtime.NumGoroutine")=false->(execOp a.eval o).run X.P w= .ok (.enter f vals.toArray) w):
  (a8n X.E q o.dst f vs).post S (λx S' =>match x with|none=>gV X (CB*q) (CB*q+CB) o a w m ok S'|some c=>c≠0/\b4z X (CB*q) (CB*q+CB) o a w m ok c S'):=by
 unfold a8n;split
 .trivial
 rename_i s hs;have hmem:=QF hs;have hF:=H.fs _ hmem;have hPB:Nat.ble 1000000000 (1000000000+f)=true:=lJ (bu _ _);have hsub:1000000000+f -1000000000=f:=Nat.add_sub_cancel_left _ _;unfold a6s at hF;simp only[PB,hPB,cond_true,hsub]at hF;obtain⟨fn,hf,hb,hnm⟩:=H.fn _ hmem;simp only[a6K,PB,hPB,cond_true,hsub]at hf;have hrun:=run fn hf hb hnm;obtain⟨ps,rs,outs,fn0⟩:=s;obtain⟨rs0,h,hF⟩:=hF;subst h;simp only at hF;show(a2A X.E q o.dst vs ps (cd::rs0) outs fn0).post S _;unfold a2A;refine a0w R hvs ps hvs λhdv=>?_;refine DL (ln:=Jz ⟨ps,rs0,outs,λ_=>none⟩) (T:=[]) ps R Tk.nil hvs λS1 ok1 x O R1 T1 k1 s1 hrel=>bz λr hr=>?_;simp only[G8]at T1;generalize hokc:okL (Jz ⟨ps,rs0,outs,λ_=>none⟩) S1 m ok1=okc at hrel;have c1:∀b t,ok1 b t->okc b t:=λb t h=>by rw[←hokc];exact .inl h
 have hlt:∀b t,okc b t->b<w.heap.size:=λb t h=>by
  rw[←hokc]at h;rcases h with h|⟨_,n,h,_⟩
  .exact R1.okLt b t h
  .exact(R1.sep n b h).2.1
 have hfree:∀b∈O,(∀t,¬okc b t)/\b<w.heap.size:=λb hb=>by obtain⟨f1,f2,f3,f4⟩:=T1.free b hb;refine⟨λt h=>?_,f2⟩;rw[←hokc]at h;rcases h with h|⟨_,n,h,_⟩<;>simp_all
 have hC:=hF w okc O _ x r hlt T1.nodup hfree (λg u hg=>by obtain⟨g1,g3,g2⟩:=R1.gl g u hg;refine⟨c1 _ _ g1,g3,λi y hi=>?_⟩<;>grind [dm]) hrel hdv hr
 refine⟨λhz=>?_,λhz=>?_⟩
 .have hz:a2Z (rs0++outs) r=0:=of_decide_eq_true hz;refine yY (tX ?_ (XJ H (s:=⟨ps,rs0,outs,λ_=>none⟩) hvs R1 T1 k1 hokc (r:=tlT (rs0++outs) r) (hC.mono ?_) hrun))
  .exact λ_ S' h=>h
  simp_all
 .have hz:a2Z (rs0++outs) r≠0:=of_decide_eq_false hz;refine⟨hz,λnext Q hQ=>?_⟩;unfold Oper.wp;rw[hrun,Oper.upon_enter];refine Calls.mono hC λe w' hp=>?_;rcases hp with⟨h,_⟩|⟨_,rfl,fr⟩
  .omega
  .refine hQ m ok1 w' (R1.world fr.os fr.tape fr.output fr.size (λb hb h=>fr.block b hb λhO=>?_) (λ_ _ h=>h) (λb t h=>⟨by have:=R1.okLt b t h;have:=fr.size;omega,.inl h⟩) fr.drawn) (λ_ _ h=>h) k1;obtain⟨f1,f2,f3,f4⟩:=T1.free b hO<;>simp_all
theorem KG{α:Type} :∀{l:List (Nat×α)} {n:Nat} {x:α},bZ l n=some x->(n,x)∈l
 |[],_,_,h=>by cases h|(k,v)::r,n,x,h=>by
  unfold bZ at h;cases hb:Nat.beq k n<;>rw[hb]at h
  .exact U9 _ (KG h)
  .have:=fZ hb;subst this;simp at h;subst h;exact gz
theorem b6G(H:FxOk X)(R:Rel X (CB*q) (CB*q+CB) S m ok a w)(ho:Ci X.E o=some f):
  (opP X.E q o f).post S (λx S' =>match x with|none=>gV X (CB*q) (CB*q+CB) o a w m ok S'|some c=>c≠0/\b4z X (CB*q) (CB*q+CB) o a w m ok c S'):=by
 unfold Ci at ho;split at ho<;>try (cases ho)
 rename_i c hoc;split at ho<;>try (cases ho)
 rename_i f' hcal;obtain⟨cal,args,ats⟩:=c;have hff:f' =f:=by
  grind
 subst hff;unfold opP;simp[hoc];have e:args.map a.eval=(args.toList.map a.eval).toArray:=by grind
 have hrun:∀fn,X.P.funcs[f']? =some fn->fn.body.isSome=true->(fn.name== "runtime.NumGoroutine")=false->(execOp a.eval o).run X.P w= .ok (.enter f' (args.toList.map a.eval).toArray) w:=λfn hf hb hnm=>by simp_all [CU,execOp,resolve,Deferred.ofValue,Act.eval,invoke]
 refine kM R _ λvs hvs=>?_;exact a8o H R hvs hrun
theorem b3a(H:FxOk X)(R:Rel X (CB*q) (CB*q+CB) S m ok a w)(ho:o.op= .call c)(hc:c.callee= .value (.func f)):(aQ X.E q o).post S (λ_ S' =>gV X (CB*q) (CB*q+CB) o a w m ok S'):=by
 obtain⟨cal,args,ats⟩:=c;subst hc;unfold aQ;simp[ho];have e:args.map a.eval=(args.toList.map a.eval).toArray:=by grind
 have hrun:∀fn,X.P.funcs[f]? =some fn->fn.body.isSome=true->(fn.name== "runtime.NumGoroutine")=false->(execOp a.eval o).run X.P w= .ok (.enter f (args.toList.map a.eval).toArray) w:=λfn hf hb hnm=>by simp_all [CU,execOp,resolve,Deferred.ofValue,Act.eval,invoke]
 refine kM R _ λvs hvs=>?_;split
 .rename_i off sz hpl;cases hz:Nat.beq sz 0
  case true=>trivial
  split<;>try trivial
  obtain⟨x,r,e1,h1,h2⟩:=hvs;subst h2;refine NH R h1 λr y hy hp=>?_;obtain⟨⟨fn,hf,hb,hnm⟩,hcall⟩:=(H.pl _ (KG hpl)).snd hz;have hC:=hcall w x y hp;have hr0:=hrun fn hf hb hnm;rw[e1]at hr0;cases hd:o.dst with
  |none=>
   intro next Q hn
   unfold Oper.wp;rw[hr0];refine Calls.mono hC λen w' hp=>?_;obtain⟨rfl,k,rfl⟩:=hp;rw[hd];exact hn m ok a _ (R.same rfl rfl rfl rfl (λ_=>bu _ _)) (λ_ _ h=>h) (λ_ _ h=>h)
  |some d=>
   refine aX λhb=>?_;intro next Q hn
   unfold Oper.wp;rw[hr0];refine Calls.mono hC λen w' hp=>?_;obtain⟨rfl,k,rfl⟩:=hp;rw[hd];exact hn m ok _ _ ((R.put H.ntB hb hy).same rfl rfl rfl rfl (λ_=>bu _ _)) (λ_ _ h=>h) (λ_ _ h=>h)
 .exact Om H R hvs hrun
theorem Ik{C:Cx} :∀{a b:List V} {xs ys:c5x},jk C a xs->jk C b ys->jk C (a++b) (xs++ys)
 |[],_,_,_,h,k=>by simp_all [jk]|c::a,b,_,_,⟨v,r,e,h1,h2⟩,k=>by subst e;exact⟨v,r++_,rfl,h1,Ik h2 k⟩
theorem Wl{C:Cx} :∀{caps:List ((t:Ty)×t.den)} {vs:c5x},Dx C.h C.ok caps vs->jk C (caps.map b9B) vs
 |[],_,h=>h|c::cs,_,⟨v,r,e,h1,h2⟩=>⟨v,r,e,h1,Wl h2⟩
theorem a9B(H:FxOk X)(R:Rel X (CB*q) (CB*q+CB) S m ok a w){x:Operand}(ho:o.op= .call c)(hc:c.callee= .value x)(hx:∀f,x≠.func f):(aQ X.E q o).post S (λ_ S' =>gV X (CB*q) (CB*q+CB) o a w m ok S'):=by
 obtain⟨cal,args,ats⟩:=c;subst hc;unfold aQ;simp[ho];refine kM R _ λvs hvs=>?_;refine Z8 R λu hu=>?_;split<;>try trivial
 obtain⟨cs,hv,hcaps⟩:=hu;refine Om H R (Ik hvs (Wl hcaps)) λfn hf hb hnm=>?_<;>simp_all [CU,execOp,resolve,Deferred.ofValue,invoke]
theorem NC:∀{l:List ((Nat×String)×Nat×Option Nat)} {t:Nat} {n:String} {r:Nat×Option Nat},VC l t n=some r->((t,n),r)∈l
 |[],_,_,_,h=>by grind [VC]|((u,k),r')::l,t,n,r,h=>by
  unfold VC at h;cases hb:(Nat.beq u t&&(k==n))<;>rw[hb]at h
  .exact U9 _ (NC h)
  .simp at h;subst h;simp only[D5,beq_iff_eq]at hb;have:=fZ hb.1;subst this;rw[hb.2];exact gz
theorem a7p(H:FxOk X)(R:Rel X (CB*q) (CB*q+CB) S m ok a w){x:Operand}{n:String}(ho:o.op= .call c)(hc:c.callee= .invoke x n):(aQ X.E q o).post S (λ_ S' =>gV X (CB*q) (CB*q+CB) o a w m ok S'):=by
 obtain⟨cal,args,ats⟩:=c;subst hc;unfold aQ;simp[ho];refine kM R _ λvs hvs=>Z8 R λu hu=>?_;split<;>try trivial
 rename_i t v;obtain⟨z,hz,hz1,hzv⟩:=hu;have e3:(#[a.eval x]++args.map a.eval)[0]? =some (a.eval x):=by simp[mg]
 have e4:(args.map a.eval).extract 0 args.size=args.map a.eval:=by simp
 have fin:∀(f:Nat) (r:Value) (fn:Func),X.P.funcs[f]? =some fn->fn.body.isSome=true->(fn.name== "runtime.NumGoroutine")=false->(method (X.P.types.size+Made.depth) t z n).run X.P w= .ok (f,r) w->
   (execOp a.eval o).run X.P w= .ok (.enter f (r::args.toList.map a.eval).toArray) w:=λf r fn hf hb hnm hM=>by
  have:=CU (w:=w) hf hb hnm (#[r]++args.map a.eval);have e:#[r]++args.map a.eval=(r::args.toList.map a.eval).toArray:=x8;simp[execOp,ho,resolve,J9,jQ,L8,invoke,e3];simp[hz,callMethod,hM,e4,this]
 split<;>try trivial
 .rename_i f hmt;have hM:=H.ms _ (NC hmt);exact Om H R ⟨z,_,rfl,CS hzv,hvs⟩ λfn hf hb hnm=>fin f z fn hf hb hnm (hM z w)
 .rename_i f e0 hmt;have hM:=H.ms _ (NC hmt);refine AQ H R (CS hzv) λv' u ad hv' hp hr=>?_;refine Om H R ⟨u,_,rfl,hv',hvs⟩ λfn hf hb hnm=>fin f u fn hf hb hnm ?_;rw[hM z w ad hp,hr];rfl
end
end Go.GP
namespace Go.GP
variable {q:Nat}{t:TypeId}{x:Operand}{ops:Array Oper}{i:Nat}
section
variable {X:Fx} {S:Sm} {m:Mp} {ok:Nat->Ty->Prop} {a:Act} {w:World} {o:Oper}
theorem Uy{α:Type}{Q:α->Sm->Prop}{cl ch:Nat} :∀(ms:List MG) {vs:List V} {xs:c5x} {K:List ((t:Ty)×t.den)->Cmd α} {S:Sm} {ok:Nat->Ty->Prop} (R:Rel X cl ch S m ok a w)
  (hv:jk ⟨w.heap,ok,m⟩ vs xs)
  (hK:∀S' ok' cs,Rel X cl ch S' m ok' a w->(∀b t,ok b t->ok' b t)->Dx w.heap ok' cs xs->(K cs).post S' Q),(wo ms vs K).post S Q
 |[],vs,xs,K,S,ok,R,hv,hK=>by
  cases vs with
  |cons _ _=>unfold wo;trivial|nil=>unfold wo;exact hK S ok [] R (λ_ _ h=>h) hv
 |(g,.rp t)::ms,vs,xs,K,S,ok,R,hv,hK=>by
  cases vs with
  |nil=>unfold wo;trivial|cons v vs=>
   obtain⟨x,r,rfl,h1,h2⟩:=hv;unfold wo;have key:rP ⟨w.heap,ok,m⟩ v x->(rpC t v λx=>wo ms vs λcs=>K (⟨t,x⟩::cs)).post S Q:=λh1=>by refine a1E (T:=[]) t R Tk.nil h1 λS1 ok1 y R1 T1 k1 s1 d1=>?_;refine Uy ms R1 (JU k1 h2) λS2 ok2 cs R2 k2 d2=>?_;exact hK S2 ok2 _ R2 (λb t h=>k2 b t (k1 b t h)) ⟨x,r,rfl,CZ k2 (λ_ _ _=>rfl) d1,d2⟩
   cases v<;>first|exact key h1|(unfold rpC;trivial)
 |(g,.dat t)::ms,vs,xs,K,S,ok,R,hv,hK=>by cases vs<;>(unfold wo;trivial)|(g,.own t)::ms,vs,xs,K,S,ok,R,hv,hK=>by cases vs<;>(unfold wo;trivial)|(g,.pair p q)::ms,vs,xs,K,S,ok,R,hv,hK=>by cases vs<;>(unfold wo;trivial)|(g,.unit)::ms,vs,xs,K,S,ok,R,hv,hK=>by cases vs<;>(unfold wo;trivial)|(g,.cell _)::ms,vs,xs,K,S,ok,R,hv,hK=>by cases vs<;>(unfold wo;trivial)|(g,.fr _)::ms,vs,xs,K,S,ok,R,hv,hK=>by cases vs<;>(unfold wo;trivial)|(g,.mbx ..)::ms,vs,xs,K,S,ok,R,hv,hK=>by cases vs<;>(unfold wo;trivial)|(g,.lp _)::ms,vs,xs,K,S,ok,R,hv,hK=>by cases vs<;>(unfold wo;trivial)|(g,.dv ..)::ms,vs,xs,K,S,ok,R,hv,hK=>by cases vs<;>(unfold wo;trivial)|(g,.ownr ..)::ms,vs,xs,K,S,ok,R,hv,hK=>by cases vs<;>(unfold wo;trivial)|(g,.sit)::ms,vs,xs,K,S,ok,R,hv,hK=>by cases vs<;>(unfold wo;trivial)|(g,.box p)::ms,vs,xs,K,S,ok,R,hv,hK=>by cases vs<;>(unfold wo;trivial)|(g,.owns p)::ms,vs,xs,K,S,ok,R,hv,hK=>by cases vs<;>(unfold wo;trivial)|(g,.ownb p)::ms,vs,xs,K,S,ok,R,hv,hK=>by cases vs<;>(unfold wo;trivial)|(g,.fn f ts)::ms,vs,xs,K,S,ok,R,hv,hK=>by cases vs<;>(unfold wo;trivial)|(g,.ifc t p)::ms,vs,xs,K,S,ok,R,hv,hK=>by cases vs<;>(unfold wo;trivial)
theorem a1j(H:FxOk X)(R:Rel X (CB*q) (CB*q+CB) S m ok a w){f:FuncId}{first caps:Array Operand}(ho:o.op= .makeFunc (.func f) first caps):(aQ X.E q o).post S (λ_ S' =>gV X (CB*q) (CB*q+CB) o a w m ok S'):=by
 unfold aQ;simp[ho];refine U5 λhb=>?_;split
 .refine U5 λhc=>?_;simp at hc;refine sV H R (λ_ _ h=>h) (λ_ _ h=>h) ⟨caps.map a.eval,rfl,by simp_all⟩ ?_;simp_all [execOp,Instr.makeFunc]
 split<;>try trivial
 refine kM R _ λvs hvs=>Uy _ R hvs λS' ok' cs R' k hc=>?_;refine sV H R' (λ_ _ h=>h) k ⟨caps.map a.eval,rfl,by simp_all⟩ ?_;simp_all [execOp,Instr.makeFunc]
theorem a9C(H:FxOk X)(R:Rel X (CB*q) (CB*q+CB) S m ok a w){c:Call}(ho:o.op= .defer c):(aQ X.E q o).post S (λ_ S' =>gV X (CB*q) (CB*q+CB) o a w m ok S'):=by
 unfold aQ;simp[ho];refine U5 λhb=>?_;split<;>try trivial
 rename_i x hd hc;refine Z8 R λv hv=>?_;split<;>try trivial
 rename_i f n;split<;>try trivial
 rename_i k z hk;refine U5 λhn=>?_;simp only[D5]at hn;have hz:=fZ hn.1;have hn' :=fZ hn.2;subst hz hn';obtain⟨cap,hx,hs⟩:∃cap:Array Value,a.eval x= .func (.func f) #[] cap/\cap.size=n:=hv;intro next Q hnx
 unfold Oper.wp;have hrun:(execOp a.eval o).run X.P w= .ok (.defer { target:=.fn (.func f) cap,args:=#[] }) w:=by simp_all [execOp,resolve,Deferred.ofValue]
 rw[hrun,Oper.upon_defer,hd];refine hnx m ok _ w ?_ (λ_ _ h=>h) (λ_ _ h=>h);have hid:=H.pl _ (KG hk) cap hs;have R' :Rel X (CB*q) (CB*q+CB) S m ok { a with defers:={ target:=.fn (.func f) cap,args:=#[] }::a.defers } w:=
  { size:=R.size,nodef:=λd hd=>(D7.1 hd).elim (λe=>e▸hid) (R.nodef d),dfs:=λl h=>(by have:=H.df l h _ (KG hk);simp_all),slot:=R.slot,box:=R.box,inj:=R.inj,nd:=R.nd,sep:=R.sep,okLt:=R.okLt,okIn:=R.okIn,okOut:=R.okOut,frame:=R.frame,fresh:=R.fresh,strict:=R.strict,gl:=R.gl,kept:=R.kept }
 exact R'
theorem QD(H:FxOk X)(R:Rel X (CB*q) (CB*q+CB) S m ok a w)(ho:o.op= .makeInterface t x):(aQ X.E q o).post S (λ_ S' =>gV X (CB*q) (CB*q+CB) o a w m ok S'):=by
 unfold aQ;simp[ho];refine jG H λi hi=>?_;have htd:=hi.td;have key:∀d,X.P.underlying t=some d->(∀ms,d≠.interface ms)->(qI x λv=>(match v with
   | .b ..| .i ..| .s ..| .ptr ..=>cu X.E o.dst (.ifc t v)
   |_=> .fail:Cmd Unit)).post S (λ_ S' =>gV X (CB*q) (CB*q+CB) o a w m ok S'):=λd hd hne=>by
  refine Z8 R λv hv=>?_;have run:(execOp a.eval o).run X.P w= .ok (.value (.iface t (a.eval x))) w:=by simp_all [execOp,Instr.makeInterface,run_underlying]
  cases v<;>try trivial
  case b y=>exact Y5 H R ⟨_,rfl,by rw[QK hv];rfl,hv⟩ run
  case i k n=>exact Y5 H R ⟨_,rfl,by rw[tZ hv];rfl,hv⟩ run
  case s l=>exact Y5 H R ⟨_,rfl,by rw[JS hv];rfl,hv⟩ run
  case ptr bx off=>obtain⟨blk,h1,h2⟩:=hv;exact Y5 H R ⟨_,rfl,by rw[h2];rfl,⟨blk,h1,h2⟩⟩ run
 cases htd' :i.td<;>rw[htd']at htd<;>try trivial
 all_goals exact key _ htd (λ_ e=>by cases e)
theorem a2l{P:Program}{w:World}{i:TI}(hi:TiOk P t i){c:V}{z0:Value}(hz:i.zero=[c])(ha:az i.td=false)(hc:∀v,rP ⟨#[],λ_ _=>False,nom⟩ c v->v=z0):(zeroValue t).run P w= .ok z0 w:=by obtain⟨inf,h1,h2,h3,h4,_⟩:=hi.info;obtain⟨z,hz1,hz2⟩:=h4 (by rw[hz,hi.one ha];rfl);rw[hz,Qg ((hi.agg inf z h1 hz1).2 ha)]at hz2;obtain⟨v,r,e,h,_⟩:=hz2;simp only[H8]at e;simp[zeroValue,typeInfo,h1,hz1,e.1,hc v h]
theorem a8S{x:Ty.ifv.den}{y:Bool×c5v}(h:ifS t x=some y):(∃s,x=some (t,.inl s)/\y=(true,s))\/(y=(false,[])/\(x=none\/∃t' v,t' ≠t/\ZA x= .iface t' v)):=by
 rcases x with _|⟨t',s|⟨k,n⟩⟩
 .cases h;exact .inr ⟨rfl,.inl rfl⟩
 all_goals
  simp only[ifS]at h;cases hb:Nat.beq t' t<;>rw[hb]at h
  .cases h;exact .inr ⟨rfl,.inr ⟨t',_,(λe=>by rw[e,Nat.beq_refl]at hb;cases hb),rfl⟩⟩
  .first|(cases h;done)|(have:=fZ hb;subst this;cases h;exact .inl ⟨_,rfl,rfl⟩)
theorem a8R{k:IntKind}{x:Ty.ifv.den}{y:Bool×Int}(h:ifI t k x=some y):(∃n,x=some (t,.inr (k,n))/\y=(true,n))\/(y=(false,0)/\(x=none\/∃t' v,t' ≠t/\ZA x= .iface t' v)):=by
 rcases x with _|⟨t',s|⟨k',n⟩⟩
 .cases h;exact .inr ⟨rfl,.inl rfl⟩
 all_goals
  simp only[ifI]at h;cases hb:Nat.beq t' t<;>rw[hb]at h
  .cases h;exact .inr ⟨rfl,.inr ⟨t',_,(λe=>by rw[e,Nat.beq_refl]at hb;cases hb),rfl⟩⟩
  .first
   |(cases h;done)
   |(have:=fZ hb
     subst this;by_cases ek:k' =k
     .subst ek;simp only[decide_true,cond_true]at h;cases h;exact .inl ⟨_,rfl,rfl⟩
     .simp only[ek,decide_false,cond_true,cond_false]at h;cases h)
theorem Xp(H:FxOk X)(R:Rel X (CB*q) (CB*q+CB) S m ok a w){xt t:TypeId}{okk:Bool}(ho:o.op= .typeAssert x xt t okk):(aQ X.E q o).post S (λ_ S' =>gV X (CB*q) (CB*q+CB) o a w m ok S'):=by
 unfold aQ;simp only[ho];refine jG H λi hi=>?_;have htd:=hi.td;have key:∀d,X.P.underlying t=some d->(∀ms,d≠.interface ms)->∀(D:Ty.ifv.den->Cmd Unit),(∀x0,okk=true->a.eval x=ZA x0->(D x0).post S (λ_ S' =>gV X (CB*q) (CB*q+CB) o a w m ok S'))->(qI x λv=>(match v with
   | .ifc t' v=>bif Nat.beq t' t then cu X.E o.dst (bif okk then .tup [v,.b true]else v)else .fail| .ifd x0=>bif okk then D x0 else .fail
   |_=> .fail:Cmd Unit)).post S (λ_ S' =>gV X (CB*q) (CB*q+CB) o a w m ok S'):=λd hd hne D hD=>by
  refine Z8 R λv hv=>?_;cases v<;>try trivial
  case ifd x0=>exact U5 λhb=>hD x0 hb hv
  case ifc t' c=>
  obtain⟨u,hx,h1,hc⟩:=hv;refine U5 λhb=>?_;have hb' :=fZ hb;subst hb';have run:(execOp a.eval o).run X.P w= .ok (.value (if okk then .tuple #[u,.bool true]else u)) w:=by simp only[execOp,ho,Instr.typeAssert,J9,run_underlying hd,L8,hx];cases d<;>first|(simp;done)|exact absurd rfl (hne _)
  cases okk
  .exact Y5 H R (CS hc) run
  .refine Y5 H R (v:=.tup [c,.b true]) ⟨_,rfl,⟨_,_,rfl,?_,_,_,rfl,rfl,rfl⟩⟩ run;cases c<;>first|exact hc|cases hc
 have miss:∀{d:TypeDesc} {x0:Ty.ifv.den} {z0:Value},X.P.underlying t=some d->(∀ms,d≠.interface ms)->okk=true->a.eval x=ZA x0->(zeroValue t).run X.P w= .ok z0 w->(x0=none\/∃t' v,t' ≠t/\ZA x0= .iface t' v)->
   (execOp a.eval o).run X.P w= .ok (.value (.tuple #[z0,.bool false])) w:=by
  intro d x0 z0 hd hne hk hx hz h;subst hk;rcases h with rfl|⟨t',v,hne',hv⟩
  .simp only[execOp,ho,Instr.typeAssert,J9,run_underlying hd,L8,hx,ZA];cases d<;>first|(simp[hz];done)|exact absurd rfl (hne _)
  .simp only[execOp,ho,Instr.typeAssert,J9,run_underlying hd,L8,hx,hv];cases d<;>first|(simp[hz,hne'];done)|exact absurd rfl (hne _)
 have hit:∀{d:TypeDesc} {v:Value},X.P.underlying t=some d->(∀ms,d≠.interface ms)->okk=true->a.eval x= .iface t v->(execOp a.eval o).run X.P w= .ok (.value (.tuple #[v,.bool true])) w:=by intro d v hd hne hk hx;subst hk;simp only[execOp,ho,Instr.typeAssert,J9,run_underlying hd,L8,hx];cases d<;>first|(simp;done)|exact absurd rfl (hne _)
 cases htd' :i.td<;>rw[htd']at htd<;>try trivial
 case struct fs=>obtain⟨fields,hu,_⟩:=htd;exact key _ hu (λ_ e=>by cases e) (λ_=> .fail) (λ_ _ _=>trivial)
 case str=>
  refine key _ htd (λ_ e=>by cases e) (λx0=>match i.zero with|[.s []]=>Cmd.opt (ifS t x0) λy=>cu X.E o.dst (.tup [.s y.2,.b y.1])|_=> .fail) λx0 hk hx=>?_;split<;>try trivial
  rename_i hz;refine bz λy hy=>?_;have hzr:(zeroValue t).run X.P w= .ok (.string ⟨#[]⟩) w:=a2l hi hz (by rw[htd'];rfl) (λv h=>h);rcases a8S hy with⟨s,rfl,rfl⟩|⟨rfl,h⟩
  .exact Y5 H R (v:=.tup [.s s,.b true]) ⟨_,rfl,⟨_,_,rfl,rfl,_,_,rfl,rfl,rfl⟩⟩ (hit htd (λ_ e=>by cases e) hk hx)
  .exact Y5 H R (v:=.tup [.s [],.b false]) ⟨_,rfl,⟨_,_,rfl,rfl,_,_,rfl,rfl,rfl⟩⟩ (miss htd (λ_ e=>by cases e) hk hx hzr h)
 case int k=>
  refine key _ htd (λ_ e=>by cases e) (λx0=>match i.zero with|[.i k' 0]=>bif decide (k' =k)then Cmd.opt (ifI t k x0) λy=>cu X.E o.dst (.tup [.i k y.2,.b y.1])else .fail|_=> .fail) λx0 hk hx=>?_;split<;>try trivial
  rename_i k' hz;refine U5 λhkk=>?_;have hkk:=of_decide_eq_true hkk;subst hkk;refine bz λy hy=>?_;have hzr:(zeroValue t).run X.P w= .ok (.int k' 0) w:=a2l hi hz (by rw[htd'];rfl) (λv h=>h);rcases a8R hy with⟨s,rfl,rfl⟩|⟨rfl,h⟩
  .exact Y5 H R (v:=.tup [.i k' s,.b true]) ⟨_,rfl,⟨_,_,rfl,rfl,_,_,rfl,rfl,rfl⟩⟩ (hit htd (λ_ e=>by cases e) hk hx)
  .exact Y5 H R (v:=.tup [.i k' 0,.b false]) ⟨_,rfl,⟨_,_,rfl,rfl,_,_,rfl,rfl,rfl⟩⟩ (miss htd (λ_ e=>by cases e) hk hx hzr h)
 all_goals exact key _ htd (λ_ e=>by cases e) (λ_=> .fail) (λ_ _ _=>trivial)
theorem a9F(H:FxOk X)(R:Rel X (CB*q) (CB*q+CB) S m ok a w)(ho:o.op= .range t x):(aQ X.E q o).post S (λ_ S' =>gV X (CB*q) (CB*q+CB) o a w m ok S'):=by
 unfold aQ;simp[ho];refine Z8 R λu hu=>jG H λi hi=>?_;have hd:=hi.td;split<;>try trivial
 rename_i l htd;rw[htd]at hd;have hx:a.eval x= .string ⟨l.toArray⟩:=hu;refine Dk (l:=.st w.heap.size) (obj:=.stringIter ⟨l.toArray⟩ 0) H R x8 (by simp[N8]) (λhn hc=>?_) ⟨w.heap.size,x8,rfl⟩ ?_
 .exact⟨w.heap.size,⟨l.toArray⟩,0,x8,heap_alloc_new w _,x8,rfl⟩
 .have hund:X.P.underlying t=some .string:=hd;simp_all [execOp,Instr.range,run_underlying]
theorem b3c(H:FxOk X){cl ch:Nat}(R:Rel X cl ch S m ok a w){b:Bool}(ho:o.op= .next x b):(aQ X.E q o).post S (λ_ S' =>gV X cl ch o a w m ok S'):=by
 unfold aQ;simp only[ho];refine aX λhs=>?_;subst hs;refine Z8 R λu hu=>?_;split<;>try trivial
 rename_i bx;obtain⟨blk,hm,hx⟩:=hu;refine X3 ?_;split<;>try trivial
 rename_i l p hS;have hb:=R.box bx;rw[hS]at hb;obtain⟨blk',s,pos,hm',hh,g1,g2⟩:=hb;simp only at hm hm' hh;rw[hm]at hm';cases hm';subst g2;have hl:(⟨l.toArray⟩:ByteArray)=s:=by rw[←g1]
 have hlen:l.length=s.size:=by rw[←g1,P7];rfl
 have hown:N8 m bx (S (U4+bx))=[blk]:=by simp_all [N8]
 have hx:a.eval x= .pointer (some ⟨blk,0,none⟩):=hx;refine⟨λhlt=>?_,λhge=>?_⟩
 .have hlt:pos<s.size:=by simp_all [J4,x9]
  refine ed ?_;have hsz:=(N7.1 hh).1;have R2:Rel X cl ch (upd S (U4+bx) (.biter l (ui l (pos:Int)))) m ok a { w with heap:=w.heap.setIfInBounds blk (.stringIter s (pos+(Utf8.decode s pos).2)) }:=by
   refine R.mod (by simp_all [N8]) x8 rfl rfl rfl x8 (λb hb=>?_) ?_
   .grind
   .refine⟨blk,s,pos+(Utf8.decode s pos).2,hm,?_,g1,?_⟩
    all_goals simp_all [ui]
  refine sV H R2 (m0:=m) (λ_ _ h=>h) (λ_ _ h=>h) (x:=.tuple #[.bool true,.int .i64 (pos:Int),.int .i32 ((Utf8.decode s pos).1:Int)]) ?_ ?_
  .refine⟨_,rfl,⟨_,_,rfl,rfl,_,_,rfl,rfl,_,_,rfl,?_,rfl⟩⟩;show Value.int .i32 _=_;simp_all [sJ]
  .have e1:(getObj blk).run X.P w= .ok (.stringIter s pos) w:=by grind [getObj,Sem.run]
   have e2:(setObj blk (.stringIter s (pos+(Utf8.decode s pos).2))).run X.P w= .ok () { w with heap:=w.heap.setIfInBounds blk (.stringIter s (pos+(Utf8.decode s pos).2)) }:=by grind [setObj,Sem.run]
   simp_all [execOp,Instr.next,goInt]
 .have hge:¬pos<s.size:=λh=>by
   simp_all [J4,x9]
  refine Y5 H R (x:=.tuple #[.bool false]) ⟨_,rfl,⟨_,_,rfl,rfl,rfl⟩⟩ ?_;have e1:(getObj blk).run X.P w= .ok (.stringIter s pos) w:=by grind [getObj,Sem.run]
  simp[execOp,ho,Instr.next,hx,e1,hge]
theorem b6H(H:FxOk X)(R:Rel X (CB*q) (CB*q+CB) S m ok a w)(o:Oper):(aQ X.E q o).post S (λ_ S' =>gV X (CB*q) (CB*q+CB) o a w m ok S'):=by
 have fin:∀{α:Type} {Q:α->Sm->Prop},(Cmd.fail:Cmd α).post S Q:=trivial;cases ho:o.op
 case move x=>simp_all [a5x,aQ]
 case assign x=>simp_all [a5x,aQ]
 case pick c x y=>grind [b3d]
 case alloc t=>exact a9x H R ho
 case box t x=>exact b6I H R ho
 case build t ps=>grind [a9A]
 case buildSlice t n ps=>exact Xo H R ho
 case load t x=>exact b3b H R ho
 case store t x y=>grind [a9H]
 case binOp op t x y yt=>grind [a9z]
 case unOp op t x=>grind [b3f]
 case convert s t x=>exact a3p H R ho
 case makeSlice t l c=>exact ZR H R ho
 case slice t x lo hi mx=>
  cases mx with
  |none=>exact a9G H R ho|some _=>simp_all [aQ]
 case fieldAddr t x f=>grind [ZP]
 case field t x f=>grind [a9D]
 case indexAddr t x ix=>grind [ZQ]
 case index t x ix=>grind [a9E]
 case extract x n=>grind [a3q]
 case nilCheck x=>simp_all [a1k]
 case call c=>
  cases hc:c.callee
  case builtin b=>
   cases b
   case len=>simp_all [b6J]
   case append=>exact a7l H R ho hc
   case delete=>simp_all [a7o]
   case min=>simp_all [Yq]
   case max=>simp_all [Yq]
   all_goals
    unfold aQ;simp only[ho];exact kM R _ λvs hvs=>by simp[hc];exact fin
  case value f=>
   cases f
   case func f=>exact b3a H R ho hc
   all_goals exact a9B H R ho hc (λf e=>by cases e)
  case invoke x n=>exact a7p H R ho hc
 case makeFunc f first caps=>
  cases f
  case func f=>exact a1j H R ho
  all_goals simp_all [aQ]
 case defer c=>exact a9C H R ho
 case makeInterface t x=>exact QD H R ho
 case typeAssert x xt t ok=>exact Xp H R ho
 case makeMap t r=>exact a3r H R ho
 case lookup t x ix ok=>grind [a7q]
 case range t x=>exact a9F H R ho
 case next x b=>grind [b3c]
 case mapUpdate t x ix y=>grind [OY]
 case insert t x ix y=>exact OY H R (.inr ho)
 all_goals simp_all [aQ]
def IY(X:Fx)(cl ch:Nat)(ops:Array Oper)(i:Nat)(a:Act)(w:World)(m:Mp)(ok:Nat->Ty->Prop)(S' :Sm):Prop:=
 ∀(next:Act->World->Prop) (Q:Exit->Act->World->Prop),
  (∀m' ok' a' w',Rel X cl ch S' m' ok' a' w' ->(∀k l,m k=some l->m' k=some l)->(∀b t,ok b t->ok' b t)->next a' w')->wpOp X.P ops Q i next a w
theorem NV(H:FxOk X){cl ch:Nat}(R:Rel X cl ch S m ok a w)(hi:ops[i]? =some o)(hw:Region.wanted o (yielded ops a.tmps)=false):
  (cu X.E o.dst .un).post S (λ_ S' =>IY X cl ch ops i a w m ok S'):=by
 have h:∀S',Rel X cl ch S' m ok (a.put o.dst Go.undef) w->IY X cl ch ops i a w m ok S' :=λS' R' next Q hn=>by unfold wpOp;simp[hi,hw,oz,if_false];exact hn m ok _ w R' (λ_ _ h=>h) (λ_ _ h=>h)
 cases hd:o.dst with
 |none=>rw[hd]at h;exact h S R
 |some d=>rw[hd]at h;exact aX λhb=>h _ (R.put H.ntB hb rfl)
theorem LZ{tmps:Array Value}{t:Nat}{v:Value}(h:tmps.getD t Go.undef=v)(hv:v≠Go.undef):tmps[t]? =some v:=by
 rw[Y2]at h
 grind
theorem a7N(H:FxOk X)(R:Rel X (CB*q) (CB*q+CB) S m ok a w)(hi:ops[i]? =some o):
  (Iq X.E q ops.toList o).post S (λ_ S' =>IY X (CB*q) (CB*q+CB) ops i a w m ok S'):=by
 have yes:Region.wanted o (yielded ops a.tmps)=true->(aQ X.E q o).post S (λ_ S' =>IY X (CB*q) (CB*q+CB) ops i a w m ok S'):=λhw=>by
  refine tX ?_ (b6H H R o);intro _ S' h next Q hn
  unfold wpOp;simp[hi,hw,if_true];exact .inl (h next Q hn)
 unfold Iq;cases hg:o.guard with
 |none=>simp_all [Region.wanted]|some p=>
  obtain⟨j,want⟩:=p;cases hj:ops.toList[j]? with
  |none=>simp[hj];trivial|some p=>
   simp only[hj];cases hd:p.dst with
   |none=>trivial|some t=>
    refine aX λhlt=>X3 ?_;have hsl:=R.slot t (EY hlt);have hyd:yielded ops a.tmps j=match a.tmps[t]? with|some (.bool b)=>some b|_=>none:=by
     grind [yielded]
    split<;>try trivial
    .rename_i y hS;rw[hS]at hsl;have hb:=hsl;have hy:yielded ops a.tmps j=some y:=by
      rw[hyd,LZ hb (by simp[Go.undef])]
     have hwt:Region.wanted o (yielded ops a.tmps)=(bif want then y else !y):=by
      grind [Region.wanted]
     cases hc:(bif want then y else !y)
     .exact NV H R hi (hwt.trans hc)
     simp_all
    .rename_i hS;rw[hS]at hsl;have hb:=hsl;have hwt:Region.wanted o (yielded ops a.tmps)=false:=by
      unfold Region.wanted;rw[hg];simp only[hyd];rw[Y2]at hb;cases hx:a.tmps[t]? with
      |none=>rfl|some x=>rw[hx]at hb;subst hb;rfl
     exact NV H R hi hwt
def YT(X:Fx)(cl ch:Nat)(ops:Array Oper)(i:Nat)(a:Act)(w:World)(m:Mp)(ok:Nat->Ty->Prop)(c:Int)(S' :Sm):Prop:=
 ∀(next:Act->World->Prop) (Q:Exit->Act->World->Prop),
  (∀m' ok' w',Rel X cl ch S' m' ok' a w' ->(∀k l,m k=some l->m' k=some l)->(∀b t,ok b t->ok' b t)->Q (.panic (xn X.P c)) a w')->wpOp X.P ops Q i next a w
theorem WH(H:FxOk X)(R:Rel X (CB*q) (CB*q+CB) S m ok a w)(hi:ops[i]? =some o){f:FuncId}(hp:Ci X.E o=some f):
  (Gv X.E q ops.toList o f).post S (λx S' =>match x with|none=>IY X (CB*q) (CB*q+CB) ops i a w m ok S'|some c=>c≠0/\YT X (CB*q) (CB*q+CB) ops i a w m ok c S'):=by
 have yes:Region.wanted o (yielded ops a.tmps)=true->(opP X.E q o f).post S (λx S' =>match x with|none=>IY X (CB*q) (CB*q+CB) ops i a w m ok S'|some c=>c≠0/\YT X (CB*q) (CB*q+CB) ops i a w m ok c S'):=λhw=>by
  refine tX ?_ (b6G H R hp);intro x S' h;cases x with
  |none=>
   intro next Q hn
   unfold wpOp;simp[hi,hw,if_true];exact .inl (h next Q hn)
  |some c=>refine⟨h.1,λnext Q hn=>?_⟩;unfold wpOp;simp[hi,hw,if_true];exact .inl (h.2 next Q hn)
 have no:Region.wanted o (yielded ops a.tmps)=false->((cu X.E o.dst .un).bind λ_=>(.ret none:Cmd c5A)).post S (λx S' =>match x with|none=>IY X (CB*q) (CB*q+CB) ops i a w m ok S'|some c=>c≠0/\YT X (CB*q) (CB*q+CB) ops i a w m ok c S'):=λhw=>
  yY (tX (λ_ S' h=>h) (NV H R hi hw))
 unfold Gv;cases hg:o.guard with
 |none=>simp_all [Region.wanted]|some p=>
  obtain⟨j,want⟩:=p;cases hj:ops.toList[j]? with
  |none=>simp[hj];trivial|some p=>
   simp[hj];cases hd:p.dst with
   |none=>trivial|some t=>
    refine aX λhlt=>X3 ?_;have hsl:=R.slot t (EY hlt);have hyd:yielded ops a.tmps j=match a.tmps[t]? with|some (.bool b)=>some b|_=>none:=by
     grind [yielded]
    split<;>try trivial
    .rename_i y hS;rw[hS]at hsl;have hb:=hsl;have hy:yielded ops a.tmps j=some y:=by
      rw[hyd,LZ hb (by simp[Go.undef])]
     grind [Region.wanted]
    .rename_i hS;rw[hS]at hsl;have hb:=hsl;have hwt:Region.wanted o (yielded ops a.tmps)=false:=by
      unfold Region.wanted;rw[hg];simp only[hyd];rw[Y2]at hb;cases hx:a.tmps[t]? with
      |none=>rfl|some x=>rw[hx]at hb;subst hb;rfl
     simp_all
theorem a4l(H:FxOk X)(R:Rel X (CB*q) (CB*q+CB) S m ok a w)(hi:ops[i]? =some o):
  (oH X.E q ops.toList o).post S (λ_ S' =>IY X (CB*q) (CB*q+CB) ops i a w m ok S'):=by
 unfold oH;cases hp:Ci X.E o with
 |none=>exact a7N H R hi|some f=>
  refine yY (tX ?_ (WH H R hi hp));intro x S' h;cases x with
  |none=>exact h|some c=>trivial
end
end Go.GP
namespace Go.GP
def Uf(E:Env)(q:Nat)(all l:List Oper)(S:Nat->Sm)(T:Nat->Tr):Prop:=
 ∀i o,l[i]? =some o->(oH E q all o).eval (S i) ([],[])=some ((),S (i+1),T i)
def WA(s:Sm)(S:Nat->Sm):Nat->Sm|0=>s|i+1=>S i
def WB(t:Tr)(T:Nat->Tr):Nat->Tr|0=>t|i+1=>T i
variable {R:Type}{r:R}
theorem Ih{t:Nat}{s:St}{K:St->Option R}(h:Pq t s K=some r):∃s0,aI s0=aI s/\K s0=some r:=by
 unfold Pq at h;rw[DR]at h;split at h<;>try (simp at h)
 .rename_i y hy;have key:∀b,y=b->aI (.kv t (.b b)::s)=aI s:=λb hb=>by
   rw[a5o];funext k;by_cases e:k=t<;>simp_all [aW]
  cases y
  .exact⟨_,key false rfl,h⟩
  .exact⟨_,key true rfl,h⟩
 grind
def Tv(n:Nat)(E:Env)(q:Nat)(all l:List Oper)(S:Nat->Sm)(T:Nat->Tr):Prop:=
 ∀i o,i<n->l[i]? =some o->(oH E q all o).eval (S i) ([],[])=some ((),S (i+1),T i)
variable {E:Env}{q:Nat}{all:List Oper}{o:Oper}
theorem a4k(h:Ci E o=none):oH E q all o=Iq E q all o:=by simp_all [oH]
theorem a4m{f:Nat}(h:Ci E o=some f):oH E q all o=(Gv E q all o f).bind b9O:=by simp_all [oH]
def V_(E:Env)(q:Nat)(all l:List Oper)(P:Int->St->Tr->Trs->Option R)(s:St)(t:Trs)(K:St->Trs->Option R)(r:R):Prop:=
  (∃s' S T,S 0=aI s/\S l.length=aI s' /\Uf E q all l S T/\K s' (((List.range l.length).map T).reverse++t)=some r)\/
  (∃k o f c s' tr S T,l[k]? =some o/\Ci E o=some f/\S 0=aI s/\Tv k E q all l S T/\(Gv E q all o f).eval (S k) ([],[])=some (some c,aI s',tr)/\P c s' tr (((List.range k).map T).reverse++t)=some r)
theorem V_.cons{P:Int->St->Tr->Trs->Option R}{l:List Oper}{s s0 s1:St}{t:Trs}{tr:Tr}{K:St->Trs->Option R}(hs0:aI s0=aI s)
  (e:(oH E q all o).eval (aI s0) ([],[])=some ((),aI s1,tr)) (h:V_ E q all l P s1 (tr::t) K r):V_ E q all (o::l) P s t K r:=by
 rcases h with⟨s',S,T,h0,h1,h2,h3⟩|⟨k,o',f,c,s',tr',S,T,g1,g2,h0,h2,g3,h3⟩
 .refine .inl ⟨s',WA (aI s) S,WB tr T,rfl,h1,λi o' hi=>?_,?_⟩
  .cases i with
   |zero=>simp at hi;subst hi;show(oH E q all o).eval (aI s) ([],[])=some ((),S 0,tr);simp_all|succ i=>exact h2 i o' (by simp_all)
  .rw[A8,iO,aB,jq,E8,rH];exact h3
 .refine .inr ⟨k+1,o',f,c,s',tr',WA (aI s) S,WB tr T,by simp_all,g2,rfl,λi o'' hik hi=>?_,g3,?_⟩
  .cases i with
   |zero=>simp at hi;subst hi;show(oH E q all o).eval (aI s) ([],[])=some ((),S 0,tr);simp_all|succ i=>exact h2 i o'' l9 (by simp_all)
  .rw[iO,aB,jq,E8,rH];exact h3
theorem JX{R:Type}{E:Env}{q:Nat}{all:List Oper}{P:Int->St->Tr->Trs->Option R} :∀(l:List Oper) {s:St} {t:Trs} {K:St->Trs->Option R} {r:R},Fv E q all P l s t K=some r->
  V_ E q all l P s t K r
 |[],s,t,K,r,h=> .inl ⟨s,λ_=>aI s,λ_=>([],[]),rfl,rfl,λi o hi=>by simp_all,by simp_all [Fv]⟩|o::l,s,t,K,r,h=>by
  have key:∀s0,aI s0=aI s->Ci E o=none->(Iq E q all o).runK s0 ([],[]) (λ_ s' tr=>Fv E q all P l s' (tr::t) K)=some r->V_ E q all (o::l) P s t K r:=λs0 hs0 hp h=>by obtain⟨x,s1,tr,e,hk⟩:=kV h;exact V_.cons hs0 (by rw[a4k hp];exact e) (JX l hk)
  have keyP:∀s0 f,aI s0=aI s->Ci E o=some f->(Gv E q all o f).runK s0 ([],[]) (λx s' tr=>match x with|none=>Fv E q all P l s' (tr::t) K|some c=>P c s' tr t)=some r->V_ E q all (o::l) P s t K r:=λs0 f hs0 hp h=>by
   obtain⟨x,s1,tr,e,hk⟩:=kV h;cases x with
   |none=>refine V_.cons hs0 ?_ (JX l hk);rw[a4m hp,Dc,e];rfl|some c=>exact .inr ⟨0,o,f,c,s1,tr,λ_=>aI s,λ_=>([],[]),rfl,hp,rfl,λi o' hi=>by omega,by rw[←hs0];exact e,by simpa using hk⟩
  unfold Fv at h;split at h
  .grind [Ih]
  .rename_i f hp;split at h
   .exact keyP s f rfl hp h
   .obtain⟨s0,e,h⟩:=Ih h;exact keyP s0 f e hp h
theorem qc{α:Type}(T:Nat->α)(n:Nat):((List.range (n+1)).map T).reverse=T n::((List.range n).map T).reverse:=by simp[BF]
theorem xw{a b:c5y}(h:Oq a b=true):∀k∈a,k∉b:=by
 induction a with
 |nil=>simp|cons x a ih=>
  unfold Oq at h;cases hm:Ea x b
  .intro k hk hkb;rcases D7.1 hk with rfl|hk
   .have:∀(l:c5y),Ea k l=false->k∉l:=by
     intro l;induction l with
     |nil=>simp|cons y l ih=>intro hm hk<;>simp_all [Ea]
    simp_all
   simp_all
  simp_all
theorem VA{k:Nat} :∀{l:c5y},Ea k l=true->k∈l
 |[],h=>by grind [Ea]|y::l,h=>by
  unfold Ea at h;cases hb:Nat.beq y k
  .simp[hb,cond_false]at h;exact U9 _ (VA h)
  .have:=fZ hb;subst this;simp
def XD(x y:Tr):Prop:=(∀k∈x.2,k∉y.1/\k∉y.2)/\∀k∈x.1,k∉y.2
theorem RU{b:Bool}{x y:Tr}(h:VO b x y=true):b=true\/XD x y:=by
 unfold VO at h;cases b
 .simp at h;exact .inr ⟨λk hk=>⟨xw h.1.1 k hk,xw h.1.2 k hk⟩,λk hk=>xw h.2 k hk⟩
 .simp
theorem Hw{mask:Nat}{y:Tr}{T:Nat->Tr} :∀n,Lc mask y ((List.range n).map T).reverse n=true->∀i,i<n->Nat.testBit mask i=true\/XD (T i) y
 |0,_,i,hi=>by omega|n+1,h,i,hi=>by
  rw[qc]at h;unfold Lc at h;simp at h;by_cases e:i=n
  .subst e;exact RU h.1
  .exact Hw n h.2 i l9
theorem JK{M:Nat->Nat}{T:Nat->Tr} :∀n,NE ((List.range n).map M).reverse ((List.range n).map T).reverse=true->∀i j,i<j->j<n->Nat.testBit (M j) i=true\/XD (T i) (T j)
 |0,_,i,j,_,hj=>by omega|n+1,h,i,j,hi,hj=>by
  rw[qc,qc]at h;unfold NE at h;simp at h;by_cases e:j=n
  .grind [Hw]
  .exact JK n h.2 i j hi l9
theorem a4Q{α:Type}{eq:α->α->Bool}(h:∀a b,eq a b=true->a=b):∀{l m:List α},b2v eq l m=true->l=m
 |[],[],_=>rfl|[],_::_,e=>by cases e|_::_,[],e=>by cases e|a::l,b::m,e=>by simp[b2v,D5]at e;rw[h _ _ e.1,a4Q h e.2]
theorem KN:∀{t:Ty} (a b:t.den),UI t a b=true->a=b
 | .bool,a,b,e=>a4q e| .int _,a,b,e=>of_decide_eq_true e| .str,a,b,e=>of_decide_eq_true e| .sl t,a,b,e=>a4Q (λx y h=>KN x y h) e| .prod p q,a,b,e=>by have e:(UI p a.1 b.1&&UI q a.2 b.2)=true:=e;rw[D5]at e;exact xU (KN _ _ e.1) (KN _ _ e.2)| .unit,a,b,e=>rfl| .any _,a,b,e=>rfl| .ifv,a,b,e=>by cases e| .ent _ _ p q,a,b,e=>by have e:(UI p a.1 b.1&&UI q a.2 b.2)=true:=e;rw[D5]at e;exact xU (KN _ _ e.1) (KN _ _ e.2)
theorem a4w{a b:V}{K:Option R}(h:b1W a b K=some r):a=b/\K=some r:=by
 unfold b1W at h;rw[DR,DR]at h;cases a with
 |i k n=>
  cases b with
  |i k' n' =>
   cases hk:decide (k=k')
   .simp_all
   .have e:=of_decide_eq_true hk;subst e;simp at h;cases hi:D8 n n'<;>rw[hi]at h
    .cases h
    .have e:=of_decide_eq_true (show decide (n=n')=true from hi);subst e;exact⟨rfl,h⟩
  |_=>cases h
 |sl t xs=>
  cases b with
  |sl u ys=>
   simp only[Ty.castL]at h;by_cases e:u=t
   .subst e;simp at h;cases hi:deq (.sl u) xs ys<;>rw[hi]at h
    .cases h
    .rw[KN (t:=.sl u) xs ys hi];exact⟨rfl,h⟩
   simp_all
  |_=>cases h
 |b x=>
  grind [WZ,l7]
 |s x=>
  grind [seq,l7]
 |_=>cases h
theorem Kq:∀{a b:c5y},IQ a b=true->a=b
 |[],[],_=>rfl|[],_::_,h=>by cases h|_::_,[],h=>by cases h|a::l,b::m,h=>by
  unfold IQ at h;cases hb:Nat.beq a b
  .simp[hb]at h
  .simp[hb,cond_true]at h;rw[fZ hb,Kq h]
def Rp(E:Env)(q:Nat)(all:List Oper)(o:Oper)(tr:Tr)(v:V)(S:Sm):Prop:=
 ∃d S',o.dst=some d/\tr.2=[d]/\(oH E q all o).eval S ([],[])=some ((),S',tr)/\S' d=v
theorem VU{R:Type}{E:Env}{q:Nat}{all:List Oper}{s:St} :∀{p:a6r} {K:Option R} {r:R},a1r E q all s p K=some r->
  (∀x∈p,Rp E q all x.1 x.2.1 x.2.2 (aI s))/\K=some r
 |[],K,r,h=>⟨λx hx=>by grind,h⟩|(o,tr,v)::p,K,r,h=>by
  obtain⟨x,s2,tr2,e,hk⟩:=kV h;cases hd:o.dst with
  |none=>simp[hd]at hk|some d=>
   simp[hd]at hk;cases hc:(IQ tr.1 tr2.1&&IQ tr.2 tr2.2&&IQ tr2.2 [d])
   .simp[hc]at hk
   .simp[hc,cond_true]at hk;simp at hc;obtain⟨⟨h1,h2⟩,h3⟩:=hc;have h1:=Kq h1;have h2:=Kq h2;have h3:=Kq h3;have etr:=xU h1 h2;subst etr;obtain⟨hv,hk⟩:=a4w hk;obtain⟨g1,g2⟩:=VU hk;refine⟨λy hy=>?_,g2⟩;rcases D7.1 hy with rfl|hy
    .exact⟨d,_,hd,h3,e,hv.symm⟩
    .exact g1 y hy
theorem PL{R:Type}{E:Env}{q:Nat}{all:List Oper} :∀(l:List Oper) {s:St} {t:Trs} {p:a6r} {K:St->Trs->Option R} {r:R},zZ E q all l s t p K=some r->
  ∃s' S T,S 0=aI s/\S l.length=aI s' /\Uf E q all l S T/\K s' (((List.range l.length).map T).reverse++t)=some r/\
   (∀x∈p,∀j o',l[j]? =some o' ->qB o' =true->Rp E q all x.1 x.2.1 x.2.2 (S (j+1)))/\
   (∀i j o o',i<j->l[i]? =some o->l[j]? =some o' ->a0D E o=true->qB o' =true->∃d,o.dst=some d/\Rp E q all o (T i) (S (i+1) d) (S (j+1)))
 |[],s,t,p,K,r,h=>⟨s,λ_=>aI s,λ_=>([],[]),rfl,rfl,λi o hi=>by simp at hi,by simpa[zZ]using h,λx _ j o' hj=>by simp at hj,λi j o o' _ hi=>by simp at hi⟩|o::l,s,t,p,K,r,h=>by
  have key:∀s0,aI s0=aI s->(oH E q all o).runK s0 ([],[]) (λ_ s' tr=>bif qB o then a1r E q all s' p (zZ E q all l s' (tr::t) p K)else zZ E q all l s' (tr::t) (ZV E o s' tr p) K)=some r->
    ∃s' S T,S 0=aI s/\S (o::l).length=aI s' /\Uf E q all (o::l) S T/\K s' (((List.range (o::l).length).map T).reverse++t)=some r/\
   (∀x∈p,∀j o',(o::l)[j]? =some o' ->qB o' =true->Rp E q all x.1 x.2.1 x.2.2 (S (j+1)))/\
   (∀i j o1 o',i<j->(o::l)[i]? =some o1->(o::l)[j]? =some o' ->a0D E o1=true->qB o' =true->∃d,o1.dst=some d/\Rp E q all o1 (T i) (S (i+1) d) (S (j+1))):=λs0 hs0 h=>by
   obtain⟨x,s1,tr,e,hk⟩:=kV h;have fin:∀p',(∀y∈p,y∈p')->(a0D E o=true->qB o=false->∃d,o.dst=some d/\(o,tr,aI s1 d)∈p')->(qB o=true->∀y∈p,Rp E q all y.1 y.2.1 y.2.2 (aI s1))->zZ E q all l s1 (tr::t) p' K=some r->
     ∃s' S T,S 0=aI s/\S (o::l).length=aI s' /\Uf E q all (o::l) S T/\K s' (((List.range (o::l).length).map T).reverse++t)=some r/\
   (∀x∈p,∀j o',(o::l)[j]? =some o' ->qB o' =true->Rp E q all x.1 x.2.1 x.2.2 (S (j+1)))/\
   (∀i j o1 o',i<j->(o::l)[i]? =some o1->(o::l)[j]? =some o' ->a0D E o1=true->qB o' =true->∃d,o1.dst=some d/\Rp E q all o1 (T i) (S (i+1) d) (S (j+1))):=λp' hp' hex hcall hk=>by
    obtain⟨s',S,T,h0,h1,h2,h3,h4,h5⟩:=PL l hk;refine⟨s',WA (aI s) S,WB tr T,rfl,h1,λi o' hi=>?_,?_,λy hy j o' hj hc=>?_,λi j o1 o' hij hi hj he hc=>?_⟩
    .cases i with
     |zero=>simp at hi;subst hi;show(oH E q all o).eval (aI s) ([],[])=some ((),S 0,tr);rw[←hs0,e,h0]|succ i=>exact h2 i o' (by simpa using hi)
    .rw[A8,iO,aB,jq,E8,rH];exact h3
    .cases j with
     |zero=>simp at hj;subst hj;show Rp E q all y.1 y.2.1 y.2.2 (S 0);simp_all|succ j=>exact h4 y (hp' y hy) j o' (by simp_all) hc
    .cases j with
     |zero=>omega|succ j=>
      cases i with
      |zero=>
       simp at hi;subst hi;have hnc:qB o=false:=by simp_all [a0D]
       obtain⟨d,hd,hm⟩:=hex he hnc;refine⟨d,hd,?_⟩;have:=h4 _ hm j o' (by simp_all) hc;show Rp E q all o tr (S 0 d) (S (j+1));simp_all
      |succ i=>exact h5 i j o1 o' l9 (by simp_all) (by simp_all) he hc
   cases hc:qB o
   .simp only[hc,cond_false]at hk;refine fin _ (λy hy=>?_) (λhe _=>?_) (λh=>by rw[hc]at h;cases h) hk<;>grind [ZV,a0D]
   .grind [VU]
  unfold zZ at h;split at h
  .grind
  .grind [Ih]
def Z_(ord:Nat->Nat->Prop)(ex:Nat->Nat->Prop)(T:Nat->Tr)(i j:Nat):Prop:=
 ord i j\/((∀k∈(T i).2,k∉(T j).1/\k∉(T j).2)/\((∀k∈(T i).1,k∉(T j).2)\/
  (ex i j/\(∀k∈(T i).2,k∉(T i).1)/\∀m,i<m->m<j->ord m j\/∀k∈(T i).1,k∉(T m).2)))
theorem VF{mask:Nat}{x:Tr} :∀{l:List (Nat×Tr)},a5s mask x l=true->∀y∈l,Nat.testBit mask y.1=true\/∀k∈x.1,k∉y.2.2
 |[],_,y,hy=>by grind|(m,z)::l,h,y,hy=>by
  unfold a5s at h;simp at h;rcases D7.1 hy with rfl|hy
  .exact h.1.imp id (λh=>xw h)
  .exact VF h.2 y hy
theorem MB{E:Env}{all:List Oper}{mask:Nat}{y:Tr}{cy:Bool}{T:Nat->Tr}{N:Nat} :∀n (mids:List (Nat×Tr)),(∀m,n<=m->m<N->(m,T m)∈mids)->OV E all mask y cy ((List.range n).map T).reverse n mids=true->
  ∀i,i<n->Nat.testBit mask i=true\/((∀k∈(T i).2,k∉y.1/\k∉y.2)/\((∀k∈(T i).1,k∉y.2)\/((cy=true/\a8G E all i=true)/\(∀k∈(T i).2,k∉(T i).1)/\∀m,i<m->m<N->Nat.testBit mask m=true\/∀k∈(T i).1,k∉(T m).2)))
 |0,_,_,_,i,hi=>by omega|n+1,mids,hm,h,i,hi=>by
  rw[qc]at h;unfold OV at h;simp at h;by_cases e:i=n
  .subst e;have h:=h.1;unfold a5w at h;cases hb:Nat.testBit mask i
   .simp only[hb,cond_false,D5]at h;refine .inr ⟨λk hk=>⟨xw h.1.1 k hk,xw h.1.2 k hk⟩,?_⟩;have h2:=h.2;cases hdj:Oq (T i).1 y.2
    .simp[hdj,cond_false,D5]at h2;exact .inr ⟨h2.1.1,xw h2.1.2,λm h3 h4=>VF h2.2 _ (hm m l9 h4)⟩
    grind [xw]
   .simp
  .refine MB n _ (λm h1 h2=>?_) h.2 i l9<;>grind
theorem OX{E:Env}{all:List Oper}{M:Nat->Nat}{T:Nat->Tr} :∀n,OW E all ((List.range n).map M).reverse ((List.range n).map T).reverse=true->∀i j,i<j->j<n->
  Z_ (λi j=>Nat.testBit (M j) i=true) (λi j=>Zc all j=true/\a8G E all i=true) T i j
 |0,_,i,j,_,hj=>by omega|n+1,h,i,j,hi,hj=>by
  rw[qc,qc]at h;unfold OW at h;simp at h;by_cases e:j=n
  .subst e;exact MB j [] (λm h1 h2=>by omega) h.1 i hi
  .exact OX n h.2 i j hi l9
theorem a9g{P:Nat->Prop} :∀(n:Nat),(∃j,j<n/\P j)->∃j,j<n/\P j/\∀m,j<m->m<n->¬P m
 |0,⟨j,h,_⟩=>by omega|n+1,⟨j,h,hp⟩=>by
  by_cases e:P n
  .grind
  .have:j≠n:=λe2=>e (e2▸hp);obtain⟨j',h1,h2,h3⟩:=a9g n ⟨j,l9,hp⟩<;>grind
variable {n:Nat}
theorem a0a{c:Nat->Cmd Unit}{S:Nat->Sm}{T:Nat->Tr}(hs:∀i,i<n->(c i).eval (S i) ([],[])=some ((),S (i+1),T i)){ord ex:Nat->Nat->Prop}
  (hc:∀i j,i<j->j<n->Z_ ord ex T i j) (hex:∀i j,i<j->j<n->ex i j->∃S',(c i).eval (S (j+1)) ([],[])=some ((),S',T i)/\∀k∈(T i).2,S' k=S (i+1) k)
  {D:c5y} {i:Nat} (hi:i<n) (hD:i∉D) (hlt:∀j∈D,j<n) (hp:∀j,ord j i->j∈D) (hdown:∀j∈D,∀k,ord k j->k∈D):
  (c i).eval (SD S T D n) ([],[])=some ((),SD S T (i::D) n,T i):=by
 have before:∀k,(k∈(T i).1\/k∈(T i).2)->∀j,j<i->k∈(T j).2->j∈D:=λk hk j hj hw=>by rcases hc j i hj hi with h|⟨h1,_⟩<;>simp_all
 have afterW:∀k,k∈(T i).2->∀j,i<j->j<n->k∈(T j).2->j∉D:=λk hk j hj hjn hw hjD=>by rcases hc i j hj hjn with h|⟨h1,h2⟩<;>grind
 have fin:∀S0 S1:Sm,(c i).eval S0 ([],[])=some ((),S1,T i)->(∀k∈(T i).2,S1 k=S (i+1) k)->(∀k∈(T i).1,SD S T D n k=S0 k)->(c i).eval (SD S T D n) ([],[])=some ((),SD S T (i::D) n,T i):=λS0 S1 he hv hr=>by
  obtain⟨T',h1,_,h3,h4⟩:=rX he (SD S T D n) hr;rw[h1];have:T' =SD S T (i::D) n:=by
   funext k;by_cases hk:k∈(T i).2
   .rw[h4 k hk x8,hv k hk];rw[Og (i::D) k (i+1) n l9 (λj h1 h2 hw=>by
     grind)]
    simp[SD,hk]
   simp_all [a4C]
  grind
 by_cases hx:∃j,j<n/\(i<j/\j∈D/\∃k∈(T i).1,k∈(T j).2)
 .obtain⟨j,hjn,⟨hij,hjD,k0,hk0,hk1⟩,hmax⟩:=a9g n hx;rcases hc i j hij hjn with h|⟨_,h2⟩
  .grind
  .rcases h2 with h2|⟨h3,h4,h5⟩
   .simp_all
   .obtain⟨S',he,hv⟩:=hex i j hij hjn h3;refine fin (S (j+1)) S' he hv λk hk=>?_;rw[Og D k (j+1) n l9 (λm g1 g2 hw hmD=>hmax m l9 g2 ⟨l9,hmD,k,hk,hw⟩)];refine CX hs D k (j+1) l9 λm hm hw=>?_<;>grind
 .refine fin (S i) (S (i+1)) (hs i hi) (λ_ _=>rfl) λk hk=>?_;rw[Og D k i n l9 (λj h1 h2 hw hjD=>by
   grind)]
  exact CX hs D k i l9 (before k (.inl hk))
def pR(e:Edge):Prop:=match e.ground with| .textOnly _=>False| .gcOnly _=>False|_=>True
theorem pR.binds{e:Edge}(h:pR e)(md:Region.Mode):Region.binds md e=true:=by
 grind [pR,Region.binds]
theorem XH{e:Edge}(h:Region.binds .any e=true):pR e:=by
 grind [Region.binds,pR]
theorem Xi{M:Nat->Nat}{n k:Nat}(hk:k<n):(((List.range n).map M).reverse).getD (n -1 -k) 0=M k:=by
 grind
theorem MW{M:Nat->Nat}{n:Nat} :∀(es:List Edge) {m m' :Nat},LX ((List.range n).map M).reverse n es m=some m' ->
  (∀e∈es,pR e->e.on<n)/\∀j,Nat.testBit m' j=true->Nat.testBit m j=true\/∃e∈es,pR e/\(j=e.on\/Nat.testBit (M e.on) j=true)
 |[],m,m',h=>by simp[LX]at h;subst h;exact⟨λ_ h=>absurd h x8,λj hj=> .inl hj⟩|e::es,m,m',h=>by
  have plain:(bif Nat.blt e.on n then LX ((List.range n).map M).reverse n es (m ||| 2^e.on ||| (((List.range n).map M).reverse).getD (n -1 -e.on) 0)else none)=some m' ->pR e->
    (∀e' ∈e::es,pR e' ->e'.on<n)/\∀j,Nat.testBit m' j=true->Nat.testBit m j=true\/∃e' ∈e::es,pR e' /\(j=e'.on\/Nat.testBit (M e'.on) j=true):=λh hp=>by
   cases hb:Nat.blt e.on n
   .simp_all
   .simp only[hb,cond_true]at h;have hlt:=EY hb;rw[Xi hlt]at h;obtain⟨h1,h2⟩:=MW es h<;>grind
  have skip:LX ((List.range n).map M).reverse n es m=some m' ->¬pR e->
    (∀e' ∈e::es,pR e' ->e'.on<n)/\∀j,Nat.testBit m' j=true->Nat.testBit m j=true\/∃e' ∈e::es,pR e' /\(j=e'.on\/Nat.testBit (M e'.on) j=true):=λh hp=>by
   obtain⟨h1,h2⟩:=MW es h<;>simp_all
  unfold LX at h;cases hg:e.ground<;>simp only[hg]at h
  case textOnly=>simp_all [pR]
  case gcOnly=>simp_all [pR]
  all_goals exact plain h (by simp[pR,hg])
theorem Gq:∀(l:List Oper) {n:Nat} {M:Nat->Nat} {ms:c5y},Tm l n ((List.range n).map M).reverse=some ms->
  ∃M' :Nat->Nat,ms=((List.range (n+l.length)).map M').reverse/\(∀k,k<n->M' k=M k)/\
   ∀i o,l[i]? =some o->(∀e∈o.after.toList,pR e->e.on<n+i)/\∀j,Nat.testBit (M' (n+i)) j=true->∃e∈o.after.toList,pR e/\(j=e.on\/Nat.testBit (M' e.on) j=true)
 |[],n,M,ms,h=>by simp only[Tm,G6]at h;subst h;exact⟨M,rfl,λ_ _=>rfl,λi o hi=>by simp_all⟩|o::l,n,M,ms,h=>by
  unfold Tm at h;cases he:LX ((List.range n).map M).reverse n o.after.toList 0 with
  |none=>simp_all|some m=>
   simp only[he]at h;obtain⟨h1,h2⟩:=MW _ he;have hM:m::((List.range n).map M).reverse=((List.range (n+1)).map (λk=>if k=n then m else M k)).reverse:=by
    grind [qc,List.map_congr_left]
   rw[hM]at h;obtain⟨M',e1,e2,e3⟩:=Gq l h;have hMn:M' n=m:=by simp_all
   have hMk:∀k,k<n->M' k=M k:=λk hk=>by grind
   refine⟨M',by grind,hMk,λi o' hi=>?_⟩;cases i<;>grind
theorem VM:∀(n:Nat) {D:c5y},D.Nodup->(∀x∈D,x<n)->D.length<=n
 |0,D,_,h=>by
  cases D with
  |nil=>simp|cons x D=>have:=h x x8;omega
 |n+1,D,hD,h=>by
  by_cases hn:n∈D
  .have h1:=VM n (hD.erase n) (λx hx=>by
    have:=(hD.mem_erase_iff).1 hx;have:=h x this.2;omega)
   rw[List.length_erase_of_mem hn]at h1;omega
  .have h1:=VM n hD (λx hx=>by
    have:=h x hx;have:x≠n:=λe=>hn (e▸hx);omega)
   omega
theorem a7j{D:c5y}(hD:D.Nodup)(h:∀x∈D,x<n)(hl:n<=D.length):∀i,i<n->i∈D:=λi hi=>by
 refine mX λhn=>?_;have:=VM n (Y9.2 ⟨hn,hD⟩) (λx hx=>by
  grind)
 grind
def Ap(md:Region.Mode)(ops:Array Oper):Prop:=∃rk:Nat->Nat,∀i o,ops[i]? =some o->∀e∈o.after.toList,Region.binds md e=true->e.on<ops.size/\rk e.on<rk i
theorem RZ:∀{es:List Edge},VS es=true->∀e∈es,pR e
 |[],_,e,he=>by grind|e::es,h,e',he' =>by
  unfold VS at h;have hp:pR e:=by cases hg:e.ground<;>simp[hg]at h<;>simp[pR,hg]
  have hr:=by cases hg:e.ground<;>simp[hg]at h<;>exact h
  rcases D7.1 he' with rfl|he'
  .exact hp
  .exact RZ hr e' he'
theorem Fq:∀{l:List Oper},zT l=true->∀o∈l,∀e∈o.after.toList,pR e
 |[],_,o,ho=>by grind|o::l,h,o',ho' =>by
  unfold zT at h;cases hp:VS o.after.toList
  .simp[hp]at h
  .simp[hp,cond_true]at h;rcases D7.1 ho' with rfl|ho'
   .exact RZ hp
   .exact Fq h o' ho'
theorem Si{md:Region.Mode}{done:c5y} :∀{es:List Edge},QI md done es=true->∀e∈es,Region.binds md e=true->e.on∈done
 |[],_,e,he,_=>by grind|e::es,h,e',he',hb=>by
  unfold QI at h;cases hc:(!Region.binds md e || Ea e.on done)
  .simp[hc]at h
  .simp[hc,cond_true]at h;rcases D7.1 he' with rfl|he'
   .rw[hb]at hc;exact VA hc
   .exact Si h e' he' hb
theorem IC{md:Region.Mode}{done:c5y} :∀{l:List Oper} {n i:Nat},wQ md done l n=some i->∃o,l[i -n]? =some o/\n<=i/\i<n+l.length/\QI md done o.after.toList=true
 |[],n,i,h=>by grind [wQ]|o::l,n,i,h=>by
  unfold wQ at h;have rec' :wQ md done l (n+1)=some i->∃o',(o::l)[i -n]? =some o' /\n<=i/\i<n+(o::l).length/\QI md done o'.after.toList=true:=λh=>by obtain⟨o',h1,h2,h3,h4⟩:=IC h<;>grind
  grind
theorem Uk:∀{n:Nat} {d:c5y},a4D n d=true->∀i,i<n->i∈d
 |0,d,_,i,hi=>by omega|n+1,d,h,i,hi=>by
  unfold a4D at h;simp at h;by_cases e:i=n
  .subst e;exact VA h.1
  .exact Uk h.2 i l9
theorem zn{md:Region.Mode}{ops:Array Oper} :∀(k:Nat) {done:c5y} {rk:Nat->Nat},WN md ops.toList k done=true->
  (∀x∈done,rk x<done.length)->(∀i∈done,∀o,ops[i]? =some o->∀e∈o.after.toList,Region.binds md e=true->e.on∈done/\e.on<ops.size/\rk e.on<rk i)->(∀x∈done,x<ops.size)->Ap md ops
 |0,done,rk,h,h1,h2,h3=>by have hall:=Uk h;simp only[P7]at hall;exact⟨rk,λi o hi e he hb=>(h2 i (hall i (N7.1 hi).1) o hi e he hb).2⟩|k+1,done,rk,h,h1,h2,h3=>by
  unfold WN at h;cases hf:wQ md done ops.toList 0 with
  |none=>simp_all|some n=>
   simp only[hf]at h;obtain⟨o,e1,_,e2,e3⟩:=IC hf;simp only[Nat.sub_zero,gu,bC,P7]at e1 e2;by_cases hn:n∈done
   .refine zn k (rk:=rk) h (λx hx=>?_) (λi hi o' ho' e he hb=>?_) (λx hx=>?_)<;>grind
   .refine zn k (rk:=λx=>if x=n then done.length else rk x) h (λx hx=>?_) (λi hi o' ho' e he hb=>?_) (λx hx=>?_)<;>grind [Si]
end Go.GP
namespace Go.GP
variable {k:Nat}{o:Oper}{f:FuncId}{c:Int}{s:St}{S1:Sm}{tr:Tr}{s':St}{α:Type}{n:Nat}
section
variable {X:Fx} {q:Nat} {ops:Array Oper} {S:Nat->Sm} {T:Nat->Tr} {m0:Mp} {ok0:Nat->Ty->Prop} {Q:Exit->Act->World->Prop}
theorem GM(H:FxOk X){i:Nat}(hi:ops[i]? =some o){S1 S2:Sm}{t:Tr}(he:(oH X.E q ops.toList o).eval S1 ([],[])=some ((),S2,t)){m:Mp}{ok:Nat->Ty->Prop}{a:Act}{w:World}
  (R:Rel X (CB*q) (CB*q+CB) S1 m ok a w) {next:Act->World->Prop}
  (hn:∀m' ok' a' w',Rel X (CB*q) (CB*q+CB) S2 m' ok' a' w' ->(∀k l,m k=some l->m' k=some l)->(∀b t,ok b t->ok' b t)->next a' w'):wpOp X.P ops Q i next a w:=
 qY (a4l H R hi) he next Q hn
theorem SN(H:FxOk X)(hc:Uf X.E q ops.toList ops.toList S T)
  (hQ:∀m' ok' a' w',Rel X (CB*q) (CB*q+CB) (S ops.size) m' ok' a' w' ->(∀k l,m0 k=some l->m' k=some l)->(∀b t,ok0 b t->ok' b t)->Q .normal a' w'):
  ∀(n k:Nat) {m:Mp} {ok:Nat->Ty->Prop} {a:Act} {w:World},k+n=ops.size->Rel X (CB*q) (CB*q+CB) (S k) m ok a w->(∀k l,m0 k=some l->m k=some l)->(∀b t,ok0 b t->ok b t)->wpOps X.P ops Q (List.range' k n) a w
 |0,k,m,ok,a,w,hk,R,hm,hok=>by have:k=ops.size:=l9;subst this;exact hQ m ok a w R hm hok
 |n+1,k,m,ok,a,w,hk,R,hm,hok=>by have hi:ops[k]? =some (ops[k]'l9):=X4 _;refine GM H hi (hc k _ x8) R λm' ok' a' w' R' k1 k2=>?_;exact SN H hc hQ n (k+1) l9 R' (λk l h=>k1 k l (hm k l h)) (λb t h=>k2 b t (hok b t h))
theorem a6u(H:FxOk X){md:Region.Mode}(hc:Uf X.E q ops.toList ops.toList S T){M:Nat->Nat}
  {ex:Nat->Nat->Prop} (hpair:∀i j,i<j->j<ops.size->Z_ (λi j=>Nat.testBit (M j) i=true) ex T i j)
  (hex:∀i j,i<j->j<ops.size->ex i j->∃S',(oH X.E q ops.toList (ops.getD i default)).eval (S (j+1)) ([],[])=some ((),S',T i)/\∀k∈(T i).2,S' k=S (i+1) k)
  (hM:∀i o,ops[i]? =some o->∀j,Nat.testBit (M i) j=true->∃e∈o.after.toList,pR e/\(j=e.on\/Nat.testBit (M e.on) j=true)) (hrk:Ap md ops)
  (hQ:∀m' ok' a' w',Rel X (CB*q) (CB*q+CB) (S ops.size) m' ok' a' w' ->(∀k l,m0 k=some l->m' k=some l)->(∀b t,ok0 b t->ok' b t)->Q .normal a' w'):
  ∀(au:Nat) {D:c5y} {qU:Array Bool} {m:Mp} {ok:Nat->Ty->Prop} {a:Act} {w:World},au+D.length=ops.size->D.Nodup->(∀j∈D,j<ops.size)->qU.size=ops.size->(∀i,i<ops.size->(qU.getD i false=true↔i∈D))->
   (∀j∈D,∀k,Nat.testBit (M j) k=true->k∈D)->Rel X (CB*q) (CB*q+CB) (SD S T D ops.size) m ok a w->(∀k l,m0 k=some l->m k=some l)->(∀b t,ok0 b t->ok b t)->
   wpAny X.P md ops Q au qU a w:=by
 have hs:∀i,i<ops.size->(oH X.E q ops.toList (ops.getD i default)).eval (S i) ([],[])=some ((),S (i+1),T i):=λi hi=>by refine hc i _ ?_;simp[Array.getD,hi]
 obtain⟨rk,hrk⟩:=hrk;intro au;induction au with
 |zero=>
  intro D qU m ok a w hf hD hlt hsz hl hdown R hm hok;have hall:=a7j hD hlt l9;refine⟨?_,?_⟩
  .cases hr:Region.ready md ops qU with
   |nil=>rfl|cons x xs=>
    have hx:x∈Region.ready md ops qU:=by rw[hr];simp
    obtain⟨h1,o,ho,_⟩:=mem_ready.1 hx;have hxl:=(N7.1 ho).1;have:=(hl x hxl).2 (hall x hxl);rw[Y2]at h1 this;cases hg:qU[x]? with
    |none=>rw[hg]at this;cases this|some y=>rw[hg]at h1 this;simp only[X8]at h1 this;rw[h1]at this;cases this
  .refine hQ m ok a w ?_ hm hok;rwa[a8c (c:=λi=>oH X.E q ops.toList (ops.getD i default)) hs hall]at R
 |succ au ih=>
  intro D qU m ok a w hf hD hlt hsz hl hdown R hm hok;refine⟨λhr=>?_,λi hi=>?_⟩
  .have hall:∀n i,rk i<n->i<ops.size->i∈D:=by
    intro n;induction n with
    |zero=>intro i hi _;omega|succ n ihn=>
     intro i hi hil;refine mX λhni=>?_;have hin:i∈Region.ready md ops qU:=by refine mem_ready.2 ⟨?_,ops[i],X4 hil,λe he hb=>?_⟩<;>grind
     simp_all
   refine hQ m ok a w ?_ hm hok;rwa[a8c (c:=λi=>oH X.E q ops.toList (ops.getD i default)) hs (λi hi=>hall _ i (Nat.lt_succ_self _) hi)]at R
  .obtain⟨h1,o,ho,h2⟩:=mem_ready.1 hi;have hil:=(N7.1 ho).1;have hnD:i∉D:=λh=>by
    grind
   have hp:∀j,Nat.testBit (M i) j=true->j∈D:=λj hj=>by
    obtain⟨e,he,hpl,h3⟩:=hM i o ho j hj;have hlst:=h2 e (by simp_all) (hpl.binds md)
    grind
   have hgd:ops.getD i default=o:=by simp_all
   have hstep:=a0a (c:=λi=>oH X.E q ops.toList (ops.getD i default)) (S:=S) (T:=T) (n:=ops.size) hs (ord:=λi j=>Nat.testBit (M j) i=true) (ex:=ex)
    hpair hex hil hnD hlt hp hdown
   simp only[hgd]at hstep;refine GM H ho hstep R λm' ok' a' w' R' k1 k2=>?_;refine ih (D:=i::D) (by grind) (Y9.2 ⟨hnD,hD⟩) (λj hj=>?_) (by grind) (λj hj=>?_) (λj hj k hk=>?_) R' (λk l h=>k1 k l (hm k l h)) (λb t h=>k2 b t (hok b t h))
   .grind
   .by_cases e:i=j
    .simp_all
    .rw[getD_set_ne false e,hl j hj]
     grind
   grind
theorem a1l(H:FxOk X)(hi:ops[k]? =some o)(hp:Ci X.E o=some f){S1 S2:Sm}{t:Tr}(he:(Gv X.E q ops.toList o f).eval S1 ([],[])=some (some c,S2,t)){m:Mp}{ok:Nat->Ty->Prop}{a:Act}{w:World}
  (R:Rel X (CB*q) (CB*q+CB) S1 m ok a w) {next:Act->World->Prop}
  (hn:c≠0->∀m' ok' w',Rel X (CB*q) (CB*q+CB) S2 m' ok' a w' ->(∀k l,m k=some l->m' k=some l)->(∀b t,ok b t->ok' b t)->Q (.panic (xn X.P c)) a w'):wpOp X.P ops Q k next a w:=by
 obtain⟨h1,h2⟩:=qY (WH H R hi hp) he;exact h2 next Q (hn h1)
theorem YM(H:FxOk X){k:Nat}{o:Oper}{f:FuncId}{c:Int}{S2:Sm}{tr:Tr}(hi:ops[k]? =some o)(hp:Ci X.E o=some f)(hc:Tv k X.E q ops.toList ops.toList S T)
  (he:(Gv X.E q ops.toList o f).eval (S k) ([],[])=some (some c,S2,tr))
  (hQ:c≠0->∀m' ok' a' w',Rel X (CB*q) (CB*q+CB) S2 m' ok' a' w' ->(∀k l,m0 k=some l->m' k=some l)->(∀b t,ok0 b t->ok' b t)->Q (.panic (xn X.P c)) a' w'):
  ∀(n j:Nat) {m:Mp} {ok:Nat->Ty->Prop} {a:Act} {w:World},j+n=k->Rel X (CB*q) (CB*q+CB) (S j) m ok a w->(∀k l,m0 k=some l->m k=some l)->(∀b t,ok0 b t->ok b t)->wpOps X.P ops Q (List.range' j (ops.size -j)) a w
 |0,j,m,ok,a,w,hk,R,hm,hok=>by have hjk:j=k:=l9;subst hjk;have hlt:=(N7.1 hi).1;rw[show ops.size -j=(ops.size -j -1)+1 by omega,mO];exact a1l H hi hp he R λh0 m' ok' w' R' k1 k2=>hQ h0 m' ok' a w' R' (λk l h=>k1 k l (hm k l h)) (λb t h=>k2 b t (hok b t h))
 |n+1,j,m,ok,a,w,hk,R,hm,hok=>by have hlt:=(N7.1 hi).1;rw[show ops.size -j=(ops.size -j -1)+1 by omega,mO];have hj:ops[j]? =some (ops[j]'l9):=X4 _;refine GM H hj (hc j _ l9 x8) R λm' ok' a' w' R' k1 k2=>?_;exact YM H hi hp hc he hQ n (j+1) l9 R' (λk l h=>k1 k l (hm k l h)) (λb t h=>k2 b t (hok b t h))
theorem OT:∀(k:Nat) {D:c5y},D.Nodup->(∀j∈D,j<k)->D.length<=k
 |0,D,_,h=>by
  cases D with
  |nil=>simp|cons a l=>exact absurd (h a x8) (Nat.not_lt_zero _)
 |k+1,D,hn,h=>by
  have h2:=OT k (hn.erase k) (λj hj=>by obtain⟨h3,h4⟩:=hn.mem_erase_iff.1 hj;have:=h j h4;omega)
  rw[List.length_erase]at h2;split at h2<;>omega
theorem a8g(H:FxOk X){md:Region.Mode}(hi:ops[k]? =some o)(hp:Ci X.E o=some f){c2:Nat->Cmd Unit}{S2:Nat->Sm}{T2:Nat->Tr}
  (hs:∀i,i<ops.size->(c2 i).eval (S2 i) ([],[])=some ((),S2 (i+1),T2 i)) {M:Nat->Nat} (hc2:∀i o,ops[i]? =some o->i≠k->¬Nat.testBit (M i) k=true->c2 i=oH X.E q ops.toList o)
  (he:(Gv X.E q ops.toList o f).eval (S2 k) ([],[])=some (some c,S1,tr))
  (hpair:∀i j,i<j->j<ops.size->Z_ (λi j=>Nat.testBit (M j) i=true) (λ_ _=>False) T2 i j) (hpk:∀i,i<k->Nat.testBit (M k) i=true\/XD (T2 i) tr) (hpl:∀j,k<=j->j<ops.size->∀z∈tr.1,z∉(T2 j).2)
  (hM:∀i o,ops[i]? =some o->∀j,Nat.testBit (M i) j=true->∃e∈o.after.toList,pR e/\(j=e.on\/Nat.testBit (M e.on) j=true)) (hrk:Ap md ops)
  (hQ:c≠0->∀S3 m' ok' a' w',Rel X (CB*q) (CB*q+CB) S3 m' ok' a' w' ->(∀k l,m0 k=some l->m' k=some l)->(∀b t,ok0 b t->ok' b t)->(∀z,(∀i,i<ops.size->z∉(T2 i).2)->S3 z=if z∈tr.2 then S1 z else S2 ops.size z)->Q (.panic (xn X.P c)) a' w'):
  ∀(au:Nat) {D:c5y} {qU:Array Bool} {m:Mp} {ok:Nat->Ty->Prop} {a:Act} {w:World},au+D.length=ops.size->D.Nodup->(∀j∈D,j<ops.size)->k∉D->qU.size=ops.size->(∀i,i<ops.size->(qU.getD i false=true↔i∈D))->
   (∀j∈D,∀k,Nat.testBit (M j) k=true->k∈D)->Rel X (CB*q) (CB*q+CB) (SD S2 T2 D ops.size) m ok a w->(∀k l,m0 k=some l->m k=some l)->(∀b t,ok0 b t->ok b t)->
   wpAny X.P md ops Q au qU a w:=by
 have hklt:=(N7.1 hi).1;obtain⟨rk,hrk⟩:=hrk;intro au;induction au with
 |zero=>
  intro D qU m ok a w hf hD hlt hkD hsz hl hdown R hm hok;exfalso;have:=OT ops.size (Y9.2 ⟨hkD,hD⟩) (λj hj=>by
   rcases D7.1 hj with rfl|hj
   .exact hklt
   .exact hlt j hj)
  simp at this;omega
 |succ au ih=>
  intro D qU m ok a w hf hD hlt hkD hsz hl hdown R hm hok;refine⟨λhr=>?_,λi hir=>?_⟩
  .exfalso;have hall:∀n i,rk i<n->i<ops.size->i∈D:=by
    intro n;induction n with
    |zero=>intro i hi _;omega|succ n ihn=>
     intro i hi hil;refine mX λhni=>?_;have hin:i∈Region.ready md ops qU:=by
      refine mem_ready.2 ⟨?_,ops[i],X4 hil,λe he hb=>?_⟩
      .have h1:¬qU.getD i false=true:=λh=>hni ((hl i hil).1 h);rw[Y2]at h1 ⊢;rw[X4 l9]at h1 ⊢;simpa using h1
      .obtain⟨g1,g2⟩:=hrk i _ (X4 hil) e (by simpa using he) hb;exact(hl e.on g1).2 (ihn e.on l9 g1)
     rw[hr]at hin;cases hin
   exact hkD (hall _ k (Nat.lt_succ_self _) hklt)
  .obtain⟨h1,o',ho,h2⟩:=mem_ready.1 hir;have hil:=(N7.1 ho).1;have hnD:i∉D:=λh=>by
    have:=(hl i hil).2 h;rw[Y2]at h1 this;rw[X4 l9]at h1 this;simp only[X8]at h1 this;rw[h1]at this;cases this
   have hpre:∀j,Nat.testBit (M i) j=true->j∈D:=λj hj=>by
    obtain⟨e,he,hpl,h3⟩:=hM i o' ho j hj;have hlst:=h2 e (by simpa using he) (hpl.binds md);have hon:e.on<ops.size:=(hrk i o' ho e he (hpl.binds md)).1;have honD:=(hl e.on hon).1 hlst;rcases h3 with rfl|h3
    .exact honD
    .exact hdown e.on honD j h3
   by_cases hik:i=k
   .subst hik;rw[hi]at ho;cases ho;have hrd:∀z,z∈tr.1->SD S2 T2 D ops.size z=S2 i z:=λz hz=>by
     rw[Og D z i ops.size l9 (λj g1 g2 hw=>absurd hw (hpl j g1 g2 z hz))];refine CX hs D z i l9 λj hj hw=>?_;rcases hpk j hj with h|h
     .simp_all
     .exact absurd hz (h.1 z hw).1
    obtain⟨T',g1,g2,g3,g4⟩:=rX he (SD S2 T2 D ops.size) hrd;refine a1l H hi hp g1 R λh0 m' ok' w' R' k1 k2=>hQ h0 T' m' ok' a w' R' (λk l h=>k1 k l (hm k l h)) (λb t h=>k2 b t (hok b t h)) λz hz=>?_;by_cases hzt:z∈tr.2
    .simp_all
    .rw[if_neg hzt,g3 z hzt];exact CX hs D z ops.size (E5 _) λj hj hw=>absurd hw (hz j hj)
   .have hnk:¬Nat.testBit (M i) k=true:=λh=>hkD (hpre k h);have hstep:=a0a (c:=c2) (S:=S2) (T:=T2) (n:=ops.size) hs (ord:=λi j=>Nat.testBit (M j) i=true) (ex:=λ_ _=>False)
     hpair (λ_ _ _ _ h=>h.elim) hil hnD hlt hpre hdown
    rw[hc2 i o' ho hik hnk]at hstep;refine GM H ho hstep R λm' ok' a' w' R' k1 k2=>?_;refine ih (D:=i::D) (by grind) (Y9.2 ⟨hnD,hD⟩) (λj hj=>?_) (λh=>?_) (by grind) (λj hj=>?_) (λj hj z hz=>?_) R' (λk l h=>k1 k l (hm k l h)) (λb t h=>k2 b t (hok b t h))
    .grind
    .simp_all
    .by_cases e:i=j
     .simp_all
     .rw[getD_set_ne false e,hl j hj]
      grind
    grind
theorem Sl(H:FxOk X)(h0:S 0=aI s)(h1:S ops.size=aI s')(hc:Uf X.E q ops.toList ops.toList S T){draw:Bool}{ex:Nat->Nat->Prop}
  (hex:∀i j,i<j->j<ops.size->ex i j->∃S',(oH X.E q ops.toList (ops.getD i default)).eval (S (j+1)) ([],[])=some ((),S',T i)/\∀k∈(T i).2,S' k=S (i+1) k)
  (hdraw:draw=true->∃M:Nat->Nat,Tm ops.toList 0 []=some ((List.range ops.size).map M).reverse/\(∀i j,i<j->j<ops.size->Z_ (λi j=>Nat.testBit (M j) i=true) ex T i j)/\
   (bif zT ops.toList then true else WN .text ops.toList ops.toList.length []&&WN .gc ops.toList ops.toList.length [])=true):
  (∀k,(∀x∈((List.range ops.size).map T).reverse,k∉x.2)->aI s' k=aI s k)/\
   ∀{m:Mp} {ok:Nat->Ty->Prop} {a:Act} {w:World} {id:Nat} {Q:Exit->Act->World->Prop},Rel X (CB*q) (CB*q+CB) (aI s) m ok a w->
    (∀m' ok' a' w',Rel X (CB*q) (CB*q+CB) (aI s') m' ok' a' w' ->(∀k l,m k=some l->m' k=some l)->(∀b t,ok b t->ok' b t)->Q .normal a' w')->(Code.region id ops draw).wp X.P Q a w:=by
 have hfr:∀k,(∀x∈((List.range ops.size).map T).reverse,k∉x.2)->aI s' k=aI s k:=λk hk=>by
  have:∀n,n<=ops.size->S n k=S 0 k:=by
   intro n;induction n with
   |zero=>intro _;rfl|succ n ih=>intro hn;have hi:ops[n]? =some (ops[n]'l9):=X4 _;rw[yG (hc n (ops[n]'l9) (by rw[gu];exact hi)) k (hk (T n) (by simp;exact⟨n,l9,rfl⟩)),ih l9]
  rw[←h1,←h0];exact this ops.size (E5 _)
 cases draw with
 |false=>refine⟨hfr,λ{m ok a w id Q} R hQ=>wp_region ?_⟩;rw[qP];rw[←h0]at R;refine SN H hc (m0:=m) (ok0:=ok) (by rw[h1];exact hQ) ops.size 0 l9 R (λ_ _ h=>h) (λ_ _ h=>h)|true=>
  obtain⟨M0,hp,hpair,hd⟩:=hdraw rfl;obtain⟨M,hMM,_,hM⟩:=Gq (M:=λ_=>0) ops.toList (n:=0) hp;simp only[bC,P7]at hd hM hMM;have hMM:∀k,k<ops.size->M0 k=M k:=λk hk=>by simp_all
  have hM:∀i o,ops[i]? =some o->(∀e∈o.after.toList,pR e->e.on<i)/\∀j,Nat.testBit (M0 i) j=true->∃e∈o.after.toList,pR e/\(j=e.on\/Nat.testBit (M0 e.on) j=true):=λi o ho=>by
   grind
  have hidr:∀md,(∀(i:Nat) (o:Oper),ops[i]? =some o->∀e∈o.after.toList,Region.binds md e=true->pR e)->Ap md ops:=λmd hpl=>by refine⟨λi=>i,λi o ho e he hb=>?_⟩<;>grind
  have hany:Ap .any ops:=hidr .any λi o ho e he hb=>XH hb;have hboth:Ap .text ops/\Ap .gc ops:=by
   cases hpo:zT ops.toList
   .simp only[hpo,cond_false,D5]at hd;exact⟨zn (rk:=λ_=>0) _ hd.1 x8 x8 x8,zn (rk:=λ_=>0) _ hd.2 x8 x8 x8⟩
   .have hpl:∀(i:Nat) (o:Oper),ops[i]? =some o->∀e∈o.after.toList,pR e:=λi o ho e he=>Fq hpo o (by grind) e he
    grind
  refine⟨hfr,λ{m ok a w id Q} R hQ=>wp_region_draw λt=>?_⟩;have R' :Rel X (CB*q) (CB*q+CB) (SD S T [] ops.size) m ok a { w with drawn:=w.drawn+1 }:=by rw[a8d,h0];exact R.same rfl rfl rfl rfl (λ_=>eQ _)
  have main:∀md,Ap md ops->∀t,wpOps X.P ops Q (Region.linearise md ops t) a { w with drawn:=w.drawn+1 }:=λmd hr t=>by unfold Region.linearise;refine wpAny_sound ops.size t _ a _ ?_;refine a6u H hc hpair hex (λi o ho=>(hM i o ho).2) hr (m0:=m) (ok0:=ok) (by rw[h1];omega) ops.size (D:=[]) x8 dD x8 x8 (λi hi=>?_) x8 R' (λ_ _ h=>h) (λ_ _ h=>h);simp_all
  unfold Region.schedule<;>grind
theorem O_{z:Nat} :∀{t:Trs},z∉wrs t->∀x∈t,z∉x.2
 |[],_,x,hx=>by grind|y::t,h,x,hx=>by
  rcases D7.1 hx with rfl|hx
  .exact λhz=>h (U8 _ hz)
  .exact O_ (λhz=>h (gy _ hz)) x hx
theorem Xq(M:Nat->α)(h:k<=n):((List.range n).map M).reverse.drop (n -k)=((List.range k).map M).reverse:=by
 apply aS;intro i;rw[dW]
 grind
theorem a3F(H:FxOk X)(hi:ops[k]? =some o)(hp:Ci X.E o=some f)(h0:S 0=aI s)(hc:Tv k X.E q ops.toList ops.toList S T)
  (he:(Gv X.E q ops.toList o f).eval (S k) ([],[])=some (some c,aI s',tr)):
  ∀{m:Mp} {ok:Nat->Ty->Prop} {a:Act} {w:World} {id:Nat} {Q:Exit->Act->World->Prop},Rel X (CB*q) (CB*q+CB) (aI s) m ok a w->
   (c≠0->∀m' ok' a' w',Rel X (CB*q) (CB*q+CB) (aI s') m' ok' a' w' ->(∀k l,m k=some l->m' k=some l)->(∀b t,ok b t->ok' b t)->Q (.panic (xn X.P c)) a' w')->(Code.region id ops false).wp X.P Q a w:=by
 intro m ok a w id Q R hQ;refine wp_region ?_;rw[qP];rw[←h0]at R;exact YM H hi hp hc he (λhz m' ok' a' w' R' k1 k2=>hQ hz m' ok' a' w' R' k1 k2) k 0 l9 R (λ_ _ h=>h) (λ_ _ h=>h)
theorem Il{R:Type}{E:Env}{all:List Oper}{k:Nat} :∀(l:List Oper) (ms:c5y) {s:St} {t:Trs} {K:St->Trs->Option R} {r:R},EQ E q all k l ms s t K=some r->
  ∃(s' :St) (S:Nat->Sm) (T:Nat->Tr),S 0=aI s/\S l.length=aI s' /\(∀(i:Nat) (o:Oper) (m:Nat),l[i]? =some o->ms[i]? =some m->(Nat.testBit m k=true/\S (i+1)=S i/\T i=([],[]))\/(Nat.testBit m k=false/\(oH E q all o).eval (S i) ([],[])=some ((),S (i+1),T i)))/\
   K s' (((List.range l.length).map T).reverse++t)=some r
 |[],[],s,t,K,r,h=>⟨s,λ_=>aI s,λ_=>([],[]),rfl,rfl,λi o m hi=>by simp,by simp_all [EQ]⟩|[],_::_,s,t,K,r,h=>by grind [EQ]|_::_,[],s,t,K,r,h=>by grind [EQ]|o::l,m::ms,s,t,K,r,h=>by
  unfold EQ at h;cases hb:Nat.testBit m k
  .simp[hb,cond_false]at h;obtain⟨x,s1,tr,e,hk⟩:=kV h;obtain⟨s',S,T,g0,g1,g2,g3⟩:=Il l ms hk;refine⟨s',WA (aI s) S,WB tr T,rfl,g1,λi o' m' hi hm=>?_,?_⟩
   .cases i with
    |zero=>
     simp at hi hm;subst hi;subst hm;refine .inr ⟨hb,?_⟩;show(oH E q all o).eval (aI s) ([],[])=some ((),S 0,tr)
     grind
    |succ i=>exact g2 i o' m' (by simp_all) (by simp_all)
   .rw[A8,iO,aB,jq,E8,rH];exact g3
  .simp[hb,cond_true]at h;obtain⟨s',S,T,g0,g1,g2,g3⟩:=Il l ms h;refine⟨s',WA (aI s) S,WB ([],[]) T,rfl,g1,λi o' m' hi hm=>?_,?_⟩
   .cases i with
    |zero=>simp at hi hm;subst hm;exact .inl ⟨hb,g0,rfl⟩|succ i=>exact g2 i o' m' (by simp_all) (by simp_all)
   .rw[A8,iO,aB,jq,E8,rH];exact g3
theorem Um{x:Tr} :∀{l:Trs},a0f x l=true->∀y∈l,XD x y
 |[],_,y,hy=>by grind|z::l,h,y,hy=>by
  unfold a0f at h;cases hb:VO false x z<;>rw[hb]at h
  .cases h
  .rcases D7.1 hy with rfl|hy
   .exact(RU hb).elim (λh=>by cases h) id
   .exact Um h y hy
theorem ZX(A B:Nat->α)(x:α)(h:k<n):(List.range n).map (λi=>if i<k then A i else if i=k then x else B (i -(k+1)))=(List.range k).map A++x::(List.range (n -(k+1))).map B:=by
 apply jV
 .grind
 grind
theorem b1K [Inhabited α](M:Nat->α){n k i:Nat}(h:k<n)(hi:i<n -(k+1)):((((List.range n).map M).reverse.take (n -1 -k)).reverse)[i]? =some (M (i+(k+1))):=by
 grind
theorem a1t(H:FxOk X){s s1 s' :St}(hi:ops[k]? =some o)(hp:Ci X.E o=some f)(h0:S 0=aI s)(hc:Tv k X.E q ops.toList ops.toList S T)
  (he:(Gv X.E q ops.toList o f).eval (S k) ([],[])=some (some c,aI s1,tr)) {ms:c5y} (hpm:Tm ops.toList 0 []=some ms) {S' :Nat->Sm} {T' :Nat->Tr} (g0:S' 0=aI s1) (g1:S' (ops.size -(k+1))=aI s')
  (gl:∀(i:Nat) (o:Oper) (m:Nat),(ops.toList.drop (k+1))[i]? =some o->((ms.take (ops.toList.length -1 -k)).reverse)[i]? =some m->(Nat.testBit m k=true/\S' (i+1)=S' i/\T' i=([],[]))\/(Nat.testBit m k=false/\(oH X.E q ops.toList o).eval (S' i) ([],[])=some ((),S' (i+1),T' i)))
  (hpd:TN ops.toList ms tr ((List.range k).map T).reverse ((List.range (ops.size -(k+1))).map T').reverse=true):
  ∀{m:Mp} {ok:Nat->Ty->Prop} {a:Act} {w:World} {id:Nat} {Q:Exit->Act->World->Prop},Rel X (CB*q) (CB*q+CB) (aI s) m ok a w->
   (c≠0->∀S3 m' ok' a' w',Rel X (CB*q) (CB*q+CB) S3 m' ok' a' w' ->(∀k l,m k=some l->m' k=some l)->(∀b t,ok b t->ok' b t)->(∀z,z∉wrs ((List.range (ops.size -(k+1))).map T').reverse++wrs ((List.range k).map T).reverse->S3 z=aI s' z)->Q (.panic (xn X.P c)) a' w')->(Code.region id ops true).wp X.P Q a w:=by
 have hklt:=(N7.1 hi).1;obtain⟨M,hms,_,hM⟩:=Gq (M:=λ_=>0) ops.toList (n:=0) hpm;simp only[bC,P7]at hms hM gl;unfold TN at hpd;simp only[List.length_reverse,jd,lG,P7]at hpd;let T2:Nat->Tr:=λi=>if i<k then T i else if i=k then([],[])else T' (i -(k+1));have hT2:((List.range (ops.size -(k+1))).map T').reverse++([],[])::((List.range k).map T).reverse=((List.range ops.size).map T2).reverse:=by rw[ZX T T' ([],[]) hklt,List.reverse_append,jq,E8];rfl
 rw[hT2]at hpd;cases hc0:(NE ms ((List.range ops.size).map T2).reverse&&a0f tr ((List.range (ops.size -(k+1))).map T').reverse)
 .simp[hc0]at hpd
 simp only[hc0,cond_true]at hpd;simp only[D5]at hc0;subst hms;rw[show ops.size -1 -k=ops.size -(k+1) by omega,Xq M l9,qc]at hpd;simp only at hpd;cases hc1:Lc (M k) tr ((List.range k).map T).reverse k
 .simp[hc1]at hpd
 simp only[hc1,cond_true]at hpd;have hpk:=Hw k hc1;have hpair:=JK _ hc0.1;have hap:∀i,i<ops.size -(k+1)->XD tr (T' i):=λi hi=>Um hc0.2 _ (by simp;exact⟨i,hi,rfl⟩);have gl:∀(i:Nat) (o:Oper),k<i->ops[i]? =some o->(Nat.testBit (M i) k=true/\S' (i -k)=S' (i -(k+1))/\T' (i -(k+1))=([],[]))\/(Nat.testBit (M i) k=false/\(oH X.E q ops.toList o).eval (S' (i -(k+1))) ([],[])=some ((),S' (i -k),T' (i -(k+1)))):=λi o hki ho=>by
  have hil:=(N7.1 ho).1;have:=gl (i -(k+1)) o (M i) (by rw[dW,show k+1+(i -(k+1))=i by omega];simpa using ho) (by rw[b1K M hklt l9,show i -(k+1)+(k+1)=i by omega])
  rwa[show i -(k+1)+1=i -k by omega]at this
 let S2:Nat->Sm:=λi=>if i<=k then S i else λz=>if z∈tr.2 then S k z else S' (i -(k+1)) z;let c2:Nat->Cmd Unit:=λi=>if i<k\/(k<i/\¬Nat.testBit (M i) k=true)then oH X.E q ops.toList (ops.getD i default)else .ret ();have hgd:∀i (h:i<ops.size),ops[i]? =some (ops.getD i default):=λi h=>by simp[Array.getD,h]
 have hs:∀i,i<ops.size->(c2 i).eval (S2 i) ([],[])=some ((),S2 (i+1),T2 i):=λi hil=>by
  rcases Nat.lt_trichotomy i k with h|h|h
  .have e1:c2 i=oH X.E q ops.toList (ops.getD i default):=if_pos (.inl h);have e2:S2 i=S i:=if_pos l9;have e3:S2 (i+1)=S (i+1):=if_pos l9;have e4:T2 i=T i:=if_pos h;rw[e1,e2,e3,e4];exact hc i _ h (by rw[gu];exact hgd i hil)
  .subst h;have e1:c2 i= .ret ():=if_neg l9;have e2:S2 i=S i:=if_pos (E5 _);have e3:S2 (i+1)=S i:=by
    funext z;show(if i+1<=i then S (i+1)else λz=>if z∈tr.2 then S i z else S' (i+1 -(i+1)) z) z=S i z;rw[if_neg l9];by_cases hz:z∈tr.2
    .simp[hz]
    .simp only[hz,if_false,aT,g0];exact yG he z hz
   have e4:T2 i=([],[]):=by show(if i<i then T i else if i=i then([],[])else T' (i -(i+1)))=_;simp
   rw[e1,e2,e3,e4];rfl
  .have e4:T2 i=T' (i -(k+1)):=by show(if i<k then T i else if i=k then([],[])else T' (i -(k+1)))=_;rw[if_neg l9,if_neg l9]
   have e2:S2 i=λz=>if z∈tr.2 then S k z else S' (i -(k+1)) z:=if_neg l9;have e3:S2 (i+1)=λz=>if z∈tr.2 then S k z else S' (i -k) z:=by show(if i+1<=k then S (i+1)else λz=>if z∈tr.2 then S k z else S' (i+1 -(k+1)) z)=_;rw[if_neg l9,show i+1 -(k+1)=i -k by omega]
   rcases gl i _ h (hgd i hil)with⟨b1,b2,b3⟩|⟨b1,b2⟩
   .have e1:c2 i= .ret ():=if_neg (by rw[b1];simp;omega);rw[e1,e2,e3,e4,b2,b3];rfl
   .have e1:c2 i=oH X.E q ops.toList (ops.getD i default):=if_pos (.inr ⟨h,by rw[b1];simp⟩);have ha:=hap (i -(k+1)) l9;obtain⟨U,u1,u2,u3,u4⟩:=rX b2 (S2 i) (λz hz=>by
     rw[e2];have:z∉tr.2:=λh=>(ha.1 z h).1 hz;simp[this])
    rw[e1,u1,e4];have:U=S2 (i+1):=by
     funext z;rw[e3];by_cases hz:z∈(T' (i -(k+1))).2
     .have:z∉tr.2:=λh=>(ha.1 z h).2 hz;simp only[this,if_false];exact u4 z hz x8
     .rw[u3 z hz,e2];simp only;rw[yG b2 z hz]
    rw[this]
 have hc2:∀i o,ops[i]? =some o->i≠k->¬Nat.testBit (M i) k=true->c2 i=oH X.E q ops.toList o:=λi o ho hik hb=>by
  have hil:=(N7.1 ho).1;have:ops.getD i default=o:=by rw[Y2,ho];rfl
  rw[←this];refine if_pos ?_;rcases Nat.lt_or_gt_of_ne hik with h|h
  .exact .inl h
  .exact .inr ⟨h,hb⟩
 have hM:∀i o,ops[i]? =some o->(∀e∈o.after.toList,pR e->e.on<i)/\∀j,Nat.testBit (M i) j=true->∃e∈o.after.toList,pR e/\(j=e.on\/Nat.testBit (M e.on) j=true):=λi o ho=>hM i o (by simpa using ho);have hidr:∀md,(∀(i:Nat) (o:Oper),ops[i]? =some o->∀e∈o.after.toList,Region.binds md e=true->pR e)->Ap md ops:=λmd hpl=>by refine⟨λi=>i,λi o ho e he hb=>?_⟩<;>grind
 have hany:Ap .any ops:=hidr .any λi o ho e he hb=>XH hb;have hboth:Ap .text ops/\Ap .gc ops:=by
  cases hpo:zT ops.toList
  .simp only[hpo,cond_false,D5,←P7]at hpd;exact⟨zn (rk:=λ_=>0) _ hpd.1 x8 x8 x8,zn (rk:=λ_=>0) _ hpd.2 x8 x8 x8⟩
  .have hpl:∀(i:Nat) (o:Oper),ops[i]? =some o->∀e∈o.after.toList,pR e:=λi o ho e he=>Fq hpo o (by grind) e he;exact⟨hidr _ λi o ho e he _=>hpl i o ho e he,hidr _ λi o ho e he _=>hpl i o ho e he⟩
 intro m ok a w id Q R hQ;refine wp_region_draw λt=>?_;have R' :Rel X (CB*q) (CB*q+CB) (SD S2 T2 [] ops.size) m ok a { w with drawn:=w.drawn+1 }:=by rw[a8d,show S2 0=S 0 from if_pos (iF _),h0];exact R.same rfl rfl rfl rfl (λ_=>eQ _)
 have hT2l:∀i,i<k->T2 i=T i:=λi h=>if_pos h;have hT2g:∀j,k<=j->j<ops.size->T2 j=([],[])\/(k<j/\T2 j=T' (j -(k+1))):=λj h1 h2=>by by_cases e:j=k<;>grind
 have main:∀md,Ap md ops->∀t,wpOps X.P ops Q (Region.linearise md ops t) a { w with drawn:=w.drawn+1 }:=λmd hr t=>by
  unfold Region.linearise;refine wpAny_sound ops.size t _ a _ ?_;refine a8g H hi hp hs hc2 (by rw[show S2 k=S k from if_pos (E5 _)];omega) (λi j h1 h2=>(hpair i j h1 h2).imp (λh=>h) λh=>⟨h.1,.inl h.2⟩) (λi h=>by simp_all)
   (λj h1 h2 z hz=>?_) (λi o ho=>(hM i o ho).2) hr (m0:=m) (ok0:=ok) (Q:=Q) (λhz S3 m' ok' a' w' R3 k1 k2 k3=>hQ hz S3 m' ok' a' w' R3 k1 k2 λz hzn=>?_)
   ops.size (D:=[]) (qU:=Array.replicate ops.size false) x8 dD x8 x8 x8 (λi hi=>by simp_all) x8 R' (λ_ _ h=>h) (λ_ _ h=>h)
  .rcases hT2g j h1 h2 with e|⟨e1,e⟩<;>rw[e]
   .simp
   .exact(hap (j -(k+1)) l9).2 z hz
  .have hz1:∀i,i<ops.size -(k+1)->z∉(T' i).2:=λi hi=>O_ (λh=>hzn (U8 _ h)) (T' i) (by grind);have hz2:∀i,i<k->z∉(T i).2:=λi hi=>O_ (λh=>hzn (gy _ h)) (T i) (by grind);rw[k3 z (λi hi=>by
    by_cases h:i<k
    .simp_all
    .rcases hT2g i l9 hi with e|⟨e1,e⟩<;>rw[e]
     .simp
     grind)]
   have hS' :∀n,n<=ops.size -(k+1)->S' n z=aI s1 z:=by
    intro n;induction n with
    |zero=>simp_all|succ n ih=>
     intro hn;have:=gl (n+(k+1)) _ l9 (hgd (n+(k+1)) l9);rw[show n+(k+1) -k=n+1 by omega,show n+(k+1) -(k+1)=n by omega]at this;rcases this with⟨_,b2,_⟩|⟨_,b2⟩
     .grind
     .rw[yG b2 z (hz1 n l9)];grind
   rw[←g1];by_cases hzt:z∈tr.2<;>grind
 unfold Region.schedule;split
 .simp_all
 .split<;>simp_all
theorem f_(H:FxOk X){R:Type}{wr:Rgs}{K:St->Rgs->Option R}{PP:Int->St->c5y->Option R}{r:R}{draw:Bool}(h:d_ X.E q ops draw s wr K PP=some r):
  (∃c s' ws,PP c s' ws=some r/\∀{m:Mp} {ok:Nat->Ty->Prop} {a:Act} {w:World} {id:Nat} {Q:Exit->Act->World->Prop},Rel X (CB*q) (CB*q+CB) (aI s) m ok a w->
   (c≠0->∀S3 m' ok' a' w',Rel X (CB*q) (CB*q+CB) S3 m' ok' a' w' ->(∀k l,m k=some l->m' k=some l)->(∀b t,ok b t->ok' b t)->(∀z,z∉ws->S3 z=aI s' z)->Q (.panic (xn X.P c)) a' w')->(Code.region id ops draw).wp X.P Q a w)\/
  ∃s' w',K s' w' =some r/\(∃t:Trs,w' =Ce t wr/\∀k,(∀x∈t,k∉x.2)->aI s' k=aI s k)/\
   ∀{m:Mp} {ok:Nat->Ty->Prop} {a:Act} {w:World} {id:Nat} {Q:Exit->Act->World->Prop},Rel X (CB*q) (CB*q+CB) (aI s) m ok a w->
    (∀m' ok' a' w',Rel X (CB*q) (CB*q+CB) (aI s') m' ok' a' w' ->(∀k l,m k=some l->m' k=some l)->(∀b t,ok b t->ok' b t)->Q .normal a' w')->(Code.region id ops draw).wp X.P Q a w:=by
 unfold d_ at h;have pick:∀(dr:Bool) (s' :St) (T:Nat->Tr),(bif draw then(bif dr then K s' (Ce ((List.range ops.size).map T).reverse wr)else none)else K s' (Ce ((List.range ops.size).map T).reverse wr))=some r->
   K s' (Ce ((List.range ops.size).map T).reverse wr)=some r/\(draw=true->dr=true):=λdr s' T h=>by
  grind
 split at h
 .rcases JX _ h with⟨s',S,T,h0,h1,hc,hk⟩|⟨k,o,f,c,s',tr,S,T,g1,g2,h0,hc,he,hk⟩
  case inr=>
   left;have hi:ops[k]? =some o:=by simp_all
   rw[E9]at hk;cases draw
   .simp only[cond_false]at hk;exact⟨c,s',[],hk,λR hQ=>a3F H hi g2 h0 hc he R λhz m' ok' a' w' R' k1 k2=>hQ hz _ m' ok' a' w' R' k1 k2 (λz _=>rfl)⟩
   .simp only[cond_true]at hk;cases hpm:Tm ops.toList 0 []with
    |none=>simp_all|some ms=>
    simp only[hpm,List.length_reverse,jd,lG]at hk;obtain⟨s2,S',T',l0,l1,l2,hk⟩:=Il _ _ hk;simp only[mM,P7,E9]at l1 hk;cases hpd:TN ops.toList ms tr ((List.range k).map T).reverse ((List.range (ops.size -(k+1))).map T').reverse
    .simp_all
    simp only[hpd,cond_true]at hk;exact⟨c,s2,_,hk,λR hQ=>a1t H hi g2 h0 hc he hpm l0 l1 l9 hpd R hQ⟩
  right;simp only[P7,E9]at h1 hk;obtain⟨hk,hd⟩:=pick _ s' T hk;obtain⟨hfr,hwp⟩:=Sl H h0 h1 hc (draw:=draw) (ex:=λ_ _=>False) (λ_ _ _ _ h=>h.elim) λhdr=>by
   have hd:=hd hdr;unfold a8B at hd;cases hp:Tm ops.toList 0 []with
   |none=>simp_all|some ms=>
   simp only[hp]at hd;obtain⟨M,hms,_,_⟩:=Gq (M:=λ_=>0) ops.toList (n:=0) hp;simp only[bC,P7]at hms;subst hms;cases hod:NE ((List.range ops.size).map M).reverse ((List.range ops.size).map T).reverse
   .simp_all
   simp only[hod,cond_true]at hd;exact⟨M,rfl,λi j hi hj=>(JK _ hod i j hi hj).imp id λh=>⟨h.1,.inl h.2⟩,hd⟩
  grind
 .right;obtain⟨s',S,T,h0,h1,hc,hk,_,h5⟩:=PL _ h;simp only[P7,E9]at h1 hk;obtain⟨hk,hd⟩:=pick _ s' T hk;obtain⟨hfr,hwp⟩:=Sl H h0 h1 hc (draw:=draw) (ex:=λi j=>Zc ops.toList j=true/\a8G X.E ops.toList i=true) (λi j hij hj ⟨e1,e2⟩=>by
   have hi:ops[i]? =some (ops[i]'l9):=X4 _;have hj' :ops[j]? =some (ops[j]'l9):=X4 _;unfold Zc at e1;unfold a8G at e2;rw[gu,hj']at e1;rw[gu,hi]at e2;obtain⟨d,hd,d',S',g1,g2,g3,g4⟩:=h5 i j _ _ hij x8 x8 e2 e1;rw[hd]at g1;cases g1;have hgd:ops.getD i default=ops[i]'l9:=by rw[Y2,hi];rfl
   simp_all) λhdr=>by
   have hd:=hd hdr;unfold a4S at hd;cases hp:Tm ops.toList 0 []with
   |none=>simp_all|some ms=>
   simp only[hp]at hd;obtain⟨M,hms,_,_⟩:=Gq (M:=λ_=>0) ops.toList (n:=0) hp;simp only[bC,P7]at hms;subst hms;cases hod:OW X.E ops.toList ((List.range ops.size).map M).reverse ((List.range ops.size).map T).reverse
   .simp_all
   simp only[hod,cond_true]at hd;exact⟨M,rfl,OX _ hod,hd⟩
  grind
end
end Go.GP
namespace Go.GP
def Wr(w:Rgs)(k:Nat):Prop:=∃p∈w,p.1<=k/\k<p.2
theorem a2p{k:Nat} :¬Wr [] k:=λ⟨p,h,_⟩=>by grind
theorem KF{p:Nat×Nat}{w:Rgs}{k:Nat} :Wr (p::w) k↔(p.1<=k/\k<p.2)\/Wr w k:=by
 constructor
 .rintro⟨x,h,h1⟩;rcases D7.1 h with rfl|h
  .omega
  .exact .inr ⟨x,h,h1⟩
 .rintro(h|⟨x,h,h1⟩)
  .exact⟨p,x8,h⟩
  .exact⟨x,by grind,h1⟩
theorem IZ{w:Rgs}{k:Nat} :∀{ks:c5y},Wr (OG ks w) k↔k∈ks\/Wr w k
 |[]=>by simp[OG]|x::ks=>by
  unfold OG;rw[KF,IZ];simp;constructor
  .rintro(⟨h1,h2⟩|h|h)
   .exact .inl (.inl l9)
   .exact .inl (.inr h)
   .exact .inr h
  .rintro((rfl|h)|h)
   .simp
   .exact .inr (.inl h)
   .exact .inr (.inr h)
theorem YU{b:Rgs}{k:Nat} :∀{a:Rgs},Wr (Un a b) k↔Wr a k\/Wr b k
 |[]=>by simp[Un,a2p]|x::a=>by unfold Un;rw[KF,KF,YU,or_assoc]
theorem PZ{w:Rgs}{k:Nat} :∀{t:Trs},Wr (Ce t w) k↔(∃x∈t,k∈x.2)\/Wr w k
 |[]=>by simp[Ce]|x::t=>by unfold Ce;rw[IZ,PZ,←or_assoc];simp
theorem Ye{lo hi:Nat} :∀{rs:Rgs},a6S lo hi rs=true->∃p∈rs,p.1<=lo/\hi<=p.2
 |[],h=>by grind [a6S]|(a,b)::r,h=>by
  unfold a6S at h;cases hb:(Nat.ble a lo&&Nat.ble hi b)
  .simp[hb,cond_false]at h;obtain⟨p,h1,h2⟩:=Ye h;exact⟨p,by simp[h1],h2⟩
  .simp only[D5]at hb;exact⟨(a,b),x8,S9 hb.1,S9 hb.2⟩
theorem Rn{lim:Nat}{rs:Rgs} :∀{w:Rgs},UF lim rs w=true->∀k,Wr w k->lim<=k\/Wr rs k
 |[],_,k,h=>absurd h a2p|(a,b)::w,h,k,hk=>by
  unfold UF at h;cases hc:(Nat.ble lim a || a6S a b rs)
  .simp_all
  .simp[hc,cond_true]at h;rcases KF.1 hk with⟨h1,h2⟩|hk
   .simp only[rE]at hc;rcases hc with hc|hc
    .have:=S9 hc;omega
    .obtain⟨p,h3,h4,h5⟩:=Ye hc;exact .inr ⟨p,h3,l9,l9⟩
   .exact Rn h k hk
theorem QB{s:St}{k:Nat} :∀{rs:Rgs},¬Wr rs k->aI (DZ rs s) k=aI s k
 |[],_=>rfl|(a,b)::r,h=>by
  rw[KF]at h;show(bif Nat.ble a k&&Nat.blt k b then V.undef else aI (DZ r s) k)=aI s k;cases hb:(Nat.ble a k&&Nat.blt k b)
  .simp_all [QB]
  .simp at hb;simp_all [S9,EY]
theorem a0X{s:St}{k:Nat} :∀{rs:Rgs},Wr rs k->aI (DZ rs s) k= .undef
 |[],h=>absurd h a2p|(a,b)::r,h=>by
  show(bif Nat.ble a k&&Nat.blt k b then V.undef else aI (DZ r s) k)=V.undef;cases hb:(Nat.ble a k&&Nat.blt k b)
  .rcases KF.1 h with⟨h1,h2⟩|h
   .have e1:=lJ h1;have e2:Nat.blt k b=true:=by rw[bK];exact h2
    simp[e1,e2]at hb
   .exact a0X h
  .simp
variable {h0:Array Obj}{h1:Array Obj}{ok0:Nat->Ty->Prop}{ok1:Nat->Ty->Prop}{m:Mp}{m1:Mp}{m2:Mp}
theorem We(hm:∀k l,m k=some l->m2 k=m1 k):∀{c:V} {v0 v1:Value} (a:rP ⟨h0,ok0,m⟩ c v0) (b:rP ⟨h1,ok1,m1⟩ c v1),rP ⟨h1,ok1,m2⟩ c v1:=by
 intro c;induction c using V.rec (motive_2:=λ_=>True)<;>try trivial
 all_goals grind [rP]
theorem Pv{h0 h1:Array Obj}{ok0 ok1:Nat->Ty->Prop}{m m1 m2:Mp}(hm:∀k l,m k=some l->m2 k=m1 k):∀{cs:List V} {v0 v1:c5x},fU ⟨h0,ok0,m⟩ cs v0->fU ⟨h1,ok1,m1⟩ cs v1->fU ⟨h1,ok1,m2⟩ cs v1
 |[],_,_,_,b=>b|_::_,_,_,⟨_,_,_,a1,_,a3⟩,⟨v,r,e,b1,b2,b3⟩=>⟨v,r,e,We hm a1 b1,b2,Pv hm a3 b3⟩
variable {c:V}
theorem a1u(hm:∀k l,m k=some l->m2 k=m1 k){v0 v1:Value}(a:VZ ⟨h0,ok0,m⟩ c v0)(b:VZ ⟨h1,ok1,m1⟩ c v1):VZ ⟨h1,ok1,m2⟩ c v1:=by
 cases c<;>simp[VZ]at a b ⊢<;>try exact We hm a b
 grind [Pv]
theorem a1x{h0 h1:Array Obj}{ok0 ok1:Nat->Ty->Prop}{m m1 m2:Mp}(hm:∀k l,m k=some l->m2 k=m1 k):∀{cs:List V} {v0 v1:c5x},h_ ⟨h0,ok0,m⟩ cs v0->h_ ⟨h1,ok1,m1⟩ cs v1->h_ ⟨h1,ok1,m2⟩ cs v1
 |[],_,_,_,b=>b|_::_,_,_,⟨_,_,_,a1,a3⟩,⟨v,r,e,b1,b3⟩=>⟨v,r,e,a1u hm a1 b1,a1x hm a3 b3⟩
theorem b0p(hm:∀k l,m k=some l->m2 k=m1 k){v0 v1:Value}(a:kU ⟨h0,ok0,m⟩ c v0)(b:kU ⟨h1,ok1,m1⟩ c v1):kU ⟨h1,ok1,m2⟩ c v1:=by
 cases c<;>simp[kU]at a b ⊢<;>try exact a1u hm a b
 grind [a1x]
theorem a3a(hm:∀k l,m k=some l->m2 k=m1 k){sz:Nat}{l0 l1:Loc}{hole:Option (Nat×Nat×Option Nat)}(a:Vf ⟨h0,ok0,m⟩ sz l0 hole)(b:Vf ⟨h1,ok1,m1⟩ sz l1 hole):Vf ⟨h1,ok1,m2⟩ sz l1 hole:=by
 obtain _|⟨i,o,_|n⟩:=hole
 .trivial
 .trivial
 .obtain⟨_,_,_,_,_,l',_,_,e,_⟩:=a;obtain⟨b1,b2,b3,b4,b5,l2,c1,c2,c3,c4⟩:=b;exact⟨b1,b2,b3,b4,b5,l2,c1,c2,by simp_all,c4⟩
theorem b0n(hm:∀k l,m k=some l->m2 k=m1 k)(hk:m2.kid=m1.kid)(km:∀k l,m k=some l->m1 k=some l){n:Nat}(a:AY ⟨h0,ok0,m⟩ n c)(b:∀l,m n=some l->AY ⟨h1,ok1,m1⟩ n c):AY ⟨h1,ok1,m2⟩ n c:=by
 cases c<;>simp only[AY]at a b ⊢
 case bcells cs=>obtain⟨_,_,_,e0,_,a⟩:=a;obtain⟨blk,arr,T,e,hh,b⟩:=b _ e0;exact⟨blk,arr,T,by rw[hm _ _ e0];exact e,hh,Pv hm a b⟩
 case barr t xs=>obtain⟨_,e0,_⟩:=a;obtain⟨l,e,b⟩:=b _ e0;exact⟨l,by rw[hm _ _ e0];exact e,oL (λ_ _ h=>h) (λ_ _ _=>rfl) (λ_ _=>rfl) b⟩
 case bfrz t xs=>obtain⟨_,e0,_⟩:=a;obtain⟨l,e,b,hb⟩:=b _ e0;exact⟨l,by rw[hm _ _ e0];exact e,oL (λ_ _ h=>h) (λ_ _ _=>rfl) (λ_ _=>rfl) b,hb⟩
 case barrs md xs hole=>obtain⟨he,_,_,e0,⟨_,ha⟩,_⟩:=a;obtain⟨_,l,Os,e,⟨b,hl⟩,hb⟩:=b _ e0;exact⟨he,l,Os,by rw[hm _ _ e0];exact e,⟨b,a3a hm ha hl⟩,by rw[hk];exact hb⟩
 case barrp md xs k o=>obtain⟨he,_,_,_,e0,_⟩:=a;obtain⟨_,h0,l,Os,e,b,hb⟩:=b _ e0;exact⟨he,h0,l,Os,by rw[hm _ _ e0];exact e,b,by rw[hk];exact hb⟩
 case bfc t x=>obtain⟨_,_,e0,_⟩:=a;obtain⟨blk,es,e,b⟩:=b _ e0;exact⟨blk,es,by rw[hm _ _ e0];exact e,b⟩
 case gone t=>obtain⟨_,e0,_⟩:=a;obtain⟨l,e,b⟩:=b _ e0;exact⟨l,by rw[hm _ _ e0];exact e,b⟩
 case biter l p=>obtain⟨_,_,_,e0,_⟩:=a;obtain⟨blk,s,q,e,hh,b⟩:=b _ e0;exact⟨blk,s,q,by rw[hm _ _ e0];exact e,hh,b⟩
 case bsb tb cs c=>obtain⟨_,_,_,_,_,e0,_,_,a0,_,a⟩:=a;obtain⟨blk,arr,es,a1,v1,e,hh,he,b0,hs,b⟩:=b _ e0;exact⟨blk,arr,es,a1,v1,by rw[hm _ _ e0];exact e,hh,he,Pv hm a0 b0,hs,We hm a b⟩
 case brow te xs=>obtain⟨_,e0,_⟩:=a;obtain⟨l,e,b⟩:=b _ e0;exact⟨l,by rw[hm _ _ e0];exact e,b⟩
 case blen ln sz=>obtain⟨k,l,e,e0,h⟩:=a;exact⟨k,l,e,by rw[hm _ _ e0];exact km _ _ e0,h⟩
def cut(m:Mp)(N:Nat):Mp:=⟨λn=>if n<N then m n else none,m.kid⟩
section
variable {X:Fx} {cl ch N:Nat} {S S1 S2:Sm} {m m1:Mp} {ok ok1:Nat->Ty->Prop} {a a1:Act} {w w1:World}
theorem Rel.climb(R:Rel X cl ch S m ok a w){cl' :Nat}(h:cl<=cl'):Rel X cl' ch S m ok a w:={ R with fresh:=λn h1 h2=>R.fresh n l9 h2 }
theorem Rel.rebase{X0:Fx}(R0:Rel X0 cl N S m ok a w){cl1 ch1:Nat}(R1:Rel X cl1 ch1 S1 m1 ok1 a1 w1)(km:∀k l,m k=some l->m1 k=some l)
  (hS:∀k,S2 k= .undef\/(S2 k=S k/\(k<U4+N->S1 k=S k))):
  Rel X N N S2 (cut m1 N) ok1 a1 w1/\(∀T,Tk X S1 m1 ok1 w1 T->Tk X S2 (cut m1 N) ok1 w1 T)/\(∀k l,m k=some l->cut m1 N k=some l):=by
 have hdom:∀k l,m k=some l->k<N:=λk l h=>by
  rcases jP k N with h1|h1
  .exact h1
  .rw[R0.strict k h1]at h;cases h
 have hagree:∀k l,m k=some l->cut m1 N k=m1 k:=λk l h=>by simp[cut,hdom k l h]
 have hown:∀n,N8 (cut m1 N) n (S2 (U4+n))=N8 m1 n (S1 (U4+n))\/N8 (cut m1 N) n (S2 (U4+n))=[]:=λn=>by
  rcases hS (U4+n)with h1|⟨h1,h2⟩
  .right;rw[h1];rfl
  .rcases jP n N with hn|hn
   .left;rw[h2 l9,←h1];exact Hy (by simp[cut,hn]) rfl
   .right;have hc:m n=none:=R0.strict n hn;have hb:=R0.box n;rw[h1];cases hv:S (U4+n)<;>rw[hv]at hb<;>try rfl
    case bcells=>obtain⟨_,_,_,e,_⟩:=hb;simp only at e;rw[hc]at e;cases e
    case barr=>obtain⟨_,e,_⟩:=hb;simp only at e;rw[hc]at e;cases e
    case barrs=>obtain⟨_,_,_,e,_⟩:=hb;simp only at e;rw[hc]at e;cases e
    case barrp=>obtain⟨_,_,_,_,e,_⟩:=hb;simp only at e;rw[hc]at e;cases e
    case biter=>obtain⟨_,_,_,e,_⟩:=hb;simp only at e;rw[hc]at e;cases e
    case bsb=>obtain⟨_,_,_,_,_,e,_⟩:=hb;simp only at e;rw[hc]at e;cases e
    case brow=>obtain⟨_,e,_⟩:=hb;simp only at e;rw[hc]at e;cases e
 have hownM:∀n b,b∈N8 (cut m1 N) n (S2 (U4+n))->b∈N8 m1 n (S1 (U4+n)):=λn b h=>by
  rcases hown n with e|e
  .rw[←e];exact h
  .rw[e]at h;cases h
 refine⟨{ kept:=R1.kept,size:=R1.size,nodef:=R1.nodef,dfs:=R1.dfs,okLt:=R1.okLt,okIn:=R1.okIn,okOut:=R1.okOut,frame:=R1.frame,gl:=R1.gl,slot:=λn hn=>?_,box:=λn=>?_,inj:=λn n' b h h' =>R1.inj n n' b (hownM n b h) (hownM n' b h'),nd:=λn=>(hown n).elim (λe=>by rw[e];exact R1.nd n) (λe=>by rw[e];exact dD),sep:=λn b h=>R1.sep n b (hownM n b h),fresh:=λn h1 _=>?_,strict:=λn h=>?_ },λT hT=>⟨hT.nodup,λb hb=>?_⟩,λk l h=>by rw[hagree k l h];exact km k l h⟩
 .rcases hS n with h1|⟨h1,h2⟩
  .rw[h1];trivial
  .rw[h1];refine b0p hagree (R0.slot n hn) ?_;rw[←h2 l9];exact R1.slot n hn
 .rcases hS (U4+n)with h1|⟨h1,h2⟩
  .rw[h1];trivial
  .rw[h1];refine b0n hagree rfl km (R0.box n) λl hl=>?_;rw[←h2 (by have:=hdom n l hl;omega)];exact R1.box n
 .simp[cut];omega
 .simp[cut];omega
 .obtain⟨f1,f2,f3,f4⟩:=hT.free b hb;exact⟨f1,f2,f3,λn e=>f4 n (hownM n b e)⟩
theorem jS{R:Type}{q:Nat}{sg:Sig}{rs:Rgs}{s:St}{wr:Rgs}{K:qJ sg->Option R}{r:R}(h:OH q sg rs s wr K=some r):
  ∃x,K x=some r/\∀{X0:Fx} {s0:St} {cl cl1 ch1:Nat} {m m1:Mp} {ok ok1:Nat->Ty->Prop} {a a1:Act} {w w1:World},Rel X0 cl (CB*q) (aI s0) m ok a w->Rel X cl1 ch1 (aI s) m1 ok1 a1 w1->(∀k l,m k=some l->m1 k=some l)->
   (∀k,¬Wr wr k->aI s k=aI s0 k)->∃m2 ok2 O,Rel X (CB*q) (CB*q) (aI (DZ rs s0)) m2 ok2 a1 w1/\Tk X (aI (DZ rs s0)) m2 ok2 w1 O/\
    a2o w1.heap ok2 sg x a1.tmps O/\(∀k l,m k=some l->m2 k=some l):=by
 obtain⟨x,s1,tr,he,hk⟩:=kV h;cases hc:UF (U4+CB*q) rs (OG tr.2 wr)
 .simp_all
 simp[hc,cond_true]at hk;refine⟨x,hk,λ{X0 s0 cl cl1 ch1 m m1 ok ok1 a a1 w w1} R0 R1 km hun=>?_⟩;have key:=qY (a2Q R1 (Q:=λy S' =>∃m' ok' O,Rel X cl1 ch1 S' m' ok' a1 w1/\Tk X S' m' ok' w1 O/\(∀k l,m1 k=some l->m' k=some l)/\a2o w1.heap ok' sg y a1.tmps O)
  λS' m' ok' y O R' T' km' _ hr=>⟨m',ok',O,R',T',km',hr⟩) he
 obtain⟨m',ok',O,R',T',km',hr⟩:=key;have hcov:=Rn hc;obtain⟨R2,hT2,hm2⟩:=R0.rebase (S2:=aI (DZ rs s0)) R' (λk l h=>km' k l (km k l h)) (λk=>by
  by_cases hw:Wr rs k
  .simp_all [a0X]
  .refine .inr ⟨QB hw,λhlt=>?_⟩;have hnw:¬Wr (OG tr.2 wr) k:=λh=>by
    grind
   rw[IZ,not_or]at hnw;rw[yG he k hnw.1];simp_all)
 grind
theorem ru{R:Type}{q:Nat}{sg:Sig}{rs:Rgs}{s:St}{x:qJ sg}{K:St->Rgs->Option R}{r:R}(h:enter q sg rs s x K=some r):
  ∃s' w',K s' w' =some r/\(∀k,Wr rs k->Wr w' k)/\(∀k,¬Wr w' k->aI s' k=aI s k)/\
   ∀{N:Nat} {m:Mp} {ok:Nat->Ty->Prop} {a:Act} {w:World} {O:c5y},N<=CB*q->Rel X N N (aI (DZ rs s)) m ok a w->Tk X (aI (DZ rs s)) m ok w O->
    a2o w.heap ok sg x a.tmps O->
    ∃m',Rel X (CB*(q+1)) (CB*(q+1)) (aI s') m' ok a w/\(∀k l,m k=some l->m' k=some l):=by
 obtain⟨u,s',tr,he,hk⟩:=kV h;refine⟨s',_,hk,λk hk=>IZ.2 (.inr hk),λk hk=>?_,λ{N m ok a w O} hN R1 T1 hr=>?_⟩
 .rw[IZ,not_or]at hk;rw[yG he k hk.1,QB hk.2]
 .have key:=qY (a2M (Q:=λ_ S' =>∃m',Rel X N (max N (CB*q+CB)) S' m' ok a w/\(∀k l,m k=some l->m' k=some l)) R1 hN T1 hr
   λS' m' R' k=>⟨m',R',k⟩) he
  obtain⟨m',R',k⟩:=key;have e:CB*(q+1)=CB*q+CB:=by grind
  exact⟨m',(R'.climb l9).chmono l9,k⟩
end
end Go.GP
