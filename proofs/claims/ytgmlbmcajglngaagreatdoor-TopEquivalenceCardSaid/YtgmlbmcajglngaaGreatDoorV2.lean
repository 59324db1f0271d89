import Derived.Test.YtgmlbmcajglngaaGreatDoorV1
import Derived.ScopeJumps
import Derived.Shelf.SlSortCmp.NoneTotal
set_option linter.all false
namespace Go.GP
theorem a1I{ops0 ops1 ops2:List Oper}{t:Nat}{x:Operand}{it nx mo pr:Nat}(h:a0H ops0 ops1 ops2=some (t,x,it,nx,mo,pr)):
  (∃o,ops0[ops0.length -1]? =some o/\o.guard=none/\o.dst=some it/\o.op= .range t x)/\
  (∃o1 o2,ops1=[o1,o2]/\o1.guard=none/\o1.dst=some nx/\o1.op= .next (.tmp it) false/\o2.guard=none/\o2.dst=some mo/\o2.op= .extract (.tmp nx) 0)/\
  ∃o3 r3,ops2=o3::r3/\o3.guard=none/\o3.dst=some pr/\o3.op= .entry (.tmp it):=by
 unfold a0H at h;split at h
 case h_2=>grind
 split at h
 case h_2=>grind
 split at h<;>grind [Nat.eq_of_beq_eq_true]
variable {α:Type}
def MR(xs:List α)(is:d4F):List α:=is.filterMap λi=>xs[i]?
theorem XY{α:Type} :∀(xs:List α),MR xs (List.range xs.length)=xs
 |[]=>rfl|a::r=>by have ih:=XY r;unfold MR at ih ⊢;rw[H7,jr];simpa[Function.comp_def]using ih
theorem b5m{es:Array MapEntry}(h:(es.toList.map (·.born)).Nodup){i j:Nat}{a b:MapEntry}(hi:es[i]? =some a)(hj:es[j]? =some b)(e:a.born=b.born):i=j:=by
 have h1:(es.toList.map (·.born))[i]? =some a.born:=by grind
 have h2:(es.toList.map (·.born))[j]? =some b.born:=by grind
 grind [List.getElem?_inj]
theorem NW(xs:List α)(a b:d4F):MR xs (a++b)=MR xs a++MR xs b:=List.filterMap_append
theorem a0q{xs:List α}{is:d4F}(h:is.Perm (List.range xs.length)):(MR xs is).Perm xs:=by
 grind [XY,MR]
variable {a:Act}{v:Value}
theorem Cm{d:Nat}(h:d<a.tmps.size):(a.put (some d) v).tmps.getD d Go.undef=v:=Td h v _
theorem AA{d n:Nat}(h:n≠d):(a.put (some d) v).tmps.getD n Go.undef=a.tmps.getD n Go.undef:=JA h v _
theorem Qu{d:Option Nat} :(a.put d v).tmps.size=a.tmps.size:=by cases d<;>simp[Act.put]
variable {ok:Nat->Ty->Prop}{w:World}
section
variable {X:Fx} {ρ:Type}
theorem b2S{h:Array Obj}{sg:Sig}{x:jY sg}{t t' :Array Value}{O:d4F}(ha:sg.als=[])(ht:∀n∈sg.ms.map (·.1),t'.getD n Go.undef=t.getD n Go.undef)(H:TJ h ok sg x t O):TJ h ok sg x t' O:=by refine⟨?_,by simp_all⟩;have:=dU λn hn=>ht n hn;rw[this];exact H.1
set_option maxHeartbeats 1600000 in
theorem a9X(H:FxOk X){D:Den ρ}{body:Code}{nn q:Nat}(hD:∀{Y:Fx},Y.P=X.P->Y.E=X.E->FxOk Y->DOk Y nom (λ_ _ _ _=>True) D body nn)
  {A:RngA} {ops1 ops2:Array Oper} {nb out it nx mo pr i1 i2:Nat} (hck:a0G X.E A it nx mo pr=true)
  {o1 o2 o3:Oper} {r3:List Oper} (hops1:ops1.toList=[o1,o2]) (g1:o1.guard=none) (d1:o1.dst=some nx) (p1:o1.op= .next (.tmp it) false) (g2:o2.guard=none) (d2:o2.dst=some mo) (p2:o2.op= .extract (.tmp nx) 0)
  (hops2:ops2.toList=o3::r3) (g3:o3.guard=none) (d3:o3.dst=some pr) (p3:o3.op= .entry (.tmp it))
  {M:MT} (hkf:M.k.flat=true) (hvf:M.v.flat=true) {xs:List (M.k.den×M.v.den)} {s0:St} {x0:jY A.hd}
  {r:Nat} (hrX:X.w0.heap.size<=r) {mv:Option Nat} {es:Array MapEntry} {ck:Nat} (hso:xF es ck xs.length) (hmn:mv=none->es=#[])
  (hent:∀(i:Nat) (x:M.k.den×M.v.den),xs[i]? =some x->∃e:MapEntry,es[i]? =some e/\gok M.ka e.key/\gok M.va e.val/\oq #[] (λ_ _=>False) M.k x.1 (uo M.ka e.key)/\oq #[] (λ_ _=>False) M.v x.2 (uo M.va e.val))
  (hall:∀ys:List (M.k.den×M.v.den),ys.Perm xs->∃x1,Ag (λe x=>a9U X.E D q A ops2.toList nb nx mo pr M s0 e x) ys x0=some x1)
  {X0:Fx} {cl0:Nat} {m0:Mp} {ok0:Nat->Ty->Prop} {a0:Act} {w0:World} (R0:Rel X0 cl0 (CB*(q+1)) (Y1 s0) m0 ok0 a0 w0) {bi:Nat} (hit:Y1 s0 it= .ptr bi 0) (hbi:m0 bi=some (.st r)) {own:Bool}
  {Q:Exit->Act->World->Prop}
  (hQ:∀(wk:World) (Ok:d4F) (okk:Nat->Ty->Prop) (tk:Array Value) (seen:Array Nat) (ys:List (M.k.den×M.v.den)) (x1:jY A.hd) (m:Mp) (ok:Nat->Ty->Prop) (O:d4F) (a:Act) (w:World),ys.Perm xs->
   Ag (λe x=>a9U X.E D q A ops2.toList nb nx mo pr M s0 e x) ys x0=some x1->Sub X (X.on wk Ok okk tk)->ItI (X.on wk Ok okk tk) r mv es ck seen own->
   Rel (X.on wk Ok okk tk) (CB*(q+1)) (CB*(q+1)) (Y1 (uh A.rs s0)) m ok a w->Tk (X.on wk Ok okk tk) (Y1 (uh A.rs s0)) m ok w O->TJ w.heap ok A.hd x1 a.tmps O->(∀k l,m0 k=some l->m k=some l)->Q (.exit out) a w):
  ∀(f:Nat) (is:d4F) {wk:World} {Ok:d4F} {okk:Nat->Ty->Prop} {tk:Array Value} {seen:Array Nat} {x:jY A.hd} {m:Mp} {ok:Nat->Ty->Prop} {O:d4F} {a:Act} {w:World},
   f+is.length=xs.length+1->is.Nodup->(∀i∈is,i<xs.length)->(∀i e,es[i]? =some e->(seen.contains e.born=true↔i∈is))->
   Ag (λe x=>a9U X.E D q A ops2.toList nb nx mo pr M s0 e x) (MR xs is) x0=some x->Sub X (X.on wk Ok okk tk)->ItI (X.on wk Ok okk tk) r mv es ck seen own->
   Rel (X.on wk Ok okk tk) (CB*(q+1)) (CB*(q+1)) (Y1 (uh A.rs s0)) m ok a w->Tk (X.on wk Ok okk tk) (Y1 (uh A.rs s0)) m ok w O->TJ w.heap ok A.hd x a.tmps O->(∀k l,m0 k=some l->m k=some l)->
   Code.rounds X.P (.seq (.region i1 ops1 false) (.seq (.cond (.tmp mo) .skip (.exit out)) (.block nb (.seq (.region i2 ops2 false) body)))) Q f a w:=by
 unfold a0G at hck;simp only[A7,aQ]at hck;obtain⟨⟨⟨⟨⟨⟨⟨⟨⟨⟨⟨⟨⟨⟨c1,c2⟩,c3⟩,c4⟩,c5⟩,c6⟩,c7⟩,c8⟩,c9⟩,c10⟩,c11⟩,c12⟩,c13⟩,c14⟩,c15⟩:=hck;have nxB:nx<Z4:=Y9 (jX c2).1 H.ntB;have moB:mo<Z4:=Y9 (jX c3).1 H.ntB;have prB:pr<Z4:=Y9 (jX c4).1 H.ntB;have itB:it<Z4:=Y9 (jX c1).1 H.ntB;have hals:A.hd.als=[]:=by
  revert c13;cases A.hd.als with
  |nil=>intro _;rfl|cons _ _=>intro h;cases h
 have nei:∀{x y:Nat},Nat.beq x y=false->x≠y:=λ{x y} h e=>by subst e;simp at h
 have e1:=nei c9;have e2:=nei c10;have e3:=nei c11;have e4:=nei c12;intro f;induction f with
 |zero=>intro is _ _ _ _ _ _ _ _ _ _ _ hf hnd hlt;have:=Ve xs.length hnd hlt;omega|succ f ih=>
  intro is wk Ok okk tk seen x m ok O a w hf hnd hlt hseen hw Sb I R T hsig km;rw[rounds_succ];have HY:FxOk (X.on wk Ok okk tk):=⟨H.nt,H.tt,H.fs,H.eqs,H.ms,H.fn,H.pl,H.df⟩;have hr0:w.heap[r]? =some (ML mv ck seen):=(R.frame.block r I.rl I.rO).trans I.ri;have hb0:∀blk,mv=some blk->w.heap[blk]? =some (.map es ck):=λblk hb=>by obtain⟨b1,b2,_,b3,_⟩:=I.bl blk hb;exact(R.frame.block blk b1 b2).trans b3
  have hitv:a.tmps.getD it Go.undef= .pointer (some ⟨r,0,none⟩):=by have:=R.slot it itB;rw[Eb (Uc c5),hit]at this;obtain⟨blk,h1,h2⟩:=this;simp only at h1;rw[km bi _ hbi]at h1;cases h1;exact h2
  have hnxs:nx<a.tmps.size:=by rw[R.size];exact(jX c2).1
  have hmos:mo<a.tmps.size:=by rw[R.size];exact(jX c3).1
  have hprs:pr<a.tmps.size:=by rw[R.size];exact(jX c4).1
  refine wp_seq (wp_region ?_);have hsz1:ops1.size=2:=by rw[←O0,hops1];rfl
  have ho1:ops1[0]? =some o1:=by rw[←J7,hops1];rfl
  have ho2:ops1[1]? =some o2:=by rw[←J7,hops1];rfl
  rw[hsz1];show wpOps X.P ops1 _ [0,1] a w;rw[wpOps_cons];refine Ji ho1 g1 ?_;have hst:∀e∈es.toList,e.born<ck:=hso.2.1;rcases b3K (P:=X.P) hr0 hb0 hmn hst o1.type with⟨hl,hrun⟩|⟨blk,hmv,e,he,w1,hw1,hrun⟩
  ·
   have hx:(execOp a.eval o1).run X.P w= .ok (.value (.tuple #[.bool false])) w:=by simp only[execOp,p1,Act.eval,hitv,H5,hrun];rfl
   unfold Oper.wp;rw[hx,jh,d1,wpOps_cons];refine Ji ho2 g2 ?_;have hx2:(execOp (a.put (some nx) (.tuple #[.bool false])).eval o2).run X.P w= .ok (.value (.bool false)) w:=by simp only[execOp,p2,Act.eval,Cm hnxs];simp[Instr.extract]
   unfold Oper.wp;rw[hx2,jh,d2];show wpOps X.P ops1 _ [] _ _;unfold wpOps;generalize ha' :(a.put (some nx) (Value.tuple #[Value.bool false])).put (some mo) (Value.bool false)=a';have ham:a'.tmps.getD mo Go.undef= .bool false:=by rw[←ha'];exact Cm (by rw[Qu];exact hmos)
   have hao:∀n,n≠nx->n≠mo->a'.tmps.getD n Go.undef=a.tmps.getD n Go.undef:=λn h1 h2=>by rw[←ha',AA h2,AA h1]
   have R' :Rel (X.on wk Ok okk tk) (CB*(q+1)) (CB*(q+1)) (Y1 (uh A.rs s0)) m ok a' w:=by
    have S1:Y1 (uh A.rs s0)=upd (upd (Y1 (uh A.rs s0)) nx .undef) mo .undef:=by
     funext k;by_cases h:k=mo
     .subst h;rw[iQ];exact JH (a4f c7)
     .rw[Z5 _ _ h];by_cases h' :k=nx
      .subst h';rw[iQ];exact JH (a4f c6)
      .rw[Z5 _ _ h']
    rw[S1,←ha'];exact(R.put HY.ntB c2 (v:=.undef) trivial).put HY.ntB c3 (v:=.undef) trivial
   refine wp_seq ?_;refine wp_cond_split (t:=false) ham (λh=>by cases h) λ_=>wp_exit ?_;have hin:∀i,i<xs.length->i∈is:=λi hi=>by
    have hie:i<es.size:=by rw[hso.1];exact hi
    refine(hseen i _ (I5 hie)).1 ?_;cases hc:seen.contains es[i].born
    .exfalso;have:es[i]∈leftOf es seen:=by unfold leftOf;rw[Array.mem_filter];exact⟨Array.getElem_mem hie,by rw[hc];rfl⟩
     have h0:leftOf es seen=#[]:=Array.eq_empty_of_size_eq_zero hl;rw[h0]at this;simp at this
    .rfl
   have hp:is.Perm (List.range xs.length):=(kW hnd List.nodup_range).2 λi=>⟨λh=>Y7.2 (hlt i h),λh=>hin i (Y7.1 h)⟩;refine hQ wk Ok okk tk seen _ x m ok O a' w (a0q hp) hw Sb I R' T (b2S hals (λn hn=>hao n (λe=>?_) (λe=>?_)) hsig) km
   .subst e;exact NM c14 hn
   .subst e;exact NM c15 hn
  ·
   obtain⟨hbl1,hbl2,hbl3,hbl4,hbl5⟩:=I.bl blk hmv;have heL:e∈es.toList/\seen.contains e.born=false:=by
    have:e∈leftOf es seen:=by simpa using he
    unfold leftOf at this;rw[Array.mem_filter]at this;exact⟨by simpa using this.1,by simpa using this.2⟩
   obtain⟨i,hil,hie⟩:=Y5 heL.1;have hie' :es[i]? =some e:=by rw[←J7,dE hil,hie]
   have hil' :i<xs.length:=by rw[←hso.1,←O0];exact hil
   have hni:i∉is:=λh=>by have:=(hseen i e hie').2 h;rw[heL.2]at this;cases this
   obtain⟨y,hy⟩:∃y,xs[i]? =some y:=⟨_,dE hil'⟩;obtain⟨e',he',k1,k2,k3,k4⟩:=hent i y hy;rw[hie']at he';cases he';have hnd' :(is++[i]).Nodup:=by rw[H8];exact⟨hnd,x9,λa ha b hb=>by simp only[I7]at hb;subst hb;exact λe=>hni (e▸ha)⟩
   have hlt' :∀j∈is++[i],j<xs.length:=λj hj=>by
    rcases D6.1 hj with h|h
    .exact hlt j h
    .simp only[I7]at h;subst h;exact hil'
   have hround:∃x',a9U X.E D q A ops2.toList nb nx mo pr M s0 y x=some x' :=by
    let js:=(List.range xs.length).filter λj=>decide (j∉is++[i]);have hp:((is++[i])++js).Perm (List.range xs.length):=by
     refine(kW ?_ List.nodup_range).2 λj=>?_
     .rw[H8];refine⟨hnd',List.Nodup.sublist List.filter_sublist List.nodup_range,λa ha b hb e=>?_⟩;subst e;have:=(Y0.1 hb).2;exact of_decide_eq_true this ha
     .rw[D6];constructor
      .rintro(h|h)
       .exact Y7.2 (hlt' j h)
       .exact(Y0.1 h).1
      .intro h;by_cases hj:j∈is++[i]
       .exact .inl hj
       .exact .inr (Y0.2 ⟨h,decide_eq_true hj⟩)
    obtain⟨x1,h1⟩:=hall _ (a0q hp);rw[NW,NW,IV,IV,hw]at h1;have:MR xs [i]=[y]:=by unfold MR;simp[hy]
    rw[this]at h1;cases hf:a9U X.E D q A ops2.toList nb nx mo pr M s0 y x with
    |none=>simp[o5,Ag,hf]at h1|some x' =>exact⟨x',rfl⟩
   obtain⟨x',hround⟩:=hround;have hwalk:Ag (λe x=>a9U X.E D q A ops2.toList nb nx mo pr M s0 e x) (MR xs (is++[i])) x0=some x' :=by
    rw[NW,IV,hw];have:MR xs [i]=[y]:=by unfold MR;simp[hy]
    rw[this];simp[o5,Ag,hround]
   generalize hw2:ChangeMaps.setBlock w1 r (ML mv ck (seen.push e.born))=w2 at hrun;have hw1h:w1.heap=w.heap/\w1.os=w.os/\w1.tape=w.tape/\w1.output=w.output:=by rcases hw1 with rfl|rfl<;>exact⟨rfl,rfl,rfl,rfl⟩
   have hw1d:w.drawn<=w1.drawn:=by
    rcases hw1 with rfl|rfl
    .exact D5 _
    .exact iF _
   have hrl:r<w.heap.size:=Y9 I.rl R.frame.size;have hsz2:w2.heap.size=w.heap.size:=by rw[←hw2];simp[ChangeMaps.setBlock,hw1h.1]
   have hh2:∀b,b≠r->w2.heap[b]? =w.heap[b]?:=λb hb=>by rw[←hw2];simp[ChangeMaps.setBlock,hw1h.1,Array.getElem?_setIfInBounds,Ne.symm hb]
   have hr2:w2.heap[r]? =some (ML mv ck (seen.push e.born)):=by rw[←hw2];simp[ChangeMaps.setBlock,hw1h.1,hrl]
   have hos2:w2.os=w.os:=by rw[←hw2];exact hw1h.2.1
   have htp2:w2.tape=w.tape:=by rw[←hw2];exact hw1h.2.2.1
   have hou2:w2.output=w.output:=by rw[←hw2];exact hw1h.2.2.2
   have hx:(execOp a.eval o1).run X.P w= .ok (.value (.tuple #[.bool true,e.key,e.val])) w2:=by simp only[execOp,p1,Act.eval,hitv,H5,hrun];rfl
   unfold Oper.wp;rw[hx,jh,d1,wpOps_cons];refine Ji ho2 g2 ?_;have hx2:(execOp (a.put (some nx) (.tuple #[.bool true,e.key,e.val])).eval o2).run X.P w2= .ok (.value (.bool true)) w2:=by simp only[execOp,p2,Act.eval,Cm hnxs];simp[Instr.extract]
   unfold Oper.wp;rw[hx2,jh,d2];show wpOps X.P ops1 _ [] _ _;unfold wpOps;generalize ha' :(a.put (some nx) (Value.tuple #[Value.bool true,e.key,e.val])).put (some mo) (Value.bool true)=a';have ham:a'.tmps.getD mo Go.undef= .bool true:=by rw[←ha'];exact Cm (by rw[Qu];exact hmos)
   have hao:∀n,n≠nx->n≠mo->a'.tmps.getD n Go.undef=a.tmps.getD n Go.undef:=λn h1 h2=>by rw[←ha',AA h2,AA h1]
   have hasz:a'.tmps.size=a.tmps.size:=by rw[←ha',Qu,Qu]
   have hadf:a'.defers=a.defers:=by rw[←ha'];rfl
   refine wp_seq ?_;refine wp_cond_split (t:=true) ham (λ_=>wp_skip ?_) (λh=>by cases h);refine wp_block (wp_seq (wp_region ?_));have ho3:ops2[0]? =some o3:=by rw[←J7,hops2];rfl
   have hsz3:ops2.size=r3.length+1:=by rw[←O0,hops2];rfl
   rw[hsz3,lX,iR,wpOps_cons];refine Ji ho3 g3 ?_;have hx3:(execOp a'.eval o3).run X.P w2= .ok (.value (.tuple #[e.key,e.val])) w2:=by
    have hb2:w2.heap[blk]? =some (.map es ck):=(hh2 blk hbl3).trans (hb0 blk hmv);have hi2:w2.heap[r]? =some (.mapIter (some blk) ck (seen.push e.born) ck):=by rw[hr2,hmv];rfl
    have hen:=run_entry_at (P:=X.P) w2 r blk ck seen es ck e hi2 hb2 heL.1 hso.2.2;simp only[execOp,p3,Act.eval,hao it e1 e2,hitv,H5,hen];rfl
   unfold Oper.wp;rw[hx3,jh,d3];generalize ha2:a'.put (some pr) (Value.tuple #[e.key,e.val])=a2;obtain⟨s1,wr1,hk1,hwr1,hout1,hR1⟩:=qg (X:=X.on wk Ok okk tk) (show enter (q+1) A.hd A.rs s0 x _=some x' from hround);obtain⟨m1,R1,km1⟩:=hR1 (D5 _) R T hsig;have hown1:∀n,r∉V5 m1 n (Y1 s1 (Z4+n)):=λn h=>by
    rcases(R1.sep n r h).2.2 with h|h
    .exact absurd I.rl l7
    .exact I.rO h
   have hokr:∀t,¬ok r t:=λt h=>by
    rcases R1.okOut r t h with h|h|h
    .exact I.rk t h
    .exact absurd I.rl l7
    .exact I.rO h
   have ha2p:a2.tmps.getD pr Go.undef= .tuple #[e.key,e.val]:=by rw[←ha2];exact Cm (by rw[hasz];exact hprs)
   have ha2o:∀n,n≠nx->n≠mo->n≠pr->a2.tmps.getD n Go.undef=a.tmps.getD n Go.undef:=λn h1 h2 h3=>by rw[←ha2,AA h3];exact hao n h1 h2
   have hle2:Cx.le ⟨w.heap,ok,m1⟩ ⟨w2.heap,ok,m1⟩:=⟨λ_ _ h=>h,λb t hb=>hh2 b λe=>hokr t (e▸hb),λ_ _ h=>h⟩;have R2:Rel ((X.on wk Ok okk tk).on w2 (yM (Y1 s1) m1 w) ok a2.tmps) (CB*(q+2)) (CB*(q+2)) (Y1 (.kv pr (c7E M y)::.kv mo .undef::.kv nx .undef::s1)) m1 ok a2 w2:=by
    refine R1.down (r:=r) hos2 htp2 hou2 hsz2 hh2 hown1 hokr (by rw[←ha2,Qu];exact hasz) (by rw[←ha2];exact hadf) (λn=>?_) λn hn=>?_
    .rw[yJ,yJ,yJ,Z5 _ _ l7,Z5 _ _ l7,Z5 _ _ l7]
    .rw[yJ,yJ,yJ];by_cases h1:n=pr
     .subst h1;rw[iQ,ha2p];refine⟨_,rfl,_,_,rfl,a0A (Qz k1) (qR (su hkf k3)),_,_,rfl,a0A (Qz k2) (qR (su hvf k4)),rfl⟩
     .rw[Z5 _ _ h1];by_cases h2:n=mo
      .subst h2;rw[iQ];trivial
      .rw[Z5 _ _ h2];by_cases h3:n=nx
       .subst h3;rw[iQ];trivial
       .rw[Z5 _ _ h3,ha2o n h3 h2 h1];exact KT hle2 (R1.slot n hn)
   have hkp2:∀n∈X.E.kp,a2.tmps.getD n Go.undef=a.tmps.getD n Go.undef:=λn hn=>
    ha2o n (λe=>(jX c2).2 (e▸hn)) (λe=>(jX c3).2 (e▸hn)) (λe=>(jX c4).2 (e▸hn))
   have Sb2:Sub X (X.on w2 (yM (Y1 s1) m1 w) ok a2.tmps):=(R1.up Sb).sub hos2 htp2 hou2 hsz2 hh2 (by rw[←hw2];exact hw1d) (.inl hrX) hkp2;have H2:FxOk (X.on w2 (yM (Y1 s1) m1 w) ok a2.tmps):=⟨H.nt,H.tt,H.fs,H.eqs,H.ms,H.fn,H.pl,H.df⟩;have I2:ItI (X.on w2 (yM (Y1 s1) m1 w) ok a2.tmps) r mv es ck (seen.push e.born) own:=by
    refine { rl:=?_,rO:=λh=>?_,rk:=hokr,ri:=hr2,bl:=λblk' hb' =>?_ }
    .show r<w2.heap.size;rw[hsz2];exact hrl
    .obtain⟨n,h⟩:=(Gi R1).1 h;exact hown1 n h
    .rw[hmv]at hb';cases hb';refine⟨by show blk<w2.heap.size;rw[hsz2];exact Y9 hbl1 R.frame.size,λh=>?_,hbl3,(hh2 blk hbl3).trans (hb0 blk hmv),λho t h=>?_⟩
     .obtain⟨n,h⟩:=(Gi R1).1 h;rcases(R1.sep n blk h).2.2 with h|h
      .exact absurd hbl1 l7
      .exact hbl2 h
     .rcases R1.okOut blk t h with h|h|h
      .exact hbl5 ho t h
      .exact absurd hbl1 l7
      .exact hbl2 h
   have hseen2:∀j e',es[j]? =some e' ->((seen.push e.born).contains e'.born=true↔j∈is++[i]):=λj e' hj=>by rw[D6,I7,←hseen j e' hj];simp only[Array.contains_iff_mem,Array.mem_push];exact or_congr Iff.rfl ⟨λh=>b5m hso.2.2 hj hie' h,λh=>by subst h;rw[hie']at hj;cases hj;rfl⟩
   rcases Hq _ hk1 with⟨s2,S,T',f0,f1,hc,hk2⟩|⟨_,_,_,_,_,_,_,_,_,_,_,_,_,hk2⟩
   case inr=>cases hk2
   have hdl:(ops2.toList.drop 1).length=ops2.size -1:=by rw[List.length_drop,O0]
   rw[hdl]at f1 hk2;rw[G9]at hk2;have hc' :a3D 1 ops2.size X.E (q+2) ops2.toList (λi=>S (i -1)) (λi=>T' (i -1)):=λi o h1 h2 ho=>by have:=hc (i -1) o (by rw[O8,show 1+(i -1)=i by omega];exact ho);rw[show i -1+1=i by omega]at this;show(qU X.E (q+2) ops2.toList o).eval (S (i -1)) ([],[])=some ((),S (i+1 -1),T' (i -1));rw[show i+1 -1=i by omega];exact this
   have hfr2:∀k,(∀x∈((List.range (ops2.size -1)).map T').reverse,k∉x.2)->Y1 s2 k=Y1 (.kv pr (c7E M y)::.kv mo .undef::.kv nx .undef::s1) k:=λk hk=>by
    have:∀n,n<=ops2.size -1->S n k=S 0 k:=by
     intro n;induction n with
     |zero=>intro _;rfl|succ n ih=>intro hn;have hi:(ops2.toList.drop 1)[n]? =some ((ops2.toList.drop 1)[n]'(by rw[hdl];omega)):=dE _;rw[uS (hc n _ hi) k (hk (T' n) (by simp;exact⟨n,l7,rfl⟩)),ih l7]
    rw[←f1,←f0];exact this _ (D5 _)
   have hsz2' :ops2.size -1=r3.length:=l7;have hstart:Rel (X.on w2 (yM (Y1 s1) m1 w) ok a2.tmps) (CB*(q+2)) (CB*(q+2)+CB) ((λi=>S (i -1)) 1) m1 ok a2 w2:=by show Rel _ _ _ (S 0) _ _ _ _;rw[f0];exact R2.chmono (Z8 _ _)
   have hgo:=a1m (X:=X.on w2 (yM (Y1 s1) m1 w) ok a2.tmps) H2 (ops:=ops2) (q:=q+2) (D5 _) hc' (m0:=m1) (ok0:=ok) (Q:=Exit.then (body.wp X.P (Exit.inBlock nb (Exit.then (Code.rounds X.P (.seq (.region i1 ops1 false) (.seq (.cond (.tmp mo) .skip (.exit out)) (.block nb (.seq (.region i2 ops2 false) body)))) Q f) Q))) (Exit.inBlock nb (Exit.then (Code.rounds X.P (.seq (.region i1 ops1 false) (.seq (.cond (.tmp mo) .skip (.exit out)) (.block nb (.seq (.region i2 ops2 false) body)))) Q f) Q))) (λm3 ok3 a3 w3 R3 km3 kok3=>by
    rw[aU];show wpOps X.P ops2 _ [] a3 w3;unfold wpOps;show body.wp X.P _ a3 w3;have R3:Rel (X.on w2 (yM (Y1 s1) m1 w) ok a2.tmps) (CB*(q+2)) (CB*(q+2)+CB) (S (ops2.size -1)) m3 ok3 a3 w3:=R3;rw[f1]at R3;have R3' :Rel (X.on w2 (yM (Y1 s1) m1 w) ok a2.tmps) (CB*(q+3)) (CB*(q+3)) (Y1 s2) m3 ok3 a3 w3:=by
     have e:CB*(q+3)=CB*(q+2)+CB:=by rw[show q+3=(q+2)+1 from rfl,Nat.mul_add CB (q+2) 1,Nat.mul_one]
     rw[e];exact R3.climb (Z8 _ _)
    refine wp_mono ((hD (Y:=X.on w2 (yM (Y1 s1) m1 w) ok a2.tmps) rfl rfl H2).run hk2 R3' (λk l h=>by cases h)) ?_;rintro e4 a4 w4 ⟨fl,s4,wr4,hk4,hfl⟩;have fin:∀{m4:Mp} {ok4:Nat->Ty->Prop},KH (q+1) A.hd A.rs s4 wr4 some=some x' ->Rel (X.on w2 (yM (Y1 s1) m1 w) ok a2.tmps) (CB*(q+3+nn)) (CB*(q+3+nn)) (Y1 s4) m4 ok4 a4 w4->(∀k l,m3 k=some l->m4 k=some l)->
      (∀k,Wr (zf ((List.range (ops2.size -1)).map T').reverse (OT [pr,mo,nx] wr1)) k->Wr wr4 k)->(∀k,¬Wr wr4 k->Y1 s4 k=Y1 s2 k)->
      Code.rounds X.P (.seq (.region i1 ops1 false) (.seq (.cond (.tmp mo) .skip (.exit out)) (.block nb (.seq (.region i2 ops2 false) body)))) Q f a4 w4:=λ{m4 ok4} hlv R4 j1 j2 j3=>by
     obtain⟨x'',hx'',hL⟩:=kE (X:=X.on w2 (yM (Y1 s1) m1 w) ok a2.tmps) hlv;cases hx'';obtain⟨m5,ok5,O5,R5,T5,hs5,km5⟩:=hL R0 R4 (λk l h=>j1 _ _ (km3 _ _ (km1 _ _ (km _ _ h)))) (λk hk=>by have hk' :¬Wr (zf ((List.range (ops2.size -1)).map T').reverse (OT [pr,mo,nx] wr1)) k:=λh=>hk (j2 k h);rw[DL,LX,not_or,not_or]at hk';obtain⟨n1,n2,n3⟩:=hk';simp only[C9,jy,or_false,not_or]at n2;rw[j3 k hk,hfr2 k (λx hx hkx=>n1 ⟨x,hx,hkx⟩),yJ,yJ,yJ,Z5 _ _ n2.1,Z5 _ _ n2.2.1,Z5 _ _ n2.2.2];exact hout1 k n3)
     exact ih (is++[i]) (by rw[J9,List.length_singleton];omega) hnd' hlt' hseen2 hwalk Sb2 I2 R5 T5 hs5 km5
    cases fl with
    |rt z=>cases hk4|nm=>obtain⟨rfl,m4,ok4,R4,j1,j2,j3⟩:=hfl;exact fin hk4 R4 j1 j2 j3
    |ex j=>
     obtain⟨rfl,m4,ok4,R4,j1,j2,j3⟩:=hfl;simp only at hk4;cases hb:Nat.beq j nb
     .simp[hb]at hk4
     .simp only[hb,cond_true]at hk4;have:=ik hb;subst this;simp only[Exit.inBlock,if_true];exact fin hk4 R4 j1 j2 j3) (ops2.size -1) 1 (D5 _) l7 hstart (λ_ _ h=>h) (λ_ _ h=>h)
   rw[show r3.length=ops2.size -1 by omega];exact hgo
theorem Rel.restore{X:Fx}{cl ch:Nat}{S:Sm}{m:Mp}{L:d4F}(R:Rel X cl ch S m ok a w)(T:Tk X S m ok w L){bx blk:Nat}(hm:m bx=some (.mp blk)){t:Ty}{xs:List t.den}
  (ha:arrOk ⟨w.heap,ok,m⟩ t xs (.mp blk)) (h1:∀t,¬ok blk t) (h2:blk<w.heap.size) (h3:X.w0.heap.size<=blk\/blk∈X.O) (h4:∀n,blk∉V5 m n (S (Z4+n))) (h5:blk∉L):
  Rel X cl ch (upd S (Z4+bx) (.barr t xs)) m ok a w/\Tk X (upd S (Z4+bx) (.barr t xs)) m ok w L:=
 R.backV (O1:=[blk]) x9 ⟨az.2 ⟨h5,T.nodup⟩,λb hb=>by
  rcases C9.1 hb with rfl|hb
  .simp_all
  .exact T.free b hb⟩ (by grind [V5]) ⟨_,hm,ha⟩
theorem a4l{h:Array Obj}{M:MT}(hkf:M.k.flat=true)(hvf:M.v.flat=true){xs:List (M.k.den×M.v.den)}(H:FC h ok M.ent xs v):
  ∃(mv:Option Nat) (es:Array MapEntry) (ck:Nat),v= .map mv/\(mv=none->es=#[])/\(∀blk,mv=some blk->h[blk]? =some (.map es ck))/\xF es ck xs.length/\
   ∀(i:Nat) (x:M.k.den×M.v.den),xs[i]? =some x->∃e:MapEntry,es[i]? =some e/\gok M.ka e.key/\gok M.va e.val/\oq #[] (λ_ _=>False) M.k x.1 (uo M.ka e.key)/\oq #[] (λ_ _=>False) M.v x.2 (uo M.va e.val):=by
 obtain⟨mv,rfl,h1,h2⟩:=H;cases mv with
 |none=>have:=h1 rfl;subst this;exact⟨none,#[],0,rfl,λ_=>rfl,(λ_ h=>nomatch h),⟨rfl,x9,x9⟩,λi x h=>by grind⟩|some blk=>obtain⟨es,ck,g1,g2,g3⟩:=h2 blk rfl;refine⟨some blk,es,ck,rfl,(λh=>nomatch h),λb hb=>by simp_all,g2,λi x hi=>?_⟩;obtain⟨e,k1,k2,k3⟩:=g3 i x hi;obtain⟨l1,l2,l3,l4⟩:=Jc k2 k3<;>grind [su]
theorem a9B{Q:α->Sm->Prop}{X:Fx}{cl ch:Nat}{S:Sm}{m:Mp}(R:Rel X cl ch S m ok a w){u:Ty}(hu:u.isEnt=true){v:V}{x:Value}{K:List u.den->Option Nat->Cmd α}(hv:nU ⟨w.heap,ok,m⟩ v x)
  (hK:∀xs b,FC w.heap ok u xs x->(∀bx,b=some bx->S (Z4+bx)= .barr u xs/\∃blk,m bx=some (.mp blk)/\x= .map (some blk))->(b=none->∀blk,x= .map (some blk)->ok blk u)->(K xs b).post S Q):(b6P u v K).post S Q:=by
 unfold b6P;split<;>try trivial
 .refine iw λe=>?_;subst e;refine hK _ _ (FC.of_rep hu hv) (λ_ h=>nomatch h) λ_ blk hb=>?_;obtain⟨mv,e,h1,h2⟩:=(a4Q hu).1 hv<;>simp_all
 .obtain⟨l,hm,hvw⟩:=hv;refine aO ?_;split<;>try trivial
  rename_i t xs hS;obtain⟨l',hm',ha⟩:=R.own_arr hS;rw[hm]at hm';cases hm';refine iw λe=>?_;subst e;refine hK _ _ (FC.of_arr hu ha hvw) (λb hb=>?_) (λh=>nomatch h);cases l with
  |nil=>have:=ha.2;simp_all|st b=>cases ha|arr blk off len cap sz=>have:=ha.1;simp_all|mp b=>simp_all [Loc.view]
theorem b4k{P:Program}{t k e:TypeId}{mv:Option Nat}{es:Array MapEntry}{ck:Nat}(hu:P.underlying t=some (.map k e))(hb:∀blk,mv=some blk->w.heap[blk]? =some (.map es ck)):
  (Instr.range t (.map mv)).run P w= .ok (.pointer (some ⟨w.heap.size,0,none⟩)) (w.alloc (ML mv ck #[])):=by
 cases mv with
 |none=>simp_all [Instr.range,run_underlying,ML]|some blk=>simp[Instr.range,H5,run_underlying hu,DC (hb blk rfl),ML]
theorem a9T(H:FxOk X){D:Den ρ}{body:Code}{nn q:Nat}(hD:∀{Y:Fx},Y.P=X.P->Y.E=X.E->FxOk Y->DOk Y nom (λ_ _ _ _=>True) D body nn)
  {A:RngA} {ops0 ops1 ops2:Array Oper} {out out' mt nb i0 i1 i2:Nat} {R:Type} {s:St} {wr:Rgs} {K:St->Rgs->Option R} {res:R}
  (h:c5d X.E D q A ops0 ops1 ops2 out out' mt nb s wr K=some res) {m:Mp} {ok:Nat->Ty->Prop} {a:Act} {w:World} (Rl:Rel X (CB*q) (CB*q) (Y1 s) m ok a w) {Q:Exit->Act->World->Prop}
  (hQ:∀s' w' a' w2,K s' w' =some res->TK X (q+2) m s wr s' w' a' w2->Q .normal a' w2):
  (Code.seq (.region i0 ops0 false) (.block out (.loop (.seq (.region i1 ops1 false) (.seq (.cond (.tmp mt) .skip (.exit out')) (.block nb (.seq (.region i2 ops2 false) body))))))).wp X.P Q a w:=by
 unfold c5d at h;obtain⟨s1,t1,h1,hfr1,hrun1⟩:=Ti H h;clear h;split at h1
 case h_2=>cases h1
 rename_i t x it nx mo pr hsh;obtain⟨⟨o0,ho0,g0,d0,p0⟩,⟨o1,o2,hops1,g1,d1,p1,g2,d2,p2⟩,⟨o3,r3,hops2,g3,d3,p3⟩⟩:=a1I hsh;cases hck:(a0G X.E A it nx mo pr&&Nat.beq mo mt&&Nat.beq out out')
 .rw[hck]at h1;cases h1
 rw[hck]at h1;simp only[A7]at hck;obtain⟨⟨hck,e1⟩,e2⟩:=hck;have e1:=ik e1;have e2:=ik e2;subst e1;subst e2;simp only[cond_true]at h1;cases hM:MO X.E t with
 |none=>rw[hM]at h1;cases h1|some M=>
 rw[hM]at h1;simp only at h1;obtain⟨hund,hkf,⟨ti,hti,hko,hka⟩,⟨tj,htj,htjt,hva⟩⟩:=JG H hM;cases hvf:M.v.flat
 .rw[hvf]at h1;cases h1
 rw[hvf]at h1;simp only[cond_true]at h1;obtain⟨p,sb,tr,e2,h2⟩:=jT h1;have hck0:=hck;unfold a0G at hck0;simp only[A7,aQ]at hck0;obtain⟨⟨⟨⟨⟨⟨⟨⟨⟨⟨⟨⟨⟨⟨c1,c2⟩,c3⟩,c4⟩,c5⟩,c6⟩,c7⟩,c8⟩,c9⟩,c10⟩,c11⟩,c12⟩,c13⟩,c14⟩,c15⟩:=hck0;have itB:it<Z4:=Y9 (jX c1).1 H.ntB;have hin:=tu H (q:=q) (some it) (λt ht=>by cases ht;exact(jX c1).1);refine wp_seq (hrun1 (Rl.chmono (Z8 _ _)) λma oka aa wa Ra kma kka=>?_);rw[O0,J7]at ho0;have hlt:=(I9.1 ho0).1;rw[show ops0.size -(ops0.size -1)=1 by omega];show wpOps X.P ops0 _ [ops0.size -1] aa wa;rw[wpOps_cons];refine Ji ho0 g0 ?_;generalize hbn:U2 q (some it)=bi at e2 hin;have key:=pY (Q:=λ(p:List (M.k.den×M.v.den)×Option Nat) S2=>FC wa.heap oka M.ent p.1 (aa.eval x)/\
   (∀bx,p.2=some bx->Y1 s1 (Z4+bx)= .barr M.ent p.1/\∃blk,ma bx=some (.mp blk)/\aa.eval x= .map (some blk))/\(p.2=none->∀blk,aa.eval x= .map (some blk)->oka blk M.ent)/\
   Y1 s1 (Z4+bi)= .undef/\S2=upd (upd (Y1 s1) (Z4+bi) .dead) it (.ptr bi 0)) (by
  refine dC Ra λv hv=>a9B Ra rfl hv λxs b g1 g2 g3=>qQ λhn=>?_;exact⟨g1,g2,g3,hn,rfl⟩) e2
 obtain⟨hmr,hown,hdat,hbu,hsb⟩:=key;obtain⟨xs,bo⟩:=p;simp only at hmr hown hdat h2;obtain⟨mv,es,ck,hmv,hmn,hmb,hso,hent⟩:=a4l hkf hvf hmr;have hrun0:(execOp aa.eval o0).run X.P wa= .ok (.value (.pointer (some ⟨wa.heap.size,0,none⟩))) (wa.alloc (ML mv ck #[])):=by simp only[execOp,p0,hmv,H5,b4k hund hmb];rfl
 unfold Oper.wp;rw[hrun0,jh,d0];show wpOps X.P ops0 _ [] _ _;unfold wpOps;generalize hr:wa.heap.size=r at*;generalize hwb:wa.alloc (ML mv ck #[])=wb at*;generalize hab:aa.put (some it) (Value.pointer (some ⟨r,0,none⟩))=ab at*;have hwbs:wb.heap.size=r+1:=by rw[←hwb,←hr];simp
 have hwbo:∀b,b<r->wb.heap[b]? =wa.heap[b]?:=λb hb=>by rw[←hwb];exact zD _ _ l7
 have hwbr:wb.heap[r]? =some (ML mv ck #[]):=by rw[←hwb,←hr];exact heap_alloc_new wa _
 generalize hmbx:oV ma bi (.st r) []=mb at*;have hmbi:mb bi=some (.st r):=by rw[←hmbx];simp
 have hman:ma bi=none:=Ra.fresh bi hin.1 hbu;have hmbo:∀k l,ma k=some l->mb k=some l:=λk l hk=>by
  have:k≠bi:=λe=>by subst e;rw[hman]at hk;cases hk
  rw[←hmbx];show oV ma bi (.st r) [] k=_;rw[jZ _ _ _ this];exact hk
 have hckB:CB*(q+1)=CB*q+CB:=by rw[Nat.mul_add,Nat.mul_one]
 have Rb0:Rel X (CB*q) (CB*q+CB) (upd (Y1 s1) (Z4+bi) .dead) mb oka aa wb:=by rw[←hmbx];refine Ra.lay hbu hin.1 l7 x9 (by rw[←hwb];rfl) (by rw[←hwb];rfl) (by rw[←hwb];rfl) l7 (λb hb _=>hwbo b l7) bZ (λb hb=>by simp[V5]at hb) trivial (λ_=>by rw[←hwb];exact D5 _)
 have Rb:Rel X (CB*q) (CB*q+CB) (Y1 sb) mb oka ab wb:=by rw[hsb,←hab];exact Rb0.put H.ntB c1 ⟨r,hmbi,rfl⟩
 have hsbit:Y1 sb it= .ptr bi 0:=by rw[hsb,iQ]
 have hsbx:∀n,Y1 sb (Z4+n)=if n=bi then .dead else Y1 s1 (Z4+n):=λn=>by
  rw[hsb,Z5 _ _ l7];by_cases e:n=bi
  .subst e;rw[iQ,if_pos rfl]
  .rw[Z5 _ _ l7,if_neg e]
 have h3:∃s0,c5c X.E D q A ops2.toList nb nx mo pr M xs s0 sb (zf (tr::t1) wr) K=some res/\Y1 s0 it= .ptr bi 0/\Rel X (CB*q) (CB*q+CB) (Y1 s0) mb oka ab wb/\
   (bo=none->s0=sb)/\(∀bx,bo=some bx->s0= .kv (Z4+bx) .dead::sb/\¬Wr A.rs (Z4+bx)):=by
  unfold c2r at h2;cases bo with
  |none=>exact⟨sb,h2,hsbit,Rb,λ_=>rfl,λ_ h=>nomatch h⟩|some bx=>
   simp only at h2;cases hn:a2O (Z4+bx) A.rs
   .rw[hn]at h2;cases h2
   .rw[hn]at h2;refine⟨_,h2,?_,?_,(λh=>nomatch h),λb hb=>by cases hb;exact⟨rfl,Uc hn⟩⟩
    .rw[yJ,Z5 _ _ l7];exact hsbit
    .rw[yJ];exact Rb.kill bx
 obtain⟨s0,h3,hs0it,R0,hs0n,hs0s⟩:=h3;have hs0o:∀n b,b∈V5 mb n (Y1 s0 (Z4+n))->b∈V5 ma n (Y1 s1 (Z4+n))/\bo≠some n:=λn b hb=>by
  have hsbo:b∈V5 mb n (Y1 sb (Z4+n))->b∈V5 ma n (Y1 s1 (Z4+n)):=λhb=>by
   rw[hsbx]at hb;by_cases e:n=bi
   .subst e;rw[if_pos rfl]at hb;simp[V5]at hb
   .rw[if_neg e]at hb;rw[JM (m:=ma) (by rw[←hmbx];exact jZ _ _ _ e) (by rw[←hmbx];exact Su _ _ _ e)]at hb;exact hb
  cases bo with
  |none=>rw[hs0n rfl]at hb;exact⟨hsbo hb,x9⟩|some bx=>
   obtain⟨e,_⟩:=hs0s bx rfl;rw[e,yJ]at hb;by_cases e' :n=bx
   .subst e';rw[iQ]at hb;simp[V5]at hb
   .rw[Z5 _ _ l7]at hb;exact⟨hsbo hb,by simp only[ne_eq,E9];exact λe=>e' e.symm⟩
 have hr1:∀n,r∉V5 mb n (Y1 s0 (Z4+n)):=λn hb=>by have:=(Ra.sep n r (hs0o n r hb).1).2.1;omega
 have hr2:∀t,¬oka r t:=λt ht=>by have:=Ra.okLt r t ht;omega
 have hrX:X.w0.heap.size<=r:=by rw[←hr];exact Ra.frame.size
 have R0' :Rel X (CB*(q+1)) (CB*(q+1)) (Y1 s0) mb oka ab wb:=by rw[hckB];exact R0.climb (Z8 _ _)
 have RY:Rel (X.on wb (yM (Y1 s0) mb wb) oka ab.tmps) (CB*(q+1)) (CB*(q+1)) (Y1 s0) mb oka ab wb:=
  R0'.down (r:=r) rfl rfl rfl rfl (λ_ _=>rfl) hr1 hr2 rfl rfl (λ_=>rfl) R0'.slot
 have Sb:Sub X (X.on wb (yM (Y1 s0) mb wb) oka ab.tmps):=R0'.sub (r:=r) rfl rfl rfl rfl (λ_ _=>rfl) (D5 _) (.inl hrX) (λ_ _=>rfl);have hblk:∀blk,mv=some blk->blk<r/\(∀n,blk∉V5 mb n (Y1 s0 (Z4+n)))/\(bo.isSome=true->(∀t,¬oka blk t)/\(X.w0.heap.size<=blk\/blk∈X.O)):=λblk hb=>by
  have hlt:blk<r:=by rw[←hr];exact(I9.1 (hmb blk hb)).1
  subst hb;cases bo with
  |none=>have:=hdat rfl blk hmv;exact⟨hlt,λn h=>(Ra.sep n blk (hs0o n blk h).1).1 _ this,λh=>nomatch h⟩|some bx=>
   obtain⟨g1,blk',g2,g3⟩:=hown bx rfl;rw[hmv]at g3;simp only[Value.map.injEq,E9]at g3;subst g3;have ho:blk∈V5 ma bx (Y1 s1 (Z4+bx)):=by rw[g1];simp[V5,g2]
   refine⟨hlt,λn h=>?_,λ_=>⟨(Ra.sep bx blk ho).1,(Ra.sep bx blk ho).2.2⟩⟩;obtain⟨h1,h2⟩:=hs0o n blk h;exact h2 (by rw[Ra.inj n bx blk h1 ho])
 have I0:ItI (X.on wb (yM (Y1 s0) mb wb) oka ab.tmps) r mv es ck #[] bo.isSome:=by
  refine { rl:=?_,rO:=λh=>?_,rk:=hr2,ri:=hwbr,bl:=λblk hb=>?_ }
  .show r<wb.heap.size;omega
  .obtain⟨n,h⟩:=(Gi R0').1 h;exact hr1 n h
  .obtain⟨b1,b2,b3⟩:=hblk blk hb;exact⟨by show blk<wb.heap.size;omega,λh=>by obtain⟨n,h⟩:=(Gi R0').1 h;exact b2 n h,l7,(hwbo blk b1).trans (hmb blk hb),λho=>(b3 ho).1⟩
 unfold c5c at h3;obtain⟨x0,hk0,hL⟩:=kE (X:=X.on wb (yM (Y1 s0) mb wb) oka ab.tmps) h3;obtain⟨m2,ok2,O2,R2,T2,hs2,km2⟩:=hL RY RY (λ_ _ h=>h) (λ_ _=>rfl);obtain⟨_,hall⟩:=a1Y hk0;show(Code.block out _).wp X.P Q ab wb;refine wp_block (wp_loop_rounds (xs.length+1) ?_);refine a9X H hD hck hops1 g1 d1 p1 g2 d2 p2 hops2 g3 d3 p3 hkf hvf (xs:=xs) (s0:=s0) (x0:=x0) hrX hso hmn hent (λys hp=>?_) RY hs0it hmbi (own:=bo.isSome) (λwk Ok okk tk seen ys x1 m ok O a w hp hwk Sb I R T hs km=>?_)
  (xs.length+1) [] x9 bZ x9 (λi e _=>by simp) rfl Sb I0 R2 T2 hs2 km2
 .obtain⟨x1,hx1,_⟩:=AU (hall ys hp);exact⟨x1,hx1⟩
 .obtain⟨x1',hx1,hen⟩:=AU (hall ys hp);rw[hwk]at hx1;cases hx1;have hfin:Rel X (CB*(q+1)) (CB*(q+1)) (Y1 (uh A.rs sb)) m ok a w/\Tk X (Y1 (uh A.rs sb)) m ok w O:=by
   have Rx:=R.up Sb;have Tx:=T.up Sb;cases bo with
   |none=>rw[hs0n rfl]at Rx Tx;exact⟨Rx,Tx⟩|some bx=>
    obtain⟨e,hnw⟩:=hs0s bx rfl;obtain⟨q1,blk,q2,q3⟩:=hown bx rfl;rw[hmv]at q3;simp only[Value.map.injEq]at q3;obtain⟨i1,i2,i3,i4,i5⟩:=I.bl blk q3;obtain⟨b1,b2,b3⟩:=hblk blk q3;have hS:upd (Y1 (uh A.rs s0)) (Z4+bx) (.barr M.ent xs)=Y1 (uh A.rs sb):=by
     funext k;by_cases e' :k=Z4+bx
     .grind [iQ,Eb]
     .rw[Z5 _ _ e'];by_cases hw:Wr A.rs k
      .simp_all [JH]
      simp_all [Eb,yJ,Z5]
    rw[←hS];refine Rx.restore Tx (blk:=blk) (km _ _ (hmbo _ _ q2)) ⟨rfl,es,ck,(R.frame.block blk i1 i2).trans i4,hso,λi x hi=>?_⟩ (λt h=>?_) (Y9 i1 R.frame.size) (b3 rfl).2 (λn h=>?_) (λh=>?_)
    .obtain⟨e,l1,l2,l3,l4,l5⟩:=hent i x hi;obtain⟨j1,j2⟩:=a6h (M:=M) (e:=e) l2 l3 (su (h' :=w.heap) (ok' :=ok) hkf l4) (su (h' :=w.heap) (ok' :=ok) hvf l5)<;>simp_all
    .rcases R.okOut blk t h with h|h|h<;>grind
    .rcases(R.sep n blk h).2.2 with h|h<;>grind
    .rcases(T.free blk h).2.2.1 with h|h<;>grind
  obtain⟨s',w',hk',hwr',hout',hR'⟩:=qg (X:=X) hen;obtain⟨m',R',km'⟩:=hR' (D5 _) hfin.1 hfin.2 hs;simp only[Exit.inBlock,if_true];refine hQ s' _ a w hk' ⟨m',ok,R',λk l h=>km' _ _ (km _ _ (hmbo _ _ (kma _ _ h))),λk h=>Ut.2 (.inr (DL.2 (.inr h))),λk h=>?_⟩;rw[Ut,not_or,DL,not_or]at h;rw[hout' k h.1,uS e2 k λhk=>h.2.1 ⟨tr,x9,hk⟩];exact hfr1 k λx hx hkx=>h.2.1 ⟨x,by grind,hkx⟩
end
end Go.GP
namespace Go.GP
def Dx:Code->Option (Code×Code)
 | .seq x y=>some (x,y)|_=>none
variable {c:Code}
theorem JX{v:Code×Code}(h:Dx c=some v):c= .seq v.1 v.2:=by unfold Dx at h<;>grind
def YK:Code->Option Nat
 | .label l=>some l|_=>none
variable {l:Nat}
theorem a9c(h:YK c=some l):c= .label l:=by unfold YK at h<;>grind
def Si:Code->Option Code
 | .scope c=>some c|_=>none
theorem a4S{c d:Code}(h:Si c=some d):c= .scope d:=by unfold Si at h<;>grind
def b6u(c:Code)(l:Nat):Bool:=match findLabel c l with|none=>true|some _=>false
def WE{ρ:Type}(E:Env)(rt:Ret)(ret:rt.den->ρ)(pan:SC ρ)(l:Nat){R:Type}(K:Flow ρ->St->Rgs->Option R)(K2:Code->Nat->St->Option R):List Ann->Code->Nat->St->Rgs->Option R
 |[],c,q,s,w=>match Dx c with
  |some (x,y)=>(match YK x with
   |some l' =>bif Nat.beq l' l then K2 y q s else none
   |none=>none)
  |none=>none
 |a::r,c,q,s,w=>match Dx c with
  |some (x,y)=>bif b6u x l then FK E rt ret pan x q a s w R λfl s' w' =>(match fl with
    | .nm=>WE E rt ret pan l K K2 r y (q+yh x) s' w'| .ex _=>none
    | .rt z=>K (.rt z) s' w')else none
  |none=>none
variable {ρ:Type}
def b1A(lab:Sig)(l:Nat)(pan:SC ρ):SC (jY lab⊕ρ):=λx=>match x with
 | .inl c=>(pan (.inl c)).bind λz=> .ret (.inr z)
 | .inr l' =>bif Nat.beq l' l then(j_ lab).bind λx=> .ret (.inl x)else .fail
abbrev a5B(q:Nat):Rgs:=[(0,Z4+CB*q)]
def Ht(E:Env)(rt:Ret)(ret:rt.den->ρ)(pan:SC ρ)(l:Nat)(lab:Sig)(a:Ann)(y:Code)(q:Nat)(s:St)(x:jY lab):Option (jY lab⊕ρ):=
 enter q lab (a5B q) s x λs1 w1=>FK E rt (λr=> .inr (ret r)) (b1A lab l pan) y (q+1) a s1 w1 (jY lab⊕ρ) λfl _ _=>match fl with
  | .rt z=>some z|_=>none
variable {R:Type}
def c5H(E:Env)(rt:Ret)(ret:rt.den->ρ)(pan:SC ρ)(l:Nat)(lab:Sig)(a:Ann)(K:Flow ρ->St->Rgs->Option R)(y:Code)(q:Nat)(s:St):Option R:=
 (j_ lab).runK s ([],[]) λx0 _ _=>o5 (X8 (λx=>Ht E rt ret pan l lab a y q s x) x0) λz=>K (.rt z) [] []
theorem c2s{p:Nat->Prop}(h:∃n,p n):∃n,p n/\∀k,k<n->¬p k:=by obtain⟨n,h⟩:=h;induction n using Nat.strongRecOn<;>grind
variable {q:Nat}{N:Nat}{r:R}
section
variable {X:Fx} {rt:Ret} {ρ:Type} {mE:Mp} {RetP:ρ->Exit->Act->World->Prop}
theorem b6a{sg:Sig}{S s1:Sm}{t tr:Tr}{x:jY sg}(he:(j_ sg).eval S t=some (x,s1,tr)){X0:Fx}{s0:St}{cl cl1 ch1:Nat}{m m1:Mp}{ok ok1:Nat->Ty->Prop}{a a1:Act}{w w1:World}
  (R0:Rel X0 cl (CB*q) (Y1 s0) m ok a w) (R1:Rel X cl1 ch1 S m1 ok1 a1 w1) (km:∀k l,m k=some l->m1 k=some l):
  ∃m2 ok2 O,Rel X (CB*q) (CB*q) (Y1 (uh (a5B q) s0)) m2 ok2 a1 w1/\Tk X (Y1 (uh (a5B q) s0)) m2 ok2 w1 O/\TJ w1.heap ok2 sg x a1.tmps O/\(∀k l,m k=some l->m2 k=some l):=by
 have key:=pY (l_ R1 (Q:=λy S' =>∃m' ok' O,Rel X cl1 ch1 S' m' ok' a1 w1/\Tk X S' m' ok' w1 O/\(∀k l,m1 k=some l->m' k=some l)/\TJ w1.heap ok' sg y a1.tmps O)
  λS' m' ok' y O R' T' km' _ hr=>⟨m',ok',O,R',T',km',hr⟩) he
 obtain⟨m',ok',O,R',T',km',hr⟩:=key;obtain⟨R2,hT2,hm2⟩:=R0.rebase (S2:=Y1 (uh (a5B q) s0)) R' (λk l h=>km' k l (km k l h)) (λk=>by
  by_cases hk:k<Z4+CB*q
  .exact .inl (JH ⟨_,I7.2 rfl,lU _,hk⟩)
  .refine .inr ⟨Eb λ⟨p,h1,h2⟩=>?_,λh=>absurd h hk⟩;rw[I7.1 h1]at h2;exact hk h2.2)<;>grind
def AtL(X:Fx)(m0:Mp)(sg:Sig)(q:Nat)(s:St)(f:jY sg->Option (jY sg⊕ρ))(z:ρ)(n:Nat)(a:Act)(w:World):Prop:=
 ∃x m2 ok2 O,qC f n x=some z/\Rel X (CB*q) (CB*q) (Y1 (uh (a5B q) s)) m2 ok2 a w/\Tk X (Y1 (uh (a5B q) s)) m2 ok2 w O/\TJ w.heap ok2 sg x a.tmps O/\(∀k l,m0 k=some l->m2 k=some l)
theorem b4t(H:FxOk X){ret:rt.den->ρ}{pan:SC ρ}(hret:Lp X rt ret mE RetP)(hpan:Lm X pan mE RetP){lab:Sig}{an:Ann}{y:Code}{s:St}{m m0:Mp}{s00:St}{wr:Rgs}{z:ρ}{K:Flow ρ->St->Rgs->Option R}
  {cl:Nat} {ok:Nat->Ty->Prop} {a0:Act} {w0:World} (R0:Rel X cl (CB*q) (Y1 s) m0 ok a0 w0) (hE:∀k l,mE k=some l->m0 k=some l) (hK:K (.rt z) [] []=some r) (n:Nat) {a:Act} {w:World}
  (h:AtL X m0 lab q s (λx=>Ht X.E rt ret pan l lab an y q s x) z n a w):
  y.wp X.P (Exit.jump l (λa w=>∃k,k<n/\AtL X m0 lab q s (λx=>Ht X.E rt ret pan l lab an y q s x) z k a w) (LU X RetP N m s00 wr K r)) a w:=by
 obtain⟨x,m2,ok2,O,hl,R2,T2,hr,km⟩:=h;cases n with
 |zero=>grind [qC]|succ n=>
 unfold qC at hl;have go:∀o,Ht X.E rt ret pan l lab an y q s x=some o->(∀x',o= .inl x' ->qC (λx=>Ht X.E rt ret pan l lab an y q s x) n x' =some z)->(∀z',o= .inr z' ->z' =z)->
   y.wp X.P (Exit.jump l (λa w=>∃k,k<n+1/\AtL X m0 lab q s (λx=>Ht X.E rt ret pan l lab an y q s x) z k a w) (LU X RetP N m s00 wr K r)) a w:=by
  intro o ho h1 h2;unfold Ht at ho;obtain⟨s1,w1,hk,_,_,hR1⟩:=qg (X:=X) ho;obtain⟨m1,R1,km1⟩:=hR1 (D5 _) R2 T2 hr;let RetP' :jY lab⊕ρ->Exit->Act->World->Prop:=λv e a w=>match v with
   | .inr v=>RetP v e a w/\∀l',e≠.goto l'| .inl x=>e= .goto l/\∃m2 ok2 O,Rel X (CB*q) (CB*q) (Y1 (uh (a5B q) s)) m2 ok2 a w/\Tk X (Y1 (uh (a5B q) s)) m2 ok2 w O/\TJ w.heap ok2 lab x a.tmps O/\(∀k l,m0 k=some l->m2 k=some l)
  have hret' :Lp X rt (λr=>(.inr (ret r):jY lab⊕ρ)) m0 RetP' :=λ{s R K r} h=>by obtain⟨x,hk,hx⟩:=hret h<;>grind
  have hpan' :Lm X (b1A lab l pan) m0 RetP' :=λ{c S S' tr x} hc he {cl ch m ok a w} R1 km=>by
   cases c with
   |inl c=>
    simp only[b1A,BA]at he;cases h3:(pan (.inl c)).eval S ([],[])with
    |none=>simp_all|some v=>obtain⟨v,S2,t2⟩:=v;simp only[h3,Cmd.eval,E9,aH]at he;obtain⟨rfl,_,_⟩:=he;exact⟨hpan hc h3 R1 λk l h=>km _ _ (hE _ _ h),λl' e=>by grind⟩
   |inr l' =>
    simp only[b1A]at he;cases hb:Nat.beq l' l
    .simp only[hb,cond_false]at he;cases he
    simp only[hb,cond_true,BA]at he;cases h3:(j_ lab).eval S ([],[])with
    |none=>simp_all|some v=>obtain⟨v,S2,t2⟩:=v;simp only[h3,Cmd.eval,E9,aH]at he;obtain⟨rfl,_,_⟩:=he;exact⟨by simp_all,b6a h3 R0 R1 km⟩
  refine wp_mono ((vS H hret' hpan' y).run hk R1 (λk l h=>km1 _ _ (km _ _ h))) ?_;rintro e a' w' ⟨fl,s',wr',hk,hfl⟩;cases fl with
  |nm=>grind|ex id=>grind|rt v=>
   cases hk;obtain⟨hlf,hv⟩:=hfl;cases o with
   |inl x' =>obtain⟨rfl,m3,ok3,O3,R3,T3,hr3,km3⟩:=hv;exact⟨rfl,n,Nat.lt_succ_self n,x',m3,ok3,O3,h1 _ rfl,R3,T3,hr3,km3⟩
   |inr z' =>
    rw[h2 _ rfl]at hv;obtain⟨hv,hng⟩:=hv;rcases hlf with rfl|⟨ch,rfl⟩|⟨l',rfl⟩
    .exact⟨.rt z,[],[],hK,.inl rfl,hv⟩
    .exact⟨.rt z,[],[],hK,.inr (.inl ⟨_,rfl⟩),hv⟩
    simp_all
 grind
theorem b4d(H:FxOk X){ret:rt.den->ρ}{pan:SC ρ}(hret:Lp X rt ret mE RetP)(hpan:Lm X pan mE RetP){K:Flow ρ->St->Rgs->Option R}{K2:Code->Nat->St->Option R}{J:Act->World->Prop}
  (hng:∀z e a w,RetP z e a w->∀l,e≠.goto l):
  ∀(pre:List Ann) (c:Code) {q:Nat} {s:St} {wr:Rgs},WE X.E rt ret pan l K K2 pre c q s wr=some r->
   ∀{m:Mp} {ok:Nat->Ty->Prop} {a:Act} {w:World} {m0:Mp} {s0:St} {wr0:Rgs},Rel X (CB*q) (CB*q) (Y1 s) m ok a w->(∀k l,mE k=some l->m k=some l)->
   (∀y q' s' m' ok' a' w',findLabel c l=some (.seq .skip y)->K2 y q' s' =some r->Rel X (CB*q') (CB*q') (Y1 s') m' ok' a' w' ->(∀k l,mE k=some l->m' k=some l)->y.wp X.P (Exit.jump l J (LU X RetP N m0 s0 wr0 K r)) a' w')->
   c.wp X.P (Exit.jump l J (LU X RetP N m0 s0 wr0 K r)) a w:=by
 intro pre;induction pre with
 |nil=>
  intro c q s wr h m ok a w m0 s0 wr0 R1 hE hrest;unfold WE at h;cases hv:Dx c with
  |none=>simp_all|some v=>
  obtain⟨x,y⟩:=v;simp only[hv]at h;have:=JX hv;subst this;cases hv2:YK x with
  |none=>simp_all|some l' =>
  simp only[hv2]at h;have:=a9c hv2;subst this;cases hb:Nat.beq l' l
  .simp_all
  simp only[hb,cond_true]at h;have:=ik hb;subst this;exact wp_seq (wp_label (hrest y q s m ok a w (by simp[findLabel]) h R1 hE))
 |cons an pre ih=>
  intro c q s wr h m ok a w m0 s0 wr0 R1 hE hrest;unfold WE at h;cases hv:Dx c with
  |none=>simp_all|some v=>
  obtain⟨x,y⟩:=v;simp[hv]at h;have:=JX hv;subst this;cases hn:b6u x l
  .simp_all
  simp[hn,cond_true]at h;have hx:findLabel x l=none:=by
   grind [b6u]
  refine wp_seq (wp_mono ((vS H hret hpan x).run h R1 hE) ?_);rintro e a' w' ⟨fl,s',wr',hk,hfl⟩;cases fl with
  |ex id=>grind
  |nm=>obtain⟨rfl,m',ok',R2,k1,_,_⟩:=hfl;exact ih y hk R2 (λk l h=>k1 _ _ (hE _ _ h)) λy2 q' s' m' ok' a' w' hf=>hrest y2 q' s' m' ok' a' w' (by simp_all [findLabel])
  |rt z=>
   obtain⟨hl,hp⟩:=hfl;rcases hl with rfl|⟨ch,rfl⟩|⟨l',rfl⟩
   .exact⟨.rt z,s',wr',hk,.inl rfl,hp⟩
   .exact⟨.rt z,s',wr',hk,.inr (.inl ⟨_,rfl⟩),hp⟩
   grind
theorem WN{J J' :Act->World->Prop}{Q:Exit->Act->World->Prop}(h:∀a w,J a w->J' a w):∀e a w,Exit.jump l J Q e a w->Exit.jump l J' Q e a w
 | .goto _,_,_,h' =>⟨h'.1,h _ _ h'.2⟩| .normal,_,_,h' =>h'| .exit _,_,_,h' =>h'| .ret,_,_,h' =>h'| .panic _,_,_,h' =>h'| .outgrown,_,_,h' =>h'
theorem b4u(H:FxOk X){ret:rt.den->ρ}{pan:SC ρ}(hG:∀l,pan (.inr l)= .fail)(hret:Lp X rt ret mE RetP)(hpan:Lm X pan mE RetP){lab:Sig}{pre:List Ann}{an:Ann}{s:St}{wr:Rgs}{K:Flow ρ->St->Rgs->Option R}
  (h:WE X.E rt ret pan l K (c5H X.E rt ret pan l lab an K) pre c q s wr=some r) {m:Mp} {ok:Nat->Ty->Prop} {a:Act} {w:World} (Rl:Rel X (CB*q) (CB*q) (Y1 s) m ok a w) (hE:∀k l,mE k=some l->m k=some l):
  (Code.scope c).wp X.P (LU X RetP N m s wr K r) a w:=by
 let RetP2:ρ->Exit->Act->World->Prop:=λz e a w=>RetP z e a w/\∀l,e≠.goto l;have hret2:Lp X rt ret mE RetP2:=λ{s R K r} h=>by obtain⟨x,hk,hx⟩:=hret h<;>grind
 have hpan2:Lm X pan mE RetP2:=λ{c S S' tr x} hc he {cl ch m ok a w} R1 km=>by
  cases c with
  |inl c=>exact⟨hpan hc he R1 km,λl' e=>by grind⟩|inr l' =>rw[hG]at he;cases he
 let Jn:Nat->Act->World->Prop:=λn a w=>∃y q' s' m0 ok0 a0 w0 z,findLabel c l=some (.seq .skip y)/\Rel X (CB*q') (CB*q') (Y1 s') m0 ok0 a0 w0/\(∀k l,mE k=some l->m0 k=some l)/\K (.rt z) [] []=some r/\
  AtL X m0 lab q' s' (λx=>Ht X.E rt ret pan l lab an y q' s' x) z n a w
 have hpass:∀n y a w,findLabel c l=some (.seq .skip y)->Jn n a w->y.wp X.P (Exit.jump l (λa w=>∃k,k<n/\Jn k a w) (LU X RetP2 N m s wr K r)) a w:=by rintro n y a w hf ⟨y',q',s',m0,ok0,a0,w0,z,hf',R0,hE0,hK,hA⟩;rw[hf]at hf';cases hf';exact wp_mono (b4t H hret2 hpan2 R0 hE0 hK n hA) (WN λa w ⟨k,h1,h2⟩=>⟨k,h1,y,q',s',m0,ok0,a0,w0,z,hf,R0,hE0,hK,h2⟩)
 have first:c.wp X.P (Exit.jump l (λa w=>∃n,Jn n a w) (LU X RetP2 N m s wr K r)) a w:=by refine b4d H hret2 hpan2 (λ_ _ _ _ h=>h.2) pre c h Rl hE λy q' s' m' ok' a' w' hf hk R1 hE1=>?_;unfold c5H at hk;obtain⟨x0,s1,tr,he,hk⟩:=jT hk;obtain⟨z,h1,h2⟩:=AU hk;obtain⟨m2,ok2,O,R2,T2,hr,km⟩:=b6a he R1 R1 (λ_ _ h=>h);exact wp_mono (hpass kK y a' w' hf ⟨y,q',s',m',ok',a',w',z,hf,R1,hE1,h2,x0,m2,ok2,O,h1,R2,T2,hr,km⟩) (WN λa w ⟨k,_,h⟩=>⟨k,h⟩)
 refine wp_mono (Q:=LU X RetP2 N m s wr K r) ?_ (λe a w ⟨fl,s',wr',hk,hfl⟩=>⟨fl,s',wr',hk,by cases fl<;>first|exact hfl|exact⟨hfl.1,hfl.2.1⟩⟩);cases hf:findLabel c l with
 |none=>
  refine wp_scope_straight (wp_mono first λe a w he=>?_);cases e<;>first|exact he|skip
  obtain⟨_,n,y,q',s',m0,ok0,a0,w0,z,hf',_⟩:=he<;>simp_all
 |some rest=>
  refine wp_scope_jumps l (λa w=>∃n,Jn n a w) (λa w=>Classical.epsilon λn=>Jn n a w/\∀k,k<n->¬Jn k a w) hf first λa w hJ=>?_
  obtain⟨hn,hmin⟩:=Classical.epsilon_spec (c2s hJ);generalize (Classical.epsilon λn=>Jn n a w/\∀k,k<n->¬Jn k a w)=n at hn hmin;have hn0:=hn;obtain⟨y,_,_,_,_,_,_,_,hf',_⟩:=hn0;have:=hf';rw[hf]at this;cases this;refine wp_seq (wp_skip (wp_mono (hpass n y a w hf' hn) (WN λa w ⟨k,h1,h2⟩=>⟨⟨k,h2⟩,?_⟩)));obtain⟨_,hm2⟩:=Classical.epsilon_spec (c2s (p:=λn=>Jn n a w) ⟨k,h2⟩)
  grind
end
end Go.GP
namespace Go.GP
inductive SAnn where
 |fin (a:Ann)
 |seq (a:Ann) (r:SAnn)
 |nd (f:Nat) (sp:NSpec) (r:SAnn)
 |rng (A:RngA) (r:SAnn)
 |scp (l:Nat) (lab:Sig) (pre:List Ann) (a:Ann)
structure RngV where
 i0:Nat
 ops0:Array Oper
 out:Nat
 i1:Nat
 ops1:Array Oper
 mt:Nat
 out' :Nat
 nb:Nat
 i2:Nat
 ops2:Array Oper
 body:Code
def RngV.code(v:RngV):Code:=.seq (.region v.i0 v.ops0 false) (.block v.out (.loop (.seq (.region v.i1 v.ops1 false) (.seq (.cond (.tmp v.mt) .skip (.exit v.out')) (.block v.nb (.seq (.region v.i2 v.ops2 false) v.body))))))
def YV:Code->Option RngV
 | .seq (.region i0 ops0 false) (.block out (.loop (.seq (.region i1 ops1 false) (.seq (.cond (.tmp mt) .skip (.exit out')) (.block nb (.seq (.region i2 ops2 false) body))))))=>some ⟨i0,ops0,out,i1,ops1,mt,out',nb,i2,ops2,body⟩|_=>none
variable {c:Code}
theorem a9V{v:RngV}(h:YV c=some v):c=v.code:=by
 unfold YV at h;split at h
 .cases h;rfl
 grind
def YS:Code->Option (Nat×Array Oper)
 | .region i ops false=>some (i,ops)|_=>none
theorem a9N{v:Nat×Array Oper}(h:YS c=some v):c= .region v.1 v.2 false:=by unfold YS at h<;>grind
noncomputable def ZV {ρ:Type} (E:Env) (rt:Ret) (ret:rt.den->ρ) (pan:SC ρ):SAnn->Code->Nat->St->Rgs->(R:Type)->(Flow ρ->St->Rgs->Option R)->Option R
 | .fin a,c=>λq s w R K=>FK E rt ret pan c q a s w R K
 | .seq a r,c=>λq s w R K=>match Dx c with
  |some (x,y)=>FK E rt ret pan x q a s w R λfl s' w' =>match fl with
   | .nm=>ZV E rt ret pan r y (q+yh x) s' w' R K| .ex id=>K (.ex id) s' w'| .rt z=>K (.rt z) s' w'
  |none=>none
 | .nd f sp r,c=>λq s w R K=>match Dx c with
  |some (x,y)=>(match YS x with
   |some v=>c5a E q v.2 f sp s w λs' w' =>ZV E rt ret pan r y (q+2) s' w' R K
   |none=>none)
  |none=>none
 | .rng A r,c=>λq s w R K=>match Dx c with
  |some (x,y)=>(match YV x with
   |some v=>c5d E (FK E rt ret pan v.body) q A v.ops0 v.ops1 v.ops2 v.out v.out' v.mt v.nb s w λs' w' =>ZV E rt ret pan r y (q+2) s' w' R K
   |none=>none)
  |none=>none
 | .scp l lab pre a,c=>λq s w R K=>match Si c with
  |some c=>WE E rt ret pan l K (c5H E rt ret pan l lab a K) pre c q s w|none=>none
def a1p(P:Program)(gl:List (Nat×(t:Ty)×List t.den)):SAnn->Prop
 | .fin _=>True| .seq _ r=>a1p P gl r| .nd f sp r=>(Wj P gl f sp/\∃fn,P.funcs[f]? =some fn/\fn.body.isSome=true/\(fn.name== "runtime.NumGoroutine")=false)/\a1p P gl r| .rng _ r=>a1p P gl r| .scp ..=>True
section
variable {X:Fx} {rt:Ret} {ρ:Type} {mE:Mp} {RetP:ρ->Exit->Act->World->Prop}
theorem a8G(H:FxOk X){ret:rt.den->ρ}{pan:SC ρ}(hG:∀l,pan (.inr l)= .fail)(hret:Lp X rt ret mE RetP)(hpan:Lm X pan mE RetP):
  ∀(sa:SAnn) (c:Code),a1p X.P X.E.gl sa->∀{q:Nat} {s:St} {wr:Rgs} {R:Type} {K:Flow ρ->St->Rgs->Option R} {r:R},ZV X.E rt ret pan sa c q s wr R K=some r->
   ∀{m:Mp} {ok:Nat->Ty->Prop} {a:Act} {w:World},Rel X (CB*q) (CB*q) (Y1 s) m ok a w->(∀k l,mE k=some l->m k=some l)->c.wp X.P (LU X RetP (q+yh c) m s wr K r) a w:=by
 intro sa;induction sa with
 |fin an=>exact λc _ {q s wr R K r} h {m ok a w} Rl hE=>(vS H hret hpan c).run (by unfold ZV at h;omega) Rl hE|seq an sr ih=>
  intro c hN q s wr R K r h m ok a w Rl hE;unfold ZV at h;cases hv:Dx c with
  |none=>simp_all|some v=>
  obtain⟨x,y⟩:=v;have:=JX hv;subst this;refine wp_seq (wp_mono ((vS H hret hpan x).run h Rl hE) ?_);rintro e a' w' ⟨fl,s',wr',hk,hfl⟩;cases fl with
  |nm=>obtain⟨rfl,m',ok',R1,k1,k2,k3⟩:=hfl;refine wp_mono (ih y hN hk R1 (λk l h=>k1 _ _ (hE _ _ h))) ?_;rintro e a2 w2 ⟨fl,s2,wr2,hk2,hfl2⟩;exact⟨fl,s2,wr2,hk2,hfl2.trans k1 k2 k3 (by grind [yh])⟩
  |ex id=>obtain⟨rfl,hs⟩:=hfl;exact⟨.ex id,s',wr',hk,rfl,hs.up (by grind [yh])⟩
  |rt x=>
   obtain⟨hl,hs⟩:=hfl;rcases hl with rfl|⟨ch,rfl⟩|⟨ch,rfl⟩
   .exact⟨.rt x,s',wr',hk,by simp[Lf],hs⟩
   .exact⟨.rt x,s',wr',hk,by simp[Lf],hs⟩
   .exact⟨.rt x,s',wr',hk,by simp[Lf],hs⟩
 |nd f sp sr ih=>
  intro c hN q s wr R K r h m ok a w Rl hE;unfold ZV at h;cases hv:Dx c with
  |none=>simp_all|some v=>
  obtain⟨x,y⟩:=v;have:=JX hv;subst this;cases hv2:YS x with
  |none=>simp_all|some v=>
  have:=a9N hv2;subst this;refine wp_seq (a9M H hN.1.1 hN.1.2 h (Rl.chmono (Z8 _ _)) λs' t m' ok' a' w' hk hfr R' k1 k2=>?_);have e:CB*(q+1)=CB*q+CB:=by grind
  have R1:Rel X (CB*(q+1)) (CB*(q+1)) (Y1 s') m' ok' a' w' :=by exact R'.climb (Z8 _ _)
  refine wp_mono (ih y hN.2 hk (R1.upq l7) (λk l h=>k1 _ _ (hE _ _ h))) ?_;rintro e a2 w2 ⟨fl,s2,wr2,hk2,hfl2⟩;exact⟨fl,s2,wr2,hk2,hfl2.trans k1 (λk h=>DL.2 (.inr h)) (λk h=>hfr k λx hx hkx=>h (DL.2 (.inl ⟨x,hx,hkx⟩))) (by grind [yh])⟩
 |rng A sr ih=>
  intro c hN q s wr R K r h m ok a w Rl hE;unfold ZV at h;cases hv:Dx c with
  |none=>simp_all|some v=>
  obtain⟨x,y⟩:=v;have:=JX hv;subst this;cases hv2:YV x with
  |none=>simp_all|some v=>
  obtain⟨i0,ops0,out,i1,ops1,mt,out',nb,i2,ops2,body⟩:=v;have:=a9V hv2;subst this;unfold RngV.code;refine wp_seq (a9T H (nn:=yh body) (λ{Y} h1 h2 HY=>?_) h Rl λs' w' a' w2 hk hst=>?_)
  .have e2:FK X.E rt ret pan body=FK Y.E rt ret pan body:=by rw[h2]
   rw[e2];exact vS HY (λ{s R K r} h=>by obtain⟨x,_,_,_,hk⟩:=jT h<;>grind) (λ_ _ _ _ _ _ _ _ _ _=>trivial) body
  .obtain⟨m',ok',R1,k1,k2,k3⟩:=hst;refine wp_mono (ih y hN hk R1 (λk l h=>k1 _ _ (hE _ _ h))) ?_;rintro e a2 w2 ⟨fl,s2,wr2,hk2,hfl2⟩;exact⟨fl,s2,wr2,hk2,hfl2.trans k1 k2 k3 (by grind [yh])⟩
 |scp l lab pre an=>
  intro c hN q s wr R K r h m ok a w Rl hE;unfold ZV at h;cases hv:Si c with
  |none=>simp_all|some c=>
  have:=a4S hv;subst this;exact b4u H hG hret hpan h Rl hE
end
noncomputable def a2k {ρ:Type} (E:Env) (ps:List MG) (rt:Ret) (ret:rt.den->ρ) (body:Code) (sa:SAnn) (x:bF ps):Option ρ:=
 bif Nat.ble ps.length E.nt&&KZ (rt.outs.map (·.1)) (kN ps 0)&&a7T (rt.outs.map (·.1)) E.kp&&a6S ps then
 (Il ps x 0 λvs n=>bif Nat.ble n CB then Lc (List.range vs.length) vs (a3W ps 0 (.ret ()))else .fail).runK [] ([],[]) λ_ s _=>
  ZV E rt ret (λ_=> .fail) sa body 1 s [] ρ λfl s' _=>c0n E rt ret fl s'
 else none
theorem a2l{P:Program}{E:Env}{f:FuncId}{fn:Func}{c:Code}{ps:List MG}{ρ:Type}{rt:Ret}{ret:rt.den->ρ}{sa:SAnn}(hf:P.funcs[f]? =some fn)(hb:fn.body=some c)(hnt:fn.ntmps=E.nt)
  (hres:fn.results.toList=rt.rs.map (·.1)) (hE:EnvOk P E) (hN:a1p P E.gl sa) {w:World} {ok:Nat->Ty->Prop} {O:d4F} {vals:d4E} {x:bF ps} {y:ρ}
  (hlt:∀b t,ok b t->b<w.heap.size) (hnd:O.Nodup) (hO:∀b∈O,(∀t,¬ok b t)/\b<w.heap.size) (hgl:∀g u,fZ E.gl g=some u->Ph ⟨w.heap,ok,nom⟩ g u.1 u.2)
  (hrel:oP w.heap ok ps x vals O) (hdv:Zh w.heap vals ps vals) (hden:a2k E ps rt ret c sa x=some y) {Rr:Ending->World->Prop}
  (hR:∀r0 e w',y=ret r0->b4Q (E.gl=[]) w ok O vals ps (rt.rs.map (·.2)) (rt.outs.map (·.2)) r0 e w' ->Rr e w'):Calls P f vals.toArray w Rr:=by
 unfold a2k at hden;cases hle00:(Nat.ble ps.length E.nt&&KZ (rt.outs.map (·.1)) (kN ps 0)&&a7T (rt.outs.map (·.1)) E.kp&&a6S ps)
 .simp_all
 simp[hle00,cond_true]at hden;refine ZB (hG:=λ_=>rfl) (D:=λq an s w R K=>ZV E rt ret (λ_=> .fail) sa c q s w R K) (λ{X} h1 h2 H {mE RetP} a b=>by subst h1;subst h2;exact⟨λ{q an s wr R K r} h {m ok act w} Rl hE=>a8G H (λ_=>rfl) a b sa c hN h Rl hE⟩)
  (df:=none) (λl h=>by grind) (λl h=>by grind) hf hb hnt hres hE hlt hnd hO hgl hrel hdv hle00 (an:=.leaf) hden ?_ ?_
 .intro r0 v w' ok' O' rs os B hy g1 g2 g3 g4 g5 g6 g7 g8;exact hR r0 _ w' hy ⟨v,ok',O',rs,os,B,rfl,g1,g2,g3,g4,g5,g6,g7,g8⟩
 .intro c S S' tr a' w' _ he;cases he
theorem a6d{P:Program}{E:Env}{f:FuncId}{fn:Func}{ps:List MG}{rt:Ret}{sa:SAnn}{F:bF ps->Option rt.den}(hf:P.funcs[f]? =some fn)(hb:fn.body=some c)(hnt:fn.ntmps=E.nt)
  (hres:fn.results.toList=rt.rs.map (·.1)) (hE:EnvOk P E) (hN:a1p P E.gl sa) (hF:∀x r,F x=some r->a2k E ps rt (λr=>r) c sa x=some r):
  iZ P E.gl f ⟨ps,rt.rs.map (·.2),rt.outs.map (·.2),F⟩:=by
 intro w ok O vals x r hlt hnd hO hgl hrel hdv hfn;refine a2l hf hb hnt hres hE hN hlt hnd hO hgl hrel hdv (hF x r hfn) λr0 e w' hy hp=>?_;subst hy;exact hp
theorem a6e{P:Program}{E:Env}{f:FuncId}{fn:Func}{ps:List MG}{rt:Ret}{sa:SAnn}{dom:bF ps->rt.den->Prop}(hf:P.funcs[f]? =some fn)(hb:fn.body=some c)(hnt:fn.ntmps=E.nt)
  (hres:fn.results.toList=rt.rs.map (·.1)) (hE:EnvOk P E) (hN:a1p P E.gl sa) (hF:∀x,(∃r,dom x r)->a2k E ps rt (λr=>(dom x r:Prop)) c sa x=some True):
  Wj P E.gl f ⟨rt.den,ps,rt.rs.map (·.2),rt.outs.map (·.2),dom,λa _=>some a⟩:=by
 intro w ok O vals x hlt hnd hO hgl hrel hdv hex hall;refine a2l hf hb hnt hres hE hN hlt hnd hO hgl hrel hdv (hF x hex) λr0 e w' hy hp=>?_<;>grind
def PD(n:Nat)(p:Nat×Nat):Prop:=p.1<2^n/\p.2&&& p.1=p.2
def Dy(n:Nat)(B:Nat->Prop)(p:Nat×Nat):Prop:=PD n p/\∀x,x<2^n->x&&& p.1=p.2->B x
abbrev ptI(p:Nat×Nat):Int×Int:=((p.1:Int),(p.2:Int))
def a5s(n:Nat)(es:List ((Int×Int)×Bool)):Prop:=n<=8/\(es.map (·.1)).Nodup/\∀e∈es,e.2=true/\∃b,b<2^n/\e.1=ptI (2^n -1,b)
def Zp(n:Nat)(es:List ((Int×Int)×Bool))(x:Nat):Prop:=ptI (2^n -1,x)∈es.map (·.1)
def Ze(n:Nat)(B:Nat->Prop)(z:List ((Int×Int)×Bool)):Prop:=(z.map (·.1)).Nodup/\(∀e∈z,e.2=true)/\∀p,p∈z.map (·.1)↔∃q,Dy n B q/\p=ptI q
def Xx(x:List ((Int×Int)×Bool)×Int)(z:List ((Int×Int)×Bool)):Prop:=∃n:Nat,x.2=n/\a5s n x.1/\Ze n (Zp n x.1) z
def pcN(n:Nat):Nat:=(List.range 8).countP λi=>n.testBit i
def GY(p:Int×Int):Bool:=decide (0<=p.1)&&decide (p.1<256)
def Wy(x y:Int):Int:=if x<y then -1 else if y<x then 1 else 0
def a3S(x y:Int×Int):Int:=if Wy (pcN x.1.toNat) (pcN y.1.toNat)≠0 then Wy (pcN x.1.toNat) (pcN y.1.toNat)else if Wy x.1 y.1≠0 then Wy x.1 y.1 else Wy x.2 y.2
def ltP(x y:Int×Int):Bool:=decide (a3S x y<0)
def IX(xs:List (Int×Int))(u:Unit):Option (List (Int×Int)):=if xs.length<=1073741824/\xs.all GY=true then some (xs.mergeSort λx y=> !(ltP y x))else none
theorem YN(x y:Int×Int):ltP x y=true↔pcN x.1.toNat<pcN y.1.toNat\/(pcN x.1.toNat=pcN y.1.toNat/\(x.1<y.1\/(x.1=y.1/\x.2<y.2))):=by
 grind [ltP,a3S,Wy]
theorem R_(x:Int×Int):ltP x x=false:=by
 cases h:ltP x x
 .rfl
 .have:=(YN x x).1 h;omega
theorem a2H{x y z:Int×Int}(h:ltP x y=true)(k:ltP y z=true):ltP x z=true:=by rw[YN]at*;omega
theorem S_{x y z:Int×Int}(h:ltP x y=false)(k:ltP y z=false):ltP x z=false:=by
 cases e:ltP x z
 .rfl
 .have h' :¬ltP x y=true:=by simp_all
  have k' :¬ltP y z=true:=by simp_all
  rw[YN]at*;omega
variable {x:Int×Int}{y:Int×Int}
theorem a2G(h:ltP x y=false)(k:ltP y x=false):x=y:=by
 have h' :¬ltP x y=true:=by simp_all
 have k' :¬ltP y x=true:=by simp_all
 rw[YN]at*
 grind
end Go.GP
namespace Go.GP
open Go.RowKit Go.Sort
abbrev PTy:Ty:=.prod (.int .i64) (.int .i64)
abbrev Xw:={p:Int×Int // GY p=true}
instance:Inhabited Xw:=⟨⟨(0,0),rfl⟩⟩
def PX(p:Xw):d4E:=[.int .i64 p.1.1,.int .i64 p.1.2]
def cfP(x y:Xw):Int:=a3S x.1 y.1
theorem d4t:SWO (Go.Proofs.ltOf cfP):=⟨λx=>R_ x.1,λx y z=>a2H,λx y z=>S_⟩
def Tf:(xs:List (Int×Int))->xs.all GY=true->List Xw
 |[],_=>[]|x::xs,h=>⟨x,(Bool.and_eq_true_iff.1 (show(GY x&&xs.all GY)=true from h)).1⟩::Tf xs (Bool.and_eq_true_iff.1 (show(GY x&&xs.all GY)=true from h)).2
theorem a2w:∀(xs:List (Int×Int)) (h:xs.all GY=true),(Tf xs h).map (·.1)=xs
 |[],_=>rfl|x::xs,h=>by simp[Tf,aS,a2w xs]
theorem a8U(ys:List Xw):(ys.mergeSort λx y=> !Go.Proofs.ltOf cfP y x).map (·.1)=(ys.map (·.1)).mergeSort λx y=> !ltP y x:=
 List.map_mergeSort (r:=λx y=> !Go.Proofs.ltOf cfP y x) (s:=λx y=> !ltP y x) (f:=(·.1)) (λa _ b _=>rfl)
variable {c:Array Value}{T:TypeId}
theorem c4l{h:Array Obj}{blk k:Nat}{f:Nat×Nat}(hb:h[blk]? =some (.cells c T f)){a b:Value}(ha:c[k]? =some a)(h2:c[k+1]? =some b):fP h blk k 2=some [a,b]:=by obtain⟨ha1,ha2⟩:=I9.1 ha;obtain⟨hb1,hb2⟩:=I9.1 h2;rw[nX hb _ _ l7];simp_all [aG]
variable {d:Array Xw}
theorem a2s{i c:Nat}(hi:i<d.size)(hc:c<2):(flatK PX 2 d)[i*2+c]! =(PX d[i]!)[c]!:=by
 rw[get_flatK _ _ _ _ l7]
 grind
variable {w:World}
theorem a1w{ok:Nat->Ty->Prop}{m:Mp}{xs:List (Int×Int)}(hxs:d.toList.map (·.1)=xs){blk off len cap sz:Nat}(h:arrOk ⟨w.heap,ok,m⟩ PTy xs (.arr blk off len cap sz)):HoldsK PX 2 w blk off d:=by
 obtain⟨_,rfl,rfl,hc,c,T,f,hb,hz,hs,hx⟩:=h;have hz:=hz.elim id (λh=>nomatch h.1);intro t ht;have ht' :t<d.size*2:=by simp_all
 obtain⟨i,c',hi,hc',rfl⟩:∃i c',i<d.size/\c' <2/\t=i*2+c' :=⟨t / 2,t % 2,l7,l7,l7⟩;rw[a2s hi hc'];have hxi:xs[i]? =some (d[i]!).1:=by
  grind
 obtain⟨es,he,hr⟩:=hx i _ hxi;obtain⟨a,b,rfl,hra,hrb⟩:=hr;have hra:=hra;subst hra;subst hrb;have he' :=he;refine⟨?_,by grind [World.frozen?]⟩;rw[←jm];refine zl he' ?_;rcases(show c' =0\/c' =1 by omega)with rfl|rfl<;>rfl
theorem a9H{blk off n:Nat}{fr:Nat×Nat}(hb:w.heap[blk]? =some (.cells c T fr))(d:Array Value):
  (putRow id (Sort.ahead w n) blk off d).heap[blk]? =some (.cells (putCells id off d c) T fr):=by
 show(w.heap.modify blk (onCells (putCells id off d)))[blk]? =_;rw[Array.getElem?_modify,if_pos rfl,hb];rfl
theorem a7m{blk off n b:Nat}(h:b≠blk)(d:Array Value):(putRow id (Sort.ahead w n) blk off d).heap[b]? =w.heap[b]?:=by
 show(w.heap.modify blk (onCells (putCells id off d)))[b]? =_
 grind
theorem b5d{h:Array Obj}{ok:Nat->Ty->Prop}{m:Mp}{blk off cap:Nat}{ys:List (Int×Int)}(hb:h[blk]? =some (.cells (putCells id off (flatK PX 2 d) c) T (0,0)))
  (hfit:off+cap*2<=c.size) (hys:d.toList.map (·.1)=ys) (hd:ys.length<=cap):arrOk ⟨h,ok,m⟩ PTy ys (.arr blk off ys.length cap 2):=by
 have hl:ys.length=d.size:=by grind
 refine⟨rfl,rfl,rfl,hd,_,T,_,hb,.inl rfl,by simp_all [putCells],λi y hi=>?_⟩;have hi' :i<d.size:=by grind
 have hy:y=(d[i]!).1:=by
  grind
 subst hy;refine⟨[.int .i64 (d[i]!).1.1,.int .i64 (d[i]!).1.2],?_,⟨[_],[_],rfl,rfl,rfl⟩⟩;have hc:∀c',c' <2->(putCells id off (flatK PX 2 d) c)[off+i*2+c']? =some (PX d[i]!)[c']!:=λc' hc' =>by unfold putCells;rw[Array.getElem?_mapIdx,I5 l7];simp only[iC,size_flatK];rw[if_pos l7,show off+i*2+c' -off=i*2+c' by omega,a2s hi' hc'];rfl
 exact c4l hb (hc 0 l7) (hc 1 l7)
theorem a8x{P:Program}{g:Nat}{F:(Int×Int)×(Int×Int)->d4H}(h:iZ P [] g ⟨[(true,.dat PTy),(true,.dat PTy)],[(false,.dat (.int .i64))],[],F⟩)
  (hF:∀x y,GY x=true->GY y=true->F (x,y)=some (a3S x y)) (blk off size:Nat) (w:World):Go.Proofs.CmpLays P g #[] PX 2 cfP blk off size w:=by
 intro m os dk _ x y;generalize Go.Proofs.sortWorldK PX 2 w blk off m dk os=W;have hrel:oP W.heap (λ_ _=>False) [(true,.dat PTy),(true,.dat PTy)] (x.1,y.1) [.agg (PX x).toArray,.agg (PX y).toArray] []:=
  ⟨_,PX x,_,[],[],rfl,rfl,⟨_,rfl,rfl⟩,⟨⟨[_],[_],rfl,rfl,rfl⟩,rfl⟩,_,PX y,rfl,⟨_,rfl,rfl⟩,⟨[_],[_],rfl,rfl,rfl⟩,rfl⟩
 refine(h W (λ_ _=>False) [] _ (x.1,y.1) (a3S x.1 y.1) (λ_ _ h=>h.elim) x9 x9 (λg u h=>by grind [fZ]) hrel (by simp[Zh]) (hF _ _ x.2 y.2)).mono ?_;rintro e w' ⟨v,ok',O',rs,os',B,rfl,hfr,_,_,_,_,⟨hl1,hrv⟩,_,hres⟩;obtain⟨v1,cs,hv,hcs,hrep,_⟩:=hres;subst hcs;obtain rfl:=(bf hrep).1;cases os' with
 |cons a l=>grind [List.length_cons]|nil=>
  rw[G9]at hv;subst hv;subst hrv;refine⟨rfl,w'.drawn -W.drawn,w'.heap.extract W.heap.size w'.heap.size,?_⟩;have h1:=hfr.drawn rfl;have h2:w'.heap=W.heap++w'.heap.extract W.heap.size w'.heap.size:=by
   apply Array.ext_getElem?;intro b;rw[Array.getElem?_append];by_cases hb:b<W.heap.size
   .rw[if_pos hb];exact hfr.block b hb x9
   grind
  cases w' with
  |mk h' t' d' o' u' =>
   cases W with
   |mk h0 t0 d0 o0 u0=>have e1:=hfr.os;have e2:=hfr.tape;have e3:=hfr.output;simp only[grow,World.drewN];have h1:d0<=d' :=h1;congr 1;omega
theorem a7k{P:Program}{ρ:Go.Shelf.Ren}{gl:List (Nat×(t:Ty)×List t.den)}{g:Nat}{F:(Int×Int)×(Int×Int)->d4H}(L:Go.Proofs.SlLaysF0.n6 P ρ)
  (aE:∀w,(isAgg (ρ.t 24)).run P w= .ok true w) (zE:∀w,(Go.sizeOf (ρ.t 24)).run P w= .ok 2 w) (eg:∀args w,(callFunc g args).run P w= .ok (.enter g args) w)
  (h:iZ P [] g ⟨[(true,.dat PTy),(true,.dat PTy)],[(false,.dat (.int .i64))],[],F⟩) (hF:∀x y,GY x=true->GY y=true->F (x,y)=some (a3S x y)):
  iZ P gl (ρ.f 6) ⟨[(false,.ownb PTy),(false,.fn g [])],[],[(false,.own PTy)],λx=>IX x.1 x.2⟩:=by
 intro w ok O vals x r hlt hnd hO _ hrel hdv hfn;obtain⟨v,cs,vs',O1,O2,rfl,rfl,h1,⟨l,v',hcs,hv,ha,rfl⟩,v2,cs2,rfl,h3,⟨vs,hfn2,hcap,rfl⟩⟩:=hrel;have h1:cs=[v]:=h1;rw[h1]at hcs;simp only[J3,and_true]at hcs;subst hcs;have h3:cs2=[v2]:=h3;rw[h3]at hfn2;obtain rfl:=(bf hfn2).1;have hvs:vs=#[]:=by have:vs.toList=[]:=hcap;simp_all
 subst hvs;obtain⟨x,u⟩:=x;simp only[IX]at hfn;split at hfn
 .rename_i hx;cases hfn;cases l with
  |st b=>cases ha|mp b=>cases ha.1|nil=>
   have ha:x=[]:=ha.1;subst ha;have hv:v= .slice none 0 0:=hv;subst hv;refine(Go.Proofs.AnyF.slices_SortFunc_none L none 0 (.func (.func g) #[] #[]) w).mono λe w' ⟨he,hw⟩=>?_;subst he;subst hw;exact⟨_,ok,[],[],[.slice none 0 0],[],rfl,Frame'.refl _ _,λ_ _ h=>h,λb t h=>⟨hlt b t h,.inl h⟩,x9,x9,⟨rfl,rfl⟩,⟨[],rfl,rfl,rfl⟩,
    ⟨_,_,rfl,rfl,zy.2 ⟨.nil,_,rfl,rfl,(by simp_all),rfl⟩⟩⟩
  |arr blk off len cap sz=>
   have hmp:=a2w x hx.2;have hH:=a1w (d:=(Tf x hx.2).toArray) l7 ha;obtain⟨_,rfl,rfl,hc,c,T,f,hb,hz,hs,hx'⟩:=ha;have hz:f=(0,0):=hz.elim id (λh=>nomatch h.1);subst hz;have hv:v= .slice (some ⟨blk,off,none⟩) x.length cap:=hv;subst hv;have hfree:=hO blk (by simp[Loc.blks]);have hsz:(Tf x hx.2).toArray.size=x.length:=by
    grind
   have hC:=Go.Proofs.AnyQ.slices_SortFunc_total L 2 aE zE PX (λ_=>rfl) (λx v hv=>by simp[PX]at hv;rcases hv with rfl|rfl<;>rfl) cfP d4t g #[] blk off cap (Tf x hx.2).toArray w eg
    (a8x h hF _ _ _ _) hH hfree.2 l7 (λa b h1 h2=>Subtype.ext (a2G h1 h2))
   rw[hsz]at hC;refine hC.mono λe w' ⟨he,n,os,hw⟩=>?_;subst he;have hys:=a8U (Tf x hx.2);rw[hmp]at hys;have hlen:(x.mergeSort λx y=> !ltP y x).length=x.length:=List.length_mergeSort ..;have hpsz:(putRow id (Sort.ahead w n) blk off (flatK PX 2 (((Tf x hx.2).toArray.toList.mergeSort λx y=> !Go.Proofs.ltOf cfP y x).toArray))).heap.size=w.heap.size:=x9;have hw' :w' =Sort.grow (putRow id (Sort.ahead w n) blk off (flatK PX 2 (((Tf x hx.2).toArray.toList.mergeSort λx y=> !Go.Proofs.ltOf cfP y x).toArray))) os:=hw;have hold:∀b,b<w.heap.size->w'.heap[b]? =(putRow id (Sort.ahead w n) blk off (flatK PX 2 (((Tf x hx.2).toArray.toList.mergeSort λx y=> !Go.Proofs.ltOf cfP y x).toArray))).heap[b]?:=λb hb=>by
    rw[hw'];show(_++os)[b]? =_
    grind
   have hge:w.heap.size<=w'.heap.size:=by grind
   have g1:=(hold blk hfree.2).trans (a9H hb _);have harr:=b5d (ok:=ok) (m:=nom) (cap:=cap) (ys:=x.mergeSort λx y=> !ltP y x) g1 (by simp_all [Ty.size]) l7 (by simp_all);rw[hlen]at harr;refine⟨_,ok,[blk],[],[.slice (some ⟨blk,off,none⟩) x.length cap],[],rfl,⟨by rw[hw'];rfl,by rw[hw'];rfl,by rw[hw'];rfl,hge,λb h1 h2=>?_,λ_=>by rw[hw'];exact Z8 _ _⟩,λ_ _ h=>h,
    λb t h=>⟨Y9 (hlt b t h) hge,.inl h⟩,x9,λb hb=>?_,⟨rfl,rfl⟩,⟨[],rfl,rfl,rfl⟩,⟨_,_,rfl,rfl,zy.2 ⟨.arr blk off x.length cap 2,_,rfl,rfl,harr,rfl⟩⟩⟩<;>grind [a7m,Loc.blks]
 grind
end Go.GP
