import Derived.Test.YtmppebmaeckklaaGreatDoorV1
import Derived.LoopN
import Derived.Laws.StructEq
import Derived.ChangeSame
import Derived.Carry
import Derived.SizedLaws
import Derived.Deep.DeepHandedRow
import Derived.Lib.LaidTab
import Derived.Lib.ItoaNum
import Derived.Lib.ItoaMem
import Derived.Lib.Repeat
import Derived.Sort.Grow
import Derived.Lib.SlicesCompact
import Derived.Lib.Bytealg
import Derived.Sort.Row
import Derived.Shelf.Strings.BuilderF
import Derived.Shelf.Strings.IndexAnyAll
import Derived.Lib.IndexMore
import Derived.Shelf.Strings.Split
import Derived.Lib.FrozenHead2
import Derived.Maps.RangeRun
import Derived.Shelf.SlSortCmp.NoneTotal
set_option linter.all false
namespace Go.GP
variable {k:Nat}{o:Oper}{f:FuncId}{c:Int}{s:St}{S1:Sm}{tr:Tr}{s':St}{α:Type}{n:Nat}
section
variable {X:Fx} {q:Nat} {ops:Array Oper} {S:Nat->Sm} {T:Nat->Tr} {m0:Mp} {ok0:Nat->Ty->Prop} {Q:Exit->Act->World->Prop}
theorem DV(H:FxOk X){i:Nat}(hi:ops[i]? =some o){S1 S2:Sm}{t:Tr}(he:(oz X.E q ops.toList o).eval S1 ([],[])=some ((),S2,t)){m:Mp}{ok:Nat->Ty->Prop}{a:Act}{w:World}
  (R:Rel X (CB*q) (CB*q+CB) S1 m ok a w) {next:Act->World->Prop}
  (hn:∀m' ok' a' w',Rel X (CB*q) (CB*q+CB) S2 m' ok' a' w' ->(∀k l,m k=some l->m' k=some l)->(∀b t,ok b t->ok' b t)->next a' w'):wpOp X.P ops Q i next a w:=
 oh (a4M H R hi) he next Q hn
theorem Tz(H:FxOk X)(hc:UD X.E q ops.toList ops.toList S T)
  (hQ:∀m' ok' a' w',Rel X (CB*q) (CB*q+CB) (S ops.size) m' ok' a' w' ->(∀k l,m0 k=some l->m' k=some l)->(∀b t,ok0 b t->ok' b t)->Q .normal a' w'):
  ∀(n k:Nat) {m:Mp} {ok:Nat->Ty->Prop} {a:Act} {w:World},k+n=ops.size->Rel X (CB*q) (CB*q+CB) (S k) m ok a w->(∀k l,m0 k=some l->m k=some l)->(∀b t,ok0 b t->ok b t)->wpOps X.P ops Q (List.range' k n) a w
 |0,k,m,ok,a,w,hk,R,hm,hok=>by have:k=ops.size:=l7;subst this;exact hQ m ok a w R hm hok
 |n+1,k,m,ok,a,w,hk,R,hm,hok=>by rw[fV,wpOps_cons];have hi:ops[k]? =some (ops[k]'l7):=H7 _;refine DV H hi (hc k _ (by rw[I4];exact hi)) R λm' ok' a' w' R' k1 k2=>?_;exact Tz H hc hQ n (k+1) l7 R' (λk l h=>k1 k l (hm k l h)) (λb t h=>k2 b t (hok b t h))
theorem a6V(H:FxOk X){md:Region.Mode}(hc:UD X.E q ops.toList ops.toList S T){M:Nat->Nat}
  {ex:Nat->Nat->Prop} (hpair:∀i j,i<j->j<ops.size->a0w (λi j=>Nat.testBit (M j) i=true) ex T i j)
  (hex:∀i j,i<j->j<ops.size->ex i j->∃S',(oz X.E q ops.toList (ops.getD i default)).eval (S (j+1)) ([],[])=some ((),S',T i)/\∀k∈(T i).2,S' k=S (i+1) k)
  (hM:∀i o,ops[i]? =some o->∀j,Nat.testBit (M i) j=true->∃e∈o.after.toList,qH e/\(j=e.on\/Nat.testBit (M e.on) j=true)) (hrk:AZ md ops)
  (hQ:∀m' ok' a' w',Rel X (CB*q) (CB*q+CB) (S ops.size) m' ok' a' w' ->(∀k l,m0 k=some l->m' k=some l)->(∀b t,ok0 b t->ok' b t)->Q .normal a' w'):
  ∀(aT:Nat) {D:c5B} {rD:Array Bool} {m:Mp} {ok:Nat->Ty->Prop} {a:Act} {w:World},aT+D.length=ops.size->D.Nodup->(∀j∈D,j<ops.size)->rD.size=ops.size->(∀i,i<ops.size->(rD.getD i false=true↔i∈D))->
   (∀j∈D,∀k,Nat.testBit (M j) k=true->k∈D)->Rel X (CB*q) (CB*q+CB) (SD S T D ops.size) m ok a w->(∀k l,m0 k=some l->m k=some l)->(∀b t,ok0 b t->ok b t)->
   wpAny X.P md ops Q aT rD a w:=by
 have hs:∀i,i<ops.size->(oz X.E q ops.toList (ops.getD i default)).eval (S i) ([],[])=some ((),S (i+1),T i):=λi hi=>by refine hc i _ ?_;simp[Array.getD,hi]
 obtain⟨rk,hrk⟩:=hrk;intro aT;induction aT with
 |zero=>
  intro D rD m ok a w hf hD hlt hsz hl hdown R hm hok;have hall:=a7C hD hlt l7;refine⟨?_,?_⟩
  .cases hr:Region.ready md ops rD with
   |nil=>rfl|cons x xs=>
    have hx:x∈Region.ready md ops rD:=by rw[hr];simp
    obtain⟨h1,o,ho,_⟩:=mem_ready.1 hx;have hxl:=(G7.1 ho).1;have:=(hl x hxl).2 (hall x hxl);rw[U1]at h1 this;cases hg:rD[x]? with
    |none=>rw[hg]at this;cases this|some y=>rw[hg]at h1 this;simp only[dW]at h1 this;rw[h1]at this;cases this
  .refine hQ m ok a w ?_ hm hok;rwa[a8v (c:=λi=>oz X.E q ops.toList (ops.getD i default)) hs hall]at R
 |succ aT ih=>
  intro D rD m ok a w hf hD hlt hsz hl hdown R hm hok;refine⟨λhr=>?_,λi hi=>?_⟩
  .have hall:∀n i,rk i<n->i<ops.size->i∈D:=by
    intro n;induction n with
    |zero=>intro i hi _;omega|succ n ihn=>
     intro i hi hil;refine nX λhni=>?_;have hin:i∈Region.ready md ops rD:=by
      refine mem_ready.2 ⟨?_,ops[i],H7 hil,λe he hb=>?_⟩
      .have h1:¬rD.getD i false=true:=λh=>hni ((hl i hil).1 h);rw[U1]at h1 ⊢;rw[H7 l7]at h1 ⊢;simpa using h1
      .obtain⟨g1,g2⟩:=hrk i _ (H7 hil) e (by simpa using he) hb;exact(hl e.on g1).2 (ihn e.on l7 g1)
     rw[hr]at hin;cases hin
   refine hQ m ok a w ?_ hm hok;rwa[a8v (c:=λi=>oz X.E q ops.toList (ops.getD i default)) hs (λi hi=>hall _ i (Nat.lt_succ_self _) hi)]at R
  .obtain⟨h1,o,ho,h2⟩:=mem_ready.1 hi;have hil:=(G7.1 ho).1;have hnD:i∉D:=λh=>by
    have:=(hl i hil).2 h;rw[U1]at h1 this;rw[H7 l7]at h1 this;simp only[dW]at h1 this;rw[h1]at this;cases this
   have hp:∀j,Nat.testBit (M i) j=true->j∈D:=λj hj=>by
    obtain⟨e,he,hpl,h3⟩:=hM i o ho j hj;have hlst:=h2 e (by simpa using he) (hpl.binds md);have hon:e.on<ops.size:=(hrk i o ho e he (hpl.binds md)).1;have honD:=(hl e.on hon).1 hlst;rcases h3 with rfl|h3
    .exact honD
    .exact hdown e.on honD j h3
   have hgd:ops.getD i default=o:=by rw[U1,ho];rfl
   have hstep:=a0x (c:=λi=>oz X.E q ops.toList (ops.getD i default)) (S:=S) (T:=T) (n:=ops.size) hs (ord:=λi j=>Nat.testBit (M j) i=true) (ex:=ex)
    hpair hex hil hnD hlt hp hdown
   simp only[hgd]at hstep;refine DV H ho hstep R λm' ok' a' w' R' k1 k2=>?_;refine ih (D:=i::D) F8 (X3.2 ⟨hnD,hD⟩) (λj hj=>?_) (by simp[hsz]) (λj hj=>?_) (λj hj k hk=>?_) R' (λk l h=>k1 k l (hm k l h)) (λb t h=>k2 b t (hok b t h))
   .rcases D5.1 hj with rfl|hj
    .exact hil
    .exact hlt j hj
   .by_cases e:i=j
    .subst e;simp[Array.getD,hsz,hil]
    .rw[getD_set_ne false e,hl j hj];simp[Ne.symm e]
   .rcases D5.1 hj with rfl|hj
    .exact U3 _ (hp k hk)
    .exact U3 _ (hdown j hj k hk)
theorem a1I(H:FxOk X)(hi:ops[k]? =some o)(hp:Dc X.E o=some f){S1 S2:Sm}{t:Tr}(he:(Hr X.E q ops.toList o f).eval S1 ([],[])=some (some c,S2,t)){m:Mp}{ok:Nat->Ty->Prop}{a:Act}{w:World}
  (R:Rel X (CB*q) (CB*q+CB) S1 m ok a w) {next:Act->World->Prop}
  (hn:c≠0->∀m' ok' w',Rel X (CB*q) (CB*q+CB) S2 m' ok' a w' ->(∀k l,m k=some l->m' k=some l)->(∀b t,ok b t->ok' b t)->Q (.panic (yh X.P c)) a w'):wpOp X.P ops Q k next a w:=by
 obtain⟨h1,h2⟩:=oh (Xl H R hi hp) he;exact h2 next Q (hn h1)
theorem Zu(H:FxOk X){k:Nat}{o:Oper}{f:FuncId}{c:Int}{S2:Sm}{tr:Tr}(hi:ops[k]? =some o)(hp:Dc X.E o=some f)(hc:TU k X.E q ops.toList ops.toList S T)
  (he:(Hr X.E q ops.toList o f).eval (S k) ([],[])=some (some c,S2,tr))
  (hQ:c≠0->∀m' ok' a' w',Rel X (CB*q) (CB*q+CB) S2 m' ok' a' w' ->(∀k l,m0 k=some l->m' k=some l)->(∀b t,ok0 b t->ok' b t)->Q (.panic (yh X.P c)) a' w'):
  ∀(n j:Nat) {m:Mp} {ok:Nat->Ty->Prop} {a:Act} {w:World},j+n=k->Rel X (CB*q) (CB*q+CB) (S j) m ok a w->(∀k l,m0 k=some l->m k=some l)->(∀b t,ok0 b t->ok b t)->wpOps X.P ops Q (List.range' j (ops.size -j)) a w
 |0,j,m,ok,a,w,hk,R,hm,hok=>by have hjk:j=k:=l7;subst hjk;have hlt:=(G7.1 hi).1;rw[show ops.size -j=(ops.size -j -1)+1 by omega,fV,wpOps_cons];exact a1I H hi hp he R λh0 m' ok' w' R' k1 k2=>hQ h0 m' ok' a w' R' (λk l h=>k1 k l (hm k l h)) (λb t h=>k2 b t (hok b t h))
 |n+1,j,m,ok,a,w,hk,R,hm,hok=>by have hlt:=(G7.1 hi).1;rw[show ops.size -j=(ops.size -j -1)+1 by omega,fV,wpOps_cons];have hj:ops[j]? =some (ops[j]'l7):=H7 _;refine DV H hj (hc j _ l7 (by rw[I4];exact hj)) R λm' ok' a' w' R' k1 k2=>?_;rw[show ops.size -j -1=ops.size -(j+1) by omega];exact Zu H hi hp hc he hQ n (j+1) l7 R' (λk l h=>k1 k l (hm k l h)) (λb t h=>k2 b t (hok b t h))
theorem PD:∀(k:Nat) {D:c5B},D.Nodup->(∀j∈D,j<k)->D.length<=k
 |0,D,_,h=>by
  cases D with
  |nil=>exact A8 _|cons a l=>exact absurd (h a A7) (Nat.not_lt_zero _)
 |k+1,D,hn,h=>by
  have h2:=PD k (hn.erase k) (λj hj=>by obtain⟨h3,h4⟩:=hn.mem_erase_iff.1 hj;have:=h j h4;omega)
  rw[List.length_erase]at h2;split at h2<;>omega
theorem a8A(H:FxOk X){md:Region.Mode}(hi:ops[k]? =some o)(hp:Dc X.E o=some f){c2:Nat->Cmd Unit}{S2:Nat->Sm}{T2:Nat->Tr}
  (hs:∀i,i<ops.size->(c2 i).eval (S2 i) ([],[])=some ((),S2 (i+1),T2 i)) {M:Nat->Nat} (hc2:∀i o,ops[i]? =some o->i≠k->¬Nat.testBit (M i) k=true->c2 i=oz X.E q ops.toList o)
  (he:(Hr X.E q ops.toList o f).eval (S2 k) ([],[])=some (some c,S1,tr))
  (hpair:∀i j,i<j->j<ops.size->a0w (λi j=>Nat.testBit (M j) i=true) (λ_ _=>False) T2 i j) (hpk:∀i,i<k->Nat.testBit (M k) i=true\/Yg (T2 i) tr) (hpl:∀j,k<=j->j<ops.size->∀z∈tr.1,z∉(T2 j).2)
  (hM:∀i o,ops[i]? =some o->∀j,Nat.testBit (M i) j=true->∃e∈o.after.toList,qH e/\(j=e.on\/Nat.testBit (M e.on) j=true)) (hrk:AZ md ops)
  (hQ:c≠0->∀S3 m' ok' a' w',Rel X (CB*q) (CB*q+CB) S3 m' ok' a' w' ->(∀k l,m0 k=some l->m' k=some l)->(∀b t,ok0 b t->ok' b t)->(∀z,(∀i,i<ops.size->z∉(T2 i).2)->S3 z=if z∈tr.2 then S1 z else S2 ops.size z)->Q (.panic (yh X.P c)) a' w'):
  ∀(aT:Nat) {D:c5B} {rD:Array Bool} {m:Mp} {ok:Nat->Ty->Prop} {a:Act} {w:World},aT+D.length=ops.size->D.Nodup->(∀j∈D,j<ops.size)->k∉D->rD.size=ops.size->(∀i,i<ops.size->(rD.getD i false=true↔i∈D))->
   (∀j∈D,∀k,Nat.testBit (M j) k=true->k∈D)->Rel X (CB*q) (CB*q+CB) (SD S2 T2 D ops.size) m ok a w->(∀k l,m0 k=some l->m k=some l)->(∀b t,ok0 b t->ok b t)->
   wpAny X.P md ops Q aT rD a w:=by
 have hklt:=(G7.1 hi).1;obtain⟨rk,hrk⟩:=hrk;intro aT;induction aT with
 |zero=>
  intro D rD m ok a w hf hD hlt hkD hsz hl hdown R hm hok;exfalso;have:=PD ops.size (X3.2 ⟨hkD,hD⟩) (λj hj=>by
   rcases D5.1 hj with rfl|hj
   .exact hklt
   .exact hlt j hj)
  simp at this;omega
 |succ aT ih=>
  intro D rD m ok a w hf hD hlt hkD hsz hl hdown R hm hok;refine⟨λhr=>?_,λi hir=>?_⟩
  .exfalso;have hall:∀n i,rk i<n->i<ops.size->i∈D:=by
    intro n;induction n with
    |zero=>intro i hi _;omega|succ n ihn=>
     intro i hi hil;refine nX λhni=>?_;have hin:i∈Region.ready md ops rD:=by
      refine mem_ready.2 ⟨?_,ops[i],H7 hil,λe he hb=>?_⟩
      .have h1:¬rD.getD i false=true:=λh=>hni ((hl i hil).1 h);rw[U1]at h1 ⊢;rw[H7 l7]at h1 ⊢;simpa using h1
      .obtain⟨g1,g2⟩:=hrk i _ (H7 hil) e (by simpa using he) hb;exact(hl e.on g1).2 (ihn e.on l7 g1)
     rw[hr]at hin;cases hin
   exact hkD (hall _ k (Nat.lt_succ_self _) hklt)
  .obtain⟨h1,o',ho,h2⟩:=mem_ready.1 hir;have hil:=(G7.1 ho).1;have hnD:i∉D:=λh=>by
    have:=(hl i hil).2 h;rw[U1]at h1 this;rw[H7 l7]at h1 this;simp only[dW]at h1 this;rw[h1]at this;cases this
   have hpre:∀j,Nat.testBit (M i) j=true->j∈D:=λj hj=>by
    obtain⟨e,he,hpl,h3⟩:=hM i o' ho j hj;have hlst:=h2 e (by simpa using he) (hpl.binds md);have hon:e.on<ops.size:=(hrk i o' ho e he (hpl.binds md)).1;have honD:=(hl e.on hon).1 hlst;rcases h3 with rfl|h3
    .exact honD
    .exact hdown e.on honD j h3
   by_cases hik:i=k
   .subst hik;rw[hi]at ho;cases ho;have hrd:∀z,z∈tr.1->SD S2 T2 D ops.size z=S2 i z:=λz hz=>by
     rw[OQ D z i ops.size l7 (λj g1 g2 hw=>absurd hw (hpl j g1 g2 z hz))];refine Dw hs D z i l7 λj hj hw=>?_;rcases hpk j hj with h|h
     .exact hpre j h
     .exact absurd hz (h.1 z hw).1
    obtain⟨T',g1,g2,g3,g4⟩:=tV he (SD S2 T2 D ops.size) hrd;refine a1I H hi hp g1 R λh0 m' ok' w' R' k1 k2=>hQ h0 T' m' ok' a w' R' (λk l h=>k1 k l (hm k l h)) (λb t h=>k2 b t (hok b t h)) λz hz=>?_;by_cases hzt:z∈tr.2
    .rw[if_pos hzt];exact g4 z hzt A7
    .rw[if_neg hzt,g3 z hzt];exact Dw hs D z ops.size (A8 _) λj hj hw=>absurd hw (hz j hj)
   .have hnk:¬Nat.testBit (M i) k=true:=λh=>hkD (hpre k h);have hstep:=a0x (c:=c2) (S:=S2) (T:=T2) (n:=ops.size) hs (ord:=λi j=>Nat.testBit (M j) i=true) (ex:=λ_ _=>False)
     hpair (λ_ _ _ _ h=>h.elim) hil hnD hlt hpre hdown
    rw[hc2 i o' ho hik hnk]at hstep;refine DV H ho hstep R λm' ok' a' w' R' k1 k2=>?_;refine ih (D:=i::D) F8 (X3.2 ⟨hnD,hD⟩) (λj hj=>?_) (λh=>?_) (by simp[hsz]) (λj hj=>?_) (λj hj z hz=>?_) R' (λk l h=>k1 k l (hm k l h)) (λb t h=>k2 b t (hok b t h))
    .rcases D5.1 hj with rfl|hj
     .exact hil
     .exact hlt j hj
    .rcases D5.1 h with h|h
     .exact hik h.symm
     .exact hkD h
    .by_cases e:i=j
     .subst e;simp[Array.getD,hsz,hil]
     .rw[getD_set_ne false e,hl j hj];simp[Ne.symm e]
    .rcases D5.1 hj with rfl|hj
     .exact U3 _ (hpre z hz)
     .exact U3 _ (hdown j hj z hz)
theorem Td(H:FxOk X)(h0:S 0=U7 s)(h1:S ops.size=U7 s')(hc:UD X.E q ops.toList ops.toList S T){draw:Bool}{ex:Nat->Nat->Prop}
  (hex:∀i j,i<j->j<ops.size->ex i j->∃S',(oz X.E q ops.toList (ops.getD i default)).eval (S (j+1)) ([],[])=some ((),S',T i)/\∀k∈(T i).2,S' k=S (i+1) k)
  (hdraw:draw=true->∃M:Nat->Nat,TQ ops.toList 0 []=some ((List.range ops.size).map M).reverse/\(∀i j,i<j->j<ops.size->a0w (λi j=>Nat.testBit (M j) i=true) ex T i j)/\
   (bif Ak ops.toList then true else Xq .text ops.toList ops.toList.length []&&Xq .gc ops.toList ops.toList.length [])=true):
  (∀k,(∀x∈((List.range ops.size).map T).reverse,k∉x.2)->U7 s' k=U7 s k)/\
   ∀{m:Mp} {ok:Nat->Ty->Prop} {a:Act} {w:World} {id:Nat} {Q:Exit->Act->World->Prop},Rel X (CB*q) (CB*q+CB) (U7 s) m ok a w->
    (∀m' ok' a' w',Rel X (CB*q) (CB*q+CB) (U7 s') m' ok' a' w' ->(∀k l,m k=some l->m' k=some l)->(∀b t,ok b t->ok' b t)->Q .normal a' w')->(Code.region id ops draw).wp X.P Q a w:=by
 have hfr:∀k,(∀x∈((List.range ops.size).map T).reverse,k∉x.2)->U7 s' k=U7 s k:=λk hk=>by
  have:∀n,n<=ops.size->S n k=S 0 k:=by
   intro n;induction n with
   |zero=>intro _;rfl|succ n ih=>intro hn;have hi:ops[n]? =some (ops[n]'l7):=H7 _;rw[qW (hc n (ops[n]'l7) (by rw[I4];exact hi)) k (hk (T n) (by simp;exact⟨n,l7,rfl⟩)),ih l7]
  rw[←h1,←h0];exact this ops.size (A8 _)
 cases draw with
 |false=>refine⟨hfr,λ{m ok a w id Q} R hQ=>wp_region ?_⟩;rw[kC];rw[←h0]at R;refine Tz H hc (m0:=m) (ok0:=ok) (by rw[h1];exact hQ) ops.size 0 l7 R (λ_ _ h=>h) (λ_ _ h=>h)|true=>
  obtain⟨M0,hp,hpair,hd⟩:=hdraw rfl;obtain⟨M,hMM,_,hM⟩:=Hg (M:=λ_=>0) ops.toList (n:=0) hp;simp only[fG,J5]at hd hM hMM;have hMM:∀k,k<ops.size->M0 k=M k:=λk hk=>by have e1:=FZ (M:=M0) hk;rw[hMM,FZ hk]at e1;exact e1.symm
  have hM:∀i o,ops[i]? =some o->(∀e∈o.after.toList,qH e->e.on<i)/\∀j,Nat.testBit (M0 i) j=true->∃e∈o.after.toList,qH e/\(j=e.on\/Nat.testBit (M0 e.on) j=true):=λi o ho=>by have hil:=(G7.1 ho).1;obtain⟨g1,g2⟩:=hM i o (by simpa using ho);refine⟨g1,λj hj=>?_⟩;rw[hMM i hil]at hj;obtain⟨e,he,hpl,h3⟩:=g2 j hj;exact⟨e,he,hpl,by rw[hMM e.on (by have:=g1 e he hpl;omega)];exact h3⟩
  have hidr:∀md,(∀(i:Nat) (o:Oper),ops[i]? =some o->∀e∈o.after.toList,Region.binds md e=true->qH e)->AZ md ops:=λmd hpl=>by refine⟨λi=>i,λi o ho e he hb=>?_⟩;have hil:=(G7.1 ho).1;have:=(hM i o ho).1 e he (hpl i o ho e he hb);exact⟨l7,this⟩
  have hany:AZ .any ops:=hidr .any λi o ho e he hb=>Yo hb;have hboth:AZ .text ops/\AZ .gc ops:=by
   cases hpo:Ak ops.toList
   .simp only[hpo,cond_false,x9]at hd;exact⟨zJ (rk:=λ_=>0) _ hd.1 A7 A7 A7,zJ (rk:=λ_=>0) _ hd.2 A7 A7 A7⟩
   .have hpl:∀(i:Nat) (o:Oper),ops[i]? =some o->∀e∈o.after.toList,qH e:=λi o ho e he=>Gi hpo o (by simpa using Array.mem_of_getElem? ho) e he;exact⟨hidr _ λi o ho e he _=>hpl i o ho e he,hidr _ λi o ho e he _=>hpl i o ho e he⟩
  refine⟨hfr,λ{m ok a w id Q} R hQ=>wp_region_draw λt=>?_⟩;have R' :Rel X (CB*q) (CB*q+CB) (SD S T [] ops.size) m ok a { w with drawn:=w.drawn+1 }:=by rw[a8w,h0];exact R.same rfl rfl rfl rfl (λ_=>fE _)
  have main:∀md,AZ md ops->∀t,wpOps X.P ops Q (Region.linearise md ops t) a { w with drawn:=w.drawn+1 }:=λmd hr t=>by unfold Region.linearise;refine wpAny_sound ops.size t _ a _ ?_;refine a6V H hc hpair hex (λi o ho=>(hM i o ho).2) hr (m0:=m) (ok0:=ok) (by rw[h1];exact hQ) ops.size (D:=[]) A7 aW A7 A7 (λi hi=>?_) A7 R' (λ_ _ h=>h) (λ_ _ h=>h);simp[Array.getD,hi]
  unfold Region.schedule;split
  .exact main _ hany t
  .split
   .exact main _ hboth.1 _
   .exact main _ hboth.2 _
theorem a0m{z:Nat} :∀{t:Trs},z∉wrs t->∀x∈t,z∉x.2
 |[],_,x,hx=>by cases hx|y::t,h,x,hx=>by
  unfold wrs at h;rcases D5.1 hx with rfl|hx
  .exact λhz=>h (Z5 _ hz)
  .exact a0m (λhz=>h (bQ _ hz)) x hx
theorem XX(M:Nat->α)(h:k<=n):((List.range n).map M).reverse.drop (n -k)=((List.range k).map M).reverse:=by
 apply au;intro i;rw[O0];by_cases hi:i<k
 .rw[jO F8,jO F8];simp only[J6,V4];rw[W9,W9,iD l7,iD l7];congr 2;omega
 .rw[U8 F8,U8 F8]
theorem a4h(H:FxOk X)(hi:ops[k]? =some o)(hp:Dc X.E o=some f)(h0:S 0=U7 s)(hc:TU k X.E q ops.toList ops.toList S T)
  (he:(Hr X.E q ops.toList o f).eval (S k) ([],[])=some (some c,U7 s',tr)):
  ∀{m:Mp} {ok:Nat->Ty->Prop} {a:Act} {w:World} {id:Nat} {Q:Exit->Act->World->Prop},Rel X (CB*q) (CB*q+CB) (U7 s) m ok a w->
   (c≠0->∀m' ok' a' w',Rel X (CB*q) (CB*q+CB) (U7 s') m' ok' a' w' ->(∀k l,m k=some l->m' k=some l)->(∀b t,ok b t->ok' b t)->Q (.panic (yh X.P c)) a' w')->(Code.region id ops false).wp X.P Q a w:=by
 intro m ok a w id Q R hQ;refine wp_region ?_;rw[kC];rw[←h0]at R;exact Zu H hi hp hc he (m0:=m) (ok0:=ok) (λhz m' ok' a' w' R' k1 k2=>hQ hz m' ok' a' w' R' k1 k2) k 0 l7 R (λ_ _ h=>h) (λ_ _ h=>h)
theorem Jb{R:Type}{E:Env}{all:List Oper}{k:Nat} :∀(l:List Oper) (ms:c5B) {s:St} {t:Trs} {K:St->Trs->Option R} {r:R},Fq E q all k l ms s t K=some r->
  ∃(s' :St) (S:Nat->Sm) (T:Nat->Tr),S 0=U7 s/\S l.length=U7 s' /\(∀(i:Nat) (o:Oper) (m:Nat),l[i]? =some o->ms[i]? =some m->(Nat.testBit m k=true/\S (i+1)=S i/\T i=([],[]))\/(Nat.testBit m k=false/\(oz E q all o).eval (S i) ([],[])=some ((),S (i+1),T i)))/\
   K s' (((List.range l.length).map T).reverse++t)=some r
 |[],[],s,t,K,r,h=>⟨s,λ_=>U7 s,λ_=>([],[]),rfl,rfl,λi o m hi=>by simp at hi,by simpa[Fq]using h⟩|[],_::_,s,t,K,r,h=>by simp[Fq]at h|_::_,[],s,t,K,r,h=>by simp[Fq]at h|o::l,m::ms,s,t,K,r,h=>by
  unfold Fq at h;cases hb:Nat.testBit m k
  .simp only[hb,cond_false]at h;obtain⟨x,s1,tr,e,hk⟩:=jI h;obtain⟨s',S,T,g0,g1,g2,g3⟩:=Jb l ms hk;refine⟨s',Xe (U7 s) S,Xf tr T,rfl,g1,λi o' m' hi hm=>?_,?_⟩
   .cases i with
    |zero=>simp at hi hm;subst hi;subst hm;refine .inr ⟨hb,?_⟩;show(oz E q all o).eval (U7 s) ([],[])=some ((),S 0,tr);rw[e,g0]|succ i=>exact g2 i o' m' (by simpa using hi) (by simpa using hm)
   .rw[D7,iF,aU,jX,F5,mM];exact g3
  .simp only[hb,cond_true]at h;obtain⟨s',S,T,g0,g1,g2,g3⟩:=Jb l ms h;refine⟨s',Xe (U7 s) S,Xf ([],[]) T,rfl,g1,λi o' m' hi hm=>?_,?_⟩
   .cases i with
    |zero=>simp at hi hm;subst hi;subst hm;exact .inl ⟨hb,g0,rfl⟩|succ i=>exact g2 i o' m' (by simpa using hi) (by simpa using hm)
   .rw[D7,iF,aU,jX,F5,mM];exact g3
theorem UQ{x:Tr} :∀{l:Trs},a0B x l=true->∀y∈l,Yg x y
 |[],_,y,hy=>by cases hy|z::l,h,y,hy=>by
  unfold a0B at h;cases hb:Wy false x z<;>rw[hb]at h
  .cases h
  .rcases D5.1 hy with rfl|hy
   .exact(SL hb).elim (λh=>by cases h) id
   .exact UQ h y hy
theorem D_(A B:Nat->α)(x:α)(h:k<n):(List.range n).map (λi=>if i<k then A i else if i=k then x else B (i -(k+1)))=(List.range k).map A++x::(List.range (n -(k+1))).map B:=by
 apply kV
 .simp;omega
 .intro i h1 h2;simp only[J6,V4]at h1;simp only[xf,uA];by_cases e1:i<k
  .rw[if_pos e1,oN (by simpa using e1)];simp
  .rw[if_neg e1,List.getElem_append_right (by simpa using Nat.le_of_not_lt e1)];by_cases e2:i=k
   .subst e2;simp
   .rw[if_neg e2];simp only[J6,V4];obtain⟨d,hd⟩:∃d,i -k=d+1:=⟨i -k -1,l7⟩;simp only[hd,List.getElem_cons_succ,xf,uA];congr 1;omega
theorem b1V [Inhabited α](M:Nat->α){n k i:Nat}(h:k<n)(hi:i<n -(k+1)):((((List.range n).map M).reverse.take (n -1 -k)).reverse)[i]? =some (M (i+(k+1))):=by rw[jO F8];simp only[fU,kX,J6,V4];rw[Z9,if_pos l7,jO F8];simp only[J6,V4,W9];rw[iD l7];simp only[aY,F7];congr 1;omega
theorem a1U(H:FxOk X){s s1 s' :St}(hi:ops[k]? =some o)(hp:Dc X.E o=some f)(h0:S 0=U7 s)(hc:TU k X.E q ops.toList ops.toList S T)
  (he:(Hr X.E q ops.toList o f).eval (S k) ([],[])=some (some c,U7 s1,tr)) {ms:c5B} (hpm:TQ ops.toList 0 []=some ms) {S' :Nat->Sm} {T' :Nat->Tr} (g0:S' 0=U7 s1) (g1:S' (ops.size -(k+1))=U7 s')
  (gl:∀(i:Nat) (o:Oper) (m:Nat),(ops.toList.drop (k+1))[i]? =some o->((ms.take (ops.toList.length -1 -k)).reverse)[i]? =some m->(Nat.testBit m k=true/\S' (i+1)=S' i/\T' i=([],[]))\/(Nat.testBit m k=false/\(oz X.E q ops.toList o).eval (S' i) ([],[])=some ((),S' (i+1),T' i)))
  (hpd:Ul ops.toList ms tr ((List.range k).map T).reverse ((List.range (ops.size -(k+1))).map T').reverse=true):
  ∀{m:Mp} {ok:Nat->Ty->Prop} {a:Act} {w:World} {id:Nat} {Q:Exit->Act->World->Prop},Rel X (CB*q) (CB*q+CB) (U7 s) m ok a w->
   (c≠0->∀S3 m' ok' a' w',Rel X (CB*q) (CB*q+CB) S3 m' ok' a' w' ->(∀k l,m k=some l->m' k=some l)->(∀b t,ok b t->ok' b t)->(∀z,z∉wrs ((List.range (ops.size -(k+1))).map T').reverse++wrs ((List.range k).map T).reverse->S3 z=U7 s' z)->Q (.panic (yh X.P c)) a' w')->(Code.region id ops true).wp X.P Q a w:=by
 have hklt:=(G7.1 hi).1;obtain⟨M,hms,_,hM⟩:=Hg (M:=λ_=>0) ops.toList (n:=0) hpm;simp only[fG,J5]at hms hM gl;unfold Ul at hpd;simp only[kX,J6,V4,J5]at hpd;let T2:Nat->Tr:=λi=>if i<k then T i else if i=k then([],[])else T' (i -(k+1));have hT2:((List.range (ops.size -(k+1))).map T').reverse++([],[])::((List.range k).map T).reverse=((List.range ops.size).map T2).reverse:=by rw[D_ T T' ([],[]) hklt,List.reverse_append,jX,F5];rfl
 rw[hT2]at hpd;cases hc0:(Oh ms ((List.range ops.size).map T2).reverse&&a0B tr ((List.range (ops.size -(k+1))).map T').reverse)
 .simp[hc0]at hpd
 simp only[hc0,cond_true]at hpd;simp only[x9]at hc0;subst hms;rw[show ops.size -1 -k=ops.size -(k+1) by omega,XX M l7,qK]at hpd;simp only at hpd;cases hc1:MI (M k) tr ((List.range k).map T).reverse k
 .simp[hc1]at hpd
 simp only[hc1,cond_true]at hpd;have hpk:=IK k hc1;have hpair:=KL _ hc0.1;have hap:∀i,i<ops.size -(k+1)->Yg tr (T' i):=λi hi=>UQ hc0.2 _ (by simp;exact⟨i,hi,rfl⟩);have gl:∀(i:Nat) (o:Oper),k<i->ops[i]? =some o->(Nat.testBit (M i) k=true/\S' (i -k)=S' (i -(k+1))/\T' (i -(k+1))=([],[]))\/(Nat.testBit (M i) k=false/\(oz X.E q ops.toList o).eval (S' (i -(k+1))) ([],[])=some ((),S' (i -k),T' (i -(k+1)))):=λi o hki ho=>by
  have hil:=(G7.1 ho).1;have:=gl (i -(k+1)) o (M i) (by rw[O0,show k+1+(i -(k+1))=i by omega];simpa using ho) (by rw[b1V M hklt l7,show i -(k+1)+(k+1)=i by omega])
  rwa[show i -(k+1)+1=i -k by omega]at this
 let S2:Nat->Sm:=λi=>if i<=k then S i else λz=>if z∈tr.2 then S k z else S' (i -(k+1)) z;let c2:Nat->Cmd Unit:=λi=>if i<k\/(k<i/\¬Nat.testBit (M i) k=true)then oz X.E q ops.toList (ops.getD i default)else .ret ();have hgd:∀i (h:i<ops.size),ops[i]? =some (ops.getD i default):=λi h=>by simp[Array.getD,h]
 have hs:∀i,i<ops.size->(c2 i).eval (S2 i) ([],[])=some ((),S2 (i+1),T2 i):=λi hil=>by
  rcases Nat.lt_trichotomy i k with h|h|h
  .have e1:c2 i=oz X.E q ops.toList (ops.getD i default):=if_pos (.inl h);have e2:S2 i=S i:=if_pos l7;have e3:S2 (i+1)=S (i+1):=if_pos l7;have e4:T2 i=T i:=if_pos h;rw[e1,e2,e3,e4];exact hc i _ h (by rw[I4];exact hgd i hil)
  .subst h;have e1:c2 i= .ret ():=if_neg l7;have e2:S2 i=S i:=if_pos (A8 _);have e3:S2 (i+1)=S i:=by
    funext z;show(if i+1<=i then S (i+1)else λz=>if z∈tr.2 then S i z else S' (i+1 -(i+1)) z) z=S i z;rw[if_neg l7];by_cases hz:z∈tr.2
    .simp[hz]
    .simp only[hz,if_false,aH,g0];exact qW he z hz
   have e4:T2 i=([],[]):=by show(if i<i then T i else if i=i then([],[])else T' (i -(i+1)))=_;simp
   rw[e1,e2,e3,e4];rfl
  .have e4:T2 i=T' (i -(k+1)):=by show(if i<k then T i else if i=k then([],[])else T' (i -(k+1)))=_;rw[if_neg l7,if_neg l7]
   have e2:S2 i=λz=>if z∈tr.2 then S k z else S' (i -(k+1)) z:=if_neg l7;have e3:S2 (i+1)=λz=>if z∈tr.2 then S k z else S' (i -k) z:=by show(if i+1<=k then S (i+1)else λz=>if z∈tr.2 then S k z else S' (i+1 -(k+1)) z)=_;rw[if_neg l7,show i+1 -(k+1)=i -k by omega]
   rcases gl i _ h (hgd i hil)with⟨b1,b2,b3⟩|⟨b1,b2⟩
   .have e1:c2 i= .ret ():=if_neg (by rw[b1];simp;omega);rw[e1,e2,e3,e4,b2,b3];rfl
   .have e1:c2 i=oz X.E q ops.toList (ops.getD i default):=if_pos (.inr ⟨h,by rw[b1];simp⟩);have ha:=hap (i -(k+1)) l7;obtain⟨U,u1,u2,u3,u4⟩:=tV b2 (S2 i) (λz hz=>by
     rw[e2];have:z∉tr.2:=λh=>(ha.1 z h).1 hz;simp[this])
    rw[e1,u1,e4];have:U=S2 (i+1):=by
     funext z;rw[e3];by_cases hz:z∈(T' (i -(k+1))).2
     .have:z∉tr.2:=λh=>(ha.1 z h).2 hz;simp only[this,if_false];exact u4 z hz A7
     .rw[u3 z hz,e2];simp only;rw[qW b2 z hz]
    rw[this]
 have hc2:∀i o,ops[i]? =some o->i≠k->¬Nat.testBit (M i) k=true->c2 i=oz X.E q ops.toList o:=λi o ho hik hb=>by
  have hil:=(G7.1 ho).1;have:ops.getD i default=o:=by rw[U1,ho];rfl
  rw[←this];refine if_pos ?_;rcases Nat.lt_or_gt_of_ne hik with h|h
  .exact .inl h
  .exact .inr ⟨h,hb⟩
 have hM:∀i o,ops[i]? =some o->(∀e∈o.after.toList,qH e->e.on<i)/\∀j,Nat.testBit (M i) j=true->∃e∈o.after.toList,qH e/\(j=e.on\/Nat.testBit (M e.on) j=true):=λi o ho=>hM i o (by simpa using ho);have hidr:∀md,(∀(i:Nat) (o:Oper),ops[i]? =some o->∀e∈o.after.toList,Region.binds md e=true->qH e)->AZ md ops:=λmd hpl=>by refine⟨λi=>i,λi o ho e he hb=>?_⟩;have hil:=(G7.1 ho).1;have:=(hM i o ho).1 e he (hpl i o ho e he hb);exact⟨l7,this⟩
 have hany:AZ .any ops:=hidr .any λi o ho e he hb=>Yo hb;have hboth:AZ .text ops/\AZ .gc ops:=by
  cases hpo:Ak ops.toList
  .simp only[hpo,cond_false,x9,←J5]at hpd;exact⟨zJ (rk:=λ_=>0) _ hpd.1 A7 A7 A7,zJ (rk:=λ_=>0) _ hpd.2 A7 A7 A7⟩
  .have hpl:∀(i:Nat) (o:Oper),ops[i]? =some o->∀e∈o.after.toList,qH e:=λi o ho e he=>Gi hpo o (by simpa using Array.mem_of_getElem? ho) e he;exact⟨hidr _ λi o ho e he _=>hpl i o ho e he,hidr _ λi o ho e he _=>hpl i o ho e he⟩
 intro m ok a w id Q R hQ;refine wp_region_draw λt=>?_;have R' :Rel X (CB*q) (CB*q+CB) (SD S2 T2 [] ops.size) m ok a { w with drawn:=w.drawn+1 }:=by rw[a8w,show S2 0=S 0 from if_pos (gV _),h0];exact R.same rfl rfl rfl rfl (λ_=>fE _)
 have hT2l:∀i,i<k->T2 i=T i:=λi h=>if_pos h;have hT2g:∀j,k<=j->j<ops.size->T2 j=([],[])\/(k<j/\T2 j=T' (j -(k+1))):=λj h1 h2=>by
  by_cases e:j=k
  .left;show(if j<k then T j else if j=k then([],[])else T' (j -(k+1)))=_;rw[if_neg l7,if_pos e]
  .right;exact⟨l7,by show(if j<k then T j else if j=k then([],[])else T' (j -(k+1)))=_;rw[if_neg l7,if_neg e]⟩
 have main:∀md,AZ md ops->∀t,wpOps X.P ops Q (Region.linearise md ops t) a { w with drawn:=w.drawn+1 }:=λmd hr t=>by
  unfold Region.linearise;refine wpAny_sound ops.size t _ a _ ?_;refine a8A H hi hp hs hc2 (by rw[show S2 k=S k from if_pos (A8 _)];exact he) (λi j h1 h2=>(hpair i j h1 h2).imp (λh=>h) λh=>⟨h.1,.inl h.2⟩) (λi h=>by rw[hT2l i h];exact hpk i h)
   (λj h1 h2 z hz=>?_) (λi o ho=>(hM i o ho).2) hr (m0:=m) (ok0:=ok) (Q:=Q) (λhz S3 m' ok' a' w' R3 k1 k2 k3=>hQ hz S3 m' ok' a' w' R3 k1 k2 λz hzn=>?_)
   ops.size (D:=[]) (rD:=Array.replicate ops.size false) A7 aW A7 A7 A7 (λi hi=>by simp[Array.getD,hi]) A7 R' (λ_ _ h=>h) (λ_ _ h=>h)
  .rcases hT2g j h1 h2 with e|⟨e1,e⟩<;>rw[e]
   .simp
   .exact(hap (j -(k+1)) l7).2 z hz
  .have hz1:∀i,i<ops.size -(k+1)->z∉(T' i).2:=λi hi=>a0m (λh=>hzn (Z5 _ h)) (T' i) (by simp;exact⟨i,hi,rfl⟩);have hz2:∀i,i<k->z∉(T i).2:=λi hi=>a0m (λh=>hzn (bQ _ h)) (T i) (by simp;exact⟨i,hi,rfl⟩);rw[k3 z (λi hi=>by
    by_cases h:i<k
    .rw[hT2l i h];exact hz2 i h
    .rcases hT2g i l7 hi with e|⟨e1,e⟩<;>rw[e]
     .simp
     .exact hz1 _ l7)]
   have hS' :∀n,n<=ops.size -(k+1)->S' n z=U7 s1 z:=by
    intro n;induction n with
    |zero=>intro _;rw[g0]|succ n ih=>
     intro hn;have:=gl (n+(k+1)) _ l7 (hgd (n+(k+1)) l7);rw[show n+(k+1) -k=n+1 by omega,show n+(k+1) -(k+1)=n by omega]at this;rcases this with⟨_,b2,_⟩|⟨_,b2⟩
     .rw[b2];exact ih l7
     .rw[qW b2 z (hz1 n l7)];exact ih l7
   rw[←g1];by_cases hzt:z∈tr.2
   .rw[if_pos hzt];exact(hS' _ (A8 _)).symm
   .rw[if_neg hzt];show(if ops.size<=k then S ops.size else λz=>if z∈tr.2 then S k z else S' (ops.size -(k+1)) z) z=_;rw[if_neg l7];simp[hzt]
 unfold Region.schedule;split
 .exact main _ hany t
 .split
  .exact main _ hboth.1 _
  .exact main _ hboth.2 _
theorem I_(H:FxOk X){R:Type}{wr:Rgs}{K:St->Rgs->Option R}{PP:Int->St->c5B->Option R}{r:R}{draw:Bool}(h:H_ X.E q ops draw s wr K PP=some r):
  (∃c s' ws,PP c s' ws=some r/\∀{m:Mp} {ok:Nat->Ty->Prop} {a:Act} {w:World} {id:Nat} {Q:Exit->Act->World->Prop},Rel X (CB*q) (CB*q+CB) (U7 s) m ok a w->
   (c≠0->∀S3 m' ok' a' w',Rel X (CB*q) (CB*q+CB) S3 m' ok' a' w' ->(∀k l,m k=some l->m' k=some l)->(∀b t,ok b t->ok' b t)->(∀z,z∉ws->S3 z=U7 s' z)->Q (.panic (yh X.P c)) a' w')->(Code.region id ops draw).wp X.P Q a w)\/
  ∃s' w',K s' w' =some r/\(∃t:Trs,w' =ww t wr/\∀k,(∀x∈t,k∉x.2)->U7 s' k=U7 s k)/\
   ∀{m:Mp} {ok:Nat->Ty->Prop} {a:Act} {w:World} {id:Nat} {Q:Exit->Act->World->Prop},Rel X (CB*q) (CB*q+CB) (U7 s) m ok a w->
    (∀m' ok' a' w',Rel X (CB*q) (CB*q+CB) (U7 s') m' ok' a' w' ->(∀k l,m k=some l->m' k=some l)->(∀b t,ok b t->ok' b t)->Q .normal a' w')->(Code.region id ops draw).wp X.P Q a w:=by
 unfold H_ at h;have pick:∀(dr:Bool) (s' :St) (T:Nat->Tr),(bif draw then(bif dr then K s' (ww ((List.range ops.size).map T).reverse wr)else none)else K s' (ww ((List.range ops.size).map T).reverse wr))=some r->
   K s' (ww ((List.range ops.size).map T).reverse wr)=some r/\(draw=true->dr=true):=λdr s' T h=>by
  cases draw
  .exact⟨h,λh=>by cases h⟩
  .cases dr
   .cases h
   .exact⟨h,λ_=>rfl⟩
 split at h
 .rcases CO _ h with⟨s',S,T,h0,h1,hc,hk⟩|⟨k,o,f,c,s',tr,S,T,g1,g2,h0,hc,he,hk⟩
  case inr=>
   left;have hi:ops[k]? =some o:=by simpa using g1
   rw[D8]at hk;cases draw
   .simp only[cond_false]at hk;exact⟨c,s',[],hk,λR hQ=>a4h H hi g2 h0 hc he R λhz m' ok' a' w' R' k1 k2=>hQ hz _ m' ok' a' w' R' k1 k2 (λz _=>rfl)⟩
   .simp only[cond_true]at hk;cases hpm:TQ ops.toList 0 []with
    |none=>simp[hpm]at hk|some ms=>
    simp only[hpm,kX,J6,V4]at hk;obtain⟨s2,S',T',l0,l1,l2,hk⟩:=Jb _ _ hk;simp only[iK,J5,D8]at l1 hk;cases hpd:Ul ops.toList ms tr ((List.range k).map T).reverse ((List.range (ops.size -(k+1))).map T').reverse
    .simp[hpd]at hk
    simp only[hpd,cond_true]at hk;exact⟨c,s2,_,hk,λR hQ=>a1U H hi g2 h0 hc he hpm l0 l1 (by simpa using l2) hpd R hQ⟩
  right;simp only[J5,D8]at h1 hk;obtain⟨hk,hd⟩:=pick _ s' T hk;obtain⟨hfr,hwp⟩:=Td H h0 h1 hc (draw:=draw) (ex:=λ_ _=>False) (λ_ _ _ _ h=>h.elim) λhdr=>by
   have hd:=hd hdr;unfold a8W at hd;cases hp:TQ ops.toList 0 []with
   |none=>simp[hp]at hd|some ms=>
   simp only[hp]at hd;obtain⟨M,hms,_,_⟩:=Hg (M:=λ_=>0) ops.toList (n:=0) hp;simp only[fG,J5]at hms;subst hms;cases hod:Oh ((List.range ops.size).map M).reverse ((List.range ops.size).map T).reverse
   .simp[hod]at hd
   simp only[hod,cond_true]at hd;exact⟨M,rfl,λi j hi hj=>(KL _ hod i j hi hj).imp id λh=>⟨h.1,.inl h.2⟩,hd⟩
  exact⟨s',_,hk,⟨_,rfl,hfr⟩,hwp⟩
 .right;obtain⟨s',S,T,h0,h1,hc,hk,_,h5⟩:=Qi _ h;simp only[J5,D8]at h1 hk;obtain⟨hk,hd⟩:=pick _ s' T hk;obtain⟨hfr,hwp⟩:=Td H h0 h1 hc (draw:=draw) (ex:=λi j=>ZG ops.toList j=true/\a8Y X.E ops.toList i=true) (λi j hij hj ⟨e1,e2⟩=>by
   have hi:ops[i]? =some (ops[i]'l7):=H7 _;have hj' :ops[j]? =some (ops[j]'l7):=H7 _;unfold ZG at e1;unfold a8Y at e2;rw[I4,hj']at e1;rw[I4,hi]at e2;obtain⟨d,hd,d',S',g1,g2,g3,g4⟩:=h5 i j _ _ hij (by rw[I4];exact hi) (by rw[I4];exact hj') e2 e1;rw[hd]at g1;cases g1;have hgd:ops.getD i default=ops[i]'l7:=by rw[U1,hi];rfl
   refine⟨S',by rw[hgd];exact g3,λk hk=>?_⟩;rw[g2]at hk;simp only[D5,AV,or_false]at hk;subst hk;exact g4) λhdr=>by
   have hd:=hd hdr;unfold a5C at hd;cases hp:TQ ops.toList 0 []with
   |none=>simp[hp]at hd|some ms=>
   simp only[hp]at hd;obtain⟨M,hms,_,_⟩:=Hg (M:=λ_=>0) ops.toList (n:=0) hp;simp only[fG,J5]at hms;subst hms;cases hod:PH X.E ops.toList ((List.range ops.size).map M).reverse ((List.range ops.size).map T).reverse
   .simp[hod]at hd
   simp only[hod,cond_true]at hd;exact⟨M,rfl,PI _ hod,hd⟩
  exact⟨s',_,hk,⟨_,rfl,hfr⟩,hwp⟩
end
end Go.GP
namespace Go.GP
def Wr(w:Rgs)(k:Nat):Prop:=∃p∈w,p.1<=k/\k<p.2
theorem ZA{k:Nat} :¬Wr [] k:=λ⟨p,h,_⟩=>by cases h
theorem Dh{p:Nat×Nat}{w:Rgs}{k:Nat} :Wr (p::w) k↔(p.1<=k/\k<p.2)\/Wr w k:=by
 constructor
 .rintro⟨x,h,h1⟩;rcases D5.1 h with rfl|h
  .exact .inl h1
  .exact .inr ⟨x,h,h1⟩
 .rintro(h|⟨x,h,h1⟩)
  .exact⟨p,A7,h⟩
  .exact⟨x,by simp[h],h1⟩
theorem Gp{w:Rgs}{k:Nat} :∀{ks:c5B},Wr (Jt ks w) k↔k∈ks\/Wr w k
 |[]=>by simp[Jt]|x::ks=>by
  unfold Jt;rw[Dh,Gp];simp only[D5];constructor
  .rintro(⟨h1,h2⟩|h|h)
   .exact .inl (.inl l7)
   .exact .inl (.inr h)
   .exact .inr h
  .rintro((rfl|h)|h)
   .simp
   .exact .inr (.inl h)
   .exact .inr (.inr h)
theorem OT{b:Rgs}{k:Nat} :∀{a:Rgs},Wr (TB a b) k↔Wr a k\/Wr b k
 |[]=>by simp[TB,ZA]|x::a=>by unfold TB;rw[Dh,Dh,OT,or_assoc]
theorem zt{w:Rgs}{k:Nat} :∀{t:Trs},Wr (ww t w) k↔(∃x∈t,k∈x.2)\/Wr w k
 |[]=>by simp[ww]|x::t=>by unfold ww;rw[Gp,zt,←or_assoc];simp
theorem YI{lo hi:Nat} :∀{rs:Rgs},VK lo hi rs=true->∃p∈rs,p.1<=lo/\hi<=p.2
 |[],h=>by simp[VK]at h|(a,b)::r,h=>by
  unfold VK at h;cases hb:(Nat.ble a lo&&Nat.ble hi b)
  .simp only[hb,cond_false]at h;obtain⟨p,h1,h2⟩:=YI h;exact⟨p,by simp[h1],h2⟩
  .simp only[x9]at hb;exact⟨(a,b),A7,P9 hb.1,P9 hb.2⟩
theorem RX{lim:Nat}{rs:Rgs} :∀{w:Rgs},Vm lim rs w=true->∀k,Wr w k->lim<=k\/Wr rs k
 |[],_,k,h=>absurd h ZA|(a,b)::w,h,k,hk=>by
  unfold Vm at h;cases hc:(Nat.ble lim a || VK a b rs)
  .simp[hc]at h
  .simp only[hc,cond_true]at h;rcases Dh.1 hk with⟨h1,h2⟩|hk
   .simp only[jM]at hc;rcases hc with hc|hc
    .have:=P9 hc;exact .inl (by simp only at h1;omega)
    .obtain⟨p,h3,h4,h5⟩:=YI hc;exact .inr ⟨p,h3,by simp only at h1;omega,by simp only at h2;omega⟩
   .exact RX h k hk
theorem Bo{s:St}{k:Nat} :∀{rs:Rgs},¬Wr rs k->U7 (uX rs s) k=U7 s k
 |[],_=>rfl|(a,b)::r,h=>by
  rw[Dh,not_or]at h;show(bif Nat.ble a k&&Nat.blt k b then V.undef else U7 (uX r s) k)=U7 s k;cases hb:(Nat.ble a k&&Nat.blt k b)
  .simp only[cond_false];exact Bo h.2
  .simp only[x9]at hb;exact absurd ⟨P9 hb.1,FP hb.2⟩ h.1
theorem GV{s:St}{k:Nat} :∀{rs:Rgs},Wr rs k->U7 (uX rs s) k= .undef
 |[],h=>absurd h ZA|(a,b)::r,h=>by
  show(bif Nat.ble a k&&Nat.blt k b then V.undef else U7 (uX r s) k)=V.undef;cases hb:(Nat.ble a k&&Nat.blt k b)
  .simp only[cond_false];rcases Dh.1 h with⟨h1,h2⟩|h
   .simp only at h1 h2;have e1:Nat.ble a k=true:=mO h1;have e2:Nat.blt k b=true:=by rw[aF];exact h2
    simp[e1,e2]at hb
   .exact GV h
  .simp
variable {h0:Array Obj}{h1:Array Obj}{ok0:Nat->Ty->Prop}{ok1:Nat->Ty->Prop}{m:Mp}{m1:Mp}{m2:Mp}
theorem WS(hm:∀k l,m k=some l->m2 k=m1 k):∀{c:V} {v0 v1:Value} (a:vX ⟨h0,ok0,m⟩ c v0) (b:vX ⟨h1,ok1,m1⟩ c v1),vX ⟨h1,ok1,m2⟩ c v1:=by
 intro c;induction c using V.rec (motive_2:=λ_=>True)<;>try trivial
 all_goals
  intro v0 v1 a b;simp only[vX]at a b ⊢
  try exact b
 case own bx vw=>obtain⟨l0,e0,_⟩:=a;obtain⟨l,e,hv⟩:=b;exact⟨l,by rw[hm _ _ e0];exact e,hv⟩
 case ptr bx o=>obtain⟨l0,e0,_⟩:=a;obtain⟨l,e,hv⟩:=b;exact⟨l,by rw[hm _ _ e0];exact e,hv⟩
 case ep bx ix o=>obtain⟨_,_,_,_,_,e0,_⟩:=a;obtain⟨x1,x2,x3,x4,x5,e,hv⟩:=b;exact⟨x1,x2,x3,x4,x5,by rw[hm _ _ e0];exact e,hv⟩
 case ifc t c ih=>obtain⟨u0,_,_,a⟩:=a;obtain⟨u,e,h,b⟩:=b;exact⟨u,e,h,ih a b⟩
theorem WT{h0 h1:Array Obj}{ok0 ok1:Nat->Ty->Prop}{m m1 m2:Mp}(hm:∀k l,m k=some l->m2 k=m1 k):∀{cs:List V} {v0 v1:c5A},gX ⟨h0,ok0,m⟩ cs v0->gX ⟨h1,ok1,m1⟩ cs v1->gX ⟨h1,ok1,m2⟩ cs v1
 |[],_,_,_,b=>b|_::_,_,_,⟨_,_,_,a1,_,a3⟩,⟨v,r,e,b1,b2,b3⟩=>⟨v,r,e,WS hm a1 b1,b2,WT hm a3 b3⟩
variable {c:V}
theorem a1V(hm:∀k l,m k=some l->m2 k=m1 k){v0 v1:Value}(a:WQ ⟨h0,ok0,m⟩ c v0)(b:WQ ⟨h1,ok1,m1⟩ c v1):WQ ⟨h1,ok1,m2⟩ c v1:=by
 cases c<;>simp only[WQ]at a b ⊢<;>try exact WS hm a b
 case agg cs=>obtain⟨_,_,a⟩:=a;obtain⟨arr,e,b⟩:=b;exact⟨arr,e,WT hm a b⟩
theorem a1X{h0 h1:Array Obj}{ok0 ok1:Nat->Ty->Prop}{m m1 m2:Mp}(hm:∀k l,m k=some l->m2 k=m1 k):∀{cs:List V} {v0 v1:c5A},L_ ⟨h0,ok0,m⟩ cs v0->L_ ⟨h1,ok1,m1⟩ cs v1->L_ ⟨h1,ok1,m2⟩ cs v1
 |[],_,_,_,b=>b|_::_,_,_,⟨_,_,_,a1,a3⟩,⟨v,r,e,b1,b3⟩=>⟨v,r,e,a1V hm a1 b1,a1X hm a3 b3⟩
theorem b0A(hm:∀k l,m k=some l->m2 k=m1 k){v0 v1:Value}(a:lD ⟨h0,ok0,m⟩ c v0)(b:lD ⟨h1,ok1,m1⟩ c v1):lD ⟨h1,ok1,m2⟩ c v1:=by
 cases c<;>simp only[lD]at a b ⊢<;>try exact a1V hm a b
 case tup cs=>obtain⟨_,_,a⟩:=a;obtain⟨arr,e,b⟩:=b;exact⟨arr,e,a1X hm a b⟩
theorem a3A(hm:∀k l,m k=some l->m2 k=m1 k){sz:Nat}{l0 l1:Loc}{hole:Option (Nat×Nat×Option Nat)}(a:VI ⟨h0,ok0,m⟩ sz l0 hole)(b:VI ⟨h1,ok1,m1⟩ sz l1 hole):VI ⟨h1,ok1,m2⟩ sz l1 hole:=by
 obtain _|⟨i,o,_|n⟩:=hole
 .trivial
 .trivial
 .obtain⟨_,_,_,_,_,l',_,_,e,_⟩:=a;obtain⟨b1,b2,b3,b4,b5,l2,c1,c2,c3,c4⟩:=b;exact⟨b1,b2,b3,b4,b5,l2,c1,c2,by rw[hm _ _ e];exact c3,c4⟩
theorem b0z(hm:∀k l,m k=some l->m2 k=m1 k)(hk:m2.kid=m1.kid)(km:∀k l,m k=some l->m1 k=some l){n:Nat}(a:BB ⟨h0,ok0,m⟩ n c)(b:∀l,m n=some l->BB ⟨h1,ok1,m1⟩ n c):BB ⟨h1,ok1,m2⟩ n c:=by
 cases c<;>simp only[BB]at a b ⊢
 case bcells cs=>obtain⟨_,_,_,e0,_,a⟩:=a;obtain⟨blk,arr,T,e,hh,b⟩:=b _ e0;exact⟨blk,arr,T,by rw[hm _ _ e0];exact e,hh,WT hm a b⟩
 case barr t xs=>obtain⟨_,e0,_⟩:=a;obtain⟨l,e,b⟩:=b _ e0;exact⟨l,by rw[hm _ _ e0];exact e,pU (λ_ _ h=>h) (λ_ _ _=>rfl) (λ_ _=>rfl) b⟩
 case bfrz t xs=>obtain⟨_,e0,_⟩:=a;obtain⟨l,e,b,hb⟩:=b _ e0;exact⟨l,by rw[hm _ _ e0];exact e,pU (λ_ _ h=>h) (λ_ _ _=>rfl) (λ_ _=>rfl) b,hb⟩
 case barrs md xs hole=>obtain⟨he,_,_,e0,⟨_,ha⟩,_⟩:=a;obtain⟨_,l,Os,e,⟨b,hl⟩,hb⟩:=b _ e0;exact⟨he,l,Os,by rw[hm _ _ e0];exact e,⟨b,a3A hm ha hl⟩,by rw[hk];exact hb⟩
 case barrp md xs k o=>obtain⟨he,_,_,_,e0,_⟩:=a;obtain⟨_,h0,l,Os,e,b,hb⟩:=b _ e0;exact⟨he,h0,l,Os,by rw[hm _ _ e0];exact e,b,by rw[hk];exact hb⟩
 case bfc t x=>obtain⟨_,_,e0,_⟩:=a;obtain⟨blk,es,e,b⟩:=b _ e0;exact⟨blk,es,by rw[hm _ _ e0];exact e,b⟩
 case gone t=>obtain⟨_,e0,_⟩:=a;obtain⟨l,e,b⟩:=b _ e0;exact⟨l,by rw[hm _ _ e0];exact e,b⟩
 case biter l p=>obtain⟨_,_,_,e0,_⟩:=a;obtain⟨blk,s,q,e,hh,b⟩:=b _ e0;exact⟨blk,s,q,by rw[hm _ _ e0];exact e,hh,b⟩
 case bsb tb c=>obtain⟨_,_,_,e0,_,_,a⟩:=a;obtain⟨blk,a1,v1,e,hh,hs,b⟩:=b _ e0;exact⟨blk,a1,v1,by rw[hm _ _ e0];exact e,hh,hs,WS hm a b⟩
 case brow te xs=>obtain⟨_,e0,_⟩:=a;obtain⟨l,e,b⟩:=b _ e0;exact⟨l,by rw[hm _ _ e0];exact e,b⟩
 case blen ln sz=>obtain⟨k,l,e,e0,h⟩:=a;exact⟨k,l,e,by rw[hm _ _ e0];exact km _ _ e0,h⟩
def cut(m:Mp)(N:Nat):Mp:=⟨λn=>if n<N then m n else none,m.kid⟩
section
variable {X:Fx} {cl ch N:Nat} {S S1 S2:Sm} {m m1:Mp} {ok ok1:Nat->Ty->Prop} {a a1:Act} {w w1:World}
theorem Rel.climb(R:Rel X cl ch S m ok a w){cl' :Nat}(h:cl<=cl'):Rel X cl' ch S m ok a w:={ R with fresh:=λn h1 h2=>R.fresh n l7 h2 }
theorem Rel.rebase{X0:Fx}(R0:Rel X0 cl N S m ok a w){cl1 ch1:Nat}(R1:Rel X cl1 ch1 S1 m1 ok1 a1 w1)(km:∀k l,m k=some l->m1 k=some l)
  (hS:∀k,S2 k= .undef\/(S2 k=S k/\(k<V6+N->S1 k=S k))):
  Rel X N N S2 (cut m1 N) ok1 a1 w1/\(∀T,Tk X S1 m1 ok1 w1 T->Tk X S2 (cut m1 N) ok1 w1 T)/\(∀k l,m k=some l->cut m1 N k=some l):=by
 have hdom:∀k l,m k=some l->k<N:=λk l h=>by
  rcases mP k N with h1|h1
  .exact h1
  .rw[R0.strict k h1]at h;cases h
 have hagree:∀k l,m k=some l->cut m1 N k=m1 k:=λk l h=>by simp[cut,hdom k l h]
 have hown:∀n,P5 (cut m1 N) n (S2 (V6+n))=P5 m1 n (S1 (V6+n))\/P5 (cut m1 N) n (S2 (V6+n))=[]:=λn=>by
  rcases hS (V6+n)with h1|⟨h1,h2⟩
  .right;rw[h1];rfl
  .rcases mP n N with hn|hn
   .left;rw[h2 l7,←h1];exact Ew (by simp[cut,hn]) rfl
   .right;have hc:m n=none:=R0.strict n hn;have hb:=R0.box n;rw[h1];cases hv:S (V6+n)<;>rw[hv]at hb<;>try rfl
    case bcells=>obtain⟨_,_,_,e,_⟩:=hb;simp only at e;rw[hc]at e;cases e
    case barr=>obtain⟨_,e,_⟩:=hb;simp only at e;rw[hc]at e;cases e
    case barrs=>obtain⟨_,_,_,e,_⟩:=hb;simp only at e;rw[hc]at e;cases e
    case barrp=>obtain⟨_,_,_,_,e,_⟩:=hb;simp only at e;rw[hc]at e;cases e
    case biter=>obtain⟨_,_,_,e,_⟩:=hb;simp only at e;rw[hc]at e;cases e
    case bsb=>obtain⟨_,_,_,e,_⟩:=hb;simp only at e;rw[hc]at e;cases e
    case brow=>obtain⟨_,e,_⟩:=hb;simp only at e;rw[hc]at e;cases e
 have hownM:∀n b,b∈P5 (cut m1 N) n (S2 (V6+n))->b∈P5 m1 n (S1 (V6+n)):=λn b h=>by
  rcases hown n with e|e
  .rw[←e];exact h
  .rw[e]at h;cases h
 refine⟨{ kept:=R1.kept,size:=R1.size,nodef:=R1.nodef,dfs:=R1.dfs,okLt:=R1.okLt,okIn:=R1.okIn,okOut:=R1.okOut,frame:=R1.frame,gl:=R1.gl,slot:=λn hn=>?_,box:=λn=>?_,inj:=λn n' b h h' =>R1.inj n n' b (hownM n b h) (hownM n' b h'),nd:=λn=>(hown n).elim (λe=>by rw[e];exact R1.nd n) (λe=>by rw[e];exact aW),sep:=λn b h=>R1.sep n b (hownM n b h),fresh:=λn h1 _=>?_,strict:=λn h=>?_ },λT hT=>⟨hT.nodup,λb hb=>?_⟩,λk l h=>by rw[hagree k l h];exact km k l h⟩
 .rcases hS n with h1|⟨h1,h2⟩
  .rw[h1];trivial
  .rw[h1];refine b0A hagree (R0.slot n hn) ?_;rw[←h2 l7];exact R1.slot n hn
 .rcases hS (V6+n)with h1|⟨h1,h2⟩
  .rw[h1];trivial
  .rw[h1];refine b0z hagree rfl km (R0.box n) λl hl=>?_;rw[←h2 (by have:=hdom n l hl;omega)];exact R1.box n
 .simp[cut];omega
 .simp[cut];omega
 .obtain⟨f1,f2,f3,f4⟩:=hT.free b hb;exact⟨f1,f2,f3,λn e=>f4 n (hownM n b e)⟩
theorem jr{R:Type}{q:Nat}{sg:Sig}{rs:Rgs}{s:St}{wr:Rgs}{K:lZ sg->Option R}{r:R}(h:EZ q sg rs s wr K=some r):
  ∃x,K x=some r/\∀{X0:Fx} {s0:St} {cl cl1 ch1:Nat} {m m1:Mp} {ok ok1:Nat->Ty->Prop} {a a1:Act} {w w1:World},Rel X0 cl (CB*q) (U7 s0) m ok a w->Rel X cl1 ch1 (U7 s) m1 ok1 a1 w1->(∀k l,m k=some l->m1 k=some l)->
   (∀k,¬Wr wr k->U7 s k=U7 s0 k)->∃m2 ok2 O,Rel X (CB*q) (CB*q) (U7 (uX rs s0)) m2 ok2 a1 w1/\Tk X (U7 (uX rs s0)) m2 ok2 w1 O/\
    UI w1.heap ok2 sg x a1.tmps O/\(∀k l,m k=some l->m2 k=some l):=by
 unfold EZ at h;obtain⟨x,s1,tr,he,hk⟩:=jI h;cases hc:Vm (V6+CB*q) rs (Jt tr.2 wr)
 .simp[hc]at hk
 simp only[hc,cond_true]at hk;refine⟨x,hk,λ{X0 s0 cl cl1 ch1 m m1 ok ok1 a a1 w w1} R0 R1 km hun=>?_⟩;have key:=oh (a3q R1 (Q:=λy S' =>∃m' ok' O,Rel X cl1 ch1 S' m' ok' a1 w1/\Tk X S' m' ok' w1 O/\(∀k l,m1 k=some l->m' k=some l)/\UI w1.heap ok' sg y a1.tmps O)
  λS' m' ok' y O R' T' km' _ hr=>⟨m',ok',O,R',T',km',hr⟩) he
 obtain⟨m',ok',O,R',T',km',hr⟩:=key;have hcov:=RX hc;obtain⟨R2,hT2,hm2⟩:=R0.rebase (S2:=U7 (uX rs s0)) R' (λk l h=>km' k l (km k l h)) (λk=>by
  by_cases hw:Wr rs k
  .exact .inl (GV hw)
  .refine .inr ⟨Bo hw,λhlt=>?_⟩;have hnw:¬Wr (Jt tr.2 wr) k:=λh=>by
    rcases hcov k h with h1|h1
    .omega
    .exact hw h1
   rw[Gp,not_or]at hnw;rw[qW he k hnw.1];exact hun k hnw.2)
 exact⟨_,ok',O,R2,hT2 O T',hr,hm2⟩
theorem oK{R:Type}{q:Nat}{sg:Sig}{rs:Rgs}{s:St}{x:lZ sg}{K:St->Rgs->Option R}{r:R}(h:enter q sg rs s x K=some r):
  ∃s' w',K s' w' =some r/\(∀k,Wr rs k->Wr w' k)/\(∀k,¬Wr w' k->U7 s' k=U7 s k)/\
   ∀{N:Nat} {m:Mp} {ok:Nat->Ty->Prop} {a:Act} {w:World} {O:c5B},N<=CB*q->Rel X N N (U7 (uX rs s)) m ok a w->Tk X (U7 (uX rs s)) m ok w O->
    UI w.heap ok sg x a.tmps O->
    ∃m',Rel X (CB*(q+1)) (CB*(q+1)) (U7 s') m' ok a w/\(∀k l,m k=some l->m' k=some l):=by
 unfold enter at h;obtain⟨u,s',tr,he,hk⟩:=jI h;refine⟨s',_,hk,λk hk=>Gp.2 (.inr hk),λk hk=>?_,λ{N m ok a w O} hN R1 T1 hr=>?_⟩
 .rw[Gp,not_or]at hk;rw[qW he k hk.1,Bo hk.2]
 .have key:=oh (a3m (x:=x) (nb:=CB*q) (lim:=CB*q+CB) (Q:=λ_ S' =>∃m',Rel X N (max N (CB*q+CB)) S' m' ok a w/\(∀k l,m k=some l->m' k=some l)) R1 hN T1 hr
   λS' m' R' k=>⟨m',R',k⟩) he
  obtain⟨m',R',k⟩:=key;have e:CB*(q+1)=CB*q+CB:=by rw[Nat.mul_add,bD]
  rw[e];generalize CB*q=Z at*;exact⟨m',(R'.climb l7).chmono l7,k⟩
end
end Go.GP
namespace Go.GP
variable {q:Nat}{m:Mp}{a:Act}{w:World}{s:St}{wr:Rgs}{q':Nat}{n:Nat}
section
variable {X:Fx} {rt:Ret} {ρ:Type} {mE:Mp} {RetP:ρ->Exit->Act->World->Prop}
def Lf(e:Exit):Prop:=e= .ret\/∃ch,e= .panic ch
def NL(X:Fx)(q:Nat)(m:Mp)(s:St)(wr:Rgs)(s' :St)(w' :Rgs)(a:Act)(w:World):Prop:=
 ∃m' ok',Rel X (CB*q) (CB*q) (U7 s') m' ok' a w/\(∀k l,m k=some l->m' k=some l)/\(∀k,Wr wr k->Wr w' k)/\(∀k,¬Wr w' k->U7 s' k=U7 s k)
def a2L(X:Fx)(RetP:ρ->Exit->Act->World->Prop)(q:Nat)(m:Mp)(s:St)(wr:Rgs)(fl:Flow ρ)(s' :St)(w' :Rgs)(e:Exit)(a:Act)(w:World):Prop:=
 match fl with
 | .nm=>e= .normal/\NL X q m s wr s' w' a w| .ex id=>e= .exit id/\NL X q m s wr s' w' a w| .rt x=>Lf e/\RetP x e a w
def a0r(X:Fx)(RetP:ρ->Exit->Act->World->Prop)(q:Nat)(m:Mp)(s:St)(wr:Rgs){R:Type}(K:Flow ρ->St->Rgs->Option R)(r:R)(e:Exit)(a:Act)(w:World):Prop:=
 ∃fl s' w',K fl s' w' =some r/\a2L X RetP q m s wr fl s' w' e a w
structure DOk (X:Fx) (mE:Mp) (RetP:ρ->Exit->Act->World->Prop) (D:Den ρ) (c:Code) (n:Nat):Prop where
 run:∀{q:Nat} {an:Ann} {s:St} {wr:Rgs} {R:Type} {K:Flow ρ->St->Rgs->Option R} {r:R},D q an s wr R K=some r->
  ∀{m:Mp} {ok:Nat->Ty->Prop} {a:Act} {w:World},Rel X (CB*q) (CB*q) (U7 s) m ok a w->(∀k l,mE k=some l->m k=some l)->
   c.wp X.P (a0r X RetP (q+n) m s wr K r) a w
def UH(X:Fx)(rt:Ret){ρ:Type}(ret:rt.den->ρ)(mE:Mp)(RetP:ρ->Exit->Act->World->Prop):Prop:=
 ∀{s:St} {R:Type} {K:rt.den->Option R} {r:R},(b0D X.E rt).runK s ([],[]) (λx _ _=>K x)=some r->
  ∃x,K x=some r/\∀{cl ch:Nat} {m:Mp} {ok:Nat->Ty->Prop} {a:Act} {w:World},Rel X cl ch (U7 s) m ok a w->(∀k l,mE k=some l->m k=some l)->RetP (ret x) .ret a w
def UG(X:Fx){ρ:Type}(pan:Int->Cmd ρ)(mE:Mp)(RetP:ρ->Exit->Act->World->Prop):Prop:=
 ∀{c:Int} {S S' :Sm} {tr:Tr} {x:ρ},c≠0->(pan c).eval S ([],[])=some (x,S',tr)->∀{cl ch:Nat} {m:Mp} {ok:Nat->Ty->Prop} {a:Act} {w:World},Rel X cl ch S m ok a w->(∀k l,mE k=some l->m k=some l)->RetP x (.panic (yh X.P c)) a w
theorem a5t{p q:Nat}(h:p<=q):CB*p<=CB*q:=Nat.mul_le_mul_left _ h
theorem Rel.upq{p q:Nat}{S:Sm}{ok:Nat->Ty->Prop}(R:Rel X (CB*p) (CB*p) S m ok a w)(h:p<=q):Rel X (CB*q) (CB*q) S m ok a w:=
 (R.climb (a5t h)).chmono (a5t h)
theorem NL.here{ok:Nat->Ty->Prop}(R:Rel X (CB*q) (CB*q) (U7 s) m ok a w)(h:q<=q'):NL X q' m s wr s wr a w:=
 ⟨m,ok,R.upq h,λ_ _ h=>h,λ_ h=>h,λ_ _=>rfl⟩
theorem NL.up{s s' :St}{wr w' :Rgs}(h:NL X q m s wr s' w' a w)(hq:q<=q'):NL X q' m s wr s' w' a w:=by obtain⟨m',ok',R,h1,h2,h3⟩:=h;exact⟨m',ok',R.upq hq,h1,h2,h3⟩
theorem NL.trans{m m1:Mp}{s s1 s2:St}{wr w1 w2:Rgs}(k1:∀k l,m k=some l->m1 k=some l)(k2:∀k,Wr wr k->Wr w1 k)(k3:∀k,¬Wr w1 k->U7 s1 k=U7 s k)
  (h:NL X q m1 s1 w1 s2 w2 a w) (hq:q<=q'):NL X q' m s wr s2 w2 a w:=by
 obtain⟨m',ok',R,h1,h2,h3⟩:=h;exact⟨m',ok',R.upq hq,λk l h=>h1 k l (k1 k l h),λk h=>h2 k (k2 k h),λk h=>(h3 k h).trans (k3 k λh' =>h (h2 k h'))⟩
theorem a2L.up{s s' :St}{wr w' :Rgs}{fl:Flow ρ}{e:Exit}(h:a2L X RetP q m s wr fl s' w' e a w)(hq:q<=q'):a2L X RetP q' m s wr fl s' w' e a w:=by
 cases fl with
 |nm=>exact⟨h.1,h.2.up hq⟩|ex id=>exact⟨h.1,h.2.up hq⟩|rt x=>exact h
theorem a2L.trans{m m1:Mp}{s s1 s2:St}{wr w1 w2:Rgs}{fl:Flow ρ}{e:Exit}(k1:∀k l,m k=some l->m1 k=some l)(k2:∀k,Wr wr k->Wr w1 k)(k3:∀k,¬Wr w1 k->U7 s1 k=U7 s k)
  (h:a2L X RetP q m1 s1 w1 fl s2 w2 e a w) (hq:q<=q'):a2L X RetP q' m s wr fl s2 w2 e a w:=by
 cases fl with
 |nm=>exact⟨h.1,h.2.trans k1 k2 k3 hq⟩|ex id=>exact⟨h.1,h.2.trans k1 k2 k3 hq⟩|rt x=>exact h
theorem LP(hq:q+1<=n){s s3:St}{wr w3:Rgs}{m m2:Mp}{ok2:Nat->Ty->Prop}
  (km:∀k l,m k=some l->m2 k=some l) (hout:∀k,¬Wr w3 k->U7 s3 k=U7 s k)
  (hR:∃m',Rel X (CB*(q+1)) (CB*(q+1)) (U7 s3) m' ok2 a w/\(∀k l,m2 k=some l->m' k=some l)):NL X n m s wr s3 (TB w3 wr) a w:=by
 obtain⟨m',R,k⟩:=hR;exact⟨m',ok2,R.upq hq,λk' l h=>k _ _ (km _ _ h),λk h=>OT.2 (.inr h),λk h=>hout k λh' =>h (OT.2 (.inl h'))⟩
theorem wE{core:Den ρ}{c:Code}(hc:DOk X mE RetP core c n):DOk X mE RetP (JE core) c (n+1):=by
 refine⟨?_⟩;intro q an s wr R K r h m ok a w Rl hE;have plain:core (q+1) an s wr R K=some r->c.wp X.P (a0r X RetP (q+(n+1)) m s wr K r) a w:=λh=>by have:=hc.run h (Rl.upq (fE q)) hE;rwa[show q+1+n=q+(n+1) by omega]at this
 cases an
 case join rs nm an=>
  unfold JE at h;simp only at h;obtain⟨x,h1,h2⟩:=zl h;obtain⟨s3,w3,hk3,hrs,hout,hR⟩:=oK (X:=X) h2;refine wp_mono (hc.run h1 (Rl.upq (fE q)) hE) ?_;rintro e a' w' ⟨fl,s',wr',hk,hfl⟩;cases fl with
  |ex id=>cases hk|rt x=>cases hk|nm=>obtain⟨rfl,m',ok',R1,k1,k2,k3⟩:=hfl;obtain⟨x',hx,hL⟩:=jr (X:=X) hk;cases hx;obtain⟨m2,ok2,O,R2,T2,hr,km⟩:=hL Rl R1 k1 k3;exact⟨.nm,s3,_,hk3,rfl,LP (q:=q) l7 km hout (hR (A8 _) R2 T2 hr)⟩
 case joinR rs nm an=>
  unfold JE at h;simp only at h;obtain⟨o,h1,h2⟩:=zl h;refine wp_mono (hc.run h1 (Rl.upq (fE q)) hE) ?_;rintro e a' w' ⟨fl,s',wr',hk,hfl⟩;cases fl with
  |ex id=>cases hk|rt x=>cases hk;exact⟨.rt x,_,_,h2,hfl⟩|nm=>obtain⟨rfl,m',ok',R1,k1,k2,k3⟩:=hfl;obtain⟨x',hx,hL⟩:=jr (X:=X) hk;cases hx;obtain⟨s3,w3,hk3,hrs,hout,hR⟩:=oK (X:=X) (show enter q nm rs s x' (λs' w' =>K .nm s' (TB w' wr))=some r from h2);obtain⟨m2,ok2,O,R2,T2,hr,km⟩:=hL Rl R1 k1 k3;exact⟨.nm,s3,_,hk3,rfl,LP (q:=q) l7 km hout (hR (A8 _) R2 T2 hr)⟩
 all_goals exact plain h
theorem a3E{core:Den ρ}{c:Code}(hc:DOk X mE RetP core c n):DOk X mE RetP (a1s core) (.loop c) (2+n):=by
 refine⟨?_⟩;intro q an s wr R K r h m ok a w Rl hE;cases an
 case loop rs hd xid xs an=>
  unfold a1s at h;simp only at h;obtain⟨x0,hk0,hL0⟩:=jr (X:=X) h;obtain⟨m2,ok2,O,R2,T2,hr,km⟩:=hL0 Rl Rl (λ_ _ h=>h) (λ_ _=>rfl);obtain⟨y,hl,hen⟩:=zl hk0;clear hk0 h hL0;obtain⟨s3,w3,hk3,hrs,hout,hR⟩:=oK (X:=X) hen;refine wp_loop_rounds aT ?_;unfold aS at hl;have key:∀(f:Nat) {x:lZ hd} {m2:Mp} {ok2:Nat->Ty->Prop} {O:c5B} {a:Act} {w:World},
    xg (λx=>b0F core q rs hd xid xs an s x) f x=some y->
    Rel X (CB*q) (CB*q) (U7 (uX rs s)) m2 ok2 a w->Tk X (U7 (uX rs s)) m2 ok2 w O->UI w.heap ok2 hd x a.tmps O->(∀k l,m k=some l->m2 k=some l)->
    Code.rounds X.P c (a0r X RetP (q+(2+n)) m s wr K r) f a w:=by
   intro f;induction f with
   |zero=>intro x m2 ok2 O a w h;simp[xg]at h|succ f ih=>
    intro x m2 ok2 O a w h R2 T2 hr km;rw[rounds_succ];unfold xg at h;split at h
    .rename_i x' hf;obtain⟨s1,w1,hcore,_,hout1,hR1⟩:=oK (X:=X) (show enter q hd rs s x _=some _ from hf);obtain⟨m1,R1,km1⟩:=hR1 (A8 _) R2 T2 hr;refine wp_mono (hc.run hcore (R1.upq l7) (λk l h=>km1 _ _ (km _ _ (hE _ _ h)))) ?_;rintro e a' w' ⟨fl,s',wr',hk,hfl⟩;cases fl with
     |rt x=>cases hk|ex id=>
      simp only at hk;cases hb:Nat.beq id xid
      .simp[hb]at hk
      .simp only[hb,cond_true]at hk;obtain⟨y',hx,_⟩:=jr (X:=X) hk;cases hx
     |nm=>obtain⟨rfl,m',ok',R1',k1,k2,k3⟩:=hfl;obtain⟨y',hx,hL⟩:=jr (X:=X) hk;cases hx;obtain⟨m4,ok4,O4,R4,T4,hr4,km4⟩:=hL Rl R1' (λk l h=>k1 _ _ (km1 _ _ (km _ _ h))) (λk h=>(k3 k h).trans (hout1 k λh' =>h (k2 k h')));exact ih h R4 T4 hr4 km4
    .rename_i y' hf;cases h;obtain⟨s1,w1,hcore,_,hout1,hR1⟩:=oK (X:=X) (show enter q hd rs s x _=some _ from hf);obtain⟨m1,R1,km1⟩:=hR1 (A8 _) R2 T2 hr;refine wp_mono (hc.run hcore (R1.upq l7) (λk l h=>km1 _ _ (km _ _ (hE _ _ h)))) ?_;rintro e a' w' ⟨fl,s',wr',hk,hfl⟩;cases fl with
     |rt x=>cases hk|nm=>simp only at hk;obtain⟨y',hx,_⟩:=jr (X:=X) hk;cases hx
     |ex id=>
      simp only at hk;cases hb:Nat.beq id xid
      .simp[hb]at hk
      .simp only[hb,cond_true]at hk;have hid:=fJ hb;subst hid;obtain⟨rfl,m',ok',R1',k1,k2,k3⟩:=hfl;obtain⟨y',hx,hL⟩:=jr (X:=X) hk;cases hx;obtain⟨m4,ok4,O4,R4,T4,hr4,km4⟩:=hL Rl R1' (λk l h=>k1 _ _ (km1 _ _ (km _ _ h))) (λk h=>(k3 k h).trans (hout1 k λh' =>h (k2 k h')));exact⟨.ex id,s3,_,hk3,rfl,LP (q:=q+1) l7 km4 hout (hR (a5t (fE q)) R4 T4 hr4)⟩
    .cases h
  exact key aT (x:=x0) hl R2 T2 hr km
 case loopR rs hd xid xs an=>
  unfold a1s at h;simp only at h;obtain⟨x0,hk0,hL0⟩:=jr (X:=X) h;obtain⟨m2,ok2,O,R2,T2,hr,km⟩:=hL0 Rl Rl (λ_ _ h=>h) (λ_ _=>rfl);obtain⟨y,hl,hen⟩:=zl hk0;clear hk0 h hL0;refine wp_loop_rounds aT ?_;unfold Y9 at hl;have key:∀(f:Nat) {x:lZ hd} {m2:Mp} {ok2:Nat->Ty->Prop} {O:c5B} {a:Act} {w:World},
    fD (λx=>b0G core q rs hd xid xs an s x) f x=some y->
    Rel X (CB*q) (CB*q) (U7 (uX rs s)) m2 ok2 a w->Tk X (U7 (uX rs s)) m2 ok2 w O->UI w.heap ok2 hd x a.tmps O->(∀k l,m k=some l->m2 k=some l)->
    Code.rounds X.P c (a0r X RetP (q+(2+n)) m s wr K r) f a w:=by
   intro f;induction f with
   |zero=>intro x m2 ok2 O a w h;simp[fD]at h|succ f ih=>
    intro x m2 ok2 O a w h R2 T2 hr km;rw[rounds_succ];unfold fD at h;split at h
    .rename_i x' hf;obtain⟨s1,w1,hcore,_,hout1,hR1⟩:=oK (X:=X) (show enter q hd rs s x _=some _ from hf);obtain⟨m1,R1,km1⟩:=hR1 (A8 _) R2 T2 hr;refine wp_mono (hc.run hcore (R1.upq l7) (λk l h=>km1 _ _ (km _ _ (hE _ _ h)))) ?_;rintro e a' w' ⟨fl,s',wr',hk,hfl⟩;cases fl with
     |rt x=>cases hk|ex id=>
      simp only at hk;cases hb:Nat.beq id xid
      .simp[hb]at hk
      .simp only[hb,cond_true]at hk;obtain⟨y',hx,_⟩:=jr (X:=X) hk;cases hx
     |nm=>obtain⟨rfl,m',ok',R1',k1,k2,k3⟩:=hfl;obtain⟨y',hx,hL⟩:=jr (X:=X) hk;cases hx;obtain⟨m4,ok4,O4,R4,T4,hr4,km4⟩:=hL Rl R1' (λk l h=>k1 _ _ (km1 _ _ (km _ _ h))) (λk h=>(k3 k h).trans (hout1 k λh' =>h (k2 k h')));exact ih h R4 T4 hr4 km4
    .rename_i y' hf;cases h;obtain⟨s3,w3,hk3,hrs,hout,hR⟩:=oK (X:=X) (show enter (q+1) xs rs s y' (λs' w' =>K (.ex xid) s' (TB w' wr))=some r from hen);obtain⟨s1,w1,hcore,_,hout1,hR1⟩:=oK (X:=X) (show enter q hd rs s x _=some _ from hf);obtain⟨m1,R1,km1⟩:=hR1 (A8 _) R2 T2 hr;refine wp_mono (hc.run hcore (R1.upq l7) (λk l h=>km1 _ _ (km _ _ (hE _ _ h)))) ?_;rintro e a' w' ⟨fl,s',wr',hk,hfl⟩;cases fl with
     |rt x=>cases hk|nm=>simp only at hk;obtain⟨y',hx,_⟩:=jr (X:=X) hk;cases hx
     |ex id=>
      simp only at hk;cases hb:Nat.beq id xid
      .simp[hb]at hk
      .simp only[hb,cond_true]at hk;have hid:=fJ hb;subst hid;obtain⟨rfl,m',ok',R1',k1,k2,k3⟩:=hfl;obtain⟨y',hx,hL⟩:=jr (X:=X) hk;cases hx;obtain⟨m4,ok4,O4,R4,T4,hr4,km4⟩:=hL Rl R1' (λk l h=>k1 _ _ (km1 _ _ (km _ _ h))) (λk h=>(k3 k h).trans (hout1 k λh' =>h (k2 k h')));exact⟨.ex id,s3,_,hk3,rfl,LP (q:=q+1) l7 km4 hout (hR (a5t (fE q)) R4 T4 hr4)⟩
    .rename_i r' hf;cases h;obtain⟨s1,w1,hcore,_,hout1,hR1⟩:=oK (X:=X) (show enter q hd rs s x _=some _ from hf);obtain⟨m1,R1,km1⟩:=hR1 (A8 _) R2 T2 hr;refine wp_mono (hc.run hcore (R1.upq l7) (λk l h=>km1 _ _ (km _ _ (hE _ _ h)))) ?_;rintro e a' w' ⟨fl,s',wr',hk,hfl⟩;cases fl with
     |rt x=>
      cases hk;obtain⟨hl,hp⟩:=hfl;rcases hl with rfl|⟨ch,rfl⟩
      .exact⟨.rt r',[],[],hen,.inl rfl,hp⟩
      .exact⟨.rt r',[],[],hen,.inr ⟨_,rfl⟩,hp⟩
     |nm=>simp only at hk;obtain⟨y',hx,_⟩:=jr (X:=X) hk;cases hx
     |ex id=>
      simp only at hk;cases hb:Nat.beq id xid
      .simp[hb]at hk
      .simp only[hb,cond_true]at hk;obtain⟨y',hx,_⟩:=jr (X:=X) hk;cases hx
    .cases h
  exact key aT (x:=x0) hl R2 T2 hr km
 all_goals (unfold a1s at h;cases h)
theorem wR(H:FxOk X){ret:rt.den->ρ}{pan:Int->Cmd ρ}(hret:UH X rt ret mE RetP)(hpan:UG X pan mE RetP):∀c:Code,DOk X mE RetP (BZ X.E rt ret pan c) c (vT c)
 | .skip=>wE (n:=0) ⟨λ{q an s wr R K r} h {m ok a w} Rl hE=>wp_skip ⟨.nm,s,wr,h,rfl,NL.here Rl l7⟩⟩| .label l=>wE (n:=0) ⟨λ{q an s wr R K r} h {m ok a w} Rl hE=>wp_label ⟨.nm,s,wr,h,rfl,NL.here Rl l7⟩⟩| .exit id=>wE (n:=0) ⟨λ{q an s wr R K r} h {m ok a w} Rl hE=>wp_exit ⟨.ex id,s,wr,h,rfl,NL.here Rl l7⟩⟩| .ret=>wE (n:=0) ⟨λ{q an s wr R K r} h {m ok a w} Rl hE=>by obtain⟨x,hk,hp⟩:=hret (K:=λx=>K (.rt (ret x)) [] []) h;exact wp_ret ⟨.rt (ret x),[],[],hk,.inl rfl,hp Rl hE⟩⟩
 | .region id ops draw=>wE (n:=1) ⟨λ{q an s wr R K r} h {m ok a w} Rl hE=>by
  rcases I_ H h with⟨c,s',ws,hk,hR⟩|⟨s',w',hk,⟨t,rfl,hfr⟩,hR⟩
  case inl=>
   unfold b9t at hk;obtain⟨x,s3,tr,he,hk⟩:=jI hk;cases hd:OY tr.1 ws
   .simp[hd]at hk
   simp only[hd,cond_true]at hk;have hd:=yj hd;refine hR (Rl.chmono (V5 _ _)) λhz S3 m' ok' a' w2 R' k1 k2 k3=>?_;obtain⟨T',g1,_⟩:=tV he S3 (λz hzr=>k3 z (hd z hzr));exact⟨.rt x,[],[],hk,.inr ⟨_,rfl⟩,hpan hz g1 R' (λk l h=>k1 _ _ (hE _ _ h))⟩
  refine hR (Rl.chmono (V5 _ _)) λm' ok' a' w2 R' k1 k2=>⟨.nm,s',_,hk,rfl,m',ok',?_,k1,λk h=>zt.2 (.inr h),λk h=>hfr k λx hx hkx=>h (zt.2 (.inl ⟨x,hx,hkx⟩))⟩;have e:CB*(q+1)=CB*q+CB:=by rw[Nat.mul_add,bD]
  rw[e];exact R'.climb (V5 _ _)⟩
 | .seq x y=>by
  have hx:=wR H hret hpan x;have hy:=wR H hret hpan y;have:=wE (X:=X) (mE:=mE) (RetP:=RetP) (c:=.seq x y) (n:=vT x+vT y) (core:=λq a s w R K=>BZ X.E rt ret pan x q a.l s w R λfl s' w' =>match fl with
   | .nm=>BZ X.E rt ret pan y (q+vT x) a.r s' w' R K| .ex id=>K (.ex id) s' w'
   | .rt r=>K (.rt r) s' w') (DOk.mk λ{q an s wr R K r} h {m ok a w} Rl hE=>by
    refine wp_seq (wp_mono (hx.run h Rl hE) ?_);rintro e a' w' ⟨fl,s',wr',hk,hfl⟩;cases fl with
    |nm=>obtain⟨rfl,m',ok',R1,k1,k2,k3⟩:=hfl;refine wp_mono (hy.run hk R1 (λk l h=>k1 _ _ (hE _ _ h))) ?_;rintro e a2 w2 ⟨fl,s2,wr2,hk2,hfl2⟩;exact⟨fl,s2,wr2,hk2,hfl2.trans k1 k2 k3 l7⟩
    |ex id=>obtain⟨rfl,hs⟩:=hfl;exact⟨.ex id,s',wr',hk,rfl,hs.up l7⟩
    |rt x=>
     obtain⟨hl,hs⟩:=hfl;rcases hl with rfl|⟨ch,rfl⟩
     .exact⟨.rt x,s',wr',hk,.inl rfl,hs⟩
     .exact⟨.rt x,s',wr',hk,.inr ⟨_,rfl⟩,hs⟩)
  rw[show vT (.seq x y)=vT x+vT y+1 by simp only[vT];omega];exact this
 | .block id x=>by
  have hx:=wR H hret hpan x;have:=wE (X:=X) (mE:=mE) (RetP:=RetP) (c:=.block id x) (n:=vT x) (core:=λq a s w R K=>BZ X.E rt ret pan x q a.l s w R λfl s' w' =>match fl with
   | .nm=>K .nm s' w'| .ex j=>bif Nat.beq j id then K .nm s' w' else K (.ex j) s' w'
   | .rt r=>K (.rt r) s' w') (DOk.mk λ{q an s wr R K r} h {m ok a w} Rl hE=>by
    refine wp_block (wp_mono (hx.run h Rl hE) ?_);rintro e a' w' ⟨fl,s',wr',hk,hfl⟩;cases fl with
    |nm=>obtain⟨rfl,hs⟩:=hfl;exact⟨.nm,s',wr',hk,rfl,hs⟩
    |ex j=>
     obtain⟨rfl,hs⟩:=hfl;simp only at hk;cases hb:Nat.beq j id
     .simp only[hb,cond_false]at hk;have hne:j≠id:=λe=>by subst e;simp at hb
      simp only[Exit.inBlock,hne,if_false];exact⟨.ex j,s',wr',hk,rfl,hs⟩
     .simp only[hb,cond_true]at hk;have:=fJ hb;subst this;simp only[Exit.inBlock,if_true];exact⟨.nm,s',wr',hk,rfl,hs⟩
    |rt x=>
     obtain⟨hl,hs⟩:=hfl;rcases hl with rfl|⟨ch,rfl⟩
     .exact⟨.rt x,s',wr',hk,.inl rfl,hs⟩
     .exact⟨.rt x,s',wr',hk,.inr ⟨_,rfl⟩,hs⟩)
  rw[show vT (.block id x)=vT x+1 by simp only[vT];omega];exact this
 | .cond c x y=>by
  have hx:=wR H hret hpan x;have hy:=wR H hret hpan y;have:=wE (X:=X) (mE:=mE) (RetP:=RetP) (c:=.cond c x y) (n:=vT x+vT y) (core:=λq a s w R K=>(sW c λv=>Cmd.ret v:Cmd V).runK s ([],[]) λv s' _=>match v with
   | .b t=>l9 t (BZ X.E rt ret pan x q a.l s' w R K) (BZ X.E rt ret pan y (q+vT x) a.r s' w R K)
   |_=>none) (DOk.mk λ{q an s wr R K r} h {m ok a w} Rl hE=>by
    obtain⟨v,s',tr,he,hk⟩:=jI h;obtain⟨hv,hs⟩:=oh (bg Rl (K:=λv=>Cmd.ret v) (x:=c) (Q:=λv S' =>lD ⟨w.heap,ok,m⟩ v (a.eval c)/\S' =U7 s) λv hv=>⟨hv,rfl⟩) he;cases v<;>try (simp at hk;done)
    case b t=>
     have R1:Rel X (CB*q) (CB*q) (U7 s') m ok a w:=by rw[hs];exact Rl
     refine wp_cond_split (Rj hv) (λht=>?_) (λht=>?_)
     .subst ht;refine wp_mono (hx.run (show BZ X.E rt ret pan x q an.l s' wr R K=some r from hk) R1 hE) ?_;rintro e a2 w2 ⟨fl,s2,wr2,hk2,hfl2⟩;exact⟨fl,s2,wr2,hk2,hfl2.trans (λ_ _ h=>h) (λ_ h=>h) (λk _=>by rw[hs]) l7⟩
     .subst ht;refine wp_mono (hy.run (show BZ X.E rt ret pan y (q+vT x) an.r s' wr R K=some r from hk) (R1.upq l7) hE) ?_;rintro e a2 w2 ⟨fl,s2,wr2,hk2,hfl2⟩;exact⟨fl,s2,wr2,hk2,hfl2.trans (λ_ _ h=>h) (λ_ h=>h) (λk _=>by rw[hs]) l7⟩)
  rw[show vT (.cond c x y)=vT x+vT y+1 by simp only[vT];omega];exact this
 | .loop x=>by have hx:=wR H hret hpan x;have:=wE (a3E hx);rw[show vT (.loop x)=2+vT x+1 by simp only[vT];omega];exact this| .goto l=>⟨λh=>by simp[BZ]at h⟩| .scope x=>⟨λh=>by simp[BZ]at h⟩| .rangeFunc ..=>⟨λh=>by simp[BZ]at h⟩| .refuse ..=>⟨λh=>by simp[BZ]at h⟩
end
end Go.GP
namespace Go.GP
structure EnvOk (P:Program) (E:Env):Prop where
 nt:64*E.nt<=999936
 tt:∀t i,dL E.tt t=some i->TiOk P t i
 fs:∀p∈E.fs,a6T P E.gl p
 eqs:∀t sh,dL E.eqs t=some sh->LK P t sh
 ms:∀p∈E.ms,Zx P p.1.1 p.1.2 p.2.1 p.2.2
 fn:∀p∈E.fs,∃fn,P.funcs[a7j p.1]? =some fn/\fn.body.isSome=true/\(fn.name== "runtime.NumGoroutine")=false
 pl:∀p∈E.pl,PlP P p.1 p.2.1 p.2.2
theorem PZ{C:Cx} :∀{a:List V} {xs:c5A},iC C a xs->a.length=xs.length
 |[],_,h=>by simp only[iC]at h;simp[h]|c::a,_,⟨v,r,e,h1,h2⟩=>by subst e;simp[PZ h2]
def Ru(tmps:Array Value):ResultVar->Sem Value
 | .tmp t=>pure (tmps.getD t undef)| .cell a t=>do loadVar t (←asAddr (tmps.getD a undef))
def a8t(h:Array Obj)(tm:Nat->Value):c5B->c5A->c5B->Prop
 |[],os,B=>os=[]/\B=[]|n::ns,os,B=>(∃b arr T os' B',tm n= .pointer (some ⟨b,0,none⟩)/\h[b]? =some (.cells arr T (0,0))/\os= .agg arr::os' /\B=b::B' /\a8t h tm ns os' B')\/
  (∃t b arr T os' B',tm n= .iface t (.pointer (some ⟨b,0,none⟩))/\h[b]? =some (.cells arr T (0,0))/\os= .agg arr::os' /\B=b::B' /\a8t h tm ns os' B')\/
  (∃l os',Loc.view l none (tm n)/\os=tm n::os' /\a8t h tm ns os' B)
def UB(h:Array Obj)(ok:Nat->Ty->Prop):List MG->c5A->Prop
 |[],vs=>vs=[]|m::ms,vs=>∃v r cs x O,vs=v::r/\Ri m.1 v cs/\nG h ok m.2 none x cs O/\UB h ok ms r
theorem Yh{h:Array Obj}{ok:Nat->Ty->Prop} :∀{ms:List MG} {x:X4 ms} {vs:c5A} {O:c5B},lI h ok ms x vs O->UB h ok ms vs
 |[],_,_,_,e=>e.1|[m],x,_,_,⟨v,cs,e,hg,hr⟩=>⟨v,[],cs,x,_,e,hg,hr,rfl⟩|m::m' ::r,x,_,_,⟨v,cs,vs',O1,O2,e,eo,hg,h1,h2⟩=>⟨v,vs',cs,x.1,O1,e,hg,h1,Yh h2⟩
section
variable {X:Fx} {cl ch:Nat} {m:Mp} {a:Act} {w:World}
theorem La{α:Type}{Q:α->Sm->Prop}(H:FxOk X){S:Sm}{ok:Nat->Ty->Prop}(R:Rel X cl ch S m ok a w):∀(l:List ResultVar) {K:List V->Cmd α}
  (hK:∀vs rvs,iC ⟨w.heap,ok,m⟩ vs rvs->rvs.length=l.length->(l.mapM (Ru a.tmps)).run X.P w= .ok rvs w->(K vs).post S Q),(Rt X.E l K).post S Q
 |[],K,hK=>hK [] [] rfl rfl A7
 | .tmp t::l,K,hK=>by unfold Rt;refine bV λhb=>Y7 ?_;refine La H R l λvs rvs hr hl hrun=>?_;refine hK _ (a.tmps.getD t undef::rvs) ⟨_,_,rfl,R.slot t (FP hb),hr⟩ (by simp[hl]) ?_;simp only[List.mapM_cons,H8,Ru,aI,J3,hrun]
 | .cell p t::l,K,hK=>by unfold Rt;refine bV λhb=>Y7 ?_;refine Em H R (R.slot p (FP hb)) λv u ad hv hx hload=>?_;refine La H R l λvs rvs hr hl hrun=>?_;refine hK _ (u::rvs) ⟨_,_,rfl,hv,hr⟩ (by simp[hl]) ?_;simp only[List.mapM_cons,H8,Ru,hx,asAddr,aI,J3,hload,hrun]
theorem Fa{α:Type}{Q:α->Sm->Prop} :∀(ns:c5B) {S:Sm} {ok:Nat->Ty->Prop} {T:c5B} {K:List V->Cmd α} (R:Rel X cl ch S m ok a w) (hT:Tk X S m ok w T)
  (hK:∀S' ws os B,Rel X cl ch S' m ok a w->Tk X S' m ok w (T++B)->a8t w.heap (λn=>a.tmps.getD n Go.undef) ns os B->iC ⟨w.heap,ok,m⟩ ws os->(K ws).post S' Q),(QX ns K).post S Q
 |[],S,ok,T,K,R,hT,hK=>hK S [] [] [] R (by simpa using hT) ⟨rfl,rfl⟩ rfl|n::ns,S,ok,T,K,R,hT,hK=>by
  unfold QX;refine aN λhb=>Y7 ?_;have hsl:=R.slot n (by rw[aF]at hb;exact hb);split<;>try trivial
  .rename_i bx hSn;rw[hSn]at hsl;obtain⟨blk,hm,hv⟩:=hsl;refine Y7 ?_;split<;>try trivial
   rename_i cs hS;obtain⟨blk',arr,Ty,hm',hh,hl⟩:=R.own_cells hS;simp only at hm;rw[hm]at hm';cases hm';refine fP ?_;have hT1:Tk X (upd S (V6+bx) .dead) m ok w (T++[blk]):=hT.kill R bx (λb hb=>by simp at hb;subst hb;simp[P5,hS,hm]) A7;refine Fa ns (R.kill bx) hT1 λS' ws os B R' T' ho hw=>?_;exact hK S' _ (.agg arr::os) (blk::B) R' (by simpa using T') (.inl ⟨blk,arr,Ty,os,B,hv,hh,rfl,rfl,ho⟩) ⟨_,_,rfl,⟨arr,rfl,hl⟩,hw⟩
  .rename_i t u hSn;rw[hSn]at hsl;obtain⟨z,hz,_,hsl⟩:=hsl;split<;>try trivial
   rename_i bx;obtain⟨blk,hm,hv⟩:=hsl;refine Y7 ?_;split<;>try trivial
   rename_i cs hS;obtain⟨blk',arr,Ty,hm',hh,hl⟩:=R.own_cells hS;simp only at hm;rw[hm]at hm';cases hm';refine fP ?_;have hT1:Tk X (upd S (V6+bx) .dead) m ok w (T++[blk]):=hT.kill R bx (λb hb=>by simp at hb;subst hb;simp[P5,hS,hm]) A7;refine Fa ns (R.kill bx) hT1 λS' ws os B R' T' ho hw=>?_;exact hK S' _ (.agg arr::os) (blk::B) R' (by simpa using T') (.inr (.inl ⟨t,blk,arr,Ty,os,B,hv▸hz,hh,rfl,rfl,ho⟩)) ⟨_,_,rfl,⟨arr,rfl,hl⟩,hw⟩
  .rename_i bx hSn;rw[hSn]at hsl;obtain⟨l,hm,hv⟩:=hsl;refine Fa ns R hT λS' ws os B R' T' ho hw=>?_;exact hK S' _ (a.tmps.getD n Go.undef::os) B R' T' (.inr (.inr ⟨l,os,hv,rfl,ho⟩)) ⟨_,_,rfl,⟨l,hm,hv⟩,hw⟩
end
theorem OM{l:Loc}{v:Value}(h:l.view none v):(∃a n c,v= .slice a n c)\/∃b,v= .map (some b):=by
 cases l with
 |nil=>exact .inl ⟨_,_,_,h⟩|st b=>cases h|mp b=>exact .inr ⟨_,h⟩|arr blk off len cap sz=>exact .inl ⟨_,_,_,h⟩
theorem a7J{h h0:Array Obj}{ok0:Nat->Ty->Prop}{tm:Nat->Value} :∀(ms:List MG) (k:Nat) {vals:c5A} {os:c5A} {B:c5B},a1A ms=true->
  UB h0 ok0 ms vals->(∀i v,k+i∈jE ms k->vals[i]? =some v->tm (k+i)=v)->a8t h tm (jE ms k) os B->rM h ms vals os B:=by
 have tail:∀{m:List MG} {k:Nat} {v:Value} {r:c5A},(∀i u,k+i∈jE m (k+1)->(v::r)[i]? =some u->tm (k+i)=u)->∀i u,(k+1)+i∈jE m (k+1)->r[i]? =some u->tm ((k+1)+i)=u:=by intro m k v r h i u hi hu;have e:k+(i+1)=k+1+i:=l7;have:=h (i+1) u (by rw[e];exact hi) (by simpa using hu);rwa[e]at this
 have tail2:∀{m:List MG} {k:Nat} {v:Value} {r:c5A},(∀i u,k+i∈k::jE m (k+1)->(v::r)[i]? =some u->tm (k+i)=u)->(tm k=v)/\∀i u,(k+1)+i∈jE m (k+1)->r[i]? =some u->tm ((k+1)+i)=u:=λh=>
  ⟨by have:=h 0 _ A7 rfl;simpa using this,tail (λi u hi hu=>h i u (U3 _ hi) hu)⟩
 intro ms;induction ms with
 |nil=>intro k vals os B hsb hs ht ho;simp only[UB]at hs;subst hs;exact ho|cons m ms ih=>
  intro k vals os B hsb hs ht ho;obtain⟨v,r,cs,x,O,rfl,hg,hr,hs⟩:=hs;obtain⟨g,m⟩:=m;cases m
  case box md=>
   unfold jE at ht ho;obtain⟨htv,ht⟩:=tail2 ht;obtain⟨blk,arr,T,O',hc,_⟩:=hr;have hv:v= .pointer (some ⟨blk,0,none⟩)\/∃ar,v= .agg ar:=by
    cases g
    .left;have hg:cs=[v]:=hg;rw[hg]at hc;simpa using hc
    .right;obtain⟨ar,e,_⟩:=hg;exact⟨ar,e⟩
   rcases ho with⟨b,arr,T,os',B',e,hh,e1,e2,ho'⟩|⟨t,b,arr,T,os',B',e,_⟩|⟨l,os',e,_⟩
   .exact⟨b,arr,T,os',B',htv.symm.trans e,hh,e1,e2,ih (k+1) hsb hs ht ho'⟩
   .rw[htv]at e;rcases hv with rfl|⟨_,rfl⟩<;>cases e
   .rcases OM e with⟨_,_,_,e⟩|⟨_,e⟩<;>rw[htv]at e<;>rcases hv with rfl|⟨_,rfl⟩<;>cases e
  case ownb u=>
   unfold jE at ht ho;obtain⟨htv,ht⟩:=tail2 ht;obtain⟨l,v',hc,hvv,_⟩:=hr;have hv:((∃a n c,v= .slice a n c)\/∃b,v= .map (some b))\/∃ar,v= .agg ar:=by
    cases g
    .left;have hg:cs=[v]:=hg;rw[hg]at hc;simp only[G5,and_true]at hc;subst hc;exact OM hvv
    .right;obtain⟨ar,e,_⟩:=hg;exact⟨ar,e⟩
   rcases ho with⟨b,arr,T,os',B',e,_⟩|⟨t,b,arr,T,os',B',e,_⟩|⟨l,os',e,rfl,ho'⟩
   .rw[htv]at e;rcases hv with(⟨_,_,_,rfl⟩|⟨_,rfl⟩)|⟨_,rfl⟩<;>cases e
   .rw[htv]at e;rcases hv with(⟨_,_,_,rfl⟩|⟨_,rfl⟩)|⟨_,rfl⟩<;>cases e
   .rw[htv];exact⟨os',rfl,ih (k+1) hsb hs ht ho'⟩
  case ifc t md=>
   cases md
   case box md=>
    unfold jE at ht ho;obtain⟨htv,ht⟩:=tail2 ht;obtain⟨u,hc,blk,arr,T,O',hu,_⟩:=hr;have hv:v= .iface t u\/∃ar,v= .agg ar:=by
     cases g
     .left;have hg:cs=[v]:=hg;rw[hg]at hc;simpa using hc
     .right;obtain⟨ar,e,_⟩:=hg;exact⟨ar,e⟩
    rcases ho with⟨b,arr,T,os',B',e,_⟩|⟨t,b,arr,T,os',B',e,hh,e1,e2,ho'⟩|⟨l,os',e,_⟩
    .rw[htv]at e;rcases hv with rfl|⟨_,rfl⟩<;>cases e
    .exact⟨t,b,arr,T,os',B',htv.symm.trans e,hh,e1,e2,ih (k+1) hsb hs ht ho'⟩
    .rcases OM e with⟨_,_,_,e⟩|⟨_,e⟩<;>rw[htv]at e<;>rcases hv with rfl|⟨_,rfl⟩<;>cases e
   all_goals
    unfold jE at ht ho;exact ih (k+1) hsb hs (tail ht) ho
  case sbx=>cases hsb
  case sit=>cases hsb
  all_goals
   unfold jE at ht ho;exact ih (k+1) hsb hs (tail ht) ho
theorem a2x:∀{a b:c5B},a2w a b=true->∀n∈a,n∈b
 |[],_,_,_,h=>by cases h|a::r,b,h,n,hn=>by
  unfold a2w at h;cases hb:Cj a b<;>rw[hb]at h
  .cases h
  .rcases D5.1 hn with rfl|hn
   .exact YR hb
   .exact a2x h n hn
theorem SN:∀{ms:List MG} {k n:Nat},n∈jE ms k->k<=n/\n<k+ms.length
 |[],k,n,h=>by cases h|(g,m)::ms,k,n,h=>by
  have key:n∈k::jE ms (k+1)->k<=n/\n<k+(ms.length+1):=λh=>by
   rcases D5.1 h with rfl|h
   .omega
   .have:=SN h;omega
  cases m
  case box md=>exact key h
  case ownb u=>exact key h
  case ifc t md=>
   cases md
   case box md=>exact key h
   all_goals exact key (U3 _ h)
  all_goals exact key (U3 _ h)
variable {P:Program}{fn:Func}
theorem a2j{w:World}{tmps:Array Value}{rvs:c5A}(h:(fn.results.toList.mapM (Ru tmps)).run P w= .ok rvs w):
  ∃v,(results fn tmps).run P w= .ok v w/\Qv rvs.length v rvs:=by
 have hm:(fn.results.mapM (Ru tmps)).run P w= .ok rvs.toArray w:=by rw[Array.mapM_eq_mapM_toList];simp[h]
 have e:results fn tmps=(do let vs ←fn.results.mapM (Ru tmps);pure (if h:vs.size=1 then vs[0]else .tuple vs):Sem Value):=by unfold results;congr 1
 rw[e,H8,hm];clear h hm e;rcases rvs with _|⟨x,_|⟨y,r⟩⟩
 .exact⟨.tuple #[],rfl,rfl,rfl⟩
 .exact⟨x,rfl,rfl,rfl⟩
 .exact⟨.tuple (x::y::r).toArray,A7,rfl,rfl⟩
section
variable {X:Fx} {cl ch:Nat} {m:Mp} {ok:Nat->Ty->Prop} {a:Act} {w:World}
theorem a7g{Q:Unit->Sm->Prop}{xall:c5A}(hall:∀k p,xall[k]? =some p->a.tmps.getD k Go.undef=p):∀(ms:List MG) (n:Nat) {xs:c5A} {S:Sm} {K:Cmd Unit}
  (R:Rel X cl ch S m ok a w) (hxs:∀i v,xs[i]? =some v->a.tmps.getD (n+i) Go.undef=v) (hl:ms.length=xs.length) (hd:UE w.heap xall ms xs)
  (hK:∀S',Rel X cl ch S' m ok a w->K.post S' Q),(ZT ms n K).post S Q:=by
 intro ms;induction ms with
 |nil=>intro n xs S K R hxs hl hd hK;exact hK S R|cons md ms ih=>
  intro n xs S K R hxs hl hd hK;obtain⟨g,md⟩:=md;cases xs with
  |nil=>cases hl|cons x xs=>
   have hxs' :∀i v,xs[i]? =some v->a.tmps.getD (n+1+i) Go.undef=v:=λi v h=>by have:=hxs (i+1) v (by simpa using h);rwa[show n+(i+1)=n+1+i by omega]at this
   have hl' :ms.length=xs.length:=by simpa using hl
   cases md
   case dv k off sz fo=>obtain⟨⟨p,hp,hpa⟩,hd⟩:=hd;unfold ZT;refine aN λhb=>Y7 ?_;simp only[x9]at hb;have hk:=FP hb.1;have hn:=FP hb.2;have hsl:=R.slot k hk;rw[hall k p hp]at hsl;refine Ol R hsl λr y hr hy=>fP ?_;have hx:=hxs 0 x rfl;rw[aX]at hx;have:y=x:=hy.det hpa;subst this;exact ih (n+1) (R.slotV hn (by rw[hx];exact hr)) hxs' hl' hd hK
   all_goals
    unfold ZT;exact ih (n+1) R hxs' hl' hd hK
end
theorem a4Q{X:Fx}(H:FxOk X){ρ:Type}{rt:Ret}{ret:rt.den->ρ}{pan:Int->Cmd ρ}(hres:fn.results.toList=rt.rs.map (·.1)){c:Code}{an:Ann}{q:Nat}{s:St}{mE:Mp}{ok1:Nat->Ty->Prop}{y:ρ}
  {D:Den ρ} {nn:Nat} (hD:∀{RetP:ρ->Exit->Act->World->Prop},UH X rt ret mE RetP->UG X pan mE RetP->DOk X mE RetP D c nn)
  (hk:D q an s [] ρ (λfl s' _=>b2J X.E rt ret fl s')=some y)
  {act:Act} {w1:World} (Rq:Rel X (CB*q) (CB*q) (U7 s) mE ok1 act w1) {ps:List MG} {vals:c5A} {h00:Array Obj} {ok00:Nat->Ty->Prop} (hsame:rt.outs.map (·.1)=jE ps 0) (hsub:∀n∈rt.outs.map (·.1),n∈X.E.kp) (hnosb:a1A ps=true)
  (hshp:UB h00 ok00 ps vals) (htm:∀i v,0+i∈jE ps 0->vals[i]? =some v->X.tm0.getD (0+i) Go.undef=v) {Rr:Ending->World->Prop}
  (hN:∀r0 v w' ok' O' rs os B,y=ret r0->Frame' (X.E.gl=[]) X.w0 w' X.O->(∀b t,X.ok0 b t->ok' b t)->(∀b t,ok' b t->b<w'.heap.size/\(X.ok0 b t\/X.w0.heap.size<=b\/b∈X.O))->
   (O' ++B).Nodup->(∀b∈O' ++B,(∀t,¬ok' b t)/\b<w'.heap.size/\(X.w0.heap.size<=b\/b∈X.O))->
   Qv (rt.rs.map (·.2)).length v rs->rM w'.heap ps vals os B->lI w'.heap ok' (rt.rs.map (·.2)++rt.outs.map (·.2)) r0 (rs++os) O' ->Rr (.returned v) w')
  (hP:∀{c:Int} {S S' :Sm} {tr:Tr} {cl ch:Nat} {m:Mp} {ok:Nat->Ty->Prop} {a' :Act} {w' :World},c≠0->(pan c).eval S ([],[])=some (y,S',tr)->Rel X cl ch S m ok a' w' ->(∀k l,mE k=some l->m k=some l)->
   Leaves X.P fn a'.tmps Rr a'.defers (.panicking (yh X.P c)) w'):
  c.wp X.P (bodyPostD X.P fn Rr) act w1:=by
 let RetN:rt.den->Act->World->Prop:=λr0 a' w' =>(∀d∈a'.defers,a5e X.P d)/\∃v,(results fn a'.tmps).run X.P w' = .ok v w' /\
  ∃ok' O' rs os B,Frame' (X.E.gl=[]) X.w0 w' X.O/\(∀b t,X.ok0 b t->ok' b t)/\(∀b t,ok' b t->b<w'.heap.size/\(X.ok0 b t\/X.w0.heap.size<=b\/b∈X.O))/\
   (O' ++B).Nodup/\(∀b∈O' ++B,(∀t,¬ok' b t)/\b<w'.heap.size/\(X.w0.heap.size<=b\/b∈X.O))/\
   Qv (rt.rs.map (·.2)).length v rs/\rM w'.heap ps vals os B/\lI w'.heap ok' (rt.rs.map (·.2)++rt.outs.map (·.2)) r0 (rs++os) O'
 let RetP:ρ->Exit->Act->World->Prop:=λz e a' w' =>(e= .ret->∃r0,z=ret r0/\RetN r0 a' w')/\
  (∀ch,e= .panic ch->∃(c:Int) (S S' :Sm) (tr:Tr) (cl ch' :Nat) (m:Mp) (ok:Nat->Ty->Prop),ch=yh X.P c/\c≠0/\(pan c).eval S ([],[])=some (z,S',tr)/\Rel X cl ch' S m ok a' w' /\(∀k l,mE k=some l->m k=some l))
 have hretN:∀{s:St} {R:Type} {K:rt.den->Option R} {r:R},(b0D X.E rt).runK s ([],[]) (λx _ _=>K x)=some r->
   ∃x,K x=some r/\∀{cl ch:Nat} {m:Mp} {ok:Nat->Ty->Prop} {a:Act} {w:World},Rel X cl ch (U7 s) m ok a w->RetN x a w:=by
  intro s R K r h;obtain⟨x,s',tr,he,hk⟩:=jI h;refine⟨x,hk,λ{cl ch m ok1 a1 w1} R1=>?_⟩;refine oh (Q:=λx _=>RetN x a1 w1) ?_ he;unfold b0D;refine La H R1 _ λvs1 rvs hv1 hl1 hrun=>Fa (T:=[]) _ R1 Tk.nil λS2 ws os B R2 T2 hout hws=>?_;refine xH _ R2 T2 λS2 m2 R2 T2 km2=>?_;refine a0Z _ R2 T2 (N_ km2 (IZ hv1 hws)) λS3 ok3 y O3 R3 T3 k3 s3 hy=>?_;simp only[H9]at T3;have hp:(B++O3).Perm (O3++B):=jR;rw[←hres]at hrun;obtain⟨v,hv,hrv⟩:=a2j hrun;refine⟨R3.nodef,v,hv,ok3,O3,rvs,os,B,R3.frame,R3.okIn,λb t hb=>⟨R3.okLt b t hb,R3.okOut b t hb⟩,hp.nodup_iff.1 T3.nodup,λb hb=>?_,?_,a7J ps 0 hnosb hshp (λi v hi hv=>?_) (by rw[hsame]at hout;exact hout),hy⟩
  .obtain⟨f1,f2,f3,_⟩:=T3.free b (hp.mem_iff.2 hb);exact⟨f1,f2,f3⟩
  .refine⟨by rw[hl1];simp,hrv.2⟩
  .rw[R1.kept (0+i) (hsub _ (by rw[hsame];exact hi))];exact htm i v hi hv
 have hret:UH X rt ret mE RetP:=by intro s R K r h;obtain⟨x,hk,hx⟩:=hretN h;exact⟨x,hk,λR1 _=>⟨λ_=>⟨x,rfl,hx R1⟩,λch e=>by cases e⟩⟩
 have hpan:UG X pan mE RetP:=λ{c S S' tr x} hc he {cl ch m ok a w} R1 km=>⟨λe=>(by cases e),λch' e=>by cases e;exact⟨c,S,S',tr,cl,ch,m,ok,rfl,hc,he,R1,km⟩⟩
 have fin:∀{r0:rt.den} {a' :Act} {w' :World},y=ret r0->RetN r0 a' w' ->Leaves X.P fn a'.tmps Rr a'.defers .returning w' :=λhy h=>by obtain⟨h1,v,h2,ok',O',rs,os,B,g1,g2,g3,g4,g5,g6,g7,g8⟩:=h;exact Sz ⟨v,h2,hN _ v _ ok' O' rs os B hy g1 g2 g3 g4 g5 g6 g7 g8⟩ _ h1
 have hwp:=(hD hret hpan).run hk Rq (λ_ _ h=>h);refine wp_mono hwp ?_;rintro e a' w' ⟨fl,s',wr',hk2,hfl⟩;cases fl with
 |ex id=>cases hk2|rt z=>
  have hk2:some z=some y:=hk2;cases hk2;obtain⟨hl,h1,h2⟩:=hfl;rcases hl with rfl|⟨ch,rfl⟩
  .obtain⟨r0,hy,hn⟩:=h1 rfl;exact fin hy hn
  .obtain⟨c,S,S',tr,cl,ch',m,ok,rfl,hc,he,R1,km⟩:=h2 ch rfl;exact hP hc he R1 km
 |nm=>obtain⟨rfl,m',ok',R',k1,_,_⟩:=hfl;obtain⟨r0,hy,hp⟩:=hretN (K:=λr=>some (ret r)) hk2;simp only[F7]at hy;exact fin hy.symm (hp R')
theorem UY{E:Env}{f:FuncId}{c:Code}{ps:List MG}{ρ:Type}{rt:Ret}{ret:rt.den->ρ}{pan:Int->Cmd ρ}{an:Ann}{df:Option (List Deferred)}{D:Den ρ}{nn:Nat}
  (hD:∀{X:Fx},X.P=P->X.E=E->FxOk X->∀{mE:Mp} {RetP:ρ->Exit->Act->World->Prop},UH X rt ret mE RetP->UG X pan mE RetP->DOk X mE RetP D c nn) (hdf:∀l,df=some l->[]=l)
  (hdf2:∀l,df=some l->∀p∈E.pl,Nat.beq p.2.2 0=false) (hf:P.funcs[f]? =some fn) (hb:fn.body=some c) (hnt:fn.ntmps=E.nt)
  (hres:fn.results.toList=rt.rs.map (·.1)) (hE:EnvOk P E) {w:World} {ok:Nat->Ty->Prop} {O:c5B} {vals:c5A} {x:X4 ps} {y:ρ}
  (hlt:∀b t,ok b t->b<w.heap.size) (hnd:O.Nodup) (hO:∀b∈O,(∀t,¬ok b t)/\b<w.heap.size) (hgl:∀g u,dL E.gl g=some u->Ia ⟨w.heap,ok,nom⟩ g u.1 u.2)
  (hrel:lI w.heap ok ps x vals O) (hdv:UE w.heap vals ps vals)
  (hle00:(Nat.ble ps.length E.nt&&Fv (rt.outs.map (·.1)) (jE ps 0)&&a2w (rt.outs.map (·.1)) E.kp&&a1A ps)=true)
  (hden:((CZ ps x 0 λvs n=>bif Nat.ble n CB then FB (List.range vs.length) vs (ZT ps 0 (.ret ()))else .fail).runK [] ([],[]) λ_ s _=>
   D 1 an s [] ρ (λfl s' _=>b2J E rt ret fl s'))=some y) {Rr:Ending->World->Prop}
  (hN:∀r0 v w' ok' O' rs os B,y=ret r0->Frame' (E.gl=[]) w w' O->(∀b t,ok b t->ok' b t)->(∀b t,ok' b t->b<w'.heap.size/\(ok b t\/w.heap.size<=b\/b∈O))->
   (O' ++B).Nodup->(∀b∈O' ++B,(∀t,¬ok' b t)/\b<w'.heap.size/\(w.heap.size<=b\/b∈O))->
   Qv (rt.rs.map (·.2)).length v rs->rM w'.heap ps vals os B->lI w'.heap ok' (rt.rs.map (·.2)++rt.outs.map (·.2)) r0 (rs++os) O' ->Rr (.returned v) w')
  (hP:∀{c:Int} {S S' :Sm} {tr:Tr} {a' :Act} {w' :World},c≠0->(pan c).eval S ([],[])=some (y,S',tr)->Frame' (E.gl=[]) w w' O->(∀l,df=some l->a'.defers=l)->
   Leaves P fn a'.tmps Rr a'.defers (.panicking (yh P c)) w'):Calls P f vals.toArray w Rr:=by
 let X:Fx:=⟨P,E,w,O,ok,vals.toArray++Array.replicate (E.nt -vals.length) undef,df⟩;have H:FxOk X:=⟨hE.nt,hE.tt,hE.fs,hE.eqs,hE.ms,hE.fn,hE.pl,hdf2⟩;refine calls_of_wp_defers hf hb ?_;simp only[dK];rw[hnt];generalize hact:({ tmps:=vals.toArray++Array.replicate (E.nt -vals.length) undef,defers:=[] } :Act)=act;have hvl:vals.length=ps.length:=NF hrel;simp only[x9]at hle00;obtain⟨⟨⟨hle0,hsame⟩,hsub⟩,hnosb⟩:=hle00;have hsame:=Lh hsame;have hsub:=a2x hsub;have hle1:=P9 hle0;obtain⟨u,s,tr,he,hk⟩:=jI hden;have hsize:act.tmps.size=E.nt:=by subst hact;simp;omega
 have hslots:∀n,n<vals.length->act.tmps.getD n undef=vals.getD n undef:=λn hn=>by subst hact;simp only[U1];rw[jK (by simpa using hn)];simp[NZ]
 have R0:Rel X 0 0 (U7 []) nom ok act w:={ size:=hsize,nodef:=(by subst hact;intro d hd;cases hd),dfs:=(by subst hact;exact hdf),slot:=λn _=>trivial,box:=λn=>trivial,inj:=λn n' b h=>(by simp[U7,P5]at h),nd:=λn=>(by simp[U7,P5]),sep:=λn b h=>(by simp[U7,P5]at h),okLt:=hlt,okIn:=λb t h=>h,okOut:=λb t h=> .inl h,frame:=Frame'.refl w O,fresh:=λ_ _ _=>rfl,strict:=λ_ _=>rfl,gl:=hgl,kept:=λn _=>by subst hact;rfl };have T0:Tk X (U7 []) nom ok w (O++[]):=⟨by simpa using hnd,λb hb=>by simp only[D8]at hb;obtain⟨h1,h2⟩:=hO b hb;exact⟨h1,h2,.inr hb,λn e=>by simp[U7,P5]at e⟩⟩
 have key:=oh (Io (T:=[]) ps (Q:=λ_ S' =>∃m' vs,Rel X 0 CB S' m' ok act w/\iC ⟨w.heap,ok,m'⟩ vs vals) R0 (A8 0) T0 hrel
  (K:=λvs n=>bif Nat.ble n CB then FB (List.range vs.length) vs (ZT ps 0 (.ret ()))else .fail) λS1 m1 vs n1 ch1 R1 c1 T1 k1 s1 l1 e1=>bV λhb=>by
   have hn1:=P9 hb;have hvs:=PZ l1;have hr:vals=(List.range vs.length).map λn=>act.tmps.getD n Go.undef:=by
    apply kV
    .simp[hvs]
    .intro i h1 h2;simp only[xf,uA];rw[hslots i h1,NZ,jk h1];rfl
   have hall:∀k p,vals[k]? =some p->act.tmps.getD k Go.undef=p:=λk p hk=>by rw[hslots k (X9.1 hk).1,NZ,hk];rfl
   refine Jg _ (R1.chmono (ch' :=CB) l7) (by rw[←hr];exact l1) λS' R' =>?_;refine a7g hall ps 0 R' (λi v hi=>by rw[fG];exact hall i v hi) hvl.symm hdv λS2 R2=>⟨m1,vs,R2,l1⟩) he
 obtain⟨mE,vs,RE,hvs⟩:=key;have Rq:Rel X (CB*1) (CB*1) (U7 s) mE ok act w:=(RE.climb (gV _)).chmono (by rw[bD];exact A8 _);refine a4Q H hres (D:=D) (nn:=nn) (hD rfl rfl H) hk Rq hsame hsub hnosb (Yh hrel) (λi v hi hv=>?_) hN (λ{c S S' tr cl ch m ok' a' w'} hc he R1 _=>hP hc he R1.frame R1.dfs);have hlt2:=(SN hi).2;have h2:=hslots (0+i) (by rw[hvl];omega);rw[←hact]at h2;refine h2.trans ?_;rw[NZ,fG,hv];rfl
theorem NQ{P:Program}{E:Env}{f:FuncId}{fn:Func}{c:Code}{ps:List MG}{rt:Ret}{an:Ann}{F:X4 ps->Option rt.den}(hf:P.funcs[f]? =some fn)(hb:fn.body=some c)(hnt:fn.ntmps=E.nt)
  (hres:fn.results.toList=rt.rs.map (·.1)) (hE:EnvOk P E) (hF:∀x r,F x=some r->a7f E ps rt c an x=some r):
  dI P E.gl f ⟨ps,rt.rs.map (·.2),rt.outs.map (·.2),F⟩:=by
 intro w ok O vals x r hlt hnd hO hgl hrel hdv hfn;have hden:=hF x r hfn;clear hfn hF;unfold a7f at hden;cases hle00:(Nat.ble ps.length E.nt&&Fv (rt.outs.map (·.1)) (jE ps 0)&&a2w (rt.outs.map (·.1)) E.kp&&a1A ps)
 .simp only[hle00,cond_false]at hden;cases hden
 simp only[hle00,cond_true]at hden;refine UY (D:=BZ E rt (λr=>r) (λ_=> .fail) c) (λ{X} h1 h2 H {mE RetP} a b=>by subst h1;subst h2;exact wR H a b c) (df:=none) (λl h=>by cases h) (λl h=>by cases h) hf hb hnt hres hE hlt hnd hO hgl hrel hdv hle00 (an:=an) (y:=r) (ret:=λr=>r) (pan:=λ_=> .fail) hden ?_ ?_
 .intro r0 v w' ok' O' rs os B hy g1 g2 g3 g4 g5 g6 g7 g8;subst hy;exact⟨v,ok',O',rs,os,B,rfl,g1,g2,g3,g4,g5,g6,g7,g8⟩
 .intro c S S' tr a' w' _ he;cases he
def zV:V->Value->Bool
 | .undef,v=>v.oneCell'| .b x,.bool y=>x==y| .i k n,.int k' n' =>decide (k=k')&&decide (n=n')| .s l,.string s=>decide (l=s.data.toList)| .nl,.slice none 0 0=>true| .sl t xs,.map none=>t.isEnt&&xs.isEmpty| .npt,.pointer none=>true|_,_=>false
def zL:List V->c5A->Bool
 |[],[]=>true|c::cs,v::vs=>zV c v&&zL cs vs|_,_=>false
theorem b4n{C:Cx}{c:V}{v:Value}(h:zV c v=true):vX C c v/\v.oneCell' =true:=by
 unfold zV at h;split at h
 .exact⟨trivial,h⟩
 .simp at h;subst h;exact⟨rfl,rfl⟩
 .simp at h;obtain⟨rfl,rfl⟩:=h;exact⟨rfl,rfl⟩
 .rename_i l s;have:=of_decide_eq_true h;subst this;exact⟨rfl,rfl⟩
 .exact⟨rfl,rfl⟩
 .rename_i t xs;simp only[x9,List.isEmpty_iff]at h;obtain⟨h1,rfl⟩:=h;exact⟨(Q_ h1).2 ⟨none,rfl,λ_=>rfl,λ_ h=>nomatch h⟩,rfl⟩
 .exact⟨rfl,rfl⟩
 .cases h
theorem a6N{C:Cx} :∀{cs:List V} {vs:c5A},zL cs vs=true->gX C cs vs
 |[],[],_=>rfl|[],_::_,h=>by simp[zL]at h|_::_,[],h=>by simp[zL]at h|c::cs,v::vs,h=>by unfold zL at h;simp only[x9]at h;obtain⟨h1,h2⟩:=b4n (C:=C) h.1;exact⟨v,vs,rfl,h1,h2,a6N h.2⟩
def Qa:(t:Ty)->c5A->Option c5A
 | .bool,.bool b::r=>bif b then none else some r| .int k,.int k' n::r=>bif decide (k=k')&&decide (n=0)then some r else none| .str,.string s::r=>bif decide (s.data.toList=[])then some r else none| .sl t,.slice none 0 0::r=>bif t.isEnt then none else some r| .sl t,.map none::r=>bif t.isEnt then some r else none
 | .prod a b,vs=>match Qa a vs with|some r=>Qa b r|none=>none
 | .unit,vs=>some vs|_,_=>none
theorem Rk:∀{t:Ty} {vs r:c5A},Qa t vs=some r->∃cs,vs=cs++r/\lJ #[] (λ_ _=>False) t t.zero cs
 | .bool,vs,r,h=>by
  cases vs with
  |nil=>cases h|cons v vs=>
   cases v<;>try (cases h;done)
   case bool b=>
    cases b
    .simp only[Qa,cond_false,F7]at h;subst h;exact⟨[.bool false],rfl,rfl⟩
    .simp[Qa]at h
 | .int k,vs,r,h=>by
  cases vs with
  |nil=>cases h|cons v vs=>
   cases v<;>try (cases h;done)
   case int k' n=>
    unfold Qa at h;cases hc:(decide (k=k')&&decide (n=0))
    .simp[hc]at h
    .simp only[hc,cond_true,F7]at h;simp only[x9,decide_eq_true_eq]at hc;obtain⟨rfl,rfl⟩:=hc;subst h;exact⟨[.int k 0],rfl,rfl⟩
 | .str,vs,r,h=>by
  cases vs with
  |nil=>cases h|cons v vs=>
   cases v<;>try (cases h;done)
   case string s=>
    unfold Qa at h;cases hc:decide (s.data.toList=[])
    .simp only[hc,cond_false]at h;cases h
    .simp only[hc,cond_true,F7]at h;subst h;have he:=of_decide_eq_true hc;refine⟨[.string s],rfl,?_⟩;show[Value.string s]=[Value.string ⟨(Ty.zero .str).toArray⟩];congr 2;obtain⟨⟨l⟩⟩:=s;simp only at he;subst he;rfl
 | .sl t,vs,r,h=>by
  cases vs with
  |nil=>cases h|cons v vs=>
   cases v<;>try (cases h;done)
   case slice a n c=>
    cases a<;>try (cases h;done)
    cases n<;>try (cases h;done)
    cases c<;>try (cases h;done)
    cases ht:t.isEnt<;>simp only[Qa,ht,cond_true,cond_false,F7]at h
    .subst h;exact⟨[.slice none 0 0],rfl,.inl ⟨ht,none,0,rfl,A8 _,λi x hi=>by simp[Ty.zero]at hi⟩⟩
    .cases h
   case map mv=>
    cases mv<;>try (cases h;done)
    cases ht:t.isEnt<;>simp only[Qa,ht,cond_true,cond_false,F7]at h
    .cases h
    .subst h;exact⟨[.map none],rfl,.inr ⟨ht,none,rfl,λ_=>rfl,λ_ h=>nomatch h⟩⟩
 | .ent ..,vs,r,h=>by
  cases vs with
  |nil=>cases h|cons v vs=>cases v<;>cases h
 | .unit,vs,r,h=>by
  have:vs=r:=by cases vs<;>(simp only[Qa,F7]at h;exact h)
  subst this;exact⟨[],rfl,rfl⟩
 | .prod a b,vs,r,h=>by
  have h' :(match Qa a vs with|some r=>Qa b r|none=>none)=some r:=by cases vs<;>exact h
  cases ha:Qa a vs with
  |none=>simp[ha]at h'|some r1=>simp only[ha]at h';obtain⟨c,rfl,h1⟩:=Rk ha;obtain⟨d,rfl,h2⟩:=Rk h';exact⟨c++d,A7,c,d,rfl,h1,h2⟩
def a7h:List (Nat×Nat)->List Field->Bool
 |[],[]=>true|(t,o)::r,f::fs=>Nat.beq f.type t&&Nat.beq f.offset o&&a7h r fs|_,_=>false
theorem Yy:∀{a:List (Nat×Nat)} {b:List Field},a7h a b=true->b.map (λf=>(f.type,f.offset))=a
 |[],[],_=>rfl|[],_::_,h=>by simp[a7h]at h|_::_,[],h=>by simp[a7h]at h|(t,o)::r,f::fs,h=>by unfold a7h at h;simp only[x9]at h;have h1:=fJ h.1.1;have h2:=fJ h.1.2;simp[Yy h.2,←h1,←h2]
def b1X(P:Program)(t:TypeId)(td:TD):Bool:=
 match P.underlying t with
 |none=>false
 |some d=>match td,d with
  | .bool,.bool=>true| .int k,.int k' =>decide (k=k')| .str,.string=>true| .sl e,.slice e' =>Nat.beq e e'| .ptr e,.pointer e' =>Nat.beq e e'| .struct fs,.struct fields=>a7h fs fields.toList| .arr n e,.array n' e' =>Nat.beq n n' &&Nat.beq e e'| .map k e,.map k' e' =>Nat.beq k k' &&Nat.beq e e'| .other,.struct _=>false| .other,.array _ _=>false| .other,_=>true|_,_=>false
theorem a4T{t:TypeId}{td:TD}(h:b1X P t td=true):b1Y P t td:=by
 unfold b1X at h;split at h
 .cases h
 .rename_i d hd;split at h<;>try (cases h;done)
  .exact hd
  .have:=of_decide_eq_true h;subst this;exact hd
  .exact hd
  .have:=fJ h;subst this;exact hd
  .have:=fJ h;subst this;exact hd
  .rename_i fs fields;exact⟨fields,hd,Yy h⟩
  .simp only[x9]at h;have h1:=fJ h.1;have h2:=fJ h.2;subst h1;subst h2;exact hd
  .simp only[x9]at h;have h1:=fJ h.1;have h2:=fJ h.2;subst h1;subst h2;exact hd
  .rename_i h1 h2;refine⟨d,hd,?_⟩;cases d<;>first|trivial|exact absurd rfl (h1 _)|exact absurd rfl (h2 _ _)
def a6O(inf:TypeInfo)(i:TI):Bool:=
 bif Nat.beq i.zero.length i.size then(match inf.zero with|some z=>zL i.zero z.cells.toList|none=>false)else true
def b5F(inf:TypeInfo)(i:TI):Bool:=
 match i.ty with
 |none=>true|some u=>Nat.beq u.size i.size&&(match inf.zero with|some z=>(match Qa u z.cells.toList with|some []=>true|_=>false)|none=>false)
def b4t(inf:TypeInfo)(i:TI):Bool:=
 match inf.zero with
 |none=>true|some z=>bif bP i.td then(match z with| .agg _=>true|_=>false)else z.oneCell'
def b1Z(P:Program)(t:TypeId)(i:TI):Bool:=
 match P.info? t with
 |none=>false|some inf=>Nat.beq inf.size i.size&&Nat.beq inf.bytes i.bytes&&a6O inf i&&b5F inf i&&b1X P t i.td&&(bP i.td || Nat.beq i.size 1)&&b4t inf i
theorem a4U{t:TypeId}{i:TI}(h:b1Z P t i=true):TiOk P t i:=by
 unfold b1Z at h;split at h
 .cases h
 .rename_i inf hi;simp only[x9,jM]at h;obtain⟨⟨⟨⟨⟨⟨h1,h2⟩,h3⟩,h4⟩,h5⟩,h6⟩,h8⟩:=h;refine⟨⟨inf,hi,fJ h1,fJ h2,λhl=>?_,λu hu=>?_⟩,a4T h5,λha=>?_,λinf' z hinf hz=>?_⟩
  .unfold a6O at h3;rw[hl,show Nat.beq i.size i.size=true from Nat.beq_refl _]at h3;simp only[cond_true]at h3;split at h3
   .rename_i z hz;exact⟨z,hz,a6N h3⟩
   .cases h3
  .unfold b5F at h4;simp only[hu,x9]at h4;refine⟨fJ h4.1,?_⟩;have h7:=h4.2;split at h7
   .rename_i z hz;split at h7
    .rename_i hr;obtain⟨cs,e,hrep⟩:=Rk hr;rw[D8]at e;exact⟨z,hz,by rw[e];exact hrep⟩
    .cases h7
   .cases h7
  .rcases h6 with h6|h6
   .rw[ha]at h6;cases h6
   .exact fJ h6
  .rw[hi]at hinf;cases hinf;unfold b4t at h8;rw[hz]at h8;refine⟨λha=>?_,λha=>?_⟩<;>simp only[ha,cond_true,cond_false]at h8
   .split at h8
    .exact⟨_,rfl⟩
    .cases h8
   .exact h8
def a2E(P:Program):List (Nat×TI)->Bool
 |[]=>true|(t,i)::r=>b1Z P t i&&a2E P r
theorem Xu{P:Program} :∀{tt:List (Nat×TI)},a2E P tt=true->∀t i,dL tt t=some i->TiOk P t i
 |[],_,t,i,h=>by simp[dL]at h|(k,v)::r,hc,t,i,h=>by
  unfold a2E at hc;simp only[x9]at hc;unfold dL at h;cases hb:Nat.beq k t
  .simp only[hb,cond_false]at h;exact Xu hc.2 t i h
  .simp only[hb,cond_true,F7]at h;have:=fJ hb;subst this;subst h;exact a4U hc.1
def Sj(P:Program):List (Nat×FSpec)->Bool
 |[]=>true|(f,_)::r=>(match P.funcs[a7j f]? with|some fn=>fn.body.isSome&&!(fn.name== "runtime.NumGoroutine")|none=>false)&&Sj P r
theorem VG{P:Program} :∀{l:List (Nat×FSpec)},Sj P l=true->∀p∈l,∃fn,P.funcs[a7j p.1]? =some fn/\fn.body.isSome=true/\(fn.name== "runtime.NumGoroutine")=false
 |[],_,p,h=>by cases h|(k,v)::r,hc,p,h=>by
  unfold Sj at hc;simp only[x9]at hc;rcases D5.1 h with rfl|h
  .have h1:=hc.1;split at h1
   .rename_i fn hf;simp only[x9,Y1]at h1;exact⟨fn,hf,h1.1,h1.2⟩
   .cases h1
  .exact VG hc.2 p h
end Go.GP
namespace Go.GP
def a2K(P:Program)(gl:List (Nat×(t:Ty)×List t.den)):List (Nat×FSpec)->Prop
 |[]=>True|p::r=>a6T P gl p/\a2K P gl r
theorem Ye{P:Program}{gl:List (Nat×(t:Ty)×List t.den)} :∀{l:List (Nat×FSpec)},a2K P gl l->∀p∈l,a6T P gl p
 |[],_,p,h=>by cases h|(k,v)::r,hc,p,h=>by
  rcases D5.1 h with rfl|h
  .exact hc.1
  .exact Ye hc.2 p h
def Ux(P:Program):List ((Nat×String)×Nat×Option Nat)->Prop
 |[]=>True|(k,r)::l=>Zx P k.1 k.2 r.1 r.2/\Ux P l
theorem Uy{P:Program} :∀{l:List ((Nat×String)×Nat×Option Nat)},Ux P l->∀p∈l,Zx P p.1.1 p.1.2 p.2.1 p.2.2
 |[],_,p,h=>by cases h|(k,v)::r,hc,p,h=>by
  rcases D5.1 h with rfl|h
  .exact hc.1
  .exact Uy hc.2 p h
def Uz(P:Program):List (Nat×Nat×Nat)->Prop
 |[]=>True|(f,off,sz)::l=>PlP P f off sz/\Uz P l
theorem UA{P:Program} :∀{l:List (Nat×Nat×Nat)},Uz P l->∀p∈l,PlP P p.1 p.2.1 p.2.2
 |[],_,p,h=>by cases h|(f,off,sz)::l,hc,p,h=>by
  rcases D5.1 h with rfl|h
  .exact hc.1
  .exact UA hc.2 p h
theorem Kt{P:Program}{E:Env}(hnt:Nat.ble (64*E.nt) 999936=true)(htt:a2E P E.tt=true)(heq:∀t sh,dL E.eqs t=some sh->LK P t sh)(hfn:Sj P E.fs=true)(hms:Ux P E.ms)(hfs:a2K P E.gl E.fs)(hpl:Uz P E.pl):EnvOk P E:=
 ⟨P9 hnt,Xu htt,Ye hfs,heq,Uy hms,VG hfn,UA hpl⟩
end Go.GP
namespace Go.GP
def Ip(rec:TypeId->List Ty->Bool)(cells:TypeId->Nat):Nat->List Field->List Ty->Bool
 |_,[],sh=>sh.isEmpty|off,f::r,sh=>(f.name != "_")&&Nat.beq f.offset off&&Nat.ble (cells f.type) sh.length&&rec f.type (sh.take (cells f.type))&&Ip rec cells (off+cells f.type) r (sh.drop (cells f.type))
def yT(P:Program):Nat->TypeId->List Ty->Bool
 |0,_,_=>false
 |n+1,t,sh=>match P.underlying t with
  |some .bool=>(match sh with|[.bool]=>true|_=>false)|some (.int k)=>(match sh with|[.int k']=>decide (k=k')|_=>false)|some .string=>(match sh with|[.str]=>true|_=>false)|some (.struct fs)=> !P.stoodInHeld t&&(P.info? t).isSome&&Nat.beq (P.cellsOf t) sh.length&&Ip (yT P n) P.cellsOf 0 fs.toList sh|_=>false
theorem kD.length:∀{sh:List Ty} {vs:c5A},kD sh vs->vs.length=sh.length
 |[],_,h=>by simp only[kD]at h;subst h;rfl| .bool::ts,_,⟨_,_,rfl,h⟩=>by simp[kD.length h]| .int _::ts,_,⟨_,_,rfl,h⟩=>by simp[kD.length h]| .str::ts,_,⟨_,_,rfl,h⟩=>by simp[kD.length h]| .sl _::_,_,h=>h.elim| .prod _ _::_,_,h=>h.elim| .unit::_,_,h=>h.elim
theorem kD.take_drop:∀{sh:List Ty} {vs:c5A} (n:Nat),kD sh vs->kD (sh.take n) (vs.take n)/\kD (sh.drop n) (vs.drop n)
 |sh,vs,0,h=>⟨by simp[kD],h⟩|[],_,n+1,h=>by simp only[kD]at h;subst h;exact⟨rfl,rfl⟩| .bool::ts,_,n+1,⟨b,r,rfl,h⟩=>by have:=kD.take_drop n h;exact⟨⟨b,_,rfl,this.1⟩,this.2⟩| .int _::ts,_,n+1,⟨b,r,rfl,h⟩=>by have:=kD.take_drop n h;exact⟨⟨b,_,rfl,this.1⟩,this.2⟩| .str::ts,_,n+1,⟨b,r,rfl,h⟩=>by have:=kD.take_drop n h;exact⟨⟨b,_,rfl,this.1⟩,this.2⟩| .sl _::_,_,_+1,h=>h.elim| .prod _ _::_,_,_+1,h=>h.elim| .unit::_,_,_+1,h=>h.elim
theorem Hq{C:Cx} :∀{sh:List Ty} {cs:List V} {vs:c5A},AB sh cs=true->gX C cs vs->kD sh vs
 |[],[],vs,_,h=>h|[],_::_,_,h,_=>by simp[AB]at h|t::ts,[],_,h,_=>by cases t<;>simp[AB]at h|t::ts,c::cs,_,h,⟨v,r,rfl,h1,_,h3⟩=>by
  cases t<;>cases c<;>simp only[AB,x9,decide_eq_true_eq]at h<;>try (cases h;done)
  case bool.b x=>have h1:v= .bool x:=h1;subst h1;exact⟨_,_,rfl,Hq h h3⟩
  case int.i k k' n=>have h1:v= .int k' n:=h1;obtain⟨rfl,h⟩:=h;subst h1;exact⟨_,_,rfl,Hq h h3⟩
  case str.s l=>have h1:v= .string ⟨l.toArray⟩:=h1;subst h1;exact⟨_,_,rfl,Hq h h3⟩
theorem ZX{a b:V}{r q:List V}{e:Bool}(h:zW (a::r) (b::q)=some e):∃e1 e2,eq1 a b=some e1/\zW r q=some e2/\e=(e1&&e2):=by
 unfold zW at h;split at h
 .cases h
 .rename_i e1 h1;split at h
  .cases h;exact⟨_,true,h1,rfl,A7⟩
  .split at h
   .rename_i e2 h2;cases h;exact⟨_,_,h1,h2,rfl⟩
   .cases h
theorem OZ{C:Cx} :∀{cs ds:List V} {xs ys:c5A} {e:Bool},gX C cs xs->gX C ds ys->zW cs ds=some e->(e=true↔xs=ys)
 |[],[],xs,ys,e,h1,h2,h=>by
  simp only[gX]at h1 h2;subst h1;subst h2;have:e=true:=by simpa[zW]using h.symm
  simp[this]
 |[],_::_,_,_,_,_,_,h=>by simp[zW]at h|_::_,[],_,_,_,_,_,h=>by simp[zW]at h|a::r,b::q,xs,ys,e,hx,hy,h=>by
  obtain⟨v,vs,rfl,hv,_,hvs⟩:=hx;obtain⟨u,us,rfl,hu,_,hus⟩:=hy;obtain⟨e1,e2,k1,k2,rfl⟩:=ZX h;have ih:=OZ hvs hus k2;have hd:e1=true↔v=u:=by
   cases a<;>cases b<;>simp only[eq1]at k1<;>try (cases k1;done)
   case b.b x y=>have hv:v= .bool x:=hv;have hu:u= .bool y:=hu;subst hv;subst hu;cases k1;simp[UV]
   case i.i j x k y=>
    have hv:v= .int j x:=hv;have hu:u= .int k y:=hu;subst hv;subst hu;by_cases hk:j=k
    .subst hk;simp only[decide_true,cond_true,F7]at k1;subst k1;simp[D6]
    .simp[hk]at k1
   case s.s x y=>have hv:v= .string ⟨x.toArray⟩:=hv;have hu:u= .string ⟨y.toArray⟩:=hu;subst hv;subst hu;cases k1;simp[seq]
  simp only[x9,G5,hd,ih]
def VOf(P:Program)(t:TypeId)(xs:c5A)(v:Value):Prop:=match P.underlying t with
 |some (.struct _)=>v= .agg xs.toArray|_=>xs=[v]
variable {P:Program}{t:TypeId}
theorem a2Y{i:TypeInfo}(h:P.info? t=some i):P.cellsOf t=i.size:=by simp[Program.cellsOf,h]
variable {n:Nat}{sh:List Ty}
theorem WE(hc:yT P n t sh=true)(hcs:P.cellsOf t=sh.length){cs:Array Value}{off:Nat}(hl:off+sh.length<=cs.size)(w:World):
  ∃v,(part t cs off).run P w= .ok v w/\VOf P t ((cs.toList.drop off).take sh.length) v:=by
 cases n with
 |zero=>cases hc|succ n=>
  unfold yT at hc;split at hc
  all_goals try (cases hc;done)
  .rename_i ht;split at hc<;>try (cases hc;done)
   simp only[D7,I5]at hl ⊢;refine⟨cs[off]'l7,?_,?_⟩
   .have h1:=Ho (P:=P) (t:=t) (d:=.bool) ht w;simp only[part,H8,h1,J3,bP,iP,if_false,H7 (show off<cs.size by omega),aI]
   .simp only[VOf,ht];apply kV
    .simp;omega
    .intro i h1 h2;simp at h1 h2;simp[show i=0 by omega]
  .rename_i k ht;split at hc<;>try (cases hc;done)
   simp only[D7,I5]at hl ⊢;refine⟨cs[off]'l7,?_,?_⟩
   .have h1:=Ho (P:=P) (t:=t) (d:=.int k) ht w;simp only[part,H8,h1,J3,bP,iP,if_false,H7 (show off<cs.size by omega),aI]
   .simp only[VOf,ht];apply kV
    .simp;omega
    .intro i h1 h2;simp at h1 h2;simp[show i=0 by omega]
  .rename_i ht;split at hc<;>try (cases hc;done)
   simp only[D7,I5]at hl ⊢;refine⟨cs[off]'l7,?_,?_⟩
   .have h1:=Ho (P:=P) (t:=t) (d:=.str) ht w;simp only[part,H8,h1,J3,bP,iP,if_false,H7 (show off<cs.size by omega),aI]
   .simp only[VOf,ht];apply kV
    .simp;omega
    .intro i h1 h2;simp at h1 h2;simp[show i=0 by omega]
  .rename_i fs ht;simp only[x9]at hc;obtain⟨⟨⟨_,h2⟩,_⟩,_⟩:=hc;obtain⟨inf,hinf⟩:=Option.isSome_iff_exists.1 h2;have hsz:=a2Y hinf;refine⟨.agg (cs.extract off (off+inf.size)),?_,?_⟩
   .have h1:=Ho (P:=P) (t:=t) (d:=.struct (fs.toList.map λf=>(f.type,f.offset))) ⟨fs,ht,rfl⟩ w;have h3:(sizeOf t).run P w= .ok inf.size w:=by
     simp[sizeOf,typeInfo,hinf]
    simp only[part,H8,h1,J3,bP,if_true,h3,aI]
   .simp only[VOf,ht];congr 1;apply lC;rw[←hsz,hcs];simp[uz,Array.toList_extract]
theorem QJ{P:Program} :∀(n:Nat) (t:TypeId) (sh:List Ty),yT P n t sh=true->∀(d:Nat),n<=d->∀(xs ys:c5A) (v u:Value),kD sh xs->kD sh ys->VOf P t xs v->VOf P t ys u->∀w:World,
  ∃r,(Op.equalIn d t v u).run P w= .ok r w/\(r=true↔xs=ys)
 |0,_,_,h,_,_,_,_,_,_,_,_,_,_,_=>by cases h|n+1,t,sh,h,d,hd,xs,ys,v,u,hx,hy,hv,hu,w=>by
  obtain⟨d,rfl⟩:∃k,d=k+1:=⟨d -1,l7⟩;unfold yT at h;split at h
  all_goals try (cases h;done)
  .rename_i ht;split at h<;>try (cases h;done)
   obtain⟨a,r1,rfl,h1⟩:=hx;obtain⟨b,r2,rfl,h2⟩:=hy;simp only[kD]at h1 h2;subst h1;subst h2;simp only[VOf,ht]at hv hu;obtain rfl:=(U6 hv).1;obtain rfl:=(U6 hu).1;exact⟨a==b,run_equalIn_bool w d t a b ht,A7⟩
  .rename_i k ht;split at h<;>try (cases h;done)
   have:=of_decide_eq_true h;subst this;obtain⟨a,r1,rfl,h1⟩:=hx;obtain⟨b,r2,rfl,h2⟩:=hy;simp only[kD]at h1 h2;subst h1;subst h2;simp only[VOf,ht]at hv hu;obtain rfl:=(U6 hv).1;obtain rfl:=(U6 hu).1;exact⟨a==b,run_equalIn_int w d t k k a b ht,A7⟩
  .rename_i ht;split at h<;>try (cases h;done)
   obtain⟨a,r1,rfl,h1⟩:=hx;obtain⟨b,r2,rfl,h2⟩:=hy;simp only[kD]at h1 h2;subst h1;subst h2;simp only[VOf,ht]at hv hu;obtain rfl:=(U6 hv).1;obtain rfl:=(U6 hu).1;refine⟨a.toList==b.toList,run_equalIn_string w d t a b ht,?_⟩;constructor
   .intro h;have h:=eq_of_beq h;rw[ByteArray.toList_eq,ByteArray.toList_eq]at h;obtain⟨⟨x⟩⟩:=a;obtain⟨⟨y⟩⟩:=b;simp only at h;rw[h]
   .intro h;injection h with h;injection h with h;rw[h];simp
  .rename_i fs ht;simp only[x9,Y1]at h;obtain⟨⟨⟨h1,h2⟩,h3⟩,h4⟩:=h;have hlen:=fJ h3;simp only[VOf,ht]at hv hu;subst hv;subst hu;have hfo:P.fieldsOf t=fs:=by simp[Program.fieldsOf,ht]
   rw[run_equalIn_struct w d t _ _ (by rw[hfo];exact ht) h1,hfo];have hxl:=hx.length;have hyl:=hy.length;have key:∀(l:List Field) (off:Nat) (s:List Ty),Ip (yT P n) P.cellsOf off l s=true->s=sh.drop off->off<=sh.length->∃r,(Op.eqFields d xs.toArray ys.toArray l).run P w= .ok r w/\(r=true↔xs.drop off=ys.drop off):=by
    intro l;induction l with
    |nil=>
     intro off s hs he ho;unfold Ip at hs;have:s=[]:=by simpa using hs
     have hoff:off=sh.length:=by have:=congrArg List.length (he.symm.trans this);simp at this;omega
     refine⟨true,rfl,?_⟩;rw[aQ l7,aQ l7];simp
    |cons f r ih=>
     intro off s hs he ho;unfold Ip at hs;simp only[x9]at hs;obtain⟨⟨⟨⟨g1,g2⟩,g3⟩,g4⟩,g5⟩:=hs;have g2:=fJ g2;have g3:=P9 g3;subst he;simp only[iK]at g3;have hsl:((sh.drop off).take (P.cellsOf f.type)).length=P.cellsOf f.type:=by simp;omega
     obtain⟨v1,e1,o1⟩:=WE g4 hsl.symm (cs:=xs.toArray) (off:=off) (by rw[hsl];simp;omega) w;obtain⟨u1,e2,o2⟩:=WE g4 hsl.symm (cs:=ys.toArray) (off:=off) (by rw[hsl];simp;omega) w;rw[hsl]at o1 o2;obtain⟨b1,e3,q1⟩:=QJ n f.type _ g4 d l7 _ _ v1 u1 (((hx.take_drop off).2).take_drop _).1 (((hy.take_drop off).2).take_drop _).1 o1 o2 w;obtain⟨b2,e4,q2⟩:=ih (off+P.cellsOf f.type) _ g5 (by rw[Z4]) l7;have hne:f.name≠ "_":=by simpa using g1
     have split:(xs.drop off=ys.drop off)↔((xs.drop off).take (P.cellsOf f.type)=(ys.drop off).take (P.cellsOf f.type)/\xs.drop (off+P.cellsOf f.type)=ys.drop (off+P.cellsOf f.type)):=by
      constructor
      .intro h;rw[h];exact⟨rfl,by rw[←Z4,←Z4,h]⟩
      .rintro⟨p1,p2⟩;rw[←iR (P.cellsOf f.type) (xs.drop off),←iR (P.cellsOf f.type) (ys.drop off),p1,Z4,Z4,p2]
     simp only[Op.eqFields,if_pos hne,H8,g2,e1,e2,e3,J3];cases b1 with
     |false=>
      refine⟨false,A7,?_⟩;have:¬((xs.drop off).take (P.cellsOf f.type)=(ys.drop off).take (P.cellsOf f.type)):=λh=>by have:=q1.2 h;cases this
      simp only[iP,false_iff];intro h;exact this (split.1 h).1
     |true=>refine⟨b2,by simpa using e4,?_⟩;rw[q2,split];exact⟨λh=>⟨q1.1 rfl,h⟩,λh=>h.2⟩
   have:=key fs.toList 0 sh h4 A7 l7;simpa using this
theorem Yv{P:Program}(em:Bool):∀(n:Nat) (t:TypeId) (sh:List Ty),yT P n t sh=true->∀(d:Nat),n<=d->∀(xs:c5A) (v:Value),kD sh xs->VOf P t xs v->∀w:World,
  (Instr.checkKey em d t v).run P w= .ok () w
 |0,_,_,h,_,_,_,_,_,_,_=>by cases h|n+1,t,sh,h,d,hd,xs,v,hx,hv,w=>by
  obtain⟨d,rfl⟩:∃k,d=k+1:=⟨d -1,l7⟩;unfold yT at h;split at h
  all_goals try (cases h;done)
  .rename_i ht;split at h<;>try (cases h;done)
   obtain⟨a,r1,rfl,h1⟩:=hx;simp only[kD]at h1;subst h1;simp only[VOf,ht]at hv;obtain rfl:=(U6 hv).1;simp[Instr.checkKey,run_underlying ht]
  .rename_i k ht;split at h<;>try (cases h;done)
   have:=of_decide_eq_true h;subst this;obtain⟨a,r1,rfl,h1⟩:=hx;simp only[kD]at h1;subst h1;simp only[VOf,ht]at hv;obtain rfl:=(U6 hv).1;simp[Instr.checkKey,run_underlying ht]
  .rename_i ht;split at h<;>try (cases h;done)
   obtain⟨a,r1,rfl,h1⟩:=hx;simp only[kD]at h1;subst h1;simp only[VOf,ht]at hv;obtain rfl:=(U6 hv).1;simp[Instr.checkKey,run_underlying ht]
  .rename_i fs ht;simp only[x9,Y1]at h;obtain⟨⟨⟨h1,h2⟩,h3⟩,h4⟩:=h;have hlen:=fJ h3;simp only[VOf,ht]at hv;subst hv;have hxl:=hx.length;have key:∀(l:List Field) (off:Nat) (s:List Ty),Ip (yT P n) P.cellsOf off l s=true->s=sh.drop off->off<=sh.length->
     (forIn l PUnit.unit (λ(f:Field) (_:PUnit)=>(do
      if f.name≠ "_" then Instr.checkKey em d f.type (←part f.type xs.toArray f.offset)
      pure (ForInStep.yield PUnit.unit):Sem (ForInStep PUnit)))).run P w= .ok PUnit.unit w:=by
    intro l;induction l with
    |nil=>intro off s hs he ho;rfl|cons f r ih=>
     intro off s hs he ho;unfold Ip at hs;simp only[x9]at hs;obtain⟨⟨⟨⟨g1,g2⟩,g3⟩,g4⟩,g5⟩:=hs;have g2:=fJ g2;have g3:=P9 g3;subst he;simp only[iK]at g3;have hsl:((sh.drop off).take (P.cellsOf f.type)).length=P.cellsOf f.type:=by simp;omega
     obtain⟨v1,e1,o1⟩:=WE g4 hsl.symm (cs:=xs.toArray) (off:=off) (by rw[hsl];simp;omega) w;rw[hsl]at o1;have e3:=Yv em n f.type _ g4 d l7 _ v1 (((hx.take_drop off).2).take_drop _).1 o1 w;have e4:=ih (off+P.cellsOf f.type) _ g5 (by rw[Z4]) l7;have hne:f.name≠ "_":=by simpa using g1
     simp only[List.forIn_cons,H8,hne,ne_eq,not_false_eq_true,if_true,g2,e1,e3,J3,aI];exact e4
   have:=key fs.toList 0 sh h4 A7 l7;simp only[Instr.checkKey,H8,run_underlying ht,J3];simp at this;simp[this]
theorem a1l(hn:n<=10000)(h:yT P n t sh=true)(hs:(match P.underlying t with|some (.struct _)=>true|_=>false)=true):a0v P t sh:=by
 have hv:∀zs:Array Value,VOf P t zs.toList (.agg zs):=λzs=>by
  unfold VOf;split
  .simp
  .rename_i hh;exfalso;split at hs
   .rename_i fs hf;exact hh fs hf
   .cases hs
 refine⟨?_,λw xs hx=>⟨λem=>Yv em n t sh h 10000 hn _ _ hx (hv xs) w,λys hy=>QJ n t sh h 10000 hn _ _ _ _ hx hy (hv xs) (hv ys) w⟩⟩;split at hs
 .rename_i fs hf;exact⟨fs,hf⟩
 .cases hs
theorem a3n(hn:n<=10000)(h:yT P n t sh=true)(hs:(match P.underlying t with|some (.struct _)=>true|_=>false)=true)(hg:P.eqGuardType P.depth t=false):LK P t sh:=by
 refine⟨?_,a1l hn h hs⟩;intro w C cs ds xs ys e op x y s1 s2 h1 h2 he hop;have hv:∀zs:Array Value,VOf P t zs.toList (.agg zs):=λzs=>by
  unfold VOf;split
  .simp
  .rename_i hh;exfalso;split at hs
   .rename_i fs hf;exact hh fs hf
   .cases hs
 obtain⟨r,hr,hq⟩:=QJ n t sh h 10000 hn _ _ _ _ (Hq s1 h1) (Hq s2 h2) (hv xs) (hv ys) w;have hre:r=e:=by have:=OZ h1 h2 he;cases r<;>cases e<;>simp_all
 subst hre;rcases hop with rfl|rfl
 .rw[H8,run_eqGuard_agg w .eql t x y xs ys hg];simp only[J3,run_eql_struct,hr,if_pos]
 .rw[H8,run_eqGuard_agg w .neq t x y xs ys hg];simp[run_neq_struct,hr]
def a3o(P:Program):List (Nat×List Ty)->Bool
 |[]=>true|(t,sh)::r=>yT P 20 t sh&&(match P.underlying t with|some (.struct _)=>true|_=>false)&&!P.eqGuardType P.depth t&&a3o P r
theorem a0X{P:Program} :∀{l:List (Nat×List Ty)},a3o P l=true->∀t sh,dL l t=some sh->LK P t sh
 |[],_,t,sh,h=>by simp[dL]at h|(k,v)::r,hc,t,sh,h=>by
  unfold a3o at hc;simp only[x9,Y1]at hc;unfold dL at h;cases hb:Nat.beq k t
  .simp only[hb,cond_false]at h;exact a0X hc.2 t sh h
  .simp only[hb,cond_true,F7]at h;have:=fJ hb;subst this;subst h;exact a3n l7 hc.1.1.1 hc.1.1.2 hc.1.2
end Go.GP
namespace Go.GP
open Go.ChangeShapes Go.WideShapes Go.RowKit
def wf:(t:Ty)->t.den->Prop
 | .bool,_=>True| .int k,n=>(Lit.int k n).wf=true| .str,l=>l.length<=reachBytes| .sl t,xs=>xs.length<=reachBytes/\∀x∈xs,wf t x| .prod a b,x=>wf a x.1/\wf b x.2| .unit,_=>True| .any _,_=>True| .ent _ _ a b,x=>wf a x.1/\wf b x.2
def Dz(rec:TypeId->Ty->Bool)(cells:TypeId->Nat):Nat->List Field->Ty->Bool
 |off,fs,u=>match fs with
  |[]=>false
  |f::r=>match r with
   |[]=>Nat.beq f.offset off&&rec f.type u&&Nat.beq (cells f.type) u.size
   |g::r' =>match u with
    | .prod a b=>Nat.beq f.offset off&&rec f.type a&&Nat.beq (cells f.type) a.size&&Dz rec cells (off+a.size) (g::r') b|_=>false
termination_by _ fs _=>fs.length
def a0h(P:Program):Nat->TypeId->Ty->Bool
 |0,_,_=>false
 |n+1,t,u=>match P.underlying t with
  |some .bool=>(match u with| .bool=>true|_=>false)|some (.int k)=>(match u with| .int k' =>decide (k=k')|_=>false)|some .string=>(match u with| .str=>true|_=>false)|some (.slice e)=>(match u with| .sl v=>a0h P n e v&&Nat.beq (P.cellsOf e) v.size&&Nat.blt 0 v.size&&Nat.blt 0 (P.bytesOf e)&&!v.isEnt|_=>false)|some (.struct fs)=>Dz (a0h P n) P.cellsOf 0 fs.toList u&&Nat.beq (P.cellsOf t) u.size|_=>false
theorem Pv{α:Type}{Q:Nat->α->Prop} :∀(n:Nat),(∀i,i<n->∃x,Q i x)->∃xs:List α,xs.length=n/\∀i x,xs[i]? =some x->Q i x
 |0,_=>⟨[],rfl,λi x h=>by simp at h⟩|n+1,h=>by
  obtain⟨xs,hl,hx⟩:=Pv n λi hi=>h i l7;obtain⟨y,hy⟩:=h n l7;refine⟨xs++[y],by simp[hl],λi x hi=>?_⟩;by_cases hin:i<n
  .rw[O7 l7]at hi;exact hx i x hi
  .rw[F6 l7]at hi;have:i -xs.length=0:=by
    rcases mP (i -xs.length) 1 with h1|h1
    .omega
    .rw[U8 (by simpa using h1)]at hi;cases hi
   rw[this]at hi;simp at hi;subst hi;have e:i=n:=l7;subst e;exact hy
variable {n:Nat}
theorem Vg{w:World}{a:Addr}{es:c5A}(hn:0<n)(h:w.cells? 0 a n=some es):
  a.spot=none/\a.block<w.heap.size/\dJ w.heap a.block a.off n=some es:=by
 obtain⟨blk,off,spot⟩:=a;simp only[World.cells?,gV,if_true]at h;have hlen:es.length=n:=by simpa using Lib.mapM_length h
 have hat:∀i,i<n->∃b,es[i]? =some b/\w.cell? (Addr.add ⟨blk,off,spot⟩ i)=some b:=λi hi=>Lib.mapM_at h i i (by simp[hi]);obtain⟨b0,_,h0⟩:=hat 0 hn;simp only[Addr.add,if_true,World.cell?]at h0;cases hb:w.heap[blk]? with
 |none=>simp[hb]at h0|some o=>
  cases o<;>simp only[hb]at h0<;>try (cases h0;done)
  rename_i c T f;have hs:spot=none:=by
   cases spot with
   |none=>rfl|some _=>simp at h0
  subst hs;have hat' :∀i,i<n->es[i]? =c[off+i]?/\off+i<c.size:=λi hi=>by
   obtain⟨b,h1,h2⟩:=hat i hi;have h3:c[off+i]? =some b:=by
    by_cases hi0:i=0
    .subst hi0;simpa[Addr.add,World.cell?,hb]using h2
    .simpa[Addr.add,World.cell?,hb,hi0]using h2
   exact⟨h1.trans h3.symm,(G7.1 h3).1⟩
  refine⟨rfl,(G7.1 hb).1,?_⟩;have hle:off+n<=c.size:=by have:=(hat' (n -1) l7).2;omega
  rw[kE hb _ _ hle];congr 1;apply au;intro i;by_cases hi:i<n
  .rw[(hat' i hi).1,bJ hi,O0];simp
  .rw[U8 F8,U8 l7]
section
variable {H:Type} {enc:TypeId×Value->H} {P:Program} {w:World} {sp:Nat->Bool} {held:Bool} {ok:Nat->Ty->Prop}
theorem LC{e:TypeId} :∀{l:List (DataW H)} {d:DataW H},d∈l->∀b∈d.weights P e,b∈DataW.weightsAll P e l
 |x::l,d,h,b,hb=>by
  simp only[DataW.weightsAll,E5];rcases D5.1 h with rfl|h
  .exact .inl hb
  .exact .inr (LC h b hb)
theorem VD{n:Nat}(IH:∀t u,a0h P n t u=true->∀aT cs d ps,DataW.trod enc P w 0 sp held aT t cs=some (d,ps)->(∀b∈d.weights P t,b<=reachBytes)->∃x,lJ w.heap ok u x cs/\wf u x){cs:c5A}{m:Nat} :
  ∀(fs:List Field) (off:Nat) (u:Ty),Dz (a0h P n) P.cellsOf off fs u=true->∀(xs:List (DataW H×List MemPlace)),xs.length=fs.length->
   (∀(i:Nat) (f:Field),fs[i]? =some f->DataW.trod enc P w 0 sp held m f.type ((cs.drop f.offset).take (P.cellsOf f.type))=xs[i]?)->(∀b∈DataW.weightsEach P (fs.map (·.type)) (xs.map (·.1)),b<=reachBytes)->
   ∃x,lJ w.heap ok u x ((cs.drop off).take u.size)/\wf u x
 |[],off,u,h,_,_,_,_=>by unfold Dz at h;cases h|[f],off,u,h,xs,hl,hx,hw=>by
  unfold Dz at h;simp only[x9]at h;have h1:=fJ h.1.1;have h3:=fJ h.2;match xs,hl with
  |[y],_=>have h4:=hx 0 f rfl;rw[h1,h3]at h4;refine IH _ _ h.1.2 _ _ y.1 y.2 (by simpa using h4) λb hb=>hw b ?_;simp[DataW.weightsEach,hb]
 |f::g::r,off,u,h,xs,hl,hx,hw=>by
  unfold Dz at h;cases u<;>try (cases h;done)
  rename_i a b;simp only[x9]at h;obtain⟨⟨⟨h1,h2⟩,h3⟩,h4⟩:=h;have h1:=fJ h1;have h3:=fJ h3;match xs,hl with
  |y::ys,hl=>
   have h5:=hx 0 f rfl;rw[h1,h3]at h5;obtain⟨p,hp,wp⟩:=IH _ _ h2 _ _ y.1 y.2 (by simpa using h5) λc hc=>hw c (by simp[DataW.weightsEach,hc]);obtain⟨q,hq,wq⟩:=VD IH (g::r) (off+a.size) b h4 ys (by simpa using hl) (λi f' hf=>by have:=hx (i+1) f' (by simpa using hf);simpa using this) λc hc=>hw c (by simp only[aU,DataW.weightsEach,E5];simp only[aU]at hc;exact .inr hc)
   refine⟨(p,q),⟨_,_,?_,hp,hq⟩,wp,wq⟩;show(cs.drop off).take (a.size+b.size)=_;rw[List.take_add,Z4]
theorem KZ(hok:∀b t,b<w.heap.size->ok b t):∀(n:Nat) (t:TypeId) (u:Ty),a0h P n t u=true->∀(aT:Nat) (cs:c5A) (d:DataW H) (ps:List MemPlace),DataW.trod enc P w 0 sp held aT t cs=some (d,ps)->
  (∀b∈d.weights P t,b<=reachBytes)->∃x,lJ w.heap ok u x cs/\wf u x
 |0,_,_,h,_,_,_,_,_,_=>by cases h|n+1,t,u,h,aT,cs,d,ps,hd,hw=>by
  unfold a0h at h;split at h
  .rename_i ht;cases u<;>try (cases h;done)
   obtain⟨b,rfl,hx⟩:=DataW.trod_bool ht hd;exact⟨b,rfl,trivial⟩
  .rename_i k ht;cases u<;>try (cases h;done)
   rename_i k';have:=of_decide_eq_true h;subst this;obtain⟨b,rfl,hx,hwf⟩:=DataW.trod_int ht hd;exact⟨b,rfl,hwf⟩
  .rename_i ht;cases u<;>try (cases h;done)
   obtain⟨s,rfl,hx,hs⟩:=DataW.trod_string ht hd;simp only[je]at hx;obtain⟨rfl,rfl⟩:=hx;refine⟨s.data.toList,rfl,hw _ ?_⟩;simp[DataW.weights]
  .rename_i e ht;cases u<;>try (cases h;done)
   rename_i v;simp only[x9,Y1]at h;obtain⟨⟨⟨⟨h1,h2⟩,h3⟩,h4⟩,hE0⟩:=h;have h2:=fJ h2;rw[aF]at h3 h4;rcases DataW.trod_slice ht hd with⟨rfl,hx⟩|⟨a,len,cap,elems,rest,m,rfl,rfl,hx,hb,hl,hm,hlen,hel,_,_⟩
   .exact⟨[],.inl ⟨hE0,none,0,rfl,A8 _,λi x hi=>by simp at hi⟩,A7,λx hx=>by simp at hx⟩
   .simp only[je]at hx;obtain⟨rfl,rfl⟩:=hx;have hW:DataW.weights P t (.slice (elems.map (·.1)) (rest.map (·.1)):DataW H)=((elems.map (·.1)).length+(rest.map (·.1)).length)*P.bytesOf e::(DataW.weightsAll P e (elems.map (·.1))++DataW.weightsAll P e (rest.map (·.1))):=by
     simp only[DataW.weights,ht]
    rw[hW]at hw;have hsz:=hw _ (jG ..);simp only[J6]at hsz;have hlr:len<=reachBytes:=by have h6:(elems.length+rest.length)*1<=(elems.length+rest.length)*P.bytesOf e:=Nat.mul_le_mul_left _ h4;omega
    have each:∀i,i<len->∃x,wf v x/\a.spot=none/\a.block<w.heap.size/\∃es,dJ w.heap a.block (a.off+i*v.size) v.size=some es/\lJ w.heap ok v x es:=by
     intro i hi;have h5:=hel i hi;rw[h2]at h5;rw[jk l7]at h5;obtain⟨es,hc,hd2⟩:=Option.bind_eq_some_iff.1 h5;obtain⟨x,hx,wx⟩:=KZ hok n e v h1 m es _ _ hd2 λb hb=>hw b (by refine U3 _ (Z5 _ (LC (d:=(elems[i]'l7).1) (I8.2 ⟨_,Y0 l7,rfl⟩) b hb)))
     obtain⟨s1,s2,s3⟩:=Vg h3 hc;by_cases hz:i*v.size=0
     .simp only[Addr.add,hz,if_true]at s1 s2 s3;exact⟨x,wx,s1,s2,es,by simpa[hz]using s3,hx⟩
     .simp only[Addr.add,hz,if_false]at s1 s2 s3;obtain⟨es0,hc0,_⟩:=Option.bind_eq_some_iff.1 (show((w.cells? 0 (a.add (0*P.cellsOf e)) (P.cellsOf e)).bind (DataW.trod enc P w 0 sp held m e))=some (elems[0]'l7) by rw[hel 0 l7,jk l7]);rw[h2]at hc0;have s0:=(Vg h3 hc0).1;simp only[Nat.zero_mul,Addr.add,if_true]at s0;exact⟨x,wx,s0,s2,es,s3,hx⟩
    obtain⟨xs,hxl,hxs⟩:=Pv len each;refine⟨xs,.inl ⟨hE0,some a,cap,by simp[hxl],l7,λi x hi=>?_⟩,l7,λx hx=>?_⟩
    .obtain⟨_,s1,s2,es,s3,s4⟩:=hxs i x hi;refine⟨a.block,a.off,es,?_,hok _ _ s2,s3,s4⟩;obtain⟨b,o,s⟩:=a;simp only at s1;subst s1;rfl
    .obtain⟨i,hi,rfl⟩:=List.mem_iff_getElem.1 hx;exact(hxs i _ (jk hi)).1
  .rename_i fs ht;simp only[x9]at h;have h2:=fJ h.2;obtain⟨xs,m,rfl,hx,hl,hlen,hf⟩:=DataW.trod_struct ht hd;simp only[je]at hx;obtain⟨rfl,rfl⟩:=hx;have hW:DataW.weights P t (.agg (xs.map (·.1)):DataW H)=DataW.weightsEach P (fs.toList.map (·.type)) (xs.map (·.1)):=by simp only[DataW.weights,ht]
   rw[hW]at hw;have:=VD (cs:=cs) (m:=m) (λt u hu aT cs d ps hd hw=>KZ hok n t u hu aT cs d ps hd hw) fs.toList 0 u h.1 xs (by simpa using hlen) (λi f hi=>hf i f (by simpa using hi)) hw;rwa[dG,ax l7]at this
  .cases h
end
def a8y(P:Program)(t:TypeId):Bool:=match P.underlying t with|some (.struct _)=>true|_=>false
variable {P:Program}
theorem b3B{W:World}{base n:Nat}{t:TypeId}{u:Ty}{v:Value}(h:a0h P n t u=true)(hv:Value.okWide P W .any base t v):Ri (a8y P t) v v.cells.toList:=by
 cases n with
 |zero=>cases h|succ n=>
  unfold a0h at h;unfold a8y;split at h
  .rename_i ht;simp only[Value.okWide,ht,Cell.okWide,Cell.ok]at hv ⊢;cases v<;>first|rfl|exact absurd hv A7
  .rename_i ht;simp only[Value.okWide,ht,Cell.okWide,Cell.ok]at hv ⊢;cases v<;>first|rfl|exact absurd hv A7
  .rename_i ht;simp only[Value.okWide,ht,Cell.okWide,Cell.ok]at hv ⊢;cases v<;>first|rfl|exact absurd hv A7
  .rename_i ht;simp only[Value.okWide,ht,Cell.okWide,Cell.ok]at hv ⊢;cases v<;>first|rfl|exact absurd hv A7
  .rename_i ht;simp only[Value.okWide,ht]at hv ⊢;obtain⟨cs,rfl,_,_⟩:=hv;exact⟨cs,rfl,rfl⟩
  .cases h
def qF(P:Program)(n:Nat):List TypeId->List MG->Bool
 |[],[]=>true|t::ts,(g,.dat u)::ms=>a0h P n t u&&(a8y P t==g)&&P.readableRec t&&Nat.blt t P.types.size&&qF P n ts ms|_,_=>false
def wfM:(m:M)->m.den->Prop
 | .dat t,x=>wf t x|_,_=>True
def a2H:(ms:List MG)->X4 ms->Prop
 |[],_=>True|[m],x=>wfM m.2 x|m::m' ::r,x=>wfM m.2 x.1/\a2H (m' ::r) x.2
section
variable {H:Type} {enc:TypeId×Value->H} {P:Program} {W:World} {base n:Nat} {ok:Nat->Ty->Prop}
theorem Ze(hok:∀b t,b<W.heap.size->ok b t):∀{ts:List TypeId} {ms:List MG} {vs:c5A} {ds:List (DataW H)} {ps:List MemPlace},qF P n ts ms=true->DataW.TrodAll enc P W 0 (λ_=>true) true ts vs ds ps->
  (∀(j:Nat) t v,ts[j]? =some t->vs[j]? =some v->Value.okWide P W .any base t v)->(∀b∈DataW.weightsEach P ts ds,b<=reachBytes)->∃x,lI W.heap ok ms x vs []/\a2H ms x
 |[],[],vs,ds,ps,h,hd,hv,hw=>by obtain⟨rfl,rfl,rfl⟩:=trodAll_nil hd;exact⟨(),⟨rfl,rfl⟩,trivial⟩
 |[],_::_,_,_,_,h,_,_,_=>by simp[qF]at h|_::_,[],_,_,_,h,_,_,_=>by simp[qF]at h|t::ts,(g,m)::ms,vs,ds,ps,h,hd,hv,hw=>by
  cases m<;>simp only[qF,x9]at h<;>try (cases h;done)
  rename_i u;obtain⟨⟨⟨⟨h1,h2⟩,_⟩,_⟩,h3⟩:=h;have h2:=eq_of_beq h2;subst h2;obtain⟨v,vs',d,ds',p,q,rfl,rfl,rfl,⟨aT,h4⟩,h5⟩:=trodAll_cons hd;have hw' :∀b∈d.weights P t++DataW.weightsEach P ts ds',b<=reachBytes:=by simpa only[DataW.weightsEach]using hw
  obtain⟨x,hx,wx⟩:=KZ (ok:=ok) hok n t u h1 _ _ _ _ h4 λb hb=>hw' b (Z5 _ hb);have hg:=b3B h1 (hv 0 t v rfl rfl);obtain⟨y,hy,wy⟩:=Ze hok h3 h5 (λj t v hj hk=>hv (j+1) t v (by simpa using hj) (by simpa using hk)) λb hb=>hw' b (bQ _ hb);cases ms with
  |nil=>
   cases ts with
   |cons _ _=>simp[qF]at h3|nil=>obtain⟨rfl,rfl,rfl⟩:=trodAll_nil h5;exact⟨x,⟨v,_,rfl,hg,hx,rfl⟩,wx⟩
  |cons m' ms=>exact⟨(x,y),⟨v,_,vs',[],[],rfl,rfl,hg,⟨hx,rfl⟩,hy⟩,wx,wy⟩
theorem NI(hl:laidOutB P=true){W' :World}(hb:Below W.heap.size W W'){sp:Nat->Bool} :∀{ts:List TypeId} {ms:List MG} {vs:c5A} {ds:List (DataW H)} {ps:List MemPlace},qF P n ts ms=true->
  DataW.TrodAll enc P W 0 (λ_=>true) true ts vs ds ps->(∀x∈ps,x.block<W.heap.size)->(∀x∈ps,sp x.block=true)->DataW.TrodAll enc P W' 0 sp true ts vs ds ps
 |[],ms,vs,ds,ps,h,hd,_,_=>by obtain⟨rfl,rfl,rfl⟩:=trodAll_nil hd;rfl
 |_::_,[],_,_,_,h,_,_,_=>by simp[qF]at h|t::ts,(g,m)::ms,vs,ds,ps,h,hd,hlt,hsp=>by
  cases m<;>simp only[qF,x9]at h<;>try (cases h;done)
  obtain⟨⟨⟨⟨h1,h2⟩,h6⟩,h7⟩,h3⟩:=h;rw[aF]at h7;obtain⟨v,vs',d,ds',p,q,rfl,rfl,rfl,h4,h5⟩:=trodAll_cons hd;exact⟨p,q,WideElems.Trod_stays hl h6 h7 h4 (λx hx=>hb.same (hlt x (Z5 _ hx))) (λx hx=>hsp x (Z5 _ hx)),
   NI hl hb h3 h5 (λx hx=>hlt x (bQ _ hx)) (λx hx=>hsp x (bQ _ hx)),rfl⟩
end
theorem a1e{W:World}{name:String}{g:Nat}{k:IntKind}{zs:c5z}(hg:P.globalNamed name=some g)(hz:0<zs.length)(h:Lib.TabIs P W name k zs):
  Ia ⟨W.heap,λb _=>b<W.heap.size,nom⟩ g (.int k) zs:=by
 have hc:∀i z,zs[i]? =some z->W.cell? ⟨g,i,none⟩=some (.int k z):=λi z hi=>by have:=World.var?_cell hg h i;rw[this];simp[hi]
 have key:∀i z,zs[i]? =some z->g<W.heap.size/\dJ W.heap g i 1=some [.int k z]:=λi z hi=>by
  have h1:=hc i z hi;have h2:W.cells? 0 ⟨g,i,none⟩ 1=some [.int k z]:=by simp[World.cells?,iw,Addr.add,h1]
  obtain⟨_,s2,s3⟩:=Vg l7 h2;exact⟨s2,s3⟩
 refine⟨(key 0 zs[0] (jk hz)).1,?_,λi z hi=>⟨_,?_,rfl⟩⟩
 .unfold Lib.TabIs World.var? at h;simp only[hg,iL]at h;split at h
  .rename_i cs T f hb;simp only[F7]at h;subst h;exact⟨_,T,f,hb,by simp[Ty.size]⟩
  .cases h
 .have:=(key i z hi).2;simpa[Ty.size]using this
theorem a2y{w:World}{ok:Nat->Ty->Prop}{m:Mp}{name:String}{g:Nat}{k:IntKind}{zs:c5z}(hg:P.globalNamed name=some g)(h:Ia ⟨w.heap,ok,m⟩ g (.int k) zs):Lib.TabIs P w name k zs:=by
 obtain⟨_,⟨c,T,f,hb,hl⟩,hz⟩:=h;unfold Lib.TabIs World.var?;simp only[hg,iL,hb,F7];simp only[Ty.size,bD]at hl;apply Array.ext
 .simp[hl]
 .intro i h1 h2;have hi:i<zs.length:=by simpa using h2
  obtain⟨es,he,hr⟩:=hz i zs[i] (jk hi);rw[kE hb _ _ (by simp[Ty.size];omega)]at he;simp only[Ty.size,bD,F7]at he;have h3:es=[.int k zs[i]]:=hr;rw[h3]at he;have h4:=congrArg (λl=>l[0]?) he;simp only[bJ (show 0<1 by omega),O0,aX,dZ]at h4;rw[I4,H7 h1]at h4;simpa using h4
theorem b3s{h:Array Obj}{all:c5A} :∀{ms:List MG} {ts:List TypeId} {vs:c5A},qF P n ts ms=true->UE h all ms vs:=by
 intro ms;induction ms with
 |nil=>intro ts vs _;trivial|cons md ms ih=>
  intro ts vs hp;obtain⟨g,md⟩:=md;cases ts with
  |nil=>cases hp|cons t ts=>
   cases md<;>simp only[qF,x9]at hp<;>try (cases hp;done)
   cases vs with
   |nil=>trivial|cons v vs=>exact ih hp.2
theorem n_{H:Type}{enc:TypeId×Value->H}{gl:List (Nat×(t:Ty)×List t.den)}{f:FuncId}{fn:Func}{s:ChangeSpec}{ms:List MG}{F:X4 ms->c5C}{tb:TypeId}
  (hlaid:laidOutB P=true) (hF:dI P gl f ⟨ms,[(false,.dat .bool)],[],F⟩) (law:∀x,a2H ms x->F x=some true) (hpars:qF P 30 fn.params.toList ms=true) (hres:fn.resultTypes=#[tb]) (hbool:P.underlying tb=some .bool)
  (hvars:s.vars=[]) (hsfn:∀ds:List (DataW H),ds.length=ms.length->s.fn H ds= { results:=[.lit (.bool true)],args:=ds })
  {W:World} {base:Nat} {args:Array Value} {ds gs:List (DataW H)} {before:List MemPlace} {apart fresh handsOn again:Bool}
  (hgl:∀g u,dL gl g=some u->Ia ⟨W.heap,λb _=>b<W.heap.size,nom⟩ g u.1 u.2)
  (hval:∀(j:Nat) t v,fn.params[j]? =some t->args[j]? =some v->Value.okWide P W .any base t v)
  (hW:DataW.Whole enc P fn.params.toList s.vars apart W args.toList ds gs before)
  (hz:(DataW.weightsEach P (fn.params.toList++s.plain.varTypes P) (ds++gs)).all (·<=reachBytes)=true):
  Calls P f args W λe W' =>∃v,e= .returned v/\s.post enc P fn apart fresh handsOn again W args v W' :=by
 have hW' :=hW;obtain⟨p,q,hA,hV,rfl,hfz,hnd⟩:=hW;rw[hvars]at hV;obtain⟨rfl,rfl⟩:=trodVars_none hV;have hlen:ds.length=ms.length:=by
  have:∀{ts:List TypeId} {ms:List MG} {vs:c5A} {ds:List (DataW H)} {ps:List MemPlace},qF P 30 ts ms=true->DataW.TrodAll enc P W 0 (λ_=>true) true ts vs ds ps->ds.length=ms.length:=by
   intro ts;induction ts with
   |nil=>
    intro ms vs ds ps h hd;obtain⟨rfl,rfl,rfl⟩:=trodAll_nil hd;cases ms with
    |nil=>rfl|cons _ _=>simp[qF]at h
   |cons t ts ih=>
    intro ms vs ds ps h hd;obtain⟨v,vs',d,ds',p,q,rfl,rfl,rfl,h4,h5⟩:=trodAll_cons hd;cases ms with
    |nil=>simp[qF]at h|cons m ms=>
     obtain⟨g,m⟩:=m;cases m<;>simp only[qF,x9]at h<;>try (cases h;done)
     simp[ih h.2 h5]
  exact this hpars hA
 have hvt:s.plain.varTypes P=[]:=by simp[ChangeSpec.plain,DataSpec.varTypes,hvars]
 rw[hvt]at hz;simp only[D8,dV,decide_eq_true_eq]at hz;obtain⟨x,hx,wx⟩:=Ze (ok:=λb _=>b<W.heap.size) (λb t hb=>hb) hpars hA (λj t v hj hv=>hval j t v (by simpa using hj) (by simpa using hv)) hz;have hc:=hF W (λb _=>b<W.heap.size) [] args.toList x true (λb t hb=>hb) aW (λb hb=>by cases hb) hgl hx (b3s hpars) (law x wx);simp only[Array.toArray_toList]at hc;refine hc.mono λe W' ⟨v,ok',O',rs,os,B,he,hfr,_,_,_,_,hrv,hos,hrel⟩=>?_;subst he;have hnoos:os=[]:=by
  have:∀{ms:List MG} {vs:c5A} {ts:List TypeId},qF P 30 ts ms=true->rM W'.heap ms vs os B->os=[]:=by
   intro ms;induction ms with
   |nil=>
    intro vs ts h ho;cases vs with
    |nil=>exact ho.1|cons _ _=>exact absurd ho (by simp[rM])
   |cons m ms ih=>
    intro vs ts h ho;obtain⟨g,m⟩:=m;cases ts with
    |nil=>simp[qF]at h|cons t ts=>
     cases m<;>simp only[qF,x9]at h<;>try (cases h;done)
     cases vs with
     |nil=>exact absurd ho (by simp[rM])|cons v vs=>exact ih h.2 ho
  exact this hpars hos
 subst hnoos;obtain⟨v1,cs,hvs,hg,⟨hrep,_⟩⟩:=hrel;simp only[D8]at hvs;subst hvs;have hv1:v1= .bool true:=by have h1:cs=[v1]:=hg;have h2:cs=[.bool true]:=hrep;rw[h1]at h2;exact(U6 h2).1
 subst hv1;have hv:v= .bool true:=hrv.2;subst hv;have hbel:Below W.heap.size W W' :=⟨hfr.os,hfr.tape,hfr.output,hfr.size,λk hk=>hfr.block k hk A7⟩;simp only[D8]at hW' hfz;have hlt:∀x∈p,x.block<W.heap.size:=λx hx=>by simpa using hW'.lt x hx
 have hres1:∀(b:Nat) (sp:Nat->Bool) (hd:Bool),DataW.TrodAll enc P W' b sp hd fn.resultTypes.toList ((Value.bool true).resultList fn.resultTypes.size) (s.fn H (ds++[])).results []:=λb sp hd=>by rw[D8,hsfn ds hlen,hres];exact trodAll_cons_mk (shut_bool hbool _) trodAll_mk0
 have hargs1:∀sp:Nat->Bool,(∀x∈p,sp x.block=true)->DataW.TrodAll enc P W' 0 sp true fn.params.toList args.toList (s.fn H (ds++[])).args p:=λsp hs=>by rw[D8,hsfn ds hlen];exact NI hlaid hbel hpars hA hlt hs
 have hvars1:∀sp:Nat->Bool,DataW.TrodVars enc P W' sp s.vars (s.fn H (ds++[])).vars []:=λsp=>by rw[D8,hsfn ds hlen,hvars];rfl
 refine⟨_,rfl,ds,[],p,[],p,[],hW',hres1 _ _ _,hargs1 _ (λx hx=>by simpa using hlt x hx),hvars1 _,World.keptBut_mono (λx hx=>⟨hx,.inr (.inl hx)⟩) (hbel.frame (·∈p)),λ_=>⟨ok_one hres rfl (okWide_bool_mk hbool _),_,_,([]++p)++[],⟨[]++p,[],trodAll_append (hargs1 _ (λ_ _=>rfl)) (hres1 _ _ _),hvars1 _,rfl,?_,?_⟩,?_⟩⟩
 .intro b off hp;simp only[H9,D8]at hp;rw[hbel.frozen (hlt _ hp)];exact hfz b off hp
 .intro ha;obtain⟨_,_,_,_,_,_,hn⟩:=hW';simpa using hn ha
 .intro x hx _;simpa using hx
end Go.GP
namespace Go.GP
open Go.RowKit
theorem a2R(w:World)(k:Nat)(os:Array Obj):Below w.heap.size w (Sort.grow (w.drewN k) os):=
 ⟨rfl,rfl,rfl,by simp[Sort.grow,World.drewN],λi hi=>by show((w.drewN k).heap++os)[i]? =_;rw[jK (by exact hi)];rfl⟩
theorem Eh{P:Program}{w w' :World}(hb:Below w.heap.size w w'){ok:Nat->Ty->Prop}(hlt:∀b t,ok b t->b<w.heap.size){ps:List MG}{vals:c5A}(hps:rM w'.heap ps vals [] []){t:Ty}{x:t.den}{v:Value}(hr:lJ w'.heap ok t x [v]){μ:Prop}(hdr:μ->w.drawn<=w'.drawn):
  ∃v' ok' O' rs os B,(Ending.returned v)= .returned v' /\Frame' μ w w' []/\(∀b t,ok b t->ok' b t)/\(∀b t,ok' b t->b<w'.heap.size/\(ok b t\/w.heap.size<=b\/b∈([]:c5B)))/\
   (O' ++B).Nodup/\(∀b∈O' ++B,(∀t,¬ok' b t)/\b<w'.heap.size/\(w.heap.size<=b\/b∈([]:c5B)))/\
   Qv 1 v' rs/\rM w'.heap ps vals os B/\lI w'.heap ok' ([(false,.dat t)]++[]) x (rs++os) O' :=
 ⟨v,ok,[],[v],[],[],rfl,⟨hb.os,hb.tape,hb.output,hb.size,λb h _=>hb.block b h,hdr⟩,λb t h=>h,λb t h=>⟨O9 (hlt b t h) hb.size,.inl h⟩,A7,A7,⟨rfl,rfl⟩,hps,⟨v,[v],rfl,rfl,hr,rfl⟩⟩
def Gl(n:Int):Option c5y:=if -9223372036854775808<=n/\n<=9223372036854775807 then some (Lib.itoa n)else none
def vg(s:c5y)(c:Int):Option c5y:=if 0<=c/\c<=9223372036854775807/\s.length*c.toNat<=140737488355328 then some (Lib.repeatL s c.toNat)else none
variable {P:Program}
theorem a3D{f g:Nat}{gl:List (Nat×(t:Ty)×List t.den)}
  (hC:∀(n:Int) (h0:-9223372036854775808<=n) (h1:n<=9223372036854775807) (w:World) (htab:Lib.TabIs P w "internal/strconv.uint64pow10" .u64 Lib.pow10Tab),
   Calls P f #[.int .i64 n] w λe w' =>e= .returned (.string ⟨(Lib.itoa n).toArray⟩)/\∃k os,w' =Sort.grow (w.drewN k) os)
  (hg:P.globalNamed "internal/strconv.uint64pow10"=some g) (hgl:dL gl g=some ⟨.int .u64,Lib.pow10Tab⟩):
  dI P gl f ⟨[(false,.dat (.int .i64))],[(false,.dat .str)],[],λx=>Gl x⟩:=by
 intro w ok O vals x r hlt _ _ hgls hrel hdv hfn;obtain⟨v,cs,rfl,h1,h2,rfl⟩:=hrel;have h1:cs=[v]:=h1;subst h1;have h2:[v]=[.int .i64 x]:=h2;obtain rfl:=(U6 h2).1;simp only[Gl]at hfn;split at hfn
 .rename_i hx;cases hfn;refine(hC x hx.1 hx.2 w (a2y hg (hgls _ _ hgl))).mono λe w' ⟨he,k,os,hw⟩=>?_;subst he;subst hw;exact Eh (P:=P) (t:=.str) (x:=Lib.itoa x) (ps:=[(false,.dat (.int .i64))]) (vals:=[.int .i64 x]) (a2R w k os) hlt ⟨rfl,rfl⟩ rfl (λ_=>V5 _ _)
 .cases hfn
theorem R_{f:Nat}{gl:List (Nat×(t:Ty)×List t.den)}[GlNe gl]
  (hC:∀(s:ByteArray) (c:Nat) (w:World) (hc:c<=9223372036854775807) (hlen:s.size*c<=140737488355328),
   Calls P f #[.string s,.int .i64 c] w λe w' =>e= .returned (.string ⟨(Lib.repeatL s.data.toList c).toArray⟩)/\Below w.heap.size w w'):
  dI P gl f ⟨[(false,.dat .str),(false,.dat (.int .i64))],[(false,.dat .str)],[],λx=>vg x.1 x.2⟩:=by
 intro w ok O vals x r hlt _ _ _ hrel hdv hfn;obtain⟨v,cs,vs',O1,O2,rfl,rfl,h1,⟨h2,rfl⟩,v2,cs2,rfl,h3,h4,rfl⟩:=hrel;have h1:cs=[v]:=h1;subst h1;have h3:cs2=[v2]:=h3;subst h3;have h2:[v]=[.string ⟨x.1.toArray⟩]:=h2;have h4:[v2]=[.int .i64 x.2]:=h4;obtain rfl:=(U6 h2).1;obtain rfl:=(U6 h4).1;simp only[vg]at hfn;split at hfn
 .rename_i hx;cases hfn;obtain⟨a,c⟩:=x;simp only at hx ⊢;obtain⟨n,rfl⟩:∃n:Nat,c=n:=⟨c.toNat,(N7 hx.1).symm⟩;have hh:=hC ⟨a.toArray⟩ n w (by have:=hx.2.1;omega) (by have h5:=hx.2.2;rw[H6]at h5;simpa[ByteArray.size]using h5);refine sD hh λe w' ⟨he,hb⟩=>?_;subst he;exact Eh (P:=P) (t:=.str) (x:=Lib.repeatL a (n:Int).toNat) (ps:=[(false,.dat .str),(false,.dat (.int .i64))]) (vals:=[.string ⟨a.toArray⟩,.int .i64 n]) hb hlt ⟨rfl,rfl⟩ (by simp[lJ]) (λh=>absurd h GlNe.ne)
 .cases hfn
end Go.GP
namespace Go.GP
def b4o(Q:Nat->((t:Ty)×List t.den)->Prop):List (Nat×(t:Ty)×List t.den)->Prop
 |[]=>True|(g,u)::r=>Q g u/\b4o Q r
theorem UF{Q:Nat->((t:Ty)×List t.den)->Prop} :∀{l:List (Nat×(t:Ty)×List t.den)},b4o Q l->∀g u,dL l g=some u->Q g u
 |[],_,g,u,h=>by simp[dL]at h|(k,v)::r,hc,g,u,h=>by
  unfold dL at h;cases hb:Nat.beq k g
  .simp only[hb,cond_false]at h;exact UF hc.2 g u h
  .simp only[hb,cond_true,F7]at h;have:=fJ hb;subst this;subst h;exact hc.1
end Go.GP
namespace Go.GP
open Go.RowKit Go.Sort
def a4D(x:Int):c5z->c5z
 |[]=>[x]|y::l=>bif X6 x y then x::y::l else y::a4D x l
def KA:c5z->c5z
 |[]=>[]|x::l=>a4D x (KA l)
def ddp(p:Int):c5z->c5z
 |[]=>[]|y::l=>bif D6 y p then ddp p l else y::ddp y l
def dd:c5z->c5z
 |[]=>[]|x::l=>x::ddp x l
theorem RD(x:Int):∀l,(a4D x l).Perm (x::l)
 |[]=> .refl _|y::l=>by
  unfold a4D;cases X6 x y
  .exact(List.Perm.cons y (RD x l)).trans (List.Perm.swap x y l)
  .exact .refl _
theorem Iy:∀l,(KA l).Perm l
 |[]=> .refl _|x::l=>(RD x (KA l)).trans ((Iy l).cons x)
theorem Tn(x:Int):∀{l:c5z},l.Pairwise (·<=·)->(a4D x l).Pairwise (·<=·)
 |[],_=>by simp[a4D]|y::l,h=>by
  have h' :=Y3.1 h;unfold a4D;cases hxy:X6 x y
  .have hxy' :y<x:=by simpa[X6]using hxy
   refine Y3.2 ⟨λz hz=>?_,Tn x h'.2⟩;rcases D5.1 ((RD x l).mem_iff.1 hz)with rfl|hz
   .omega
   .exact h'.1 z hz
  .have hxy' :x<=y:=by simpa[X6]using hxy
   refine Y3.2 ⟨λz hz=>?_,h⟩;rcases D5.1 hz with rfl|hz
   .exact hxy'
   .exact Int.le_trans hxy' (h'.1 z hz)
theorem Iz:∀l,(KA l).Pairwise (·<=·)
 |[]=>List.Pairwise.nil|x::l=>Tn x (Iz l)
theorem TN(l:c5z):(l.mergeSort λx y=>decide (x<=y))=KA l:=by refine List.Perm.eq_of_pairwise (le:=(·<=·)) (λa b _ _ h1 h2=>Int.le_antisymm h1 h2) ?_ (Iz l) ((kY l _).trans (Iy l).symm);have:=qc (le:=λx y:Int=>decide (x<=y)) (λa b c h1 h2=>by simp at*;omega) (λa b=>by simp;omega) l;simpa using this
theorem Vo(y:Int):∀(l:c5z) (p:Int),ddp p (l++[y])=ddp p l++(bif D6 y ((p::l).getLast A7)then[]else[y])
 |[],p=>rfl|z::l,p=>by
  have hg:(p::z::l).getLast A7=(z::l).getLast A7:=List.getLast_cons _;rw[hg];simp only[P8,ddp];by_cases h:z=p
  .subst h;simp only[D6,decide_true,cond_true];exact Vo y l z
  .have h' :D6 z p=false:=by simp[D6,h]
   rw[h'];simp only[cond_false];rw[Vo y l z];rfl
theorem QD(l:c5z)(y:Int)(m:Nat)(hm:m<=l.length):Lib.compactUpTo (l++[y]).toArray m=Lib.compactUpTo l.toArray m:=by
 unfold Lib.compactUpTo;have e:∀j,j<m->(l++[y]).toArray[j]! =l.toArray[j]!:=λj hj=>by rw[getElem!_pos _ j F8,getElem!_pos _ j F8];simp[oN (show j<l.length by omega)]
 have hf:(List.range m).filter (Lib.keeps (l++[y]).toArray)=(List.range m).filter (Lib.keeps l.toArray):=by apply List.filter_congr;intro j hj;have hj' :=aV.1 hj;unfold Lib.keeps;rw[e j hj',e (j -1) l7]
 rw[hf];apply iE;intro j hj;exact e j (aV.1 (bZ.1 hj).1)
theorem ZN(x y:Int)(l:c5z):Lib.compact (x::l++[y])=Lib.compact (x::l)++(bif D6 y ((x::l).getLast A7)then[]else[y]):=by
 have hlen:(x::l++[y]).length=(x::l).length+1:=A7;have h1:Lib.compact (x::l++[y])=Lib.compactUpTo (x::l++[y]).toArray (x::l).length++(if Lib.keeps (x::l++[y]).toArray (x::l).length=true then[(x::l++[y]).toArray[(x::l).length]!]else[]):=by
  unfold Lib.compact;rw[hlen];unfold Lib.compactUpTo;rw[iw,List.filter_append,bC];congr 1;by_cases hk:Lib.keeps (x::l++[y]).toArray (x::l).length=true
  .simp only[iJ,hk,if_true,List.filter_nil,aU,jD]
  .simp only[iJ,hk,List.filter_nil,jD];simp
 rw[h1,QD (x::l) y _ (A8 _)];have e1:(x::l++[y]).toArray[(x::l).length]! =y:=by rw[getElem!_pos _ _ A7];simp
 have e2:(x::l++[y]).toArray[(x::l).length -1]! =(x::l).getLast A7:=by rw[getElem!_pos _ _ F8];rw[List.getLast_eq_getElem];simp only[List.getElem_toArray];rw[oN]
 have hk:Lib.keeps (x::l++[y]).toArray (x::l).length=decide (y≠(x::l).getLast A7):=by unfold Lib.keeps;rw[e1,e2];simp
 rw[hk,e1];unfold Lib.compact;by_cases h:y=(x::l).getLast A7<;>simp[D6,h]
theorem a2r{motive:c5z->Prop}(h0:motive [])(h1:∀l y,motive l->motive (l++[y])):∀n (l:c5z),l.length=n->motive l
 |0,l,h=>by rw[af.1 h];exact h0|n+1,l,h=>by
  have hne:l≠[]:=by intro e;subst e;cases h
  rw[←List.dropLast_concat_getLast hne];exact h1 _ _ (a2r h0 h1 n _ F8)
theorem a3c(l:c5z):Lib.compact l=dd l:=by
 cases l with
 |nil=>rfl|cons x l=>
  show _=x::ddp x l;refine a2r (motive:=λl=>Lib.compact (x::l)=x::ddp x l) ?_ (λl y ih=>?_) l.length l rfl
  .simp[Lib.compact,Lib.compactUpTo,Lib.keeps,iw,ddp]
  .have:=ZN x y l;rw[P8]at this;rw[this,ih,Vo];rfl
def DL(xs:c5z):Option c5z:=bif Nat.blt xs.length 4611686018427387904 then some (KA xs)else none
def sK(xs:c5z):Option c5z:=bif Nat.blt xs.length 4611686018427387904 then some (dd xs)else none
def tC(s t:c5y):c5C:=match t with
 |[c]=>some (decide (0<=Lib.indexByte s c))|_=>none
variable {w:World}{ok:Nat->Ty->Prop}
theorem Pm{m:Mp}{xs:c5z}{blk off len cap sz:Nat}(h:arrOk ⟨w.heap,ok,m⟩ (.int .i64) xs (.arr blk off len cap sz)):Holds (Value.int .i64) w blk off xs.toArray:=by
 obtain⟨_,rfl,rfl,hc,c,T,f,hb,hz,hs,hx⟩:=h;have hz:f=(0,0):=hz.elim id (λh=>nomatch h.1);subst hz;intro j hj;have hj' :j<xs.length:=by simpa using hj
 obtain⟨es,he,hr⟩:=hx j xs[j] (jk hj');have hr:es=[.int .i64 xs[j]]:=hr;subst hr;have hb' :w.heap[blk]? =some (.cells c T (0,0)):=hb;have he' :dJ w.heap blk (off+j*1) 1=some [.int .i64 xs[j]]:=he;rw[bD]at he';refine⟨?_,?_⟩
 .have:=wG (w:=w) he' (j:=0) (v:=.int .i64 xs[j]) rfl;rw[aX]at this;rw[this,getElem!_pos xs.toArray j hj];simp
 .simp[World.frozen?,hb']
variable {blk:Nat}{off:Nat}{n:Nat}{c:Array Value}{T:TypeId}
theorem a7R{fr:Nat×Nat}(hb:w.heap[blk]? =some (.cells c T fr))(d:Array Int):
  (putRow (Value.int .i64) (Sort.ahead w n) blk off d).heap[blk]? =some (.cells (putCells (Value.int .i64) off d c) T fr):=by
 show(w.heap.modify blk (onCells (putCells (Value.int .i64) off d)))[blk]? =_;rw[fM,if_pos rfl,hb];rfl
theorem a4c{blk off n b:Nat}(h:b≠blk)(d:Array Int):(putRow (Value.int .i64) (Sort.ahead w n) blk off d).heap[b]? =w.heap[b]?:=by show(w.heap.modify blk (onCells (putCells (Value.int .i64) off d)))[b]? =_;rw[fM,if_neg (λe=>h e.symm)]
theorem a5o{h:Array Obj}{m:Mp}{blk off cap:Nat}{d:Array Int}{ys:c5z}(hb:h[blk]? =some (.cells (putCells (Value.int .i64) off d c) T (0,0)))
  (hfit:off+cap<=c.size) (hd:d.size<=cap) (hl:ys.length<=d.size) (hy:∀(i:Nat) (y:Int),ys[i]? =some y->d[i]? =some y):arrOk ⟨h,ok,m⟩ (.int .i64) ys (.arr blk off ys.length cap 1):=by
 refine⟨rfl,rfl,rfl,l7,_,T,_,hb,.inl rfl,by simp[putCells,Ty.size];omega,λi y hi=>⟨[.int .i64 y],?_,rfl⟩⟩;have hi' :=(X9.1 hi).1;have hdi:=hy i y hi;obtain⟨hdi',hdy⟩:=G7.1 hdi;show dJ h blk (off+i*1) 1=_;rw[bD,kE hb _ _ (by simp[putCells];omega)];have hk:off+i<c.size:=l7;have:(putCells (Value.int .i64) off d c).toList[off+i]? =some (.int .i64 y):=by unfold putCells;rw[I4,Array.getElem?_mapIdx,H7 hk];simp only[aY];rw[if_pos l7,Nat.add_sub_cancel_left,getElem!_pos d i hdi',hdy]
 obtain⟨h1,h2⟩:=X9.1 this;rw[V9 h1,h2];rfl
theorem a6t{μ:Prop}{P:Program}{d:Array Int}{os:Array Obj}(hlt:∀b t,ok b t->b<w.heap.size)(hfree:(∀t,¬ok blk t)/\blk<w.heap.size)
  (hb:w.heap[blk]? =some (.cells c T (0,0))) {w' :World} (hw:w' =Sort.grow (putRow (Value.int .i64) (Sort.ahead w n) blk off d) os):
  w'.heap[blk]? =some (.cells (putCells (Value.int .i64) off d c) T (0,0))/\Frame' μ w w' [blk]/\(∀b t,ok b t->b<w'.heap.size/\(ok b t\/w.heap.size<=b\/b∈[blk]))/\blk<w'.heap.size:=by
 subst hw;have hsz:(putRow (Value.int .i64) (Sort.ahead w n) blk off d).heap.size=w.heap.size:=by simp[Sort.ahead]
 have hge:w.heap.size<=(Sort.grow (putRow (Value.int .i64) (Sort.ahead w n) blk off d) os).heap.size:=by simp[Sort.grow,Sort.ahead]
 have hold:∀b,b<w.heap.size->(Sort.grow (putRow (Value.int .i64) (Sort.ahead w n) blk off d) os).heap[b]? =(putRow (Value.int .i64) (Sort.ahead w n) blk off d).heap[b]?:=λb hb=>by show((putRow (Value.int .i64) (Sort.ahead w n) blk off d).heap++os)[b]? =_;rw[jK (by rw[hsz];exact hb)]
 refine⟨by rw[hold blk hfree.2];exact a7R hb d,⟨rfl,rfl,rfl,hge,λb h1 h2=>?_,λ_=>V5 _ _⟩,λb t h=>⟨O9 (hlt b t h) hge,.inl h⟩,O9 hfree.2 hge⟩;rw[hold b h1];exact a4c (λe=>h2 (by simp[e])) d
variable {P:Program}{f:Nat}
theorem a4J{gl:List (Nat×(t:Ty)×List t.den)}
  (hC:∀(blk off cap:Nat) (zs:c5z) (w:World) (hH:Holds (Value.int .i64) w blk off zs.toArray) (hblk:blk<w.heap.size) (hsz:zs.length<4611686018427387904),
   Calls P f #[.slice (some ⟨blk,off,none⟩) zs.length cap] w λe w' =>e= .returned (.tuple #[])/\∃n os,w' =Sort.grow (putRow (Value.int .i64) (Sort.ahead w n) blk off (zs.mergeSort λx y=>decide (x<=y)).toArray) os)
  (hN:∀(p:Option Addr) (cap:Nat) (w:World),Calls P f #[.slice p 0 cap] w λe w' =>e= .returned (.tuple #[])/\w' =w):
  dI P gl f ⟨[(false,.ownb (.int .i64))],[],[(false,.own (.int .i64))],λx=>DL x⟩:=by
 intro w ok O vals x r hlt hnd hO _ hrel hdv hfn;obtain⟨v,cs,rfl,h1,l,v',hcs,hv,ha,rfl⟩:=hrel;have h1:cs=[v]:=h1;rw[h1]at hcs;simp only[G5,and_true]at hcs;subst hcs;simp only[DL]at hfn;cases hx0:Nat.blt x.length 4611686018427387904<;>rw[hx0]at hfn
 .cases hfn
 rw[aF]at hx0;have hx:=hx0;rw[←TN]at hfn;cases hfn;cases l with
 |st b=>cases ha|mp b=>cases ha.1|nil=>
  have ha:x=[]:=ha.1;subst ha;have hv:v= .slice none 0 0:=hv;subst hv;refine(hN none 0 w).mono λe w' ⟨he,hw⟩=>?_;subst he;subst hw;exact⟨_,ok,[],[],[.slice none 0 0],[],rfl,Frame'.refl _ _,λ_ _ h=>h,λb t h=>⟨hlt b t h,.inl h⟩,A7,A7,⟨rfl,rfl⟩,⟨[],rfl,rfl,rfl⟩,
   ⟨_,_,rfl,rfl,wO.2 ⟨.nil,_,rfl,rfl,(by simp[arrOk,Ty.isEnt]),rfl⟩⟩⟩
 |arr blk off len cap sz=>
  have hH:=Pm ha;obtain⟨_,rfl,rfl,hc,c,T,f,hb,hz,hs,hx'⟩:=ha;have hz:f=(0,0):=hz.elim id (λh=>nomatch h.1);subst hz;have hv:v= .slice (some ⟨blk,off,none⟩) x.length cap:=hv;subst hv;have hfree:=hO blk (by simp[Loc.blks]);refine(hC blk off cap x w hH hfree.2 hx).mono λe w' ⟨he,n,os,hw⟩=>?_;subst he;obtain⟨g1,g2,g3,g4⟩:=a6t (P:=P) hlt hfree hb hw;have hlen:(x.mergeSort λx y=>decide (x<=y)).length=x.length:=List.length_mergeSort ..;have hfit:off+cap<=c.size:=by simpa[Ty.size]using hs
  have harr:=a5o (ok:=ok) (m:=nom) (cap:=cap) (ys:=x.mergeSort λx y=>decide (x<=y)) g1 hfit (by simp[hlen];exact hc) A7 (λi y hi=>by simpa using hi);rw[hlen]at harr;refine⟨_,ok,[blk],[],[.slice (some ⟨blk,off,none⟩) x.length cap],[],rfl,g2,λ_ _ h=>h,g3,A7,λb hb=>?_,⟨rfl,rfl⟩,⟨[],rfl,rfl,rfl⟩,⟨_,_,rfl,rfl,wO.2 ⟨.arr blk off x.length cap 1,_,rfl,rfl,harr,rfl⟩⟩⟩;have:b=blk:=by simpa using hb
  subst this;exact⟨hfree.1,g4,.inr (by simp[Loc.blks])⟩
theorem a3d(zs:c5z):(Lib.compact zs).length<=zs.length:=by unfold Lib.compact Lib.compactUpTo;rw[J6];exact X7 (dN _ _) A7
theorem XK{gl:List (Nat×(t:Ty)×List t.den)}
  (hC:∀(blk off cap:Nat) (zs:c5z) (w:World) (hH:Holds (Value.int .i64) w blk off zs.toArray) (hsz:zs.length<=9223372036854775807) (hcap:zs.length<=cap),
   Calls P f #[.slice (some ⟨blk,off,none⟩) zs.length cap] w λe w' =>e= .returned (.slice (some ⟨blk,off,none⟩) (Lib.compact zs).length cap)/\∃q,w' =putRow (Value.int .i64) (Sort.ahead w q) blk off (Lib.compact zs++List.replicate (zs.length -(Lib.compact zs).length) 0).toArray)
  (hN:∀(a:Option Addr) (cap:Nat) (w:World),Calls P f #[.slice a 0 cap] w λe w' =>e= .returned (.slice a 0 cap)/\w' =w):
  dI P gl f ⟨[(false,.own (.int .i64))],[(false,.own (.int .i64))],[],λx=>sK x⟩:=by
 intro w ok O vals x r hlt hnd hO _ hrel hdv hfn;obtain⟨v,cs,rfl,h1,hrm⟩:=hrel;obtain⟨l,v',hcs,hv,ha,rfl⟩:=wO.1 hrm;have h1:cs=[v]:=h1;rw[h1]at hcs;simp only[G5,and_true]at hcs;subst hcs;simp only[sK]at hfn;cases hx0:Nat.blt x.length 4611686018427387904<;>rw[hx0]at hfn
 .cases hfn
 rw[aF]at hx0;have hx:=hx0;rw[←a3c]at hfn;cases hfn;cases l with
 |st b=>cases ha|mp b=>cases ha.1|nil=>
  have ha:x=[]:=ha.1;subst ha;have hv:v= .slice none 0 0:=hv;subst hv;refine(hN none 0 w).mono λe w' ⟨he,hw⟩=>?_;subst he;subst hw;exact⟨_,ok,[],[.slice none 0 0],[],[],rfl,Frame'.refl _ _,λ_ _ h=>h,λb t h=>⟨hlt b t h,.inl h⟩,A7,A7,⟨rfl,rfl⟩,⟨rfl,rfl⟩,
   ⟨_,_,rfl,rfl,wO.2 ⟨.nil,_,rfl,rfl,⟨rfl,rfl⟩,rfl⟩⟩⟩
 |arr blk off len cap sz=>
  have hH:=Pm ha;obtain⟨_,rfl,rfl,hc,c,T,f,hb,hz,hs,hx'⟩:=ha;have hz:f=(0,0):=hz.elim id (λh=>nomatch h.1);subst hz;have hv:v= .slice (some ⟨blk,off,none⟩) x.length cap:=hv;subst hv;have hfree:=hO blk (by simp[Loc.blks]);refine(hC blk off cap x w hH l7 hc).mono λe w' ⟨he,n,hw⟩=>?_;subst he;have hle:=a3d x;obtain⟨g1,g2,g3,g4⟩:=a6t (P:=P) (n:=n) (off:=off) (d:=(Lib.compact x++List.replicate (x.length -(Lib.compact x).length) 0).toArray) (os:=#[]) (w' :=w') hlt hfree hb (by rw[grow_empty];exact hw);have hfit:off+cap<=c.size:=by simpa[Ty.size]using hs
  have harr:=a5o (ok:=ok) (m:=nom) (cap:=cap) (ys:=Lib.compact x) g1 hfit F8 A7 (λi y hi=>by have:=(X9.1 hi).1;rw[List.getElem?_toArray,O7 this];exact hi)
  refine⟨_,ok,[blk],[.slice (some ⟨blk,off,none⟩) (Lib.compact x).length cap],[],[],rfl,g2,λ_ _ h=>h,g3,A7,λb hb=>?_,⟨rfl,rfl⟩,⟨rfl,rfl⟩,⟨_,_,rfl,rfl,wO.2 ⟨.arr blk off (Lib.compact x).length cap 1,_,rfl,rfl,harr,rfl⟩⟩⟩;have:b=blk:=by simpa using hb
  subst this;exact⟨hfree.1,g4,.inr (by simp[Loc.blks])⟩
theorem TC{gl:List (Nat×(t:Ty)×List t.den)}
  (hC:∀(s:ByteArray) (c:UInt8) (w:World),Calls P f #[.string s,.string ⟨#[c]⟩] w λe w' =>e= .returned (.bool (decide (0<=Lib.indexByte s.data.toList c)))/\w' =w):
  dI P gl f ⟨[(false,.dat .str),(false,.dat .str)],[(false,.dat .bool)],[],λx=>tC x.1 x.2⟩:=by
 intro w ok O vals x r hlt _ _ _ hrel hdv hfn;obtain⟨v,cs,vs',O1,O2,rfl,rfl,h1,⟨h2,rfl⟩,v2,cs2,rfl,h3,h4,rfl⟩:=hrel;have h1:cs=[v]:=h1;subst h1;have h3:cs2=[v2]:=h3;subst h3;have h2:[v]=[.string ⟨x.1.toArray⟩]:=h2;have h4:[v2]=[.string ⟨x.2.toArray⟩]:=h4;obtain rfl:=(U6 h2).1;obtain rfl:=(U6 h4).1;simp only[tC]at hfn;split at hfn
 .rename_i c hx;cases hfn;rw[hx];refine(hC ⟨x.1.toArray⟩ c w).mono λe w' ⟨he,hw⟩=>?_;subst he;subst hw;exact Eh (P:=P) (t:=.bool) (x:=decide (0<=Lib.indexByte x.1 c)) (ps:=[(false,.dat .str),(false,.dat .str)]) (vals:=[_,_]) ⟨rfl,rfl,rfl,A8 _,λ_ _=>rfl⟩ hlt ⟨rfl,rfl⟩ rfl (λ_=>A8 _)
 .cases hfn
def um{α:Type}(xs:List α):Option (List α):=eY [] xs
theorem RU{E:Env}{f:FuncId}{fn:Func}{c:Code}{t:Ty}(hf:P.funcs[f]? =some fn)(hb:fn.body=some c)(hnt:fn.ntmps=E.nt)(hres:fn.results.toList=[.tmp 2])(hE:EnvOk P E)
  (h0:∀b,a7f E [(false,.cell (some (some b)))] ⟨[(.tmp 2,(false,.own t))],[]⟩ c .leaf ()=some [])
  (h2:∀xs,a7f E [(false,.dat (.sl t))] ⟨[(.tmp 2,(false,.own t))],[]⟩ c .leaf xs=l9 (D6 (x8 xs) 0) none (o5 (eY [] xs) λz=>some z))
  (ht:t.isEnt=false:=by rfl):
  dI P E.gl f ⟨[(false,.dat (.sl t))],[(false,.own t)],[],λxs=>um xs⟩:=by
 intro w ok O vals x r hlt hnd hO hgl hrel hdv hfn;obtain⟨v,cs,rfl,h1,hr,rfl⟩:=hrel;have h1:cs=[v]:=h1;subst h1;cases x with
 |nil=>
  obtain⟨a,cap,e,_,_⟩:=(zo ht).1 hr;have e:v= .slice a 0 cap:=(U6 e).1;have hr:r=[]:=by
   have:some ([]:List t.den)=some r:=by simpa[um,eY]using hfn
   exact(aZ this).symm
  subst hr;exact NQ (ps:=[(false,.cell (some (some a.isNone)))]) (rt:=⟨[(.tmp 2,(false,.own t))],[]⟩) (F:=λ_=>some []) hf hb hnt hres hE (λx r h=>by cases h;exact h0 a.isNone) w ok [] [v] () [] hlt hnd hO hgl
   ⟨v,[v],rfl,rfl,v,rfl,by subst e;rfl,(λh=>nomatch h),(λb h=>by cases h;exact⟨a,cap,e,rfl⟩),rfl⟩ trivial rfl
 |cons z zs=>
  exact NQ (ps:=[(false,.dat (.sl t))]) (rt:=⟨[(.tmp 2,(false,.own t))],[]⟩) (F:=λxs=>l9 (D6 (x8 xs) 0) none (o5 (eY [] xs) λz=>some z)) hf hb hnt hres hE (λx r h=>(h2 x).trans h) w ok [] [v] (z::zs) r hlt hnd hO hgl
   ⟨v,[v],rfl,rfl,hr,rfl⟩ trivial (by
    have h3:D6 (x8 (z::zs)) 0=false:=by simp only[D6,x8,D7];exact decide_eq_false l7
    have h4:eY [] (z::zs)=some r:=hfn;show l9 (D6 (x8 (z::zs)) 0) none (o5 (eY [] (z::zs)) λz=>some z)=some r;rw[h3,h4];rfl)
end Go.GP
namespace Go.GP
open Go.Shelf Go.RowKit Go.Proofs
structure OthB (w w' :World) (ks:c5B):Prop where
 os:w'.os=w.os
 tape:w'.tape=w.tape
 output:w'.output=w.output
 size:w.heap.size<=w'.heap.size
 block:∀k,k<w.heap.size->k∉ks->w'.heap[k]? =w.heap[k]?
theorem OthB.trans{a b c:World}{ks:c5B}(h:OthB a b ks)(k:OthB b c ks):OthB a c ks:=
 ⟨k.os.trans h.os,k.tape.trans h.tape,k.output.trans h.output,X7 h.size k.size,λi hi hn=>(k.block i (O9 hi h.size) hn).trans (h.block i hi hn)⟩
variable {xs:c5y}{l:Loc}
theorem b0H{h:Array Obj}{te:Nat}(hr:Au h te xs l):∀b∈l.blks,b<h.size:=by
 intro b hb;cases l with
 |nil=>simp[Loc.blks]at hb|st b=>cases hr|mp b=>cases hr|arr g off len cap sz=>simp[Loc.blks]at hb;subst hb;obtain⟨_,_,_,_,_,cur,fz,h6,_⟩:=hr;exact(G7.1 h6).1
variable {w:World}
theorem a2S{P:Program}{t u ty e:TypeId}{i:TypeInfo}(ht:P.underlying t=some (.slice e))(hu:P.underlying u=some .string)(hi:P.info? e=some i)(hz:i.zero=some (.int .u8 0))
  (hsize:i.size=1) (hby:i.bytes=1) {v:Value} {l:Loc} {xs ys:c5y} (hv:l.view none v) (hr:Au w.heap e xs l) (hmax:xs.length+ys.length<=140737488355328):
  ∃v' w' l',(Builtin.append_ #[t,u] ty #[v,.string ⟨ys.toArray⟩]).run P w= .ok v' w' /\l'.view none v' /\Au w'.heap e (xs++ys) l' /\(∀b∈l'.blks,b∈l.blks\/w.heap.size<=b)/\OthB w w' l.blks:=by
 have hys:(⟨ys.toArray⟩:ByteArray).size=ys.length:=by simp[ByteArray.size]
 have hsc:Lib.strCells ⟨ys.toArray⟩=ys.map λc=>Value.int .u8 (c.toNat:Int):=rfl;have hback:∀{B:Nat} {h:Array Obj} {w' :World} {v' :Value} {zs:c5y} {n:Nat},n=zs.length->w'.ownsRowF B e 1 v' n (zs.map λc=>Value.int .u8 (c.toNat:Int))->∃l',l'.view none v' /\Au w'.heap e zs l' /\∀b∈l'.blks,B<=b:=by
  intro B h w' v' zs n hn ho;rcases ho.2 with⟨rfl,h0⟩|⟨g,cap,cur,fz,rfl,hB,hg,hfz,hc,hcm,hcs,htk⟩
  .exact⟨.nil,rfl,(af.1 (hn▸h0)),λb hb=>by simp[Loc.blks]at hb⟩
  .exact⟨.arr g 0 n cap 1,rfl,⟨rfl,rfl,hn,hc,hcm,cur,fz,hg,l7,l7,by rw[bD]at htk;exact htk⟩,λb hb=>by simp[Loc.blks]at hb;subst hb;exact hB⟩
 cases l with
 |st b=>cases hr|mp b=>cases hr|nil=>have hr:xs=[]:=hr;subst hr;have hv:v= .slice none 0 0:=hv;subst hv;obtain⟨v',w',h1,h2,h3,h4⟩:=Lib.run_append_own_stringF (P:=P) w w.heap.size t u ty e i ht hu hi hz hsize hby (.slice none 0 0) 0 [] ⟨rfl,.inl ⟨rfl,rfl⟩⟩ ⟨ys.toArray⟩ (by rw[hys];simp at hmax;unfold maxLen;omega) (by rw[hys];simpa using hmax) (A8 _);rw[hsc,H9,hys,fG]at h2;obtain⟨l',g1,g2,g3⟩:=hback (h:=w'.heap) rfl h2;exact⟨v',w',l',h1,g1,by simpa using g2,λb hb=> .inr (g3 b hb),⟨h3.os,h3.tape,h3.output,h3.size,λk hk _=>h3.block k hk (by simp[Value.ownBlock])⟩⟩
 |arr g off len cap sz=>
  obtain⟨rfl,rfl,rfl,hc,hcm,cur,fz,hg,hfz,hcs,htk⟩:=hr;have hv:v= .slice (some ⟨g,0,none⟩) xs.length cap:=hv;subst hv;by_cases hroom:xs.length+ys.length<=cap
  .have hrun:=Lib.run_append_room_stringF (P:=P) w t u ty e i ht hu hi hsize g xs.length cap cur fz hg hfz ⟨ys.toArray⟩ (by rw[hys];exact hroom) (by rw[hys];omega);rw[hys,hsc]at hrun;refine⟨_,_,.arr g 0 (xs.length+ys.length) cap 1,hrun,rfl,⟨rfl,rfl,A7,hroom,hcm,_,fz,setRow_heap w g cur _ e _ hg,l7,?_,?_⟩,λb hb=> .inl hb,⟨rfl,rfl,rfl,A7,λk _ hk=>setRow_other w g k _ (λe=>hk (by simp[Loc.blks,e]))⟩⟩
   .simp only[dK,E8,fU,iK,J5,J6];omega
   .rw[htk,F5,←F5,←bC];rw[show xs.length+ys.length=((xs++ys).map λc=>Value.int .u8 (c.toNat:Int)).length by simp];exact gG
  .have holds:∀(j:Nat) (u:Value),(xs.map λc=>Value.int .u8 (c.toNat:Int))[j]? =some u->w.cell? ((⟨g,0,none⟩:Addr).add j)=some u:=λj u hj=>by
    have ho:w.ownsRowF 0 e 1 (.slice (some ⟨g,0,none⟩) xs.length cap) xs.length (xs.map λc=>Value.int .u8 (c.toNat:Int)):=⟨A7,.inr ⟨g,cap,cur,fz,rfl,gV _,hg,l7,hc,hcm,l7,by rw[bD];exact htk⟩⟩;exact ho.cells (g:=g) rfl j u hj
   have hrun:=Lib.run_append_grow_string (P:=P) w t u ty e i (.int .u8 0) ht hu hi hz ⟨g,0,none⟩ xs.length cap (xs.map λc=>Value.int .u8 (c.toNat:Int)) (by rw[hsize];simp) holds ⟨ys.toArray⟩ (by rw[hys];omega) (by rw[hys];omega) (by rw[hby,hys];exact growslice_fits l7 l7);rw[hys,hsc]at hrun;have hge:=grownCap_ge w (xs.length+ys.length) cap e;have hcm2:grownCap w (xs.length+ys.length) cap e<=maxLen:=grownCap_le_maxLen w (xs.length+ys.length) cap e (by unfold maxLen;omega);refine⟨_,_,.arr w.heap.size 0 (xs.length+ys.length) _ 1,hrun,rfl,⟨rfl,rfl,A7,hge,hcm2,_,(0,0),heap_alloc_new w.drew _,gV _,?_,?_⟩,λb hb=> .inr (by simp[Loc.blks]at hb;omega),⟨rfl,rfl,rfl,A7,λk hk _=>heap_alloc_old w.drew _ hk⟩⟩
   .have hz1:(Value.int IntKind.u8 0).cells.size=1:=rfl;simp only[vN,dK,size_zeroCells,hz1,J6];omega
   .simp only[tX,F5];rw[←F5,←bC];rw[show xs.length+ys.length=((xs++ys).map λc=>Value.int .u8 (c.toNat:Int)).length by simp];exact gG
theorem a2U{P:Program}{ops:Array Oper}{rest:List Oper}{o:Oper}{a:Act}{Q:Exit->Act->World->Prop}{w:World}(hgd:o.guard=none)(sl x:Operand)(t u:TypeId)
  (ho:o.op= .call { callee:=.builtin .append,args:=#[sl,x],argTypes:=#[t,u] }) {e:TypeId} {i:TypeInfo} (ht:P.underlying t=some (.slice e)) (hu:P.underlying u=some .string) (hi:P.info? e=some i) (hz:i.zero=some (.int .u8 0))
  (hsize:i.size=1) (hby:i.bytes=1) {v:Value} {l:Loc} {xs ys:c5y} (hs:a.eval sl=v) (hx:a.eval x= .string ⟨ys.toArray⟩) (hv:l.view none v) (hr:Au w.heap e xs l) (hmax:xs.length+ys.length<=140737488355328)
  (h:∀v' w' l',l'.view none v' ->Au w'.heap e (xs++ys) l' ->(∀b∈l'.blks,b∈l.blks\/w.heap.size<=b)->OthB w w' l.blks->wpList P ops Q rest (a.put o.dst v') w'):wpList P ops Q (o::rest) a w:=by
 refine wpList_plain hgd λK hK=>?_;obtain⟨v',w',l',h1,h2,h3,h4,h5⟩:=a2S (ty:=o.type) ht hu hi hz hsize hby hv hr hmax;unfold Oper.wp execOp;simp only[ho,resolve,invoke,builtin,H8,aI,J3,List.map_toArray,aU,jD,hs,hx,h1];exact hK _ _ (h v' w' l' h2 h3 h4 h5)
variable {P:Program} {ρ:Ren}
set_option maxHeartbeats 2000000 in
set_option maxRecDepth 100000 in
set_option maxHeartbeats 2000000 in
set_option maxRecDepth 100000 in
theorem b2w(L:Lays.n170 P ρ){b:Nat}{a v:Value}(hb:w.heap[b]? =some (.cells #[a,v] (ρ.t 72) (0,0)))(hv:l.view none v)(hr:Au w.heap (ρ.t 5) xs l):
  Calls P (ρ.f 170) #[.pointer (some ⟨b,0,none⟩)] w λe w' =>e= .returned (.int .i64 xs.length)/\w' =w:=by
 obtain⟨ao,cap,rfl⟩:∃ao cap,v= .slice ao xs.length cap:=by
  cases l with
  |nil=>have h:xs=[]:=hr;subst h;exact⟨_,_,hv⟩|st _=>cases hr|mp _=>cases hr|arr g off len cap sz=>obtain⟨_,_,rfl,_⟩:=hr;exact⟨_,_,hv⟩
 have c1:w.cell? ⟨b,1,none⟩=some (.slice ao xs.length cap):=by rw[Lib.cell_of_heap hb];rfl
 have mixed:=L.mixed;have t72:=L.t72;have a72:=L.a72;have z72:=L.z72;have v72:=L.v72;have u72:=run_underlying L.t72;have t70:=L.t70;have a70:=L.a70;have z70:=L.z70;have v70:=L.v70;have u70:=run_underlying L.t70;have t37:=L.t37;have a37:=L.a37;have z37:=L.z37;have v37:=L.v37;have u37:=run_underlying L.t37;have t3:=L.t3;have a3:=L.a3;have z3:=L.z3;have v3:=L.v3;have u3:=run_underlying L.t3
 go_enter L.f170,Body.n170_ntmps ρ
 go_wp2
 go_ret
 exact⟨rfl,rfl⟩
set_option maxHeartbeats 2000000 in
set_option maxRecDepth 100000 in
theorem a2T(L:Lays.n169 P ρ)(X:Builder.Extra P ρ){b:Nat}{p v:Value}(hb:w.heap[b]? =some (.cells #[p,v] (ρ.t 72) (0,0)))
  (hv:l.view none v) (hr:Au w.heap (ρ.t 5) xs l) (hlen:xs.length<=140737488355328) (hnb:b∉l.blks):
  Calls P (ρ.f 169) #[.pointer (some ⟨b,0,none⟩)] w λe w' =>e= .returned (.string ⟨xs.toArray⟩)/\w'.heap[b]? =some (.cells #[p,v] (ρ.t 72) (0,0))/\Au w'.heap (ρ.t 5) xs l/\OthB w w' l.blks:=by
 have mixed:=L.mixed;have t72:=L.t72;have a72:=L.a72;have z72:=L.z72;have v72:=L.v72;have u72:=run_underlying L.t72;have t70:=L.t70;have a70:=L.a70;have z70:=L.z70;have v70:=L.v70;have u70:=run_underlying L.t70;have t37:=L.t37;have a37:=L.a37;have z37:=L.z37;have v37:=L.v37;have u37:=run_underlying L.t37;have t127:=L.t127;have a127:=L.a127;have z127:=L.z127;have v127:=L.v127;have u127:=run_underlying L.t127;have t3:=L.t3;have a3:=L.a3;have z3:=L.z3;have v3:=L.v3;have u3:=run_underlying L.t3;have t9:=L.t9;have a9:=L.a9;have z9:=L.z9;have v9:=L.v9;have u9:=run_underlying L.t9;have t5:=X.t5;have a5:=X.a5;have z5:=X.z5;have v5:=X.v5;have u5:=run_underlying X.t5;have hlt:b<w.heap.size:=(G7.1 hb).1;have c1:w.drew.cell? ⟨b,1,none⟩=some v:=by have:w.drew.heap[b]? =some (.cells #[p,v] (ρ.t 72) (0,0)):=hb;rw[Lib.cell_of_heap this];rfl
 have hdrew:OthB w w.drew l.blks:=⟨rfl,rfl,rfl,A8 _,λ_ _ _=>rfl⟩;cases l with
 |st _=>cases hr|mp _=>cases hr|nil=>
  have hx:xs=[]:=hr;subst hx;have hv:v= .slice none 0 0:=hv;subst hv;have hUS:=Any.unsafeString_none L X;have hSD:(Builtin.unsafeSliceData_ #[(ρ.t 37)] (ρ.t 127) #[.slice none 0 0]).run P w.drew= .ok (.pointer none) w.drew:=rfl
  go_enter L.f169,Body.n169_ntmps ρ
  go_wp2
  go_region_o
  all_goals (go_wp2;go_ret;exact⟨rfl,hb,rfl,hdrew⟩)
 |arr g off len cap sz=>
  have hr0:=hr;obtain⟨rfl,rfl,rfl,hc,hcm,cur,fz,hg,hfz,hcs,htk⟩:=hr;have hv:v= .slice (some ⟨g,0,none⟩) xs.length cap:=hv;subst hv;have hgd:w.drew.heap[g]? =some (.cells cur (ρ.t 5) fz):=hg;by_cases hx0:xs=[]
  .subst hx0;have hUS:=Any.unsafeString_none L X;by_cases hc0:cap=0
   .subst hc0;have hSD:(Builtin.unsafeSliceData_ #[(ρ.t 37)] (ρ.t 127) #[.slice (some ⟨g,0,none⟩) 0 0]).run P w.drew= .ok (.pointer (some ⟨w.drew.heap.size,0,none⟩)) (w.drew.alloc (.view ⟨g,0,none⟩ (ρ.t 5))):=
     Lib.run_unsafeSliceData_zero w.drew _ _ (ρ.t 5) L.t127 ⟨g,0,none⟩ 0 ((ρ.t 5),cur.size) (by simp[World.shape?,hgd])
    have hal:(w.drew.alloc (.view ⟨g,0,none⟩ (ρ.t 5))).heap[b]? =some (.cells #[p,.slice (some ⟨g,0,none⟩) 0 0] (ρ.t 72) (0,0)):=(heap_alloc_old w.drew _ hlt).trans hb;have c2:(w.drew.alloc (.view ⟨g,0,none⟩ (ρ.t 5))).cell? ⟨b,1,none⟩=some (.slice (some ⟨g,0,none⟩) 0 0):=by rw[Lib.cell_of_heap hal];rfl
    have c3:(w.alloc (.view ⟨g,0,none⟩ (ρ.t 5))).drew.cell? ⟨b,1,none⟩=some (.slice (some ⟨g,0,none⟩) 0 0):=c2;have c0:w.cell? ⟨b,1,none⟩=some (.slice (some ⟨g,0,none⟩) 0 0):=c1;have hglt:g<w.heap.size:=(G7.1 hg).1;have fin:∀w',w' =w.drew.alloc (.view ⟨g,0,none⟩ (ρ.t 5))->w'.heap[b]? =some (.cells #[p,.slice (some ⟨g,0,none⟩) 0 0] (ρ.t 72) (0,0))/\Au w'.heap (ρ.t 5) [] (.arr g 0 0 0 1)/\OthB w w' [g]:=λw' e=>by subst e;exact⟨hal,EF (λk hk=>by simp[Loc.blks]at hk;subst hk;exact heap_alloc_old w.drew _ hglt) hr0,⟨rfl,rfl,rfl,A7,λk hk _=>heap_alloc_old w.drew _ hk⟩⟩
    go_enter L.f169,Body.n169_ntmps ρ
    go_wp2
    go_region_o
    all_goals (go_wp2;go_ret;exact⟨rfl,fin _ rfl⟩)
   .have hSD:(Builtin.unsafeSliceData_ #[(ρ.t 37)] (ρ.t 127) #[.slice (some ⟨g,0,none⟩) 0 cap]).run P w.drew= .ok (.pointer (some ⟨g,0,none⟩)) w.drew:=
     Lib.run_unsafeSliceData_row _ _ _ _ _ _ hc0
    clear hc0
    go_enter L.f169,Body.n169_ntmps ρ
    go_wp2
    go_region_o
    all_goals (go_wp2;go_ret;exact⟨rfl,hb,hr0,hdrew⟩)
  .have hl0:xs.length≠0:=by simpa using hx0
   have hSD:(Builtin.unsafeSliceData_ #[(ρ.t 37)] (ρ.t 127) #[.slice (some ⟨g,0,none⟩) xs.length cap]).run P w.drew= .ok (.pointer (some ⟨g,0,none⟩)) w.drew:=
    Lib.run_unsafeSliceData_row _ _ _ _ _ _ l7
   have hown:w.ownsRowF 0 (ρ.t 5) 1 (.slice (some ⟨g,0,none⟩) xs.length cap) xs.length (xs.map λc=>Value.int .u8 (c.toNat:Int)):=⟨A7,.inr ⟨g,cap,cur,fz,rfl,gV _,hg,l7,hc,hcm,l7,by rw[bD];exact htk⟩⟩;have hUS:(Builtin.unsafeString_ #[(ρ.t 127),(ρ.t 3)] (ρ.t 9) #[.pointer (some ⟨g,0,none⟩),.int .i64 xs.length]).run P w.drew= .ok (.string ⟨xs.toArray⟩) (w.drew.freeze ⟨g,0,none⟩ xs.length):=by refine Lib.run_unsafeString_row w.drew (ρ.t 127) (ρ.t 3) (ρ.t 9) (ρ.t 5) L.t127 X.cellsByte g cur.size (by simp[World.shape?,hgd]) xs hx0 l7 (by unfold maxLen at hcm;omega) ?_;intro j x hx;exact hown.cells (g:=g) rfl j (.int .u8 x.toNat) (by simp[hx])
   have hA:Lib.BuilderAtF (ρ.t 72) (ρ.t 5) 0 b p (Lib.byteCells xs) w.drew:=⟨gV _,_,hb,by rw[Lib.byteCells_length];exact hown,λe=>hnb (by simp[Loc.blks];simpa[Value.ownBlock]using e.symm)⟩;have hF:=hA.froze (g:=g) (cap:=cap) (by rw[Lib.byteCells_length];exact c1);rw[Lib.byteCells_length]at hF;have hgb:b≠g:=λe=>hnb (by simp[Loc.blks,e]);have fin:∀w',w' =w.drew.freeze ⟨g,0,none⟩ xs.length->w'.heap[b]? =some (.cells #[p,.slice (some ⟨g,0,none⟩) xs.length cap] (ρ.t 72) (0,0))/\Au w'.heap (ρ.t 5) xs (.arr g 0 xs.length cap 1)/\OthB w w' [g]:=λw' e=>by
    subst e;obtain⟨_,v2,hb2,ho2,_⟩:=hF;have ho:∀k,k≠g->(w.drew.freeze ⟨g,0,none⟩ xs.length).heap[k]? =w.heap[k]?:=λk hk=>by
     unfold World.freeze;split
     .rfl
     .simp only[fM];rw[if_neg (λe=>hk e.symm)];rfl
    have hbb:=ho b hgb;rw[hb2,hb]at hbb;simp only[F7,Obj.cells.injEq,and_true,Array.mk.injEq,G5,true_and]at hbb;have hv2:v2= .slice (some ⟨g,0,none⟩) xs.length cap:=by simpa using hbb
    subst hv2;refine⟨hb2,?_,⟨by unfold World.freeze;split<;>rfl,by unfold World.freeze;split<;>rfl,by unfold World.freeze;split<;>rfl,?_,λk _ hk=>ho k (by simpa using hk)⟩⟩
    .rw[Lib.byteCells_length]at ho2;rcases ho2.2 with⟨h,_⟩|⟨g',cap',cur',fz',e,_,h1,h2,h3,h4,h5,h6⟩
     .cases h
     .simp only[qE,F7,jd,and_true]at e;obtain⟨rfl,_,rfl⟩:=e;exact⟨rfl,rfl,rfl,h3,h4,cur',fz',h1,l7,l7,by rw[bD]at h6;exact h6⟩
    .unfold World.freeze;split<;>simp
   go_enter L.f169,Body.n169_ntmps ρ
   go_wp2
   go_region_o
   all_goals (go_wp2;go_ret;exact⟨rfl,fin _ rfl⟩)
def nV(x ys:c5y):Option (Int×Unit×c5y):=if x.length+ys.length<=1073741824 then some (ys.length,(),x++ys)else none
def DJ(x:c5y):Option (Int×c5y):=some (x.length,x)
def zq(x:c5y):Option (c5y×c5y):=if x.length<=1073741824 then some (x,x)else none
theorem a2W{gl:List (Nat×(t:Ty)×List t.den)}(L:Lays.n170 P ρ):
  dI P gl (ρ.f 170) ⟨[(false,.sbx (ρ.t 72) (ρ.t 5))],[(false,.dat (.int .i64))],[(false,.sbx (ρ.t 72) (ρ.t 5))],λx=>DJ x⟩:=by
 intro w ok O vals xs r hok hO hO2 hgl hrel hdv hF;have hF:some ((xs.length:Int),xs)=some r:=hF;cases hF;obtain⟨v0,cs0,rfl,hg,h1⟩:=hrel;have hg:cs0=[v0]:=hg;subst hg;obtain⟨b,a,v,l,e,hb,ha,hv,hr,rfl⟩:=h1;simp only[G5,and_true]at e;subst e;refine(b2w L hb hv hr).mono ?_;rintro e w' ⟨rfl,rfl⟩;refine⟨_,ok,b::l.blks,[.int .i64 xs.length],[.pointer (some ⟨b,0,none⟩)],[],rfl,Frame'.refl _ _,λ_ _ h=>h,λk t hk=>⟨hok k t hk,.inl hk⟩,by simpa using hO,λk hk=>?_,⟨rfl,rfl⟩,⟨_,rfl,rfl,rfl⟩,?_⟩
 .rw[D8]at hk;exact⟨(hO2 k hk).1,(hO2 k hk).2,.inr hk⟩
 .refine⟨.int .i64 xs.length,[.int .i64 xs.length],[.pointer (some ⟨b,0,none⟩)],[],b::l.blks,rfl,rfl,rfl,⟨rfl,rfl⟩,?_⟩;exact⟨_,_,rfl,rfl,⟨b,a,v,l,rfl,hb,ha,hv,hr,rfl⟩⟩
theorem XF{gl:List (Nat×(t:Ty)×List t.den)}[GlNe gl](L:Lays.n169 P ρ)(X:Builder.Extra P ρ):
  dI P gl (ρ.f 169) ⟨[(false,.sbx (ρ.t 72) (ρ.t 5))],[(false,.dat .str)],[(false,.sbx (ρ.t 72) (ρ.t 5))],λx=>zq x⟩:=by
 intro w ok O vals xs r hok hO hO2 hgl hrel hdv hF;have hF:zq xs=some r:=hF;unfold zq at hF;split at hF
 case isFalse=>cases hF
 rename_i hmax;cases hF;obtain⟨v0,cs0,rfl,hg,h1⟩:=hrel;have hg:cs0=[v0]:=hg;subst hg;obtain⟨b,a,v,l,e,hb,ha,hv,hr,rfl⟩:=h1;simp only[G5,and_true]at e;subst e;have hnd:(b::l.blks).Nodup:=by simpa using hO
 refine(a2T L X hb hv hr l7 (X3.1 hnd).1).mono ?_;rintro e w' ⟨rfl,hb',hr',ho⟩;refine⟨_,ok,b::l.blks,[.string ⟨xs.toArray⟩],[.pointer (some ⟨b,0,none⟩)],[],rfl,⟨ho.os,ho.tape,ho.output,ho.size,λk hk hn=>ho.block k hk (λh=>hn (by simp[h])),λh=>absurd h GlNe.ne⟩,λ_ _ h=>h,λk t hk=>⟨O9 (hok k t hk) ho.size,.inl hk⟩,by simpa using hO,λk hk=>?_,⟨rfl,rfl⟩,⟨_,rfl,rfl,rfl⟩,?_⟩
 .rw[D8]at hk;exact⟨(hO2 k hk).1,O9 (hO2 k hk).2 ho.size,.inr hk⟩
 .refine⟨.string ⟨xs.toArray⟩,[.string ⟨xs.toArray⟩],[.pointer (some ⟨b,0,none⟩)],[],b::l.blks,rfl,rfl,rfl,⟨rfl,rfl⟩,?_⟩;exact⟨_,_,rfl,rfl,⟨b,a,v,l,rfl,hb',ha,hv,hr',rfl⟩⟩
end Go.GP
namespace Go.GP
open Go.ChangeShapes Go.WideShapes Go.RowKit
def jV(s p:c5y):c5C:=some (Lib.hasPrefix s p)
def FM(s:c5y)(c:Int):c5E:=some (Lib.indexByte s c.toNat.toUInt8)
def DK(s t:c5y):c5E:=match t with
 |[c]=>some (Lib.indexByte s c)|_=>none
def UU(s:c5y):Bool:=s.all λb=>Nat.blt b.toNat 128
def Df(s c:c5y):c5E:=bif Nat.blt s.length 4294967281&&Nat.blt c.length 4294967281&&UU s&&UU c then some (Lib.indexAny s c)else none
theorem b8C{h:Array Obj}{ok:Nat->Ty->Prop}{vals:c5A}{O:c5B}{x:c5y×c5y}(hrel:lI h ok [(false,.dat .str),(false,.dat .str)] x vals O):vals=[.string ⟨x.1.toArray⟩,.string ⟨x.2.toArray⟩]/\O=[]:=by obtain⟨v,cs,vs',O1,O2,rfl,rfl,h1,⟨h2,rfl⟩,v2,cs2,rfl,h3,h4,rfl⟩:=hrel;have h1:cs=[v]:=h1;subst h1;have h3:cs2=[v2]:=h3;subst h3;have h2:[v]=[.string ⟨x.1.toArray⟩]:=h2;have h4:[v2]=[.string ⟨x.2.toArray⟩]:=h4;obtain rfl:=(U6 h2).1;obtain rfl:=(U6 h4).1;exact⟨rfl,rfl⟩
variable {P:Program}{f:Nat}
theorem TG{gl:List (Nat×(t:Ty)×List t.den)}
  (hC:∀(s p:ByteArray) (w:World),Calls P f #[.string s,.string p] w λe w' =>e= .returned (.bool (Lib.hasPrefix s.data.toList p.data.toList))/\w' =w):
  dI P gl f ⟨[(false,.dat .str),(false,.dat .str)],[(false,.dat .bool)],[],λx=>jV x.1 x.2⟩:=by
 intro w ok O vals x r hlt _ _ _ hrel hdv hfn;obtain⟨rfl,rfl⟩:=b8C hrel;cases hfn;refine(hC ⟨x.1.toArray⟩ ⟨x.2.toArray⟩ w).mono λe w' ⟨he,hw⟩=>?_;subst he;subst hw;exact Eh (P:=P) (t:=.bool) (x:=Lib.hasPrefix x.1 x.2) (ps:=[(false,.dat .str),(false,.dat .str)]) (vals:=[_,_]) ⟨rfl,rfl,rfl,A8 _,λ_ _=>rfl⟩ hlt ⟨rfl,rfl⟩ rfl (λ_=>A8 _)
theorem l_{gl:List (Nat×(t:Ty)×List t.den)}
  (hC:∀(s:ByteArray) (c:UInt8) (w:World),Calls P f #[.string s,.string ⟨#[c]⟩] w λe w' =>e= .returned (.int .i64 (Lib.indexByte s.data.toList c))/\w' =w):
  dI P gl f ⟨[(false,.dat .str),(false,.dat .str)],[(false,.dat (.int .i64))],[],λx=>DK x.1 x.2⟩:=by
 intro w ok O vals x r hlt _ _ _ hrel hdv hfn;obtain⟨rfl,rfl⟩:=b8C hrel;simp only[DK]at hfn;split at hfn
 .rename_i c hx;cases hfn;rw[hx];refine(hC ⟨x.1.toArray⟩ c w).mono λe w' ⟨he,hw⟩=>?_;subst he;subst hw;exact Eh (P:=P) (t:=.int .i64) (x:=Lib.indexByte x.1 c) (ps:=[(false,.dat .str),(false,.dat .str)]) (vals:=[_,_]) ⟨rfl,rfl,rfl,A8 _,λ_ _=>rfl⟩ hlt ⟨rfl,rfl⟩ rfl (λ_=>A8 _)
 .cases hfn
theorem TJ{gl:List (Nat×(t:Ty)×List t.den)}
  (hC:∀(s:ByteArray) (c:Int) (w:World),Calls P f #[.string s,.int .u8 c] w λe w' =>e= .returned (.int .i64 (Lib.indexByte s.data.toList c.toNat.toUInt8))/\w' =w):
  dI P gl f ⟨[(false,.dat .str),(false,.dat (.int .u8))],[(false,.dat (.int .i64))],[],λx=>FM x.1 x.2⟩:=by
 intro w ok O vals x r hlt _ _ _ hrel hdv hfn;obtain⟨v,cs,vs',O1,O2,rfl,rfl,h1,⟨h2,rfl⟩,v2,cs2,rfl,h3,h4,rfl⟩:=hrel;have h1:cs=[v]:=h1;subst h1;have h3:cs2=[v2]:=h3;subst h3;have h2:[v]=[.string ⟨x.1.toArray⟩]:=h2;have h4:[v2]=[.int .u8 x.2]:=h4;obtain rfl:=(U6 h2).1;obtain rfl:=(U6 h4).1;cases hfn;refine(hC ⟨x.1.toArray⟩ x.2 w).mono λe w' ⟨he,hw⟩=>?_;subst he;subst hw;exact Eh (P:=P) (t:=.int .i64) (x:=Lib.indexByte x.1 x.2.toNat.toUInt8) (ps:=[(false,.dat .str),(false,.dat (.int .u8))]) (vals:=[_,_]) ⟨rfl,rfl,rfl,A8 _,λ_ _=>rfl⟩ hlt ⟨rfl,rfl⟩ rfl (λ_=>A8 _)
theorem RS{s:c5y}(h:UU s=true):∀(j:Nat) b,s[j]? =some b->b.toNat<128:=λj b hb=>by have:=dV.1 h b (vM hb);rwa[aF]at this
theorem VM{gl:List (Nat×(t:Ty)×List t.den)}[GlNe gl]
  (hC:∀(s c:ByteArray) (w:World),s.size<4294967281->c.size<4294967281->(∀(j:Nat) b,s.data.toList[j]? =some b->b.toNat<128)->(∀(j:Nat) b,c.data.toList[j]? =some b->b.toNat<128)->
   Calls P f #[.string s,.string c] w λe w' =>e= .returned (.int .i64 (Lib.indexAny s.data.toList c.data.toList))/\Below w.heap.size w w'):
  dI P gl f ⟨[(false,.dat .str),(false,.dat .str)],[(false,.dat (.int .i64))],[],λx=>Df x.1 x.2⟩:=by
 intro w ok O vals x r hlt _ _ _ hrel hdv hfn;obtain⟨rfl,rfl⟩:=b8C hrel;simp only[Df]at hfn;cases hc:(Nat.blt x.1.length 4294967281&&Nat.blt x.2.length 4294967281&&UU x.1&&UU x.2)
 .rw[hc]at hfn;cases hfn
 .rw[hc]at hfn;cases hfn;simp only[x9,aF]at hc;obtain⟨⟨⟨h1,h2⟩,h3⟩,h4⟩:=hc;refine(hC ⟨x.1.toArray⟩ ⟨x.2.toArray⟩ w (by simpa[ByteArray.size]using h1) (by simpa[ByteArray.size]using h2) (RS h3) (RS h4)).mono λe w' ⟨he,hw⟩=>?_;subst he;exact Eh (P:=P) (t:=.int .i64) (x:=Lib.indexAny x.1 x.2) (ps:=[(false,.dat .str),(false,.dat .str)]) (vals:=[_,_]) hw hlt ⟨rfl,rfl⟩ rfl (λh=>absurd h GlNe.ne)
end Go.GP
namespace Go.GP
open Go.Shelf Go.RowKit Go.Proofs
structure Lw (P:Program) (ρ:Ren):Prop where
 mixed:P.follows Departure.mixedOrders=true
 f166:P.funcs[ρ.f 166]? =some (Body.n166 ρ)
 t72:P.underlying (ρ.t 72)=some (.struct #[{ name:= "addr",type:=ρ.t 70,offset:=0,embedded:=false,tag:= "",pkgPath:= "strings",byteOffset:=0 },{ name:= "buf",type:=ρ.t 37,offset:=1,embedded:=false,tag:= "",pkgPath:= "strings",byteOffset:=8 }])
 a72:∀w:World,(isAgg (ρ.t 72)).run P w= .ok true w
 z72:∀w:World,(sizeOf (ρ.t 72)).run P w= .ok 2 w
 v72:∀w:World,(zeroValue (ρ.t 72)).run P w= .ok (.agg #[.pointer none,.slice none 0 0]) w
 t70:P.underlying (ρ.t 70)=some (.pointer (ρ.t 72))
 a70:∀w:World,(isAgg (ρ.t 70)).run P w= .ok false w
 z70:∀w:World,(sizeOf (ρ.t 70)).run P w= .ok 1 w
 v70:∀w:World,(zeroValue (ρ.t 70)).run P w= .ok (.pointer none) w
 t37:P.underlying (ρ.t 37)=some (.slice (ρ.t 5))
 a37:∀w:World,(isAgg (ρ.t 37)).run P w= .ok false w
 z37:∀w:World,(sizeOf (ρ.t 37)).run P w= .ok 1 w
 v37:∀w:World,(zeroValue (ρ.t 37)).run P w= .ok (.slice none 0 0) w
 t3:P.underlying (ρ.t 3)=some (.int .i64)
 a3:∀w:World,(isAgg (ρ.t 3)).run P w= .ok false w
 z3:∀w:World,(sizeOf (ρ.t 3)).run P w= .ok 1 w
 v3:∀w:World,(zeroValue (ρ.t 3)).run P w= .ok (.int .i64 0) w
 t9:P.underlying (ρ.t 9)=some (.string)
 a9:∀w:World,(isAgg (ρ.t 9)).run P w= .ok false w
 z9:∀w:World,(sizeOf (ρ.t 9)).run P w= .ok 1 w
 v9:∀w:World,(zeroValue (ρ.t 9)).run P w= .ok (.string ⟨#[]⟩) w
 t4:P.underlying (ρ.t 4)=some (.bool)
 a4:∀w:World,(isAgg (ρ.t 4)).run P w= .ok false w
 z4:∀w:World,(sizeOf (ρ.t 4)).run P w= .ok 1 w
 v4:∀w:World,(zeroValue (ρ.t 4)).run P w= .ok (.bool false) w
 t164:P.underlying (ρ.t 164)=some (.unsafePointer)
 a164:∀w:World,(isAgg (ρ.t 164)).run P w= .ok false w
 z164:∀w:World,(sizeOf (ρ.t 164)).run P w= .ok 1 w
 v164:∀w:World,(zeroValue (ρ.t 164)).run P w= .ok (.pointer none) w
 e240:∀args w,(callFunc (ρ.f 240) args).run P w= .ok (.enter (ρ.f 240) args) w
 used:∀(b:Nat) (w:World),w.cell? ⟨b,0,none⟩=some (.pointer (some ⟨b,0,none⟩))->Calls P (ρ.f 240) #[.pointer (some ⟨b,0,none⟩)] w λe w' =>e= .returned (.tuple #[])/\w' =w
 fresh:∀(b:Nat) (w:World),w.cell? ⟨b,0,none⟩=some (.pointer none)->w.shape? b=some (ρ.t 72,2)->w.frozen? ⟨b,0,none⟩=false->Calls P (ρ.f 240) #[.pointer (some ⟨b,0,none⟩)] w λe w' =>e= .returned (.tuple #[])/\w' =w.setCell ⟨b,0,none⟩ (.pointer (some ⟨b,0,none⟩))
variable {P:Program} {ρ:Ren}
theorem Lw.check(L:Lw P ρ){b:Nat}{w:World}{a v:Value}(hb:w.heap[b]? =some (.cells #[a,v] (ρ.t 72) (0,0)))(ha:a= .pointer none\/a= .pointer (some ⟨b,0,none⟩)):
  Calls P (ρ.f 240) #[.pointer (some ⟨b,0,none⟩)] w λe w' =>e= .returned (.tuple #[])/\w'.heap[b]? =some (.cells #[.pointer (some ⟨b,0,none⟩),v] (ρ.t 72) (0,0))/\w'.heap.size=w.heap.size/\OthB w w' [b]:=by
 have c0:w.cell? ⟨b,0,none⟩=some a:=by rw[Lib.cell_of_heap hb];rfl
 rcases ha with rfl|rfl
 .refine(L.fresh b w c0 (by simp[World.shape?,hb]) (Lib.frozen_of_heap hb 0)).mono ?_;rintro e w' ⟨rfl,rfl⟩;refine⟨rfl,?_,by simp[World.setCell],⟨rfl,rfl,rfl,by simp[World.setCell],λk _ hk=>Below.heap_setCell _ _ _ _ (λe=>hk (by simp[e]))⟩⟩;rw[setCell_eq_setRow w b 0 _ _ _ _ hb];exact setRow_heap w b _ _ _ _ hb
 .refine(L.used b w c0).mono ?_;rintro e w' ⟨rfl,rfl⟩;exact⟨rfl,hb,rfl,⟨rfl,rfl,rfl,A8 _,λ_ _ _=>rfl⟩⟩
set_option maxHeartbeats 2000000 in
set_option maxRecDepth 100000 in
theorem a2V(L:Lw P ρ)(X:Builder.Extra P ρ){b:Nat}{w:World}{a v:Value}{l:Loc}{xs ys:c5y}(hb:w.heap[b]? =some (.cells #[a,v] (ρ.t 72) (0,0)))(ha:a= .pointer none\/a= .pointer (some ⟨b,0,none⟩))
  (hv:l.view none v) (hr:Au w.heap (ρ.t 5) xs l) (hlen:xs.length+ys.length<=140737488355328) (hnb:b∉l.blks):
  Calls P (ρ.f 166) #[.pointer (some ⟨b,0,none⟩),.string ⟨ys.toArray⟩] w λe w' =>e= .returned (.tuple #[.int .i64 ys.length,.nilIface])/\
   ∃v' l',w'.heap[b]? =some (.cells #[.pointer (some ⟨b,0,none⟩),v'] (ρ.t 72) (0,0))/\l'.view none v' /\Au w'.heap (ρ.t 5) (xs++ys) l' /\b∉l'.blks/\(∀k∈l'.blks,k∈l.blks\/w.heap.size<=k)/\OthB w w' (b::l.blks):=by
 obtain⟨i0,hi,hz0,hz1,hz2⟩:=info_parts X.infoByte;have mixed:=L.mixed;have t72:=L.t72;have a72:=L.a72;have z72:=L.z72;have v72:=L.v72;have u72:=run_underlying L.t72;have t70:=L.t70;have a70:=L.a70;have z70:=L.z70;have v70:=L.v70;have u70:=run_underlying L.t70;have t37:=L.t37;have a37:=L.a37;have z37:=L.z37;have v37:=L.v37;have u37:=run_underlying L.t37;have t3:=L.t3;have a3:=L.a3;have z3:=L.z3;have v3:=L.v3;have u3:=run_underlying L.t3;have t9:=L.t9;have a9:=L.a9;have z9:=L.z9;have v9:=L.v9;have u9:=run_underlying L.t9;have t4:=L.t4;have a4:=L.a4;have z4:=L.z4;have v4:=L.v4;have u4:=run_underlying L.t4;have t164:=L.t164;have a164:=L.a164;have z164:=L.z164;have v164:=L.v164;have u164:=run_underlying L.t164;have t5:=X.t5;have a5:=X.a5;have z5:=X.z5;have v5:=X.v5;have u5:=run_underlying X.t5;have e240:=L.e240;have hlt:b<w.heap.size:=(G7.1 hb).1
 go_enter L.f166,Body.n166_ntmps ρ
 go_wp2_with (go_at_fn (ρ.f 240);refine(L.check hb ha).mono ?_)
 rintro e w1 ⟨rfl,hb1,hs1,ho1⟩;have c0:w1.cell? ⟨b,0,none⟩=some (.pointer (some ⟨b,0,none⟩)):=by rw[Lib.cell_of_heap hb1];rfl
 have c1:w1.cell? ⟨b,1,none⟩=some v:=by rw[Lib.cell_of_heap hb1];rfl
 have hr1:Au w1.heap (ρ.t 5) xs l:=EF (λk hk=>ho1.block k (b0H hr k hk) (λe=>hnb (by simp at e;rw[←e];exact hk))) hr
 go_wp2_with (at_builtin;refine a2U rfl _ _ (ρ.t 37) (ρ.t 9) rfl L.t37 L.t9 hi hz0 hz1 hz2 rfl rfl hv hr1 hlen ?_)
 intro v' w2 l' hv' hr' hbl ho2;have hb2:w2.heap[b]? =some (.cells #[.pointer (some ⟨b,0,none⟩),v] (ρ.t 72) (0,0)):=by rw[ho2.block b l7 hnb];exact hb1
 have d0:w2.cell? ⟨b,0,none⟩=some (.pointer (some ⟨b,0,none⟩)):=by rw[Lib.cell_of_heap hb2];rfl
 have d1:w2.cell? ⟨b,1,none⟩=some v:=by rw[Lib.cell_of_heap hb2];rfl
 have f1:w2.frozen? ⟨b,1,none⟩=false:=Lib.frozen_of_heap hb2 1;have hnb' :b∉l'.blks:=λh=>(hbl b h).elim hnb (λh=>by omega);have hone:=lV hv';obtain⟨ao,n',cap,rfl⟩:∃ao n' cap,v' = .slice ao n' cap:=by
  cases l' with
  |nil=>exact⟨_,_,_,hv'⟩|st _=>cases hr'|mp _=>cases hr'|arr g off len cap sz=>exact⟨_,_,_,hv'⟩
 go_wp2
 go_ret2
 refine⟨by simp[ByteArray.size],_,l',?_,hv',EF (λk hk=>Below.heap_setCell _ _ _ _ (λe=>hnb' (by have e:k=b:=e;rw[←e];exact hk))) hr',hnb',λk hk=>(hbl k hk).elim .inl (λh=> .inr l7),?_⟩
 .rw[setCell_eq_setRow w2 b 1 _ _ _ _ hb2];exact setRow_heap w2 b _ _ _ _ hb2
 .refine⟨ho2.os.trans ho1.os,ho2.tape.trans ho1.tape,ho2.output.trans ho1.output,?_,λk hk hn=>?_⟩
  .have:=ho2.size;simp[World.setCell];omega
  .simp only[D5,not_or]at hn;rw[Below.heap_setCell _ _ _ _ (λe=>hn.1 e),ho2.block k l7 hn.2,ho1.block k hk (by simpa using hn.1)]
theorem XG{gl:List (Nat×(t:Ty)×List t.den)}[GlNe gl](L:Lw P ρ)(X:Builder.Extra P ρ):
  dI P gl (ρ.f 166) ⟨[(false,.sbx (ρ.t 72) (ρ.t 5)),(false,.dat .str)],[(false,.dat (.int .i64)),(false,.cell none)],[(false,.sbx (ρ.t 72) (ρ.t 5))],λx=>nV x.1 x.2⟩:=by
 intro w ok O vals x r hok hO hO2 hgl hrel hdv hF;obtain⟨xs,ys⟩:=x;have hF:nV xs ys=some r:=hF;unfold nV at hF;split at hF
 case isFalse=>cases hF
 rename_i hmax;cases hF;obtain⟨v0,cs0,vs',O1,O2,rfl,rfl,hg,h1,hrest⟩:=hrel;obtain⟨v1,cs1,rfl,hg1,h2,rfl⟩:=hrest;have hg:cs0=[v0]:=hg;have hg1:cs1=[v1]:=hg1;subst hg;subst hg1;have h2:[v1]=[Value.string ⟨ys.toArray⟩]:=h2;simp only[G5,and_true]at h2;subst h2;obtain⟨b,a,v,l,e,hb,ha,hv,hr,rfl⟩:=h1;simp only[G5,and_true]at e;subst e;have hnd:(b::l.blks).Nodup:=by simpa using hO
 have hnb:=(X3.1 hnd).1;refine(a2V L X hb ha hv hr (show xs.length+ys.length<=140737488355328 by omega) hnb).mono ?_;rintro e w' ⟨rfl,v',l',hb',hv',hr',hnb',hbl,ho⟩;have hlt:b<w.heap.size:=(G7.1 hb).1;have hlt' :b<w'.heap.size:=(G7.1 hb').1;have hnd' :(b::l'.blks).Nodup:=X3.2 ⟨hnb',Loc.blks_nodup l'⟩;refine⟨_,ok,b::l'.blks,[.int .i64 ys.length,.nilIface],[.pointer (some ⟨b,0,none⟩)],[],rfl,⟨ho.os,ho.tape,ho.output,ho.size,λk hk hn=>ho.block k hk (by simpa using hn),λh=>absurd h GlNe.ne⟩,λ_ _ h=>h,λk t hk=>⟨O9 (hok k t hk) ho.size,.inl hk⟩,by simpa using hnd',?_,⟨rfl,rfl⟩,⟨_,rfl,rfl,rfl⟩,?_⟩
 .intro k hk;rw[D8]at hk;rcases D5.1 hk with rfl|hk
  .exact⟨(hO2 k A7).1,hlt',.inr A7⟩
  .refine⟨λt hkt=>?_,b0H hr' k hk,?_⟩
   .rcases hbl k hk with h|h
    .exact(hO2 k (by simp[h])).1 t hkt
    .have:=hok k t hkt;omega
   .rcases hbl k hk with h|h
    .exact .inr (by simp[h])
    .exact .inl h
 .refine⟨.int .i64 ys.length,[.int .i64 ys.length],[.nilIface,.pointer (some ⟨b,0,none⟩)],[],b::l'.blks,rfl,rfl,rfl,⟨rfl,rfl⟩,?_⟩;refine⟨.nilIface,[.nilIface],[.pointer (some ⟨b,0,none⟩)],[],b::l'.blks,rfl,rfl,rfl,⟨_,rfl,rfl,(λh=>nomatch h),(λ_ h=>nomatch h),rfl⟩,?_⟩;exact⟨_,_,rfl,rfl,⟨b,_,v',l',rfl,hb',.inr rfl,hv',hr',rfl⟩⟩
end Go.GP
namespace Go.GP
open Go.ChangeShapes Go.WideShapes Go.RowKit
end Go.GP
namespace Go.GP
open Go.Shelf Go.RowKit Go.Proofs
variable {P:Program} {ρ:Ren}
end Go.GP
namespace Go.GP
end Go.GP
namespace Go.GP
noncomputable def Qx {α R:Type} (dom:α->Prop) (F:α->Option R):Option R:=
 open Classical in if h:∃r,(∃a,dom a)/\∀a,dom a->F a=some r then some (Classical.choose h)else none
theorem Yk{α R:Type}{dom:α->Prop}{F:α->Option R}{r:R}(h:Qx dom F=some r):(∃a,dom a)/\∀a,dom a->F a=some r:=by
 unfold Qx at h;split at h
 .rename_i hh;have e:Classical.choose hh=r:=by simpa using h
  have:=Classical.choose_spec hh;rw[e]at this;exact this
 .cases h
theorem ZF{α R:Type}{dom:α->Prop}{F:α->Option R}{r:R}(h1:∃a,dom a)(h2:∀a,dom a->F a=some r):Qx dom F=some r:=by
 have hh:∃r,(∃a,dom a)/\∀a,dom a->F a=some r:=⟨r,h1,h2⟩;have e:Qx dom F=some (Classical.choose hh):=by unfold Qx;rw[dif_pos hh]
 rw[e];obtain⟨a,ha⟩:=h1;have:=(Classical.choose_spec hh).2 a ha;rw[h2 a ha]at this;exact this.symm
structure NSpec where
 α:Type
 ps:List MG
 rs:List MG
 outs:List MG
 dom:X4 ps->α->Prop
 fn:α->X4 ps->Option (X4 (rs++outs))
def a8u(μ:Prop)(w:World)(ok:Nat->Ty->Prop)(O:c5B)(vals:c5A)(ps rs outs:List MG)(r:X4 (rs++outs))(e:Ending)(w' :World):Prop:=
 ∃v ok' O' rs' os B,e= .returned v/\Frame' μ w w' O/\(∀b t,ok b t->ok' b t)/\(∀b t,ok' b t->b<w'.heap.size/\(ok b t\/w.heap.size<=b\/b∈O))/\
   (O' ++B).Nodup/\(∀b∈O' ++B,(∀t,¬ok' b t)/\b<w'.heap.size/\(w.heap.size<=b\/b∈O))/\
   Qv rs.length v rs' /\rM w'.heap ps vals os B/\lI w'.heap ok' (rs++outs) r (rs' ++os) O'
def Qq(P:Program)(gl:List (Nat×(t:Ty)×List t.den))(f:FuncId)(s:NSpec):Prop:=
 ∀(w:World) (ok:Nat->Ty->Prop) (O:c5B) (vals:c5A) (x:X4 s.ps),
  (∀b t,ok b t->b<w.heap.size)->O.Nodup->(∀b∈O,(∀t,¬ok b t)/\b<w.heap.size)->(∀g u,dL gl g=some u->Ia ⟨w.heap,ok,nom⟩ g u.1 u.2)->
  lI w.heap ok s.ps x vals O->UE w.heap vals s.ps vals->(∃a,s.dom x a)->(∀a,s.dom x a->∃r,s.fn a x=some r)->
  Calls P f vals.toArray w λe w' =>∃a r,s.dom x a/\s.fn a x=some r/\a8u (gl=[]) w ok O vals s.ps s.rs s.outs r e w'
def b6L(sp:NSpec)(vs:List V):Cmd (List V×X4 sp.ps):=dvC vs sp.ps vs (Jq (Bj ⟨sp.ps,sp.rs,sp.outs,λ_=>none⟩) sp.ps vs λx=> .ret (vs,x))
def c4g(E:Env)(q:Nat)(d:Option Tmp)(sp:NSpec)(vs:List V)(r:X4 (sp.rs++sp.outs)):Cmd Unit:=
 CZ (sp.rs++sp.outs) r (L9 q d) λws n' =>bif Nat.ble n' (L9 q d+64)then(match BF sp.rs.length ws with
  |some (a,o)=>bif zN a then .fail else ai sp.ps vs o (dX E d (a2b a))
  |none=> .fail)else .fail
variable {R:Type}
def Uc(E:Env)(q:Nat)(ops:Array Oper)(s:St)(K:St->Trs->Option R):Option R:=
 CY E q ops.toList (λ_ _ _ _=>none) (ops.toList.take (ops.toList.length -1)) s [] K
noncomputable def b6M {R:Type} (E:Env) (q:Nat) (ops:Array Oper) (f:Nat) (sp:NSpec) (s:St) (w:Rgs) (K:St->Rgs->Option R):Option R:=
 Uc E q ops s λs1 t=>match ops.toList[ops.toList.length -1]? with
  |some o=>(match o.guard,o.op with
   |none,.call ⟨.value (.func g),args,_⟩=>bif Nat.beq g f then
     (Jv args.toList λvs=>b6L sp vs).runK s1 ([],[]) λp s2 tr=>Qx (sp.dom p.2) λa=>(Cmd.opt (sp.fn a p.2) λr=>c4g E q o.dst sp p.1 r).runK s2 tr λ_ s3 tr3=>K s3 (ww (tr3::t) w)
    else none
   |_,_=>none)
  |none=>none
variable {r:R}
section
variable {X:Fx} {q:Nat} {ops:Array Oper} {m0:Mp} {ok0:Nat->Ty->Prop} {Q:Exit->Act->World->Prop}
def Zv(j0 k:Nat)(E:Env)(q:Nat)(all:List Oper)(S:Nat->Sm)(T:Nat->Tr):Prop:=
 ∀i o,j0<=i->i<k->all[i]? =some o->(oz E q all o).eval (S i) ([],[])=some ((),S (i+1),T i)
theorem XB(H:FxOk X){S:Nat->Sm}{T:Nat->Tr}{j0 k:Nat}(hk:k<=ops.size)(hc:Zv j0 k X.E q ops.toList S T)
  (hQ:∀m' ok' a' w',Rel X (CB*q) (CB*q+CB) (S k) m' ok' a' w' ->(∀k l,m0 k=some l->m' k=some l)->(∀b t,ok0 b t->ok' b t)->wpOps X.P ops Q (List.range' k (ops.size -k)) a' w'):
  ∀(n j:Nat) {m:Mp} {ok:Nat->Ty->Prop} {a:Act} {w:World},j0<=j->j+n=k->Rel X (CB*q) (CB*q+CB) (S j) m ok a w->(∀k l,m0 k=some l->m k=some l)->(∀b t,ok0 b t->ok b t)->wpOps X.P ops Q (List.range' j (ops.size -j)) a w
 |0,j,m,ok,a,w,hj0,hjk,R,hm,hok=>by have:j=k:=l7;subst this;exact hQ m ok a w R hm hok
 |n+1,j,m,ok,a,w,hj0,hjk,R,hm,hok=>by rw[show ops.size -j=(ops.size -j -1)+1 by omega,fV,wpOps_cons];have hj:ops[j]? =some (ops[j]'l7):=H7 _;refine DV H hj (hc j _ hj0 l7 (by rw[I4];exact hj)) R λm' ok' a' w' R' k1 k2=>?_;rw[show ops.size -j -1=ops.size -(j+1) by omega];exact XB H hk hc hQ n (j+1) l7 l7 R' (λk l h=>k1 k l (hm k l h)) (λb t h=>k2 b t (hok b t h))
theorem Nz(H:FxOk X){s:St}{K:St->Trs->Option R}(h:Uc X.E q ops s K=some r):
  ∃s1 t,K s1 t=some r/\(∀k,(∀x∈t,k∉x.2)->U7 s1 k=U7 s k)/\
   ∀{m:Mp} {ok:Nat->Ty->Prop} {a:Act} {w:World} {id:Nat} {Q:Exit->Act->World->Prop},Rel X (CB*q) (CB*q+CB) (U7 s) m ok a w->
    (∀m' ok' a' w',Rel X (CB*q) (CB*q+CB) (U7 s1) m' ok' a' w' ->(∀k l,m k=some l->m' k=some l)->(∀b t,ok b t->ok' b t)->
     wpOps X.P ops Q (List.range' (ops.size -1) (ops.size -(ops.size -1))) a' w')->(Code.region id ops false).wp X.P Q a w:=by
 unfold Uc at h;rcases CO _ h with⟨s',S,T,h0,h1,hc,hk⟩|⟨_,_,_,_,_,_,_,_,_,_,_,_,_,hk⟩
 case inr=>cases hk
 have hl:(ops.toList.take (ops.toList.length -1)).length=ops.size -1:=by rw[fU,J5];omega
 rw[hl]at h1 hk;rw[D8]at hk;have hc' :Zv 0 (ops.size -1) X.E q ops.toList S T:=λi o _ hi ho=>hc i o (by rw[Z9,J5,if_pos hi];exact ho);refine⟨s',_,hk,λk hk=>?_,λ{m ok a w id Q} R hQ=>wp_region ?_⟩
 .have:∀n,n<=ops.size -1->S n k=S 0 k:=by
   intro n;induction n with
   |zero=>intro _;rfl|succ n ih=>intro hn;have hi:ops[n]? =some (ops[n]'l7):=H7 _;rw[qW (hc' n (ops[n]'l7) (gV _) l7 (by rw[I4];exact hi)) k (hk (T n) (by simp;exact⟨n,l7,rfl⟩)),ih l7]
  rw[←h1,←h0];exact this _ (A8 _)
 .rw[kC];rw[←h0]at R;have:=XB H (Nat.sub_le _ _) hc' (m0:=m) (ok0:=ok) (Q:=Q) (by rw[h1];exact hQ) (ops.size -1) 0 (A8 _) l7 R (λ_ _ h=>h) (λ_ _ h=>h);exact this
theorem DI{i:Nat}{o:Oper}{K:Act->World->Prop}{a:Act}{w:World}(hi:ops[i]? =some o)(hg:o.guard=none)(h:o.wp X.P a w K Q):wpOp X.P ops Q i K a w:=by unfold wpOp;simp only[hi,Region.wanted,hg,if_true];exact .inl h
theorem a4f(H:FxOk X){f:Nat}{sp:NSpec}(hN:Qq X.P X.E.gl f sp)(hfn:∃fn,X.P.funcs[f]? =some fn/\fn.body.isSome=true/\(fn.name== "runtime.NumGoroutine")=false)
  {R:Type} {s:St} {wr:Rgs} {K:St->Rgs->Option R} {r:R} (h:b6M X.E q ops f sp s wr K=some r) {m:Mp} {ok:Nat->Ty->Prop} {a:Act} {w:World} {id:Nat} {Q:Exit->Act->World->Prop}
  (Rl:Rel X (CB*q) (CB*q+CB) (U7 s) m ok a w)
  (hQ:∀s' t m' ok' a' w',K s' (ww t wr)=some r->(∀k,(∀x∈t,k∉x.2)->U7 s' k=U7 s k)->Rel X (CB*q) (CB*q+CB) (U7 s') m' ok' a' w' ->(∀k l,m k=some l->m' k=some l)->(∀b t,ok b t->ok' b t)->Q .normal a' w'):
  (Code.region id ops false).wp X.P Q a w:=by
 unfold b6M at h;obtain⟨s1,t,h1,hfr1,hrun1⟩:=Nz H h;clear h;split at h1
 case h_2=>cases h1
 rename_i o ho;rw[J5,I4]at ho;have hlt:=(G7.1 ho).1;split at h1
 case h_2=>cases h1
 rename_i g args ats hg hop;cases hgf:Nat.beq g f
 .rw[hgf]at h1;cases h1
 have:=fJ hgf;subst this;simp only[hgf,cond_true]at h1;obtain⟨p,s2,tr,e2,h2⟩:=jI h1;obtain⟨hex,hall⟩:=Yk h2;refine hrun1 Rl λm1 ok1 a1 w1 R1 km1 kok1=>?_;rw[show ops.size -(ops.size -1)=1 by omega];show wpOps X.P ops Q [ops.size -1] a1 w1;rw[wpOps_cons];refine DI ho hg ?_;have e:args.map a1.eval=(args.toList.map a1.eval).toArray:=by apply lC;simp
 obtain⟨fn,hf,hb,hnm⟩:=hfn;have hrun:(execOp a1.eval o).run X.P w1= .ok (.enter g (args.toList.map a1.eval).toArray) w1:=by have:=Dp (P:=X.P) (w:=w1) hf hb hnm (args.map a1.eval);rw[e]at this;simp[execOp,hop,resolve,Deferred.ofValue,Act.eval,invoke,e,this]
 have key:=oh (Q:=λ(p:List V×X4 sp.ps) S2=>∃ok2 O okc,iC ⟨w1.heap,ok1,m1⟩ p.1 (args.toList.map a1.eval)/\Rel X (CB*q) (CB*q+CB) S2 m1 ok2 a1 w1/\Tk X S2 m1 ok2 w1 O/\
   (∀b t,ok1 b t->ok2 b t)/\okL (Bj ⟨sp.ps,sp.rs,sp.outs,λ_=>none⟩) S2 m1 ok2=okc/\
   ((∃a,sp.dom p.2 a)->(∀a,sp.dom p.2 a->∃r,sp.fn a p.2=some r)->Calls X.P g (args.toList.map a1.eval).toArray w1 λe w' =>∃a r,sp.dom p.2 a/\sp.fn a p.2=some r/\a8u (X.E.gl=[]) w1 okc O (args.toList.map a1.eval) sp.ps sp.rs sp.outs r e w')) (by
  refine kJ R1 _ λvs hvs=>?_;unfold b6L;refine Vx R1 hvs sp.ps hvs λhdv=>?_;refine Bf (ln:=Bj ⟨sp.ps,sp.rs,sp.outs,λ_=>none⟩) (T:=[]) sp.ps R1 Tk.nil hvs λS2 ok2 x O R2 T2 k2 s2 hrel=>?_;simp only[H9]at T2;refine⟨ok2,O,_,hvs,R2,T2,k2,rfl,λhx1 hx2=>?_⟩;generalize hokc:okL (Bj ⟨sp.ps,sp.rs,sp.outs,λ_=>none⟩) S2 m1 ok2=okc at hrel ⊢;have c1:∀b t,ok2 b t->okc b t:=λb t h=>by rw[←hokc];exact .inl h
  have hlt:∀b t,okc b t->b<w1.heap.size:=λb t h=>by
   rw[←hokc]at h;rcases h with h|⟨_,n,h,_⟩
   .exact R2.okLt b t h
   .exact(R2.sep n b h).2.1
  have hfree:∀b∈O,(∀t,¬okc b t)/\b<w1.heap.size:=λb hb=>by
   obtain⟨f1,f2,f3,f4⟩:=T2.free b hb;refine⟨λt h=>?_,f2⟩;rw[←hokc]at h;rcases h with h|⟨_,n,h,_⟩
   .exact f1 t h
   .exact f4 n h
  exact hN w1 okc O _ x hlt T2.nodup hfree (λg u hg=>by obtain⟨g1,g3,g2⟩:=R2.gl g u hg;refine⟨c1 _ _ g1,g3,λi y hi=>?_⟩;obtain⟨es,he,hr⟩:=g2 i y hi;exact⟨es,he,dU c1 (λ_ _ _=>rfl) hr⟩) hrel hdv hx1 hx2) e2
 obtain⟨ok2,O,okc,hvs,R2,T2,k2,hokc,hC⟩:=key;have hC:=hC hex λb hb=>by
  have:=hall b hb;cases hfb:sp.fn b p.2 with
  |none=>rw[hfb]at this;simp[Cmd.runK,o5]at this|some r=>exact⟨r,rfl⟩
 unfold Oper.wp;rw[hrun,oP];refine sD hC λe' w' hp=>?_;obtain⟨b,r',hb,hr',hp⟩:=hp;have hk:=hall b hb;rw[hr']at hk;simp only[Cmd.runK,o5]at hk;obtain⟨u,s3,tr3,e3,hk⟩:=jI hk;obtain⟨v,m',okf,he,R',km,kok⟩:=oh (a5s H (o:=o) (s:=⟨sp.ps,sp.rs,sp.outs,λ_=>none⟩) hvs R2 T2 k2 hokc hp) e3;subst he;refine hQ s3 (tr3::t) m' okf _ w' hk (λk hkx=>?_) R' (λk l h=>km _ _ (km1 _ _ h)) (λb t h=>kok b t (kok1 b t h));have ew:(((Jv args.toList λvs=>b6L sp vs).bind λp=>Cmd.opt (sp.fn b p.2) λr=>c4g X.E q o.dst sp p.1 r)).eval (U7 s1) ([],[])=some (u,U7 s3,tr3):=by rw[Bd,e2];simp only[Cmd.eval,hr'];exact e3
 rw[qW ew k (hkx tr3 A7),hfr1 k λx hx=>hkx x (by simp[hx])]
end
end Go.GP
namespace Go.GP
abbrev Fx.on(X:Fx)(w:World)(O:c5B)(ok:Nat->Ty->Prop)(tm:Array Value):Fx:={ X with w0:=w,O:=O,ok0:=ok,tm0:=tm }
structure Sub (X Y:Fx):Prop where
 frame:Frame' (X.E.gl=[]) X.w0 Y.w0 X.O
 ok:∀b t,X.ok0 b t->Y.ok0 b t
 ok' :∀b t,Y.ok0 b t->X.ok0 b t\/X.w0.heap.size<=b\/b∈X.O
 O:∀b∈Y.O,X.w0.heap.size<=b\/b∈X.O
 kp:∀n∈X.E.kp,Y.tm0.getD n Go.undef=X.tm0.getD n Go.undef
variable {tm:Array Value}{w0:World}{O:c5B}{ok0:Nat->Ty->Prop}{r:Nat}
section
variable {X:Fx} {cl ch:Nat} {S:Sm} {m:Mp} {ok:Nat->Ty->Prop} {a:Act} {w:World}
theorem Rel.frame_up(Sb:Sub X (X.on w0 O ok0 tm))(f:Frame' (X.E.gl=[]) w0 w O):Frame' (X.E.gl=[]) X.w0 w X.O:=
 ⟨f.os.trans Sb.frame.os,f.tape.trans Sb.frame.tape,f.output.trans Sb.frame.output,X7 Sb.frame.size f.size,λb hb hO=>by rw[f.block b (O9 hb Sb.frame.size) λh=>(Sb.O b h).elim (λh=>by omega) hO];exact Sb.frame.block b hb hO,λh=>X7 (Sb.frame.drawn h) (f.drawn h)⟩
theorem Rel.up(Sb:Sub X (X.on w0 O ok0 tm))(R:Rel (X.on w0 O ok0 tm) cl ch S m ok a w):Rel X cl ch S m ok a w:=by refine { size:=R.size,nodef:=R.nodef,dfs:=R.dfs,slot:=R.slot,box:=R.box,inj:=R.inj,nd:=R.nd,okLt:=R.okLt,fresh:=R.fresh,strict:=R.strict,gl:=R.gl,sep:=λn b h=>?_,okIn:=λb t h=>R.okIn b t (Sb.ok b t h),okOut:=λb t h=>(R.okOut b t h).elim (Sb.ok' b t) λh=> .inr (h.elim (λh=> .inl (X7 Sb.frame.size h)) (Sb.O b)),frame:=Rel.frame_up Sb R.frame,kept:=λn hn=>(R.kept n hn).trans (Sb.kp n hn) };obtain⟨h1,h2,h3⟩:=R.sep n b h;exact⟨h1,h2,h3.elim (λh=> .inl (X7 Sb.frame.size h)) (Sb.O b)⟩
theorem Tk.up{L:c5B}(Sb:Sub X (X.on w0 O ok0 tm))(T:Tk (X.on w0 O ok0 tm) S m ok w L):Tk X S m ok w L:=
 ⟨T.nodup,λb hb=>by obtain⟨h1,h2,h3,h4⟩:=T.free b hb;exact⟨h1,h2,h3.elim (λh=> .inl (X7 Sb.frame.size h)) (Sb.O b),h4⟩⟩
noncomputable def vV (S:Sm) (m:Mp) (w:World):c5B:=(List.range w.heap.size).filter λb=> @decide (∃n,b∈P5 m n (S (V6+n))) (Classical.propDecidable _)
theorem Bz(R:Rel X cl ch S m ok a w){b:Nat} :b∈vV S m w↔∃n,b∈P5 m n (S (V6+n)):=by
 unfold vV;rw[bZ];constructor
 .intro h;exact @of_decide_eq_true _ (Classical.propDecidable _) h.2
 .rintro⟨n,h⟩;exact⟨aV.2 (R.sep n b h).2.1,@decide_eq_true _ (Classical.propDecidable _) ⟨n,h⟩⟩
theorem Rel.down(R:Rel X cl ch S m ok a w){a' :Act}{w' :World}(hos:w'.os=w.os)(htp:w'.tape=w.tape)(hout:w'.output=w.output)(hsz:w'.heap.size=w.heap.size)
  (hh:∀b,b≠r->w'.heap[b]? =w.heap[b]?) (hr1:∀n,r∉P5 m n (S (V6+n))) (hr2:∀t,¬ok r t) (hsize:a'.tmps.size=a.tmps.size) (hdf:a'.defers=a.defers) {S' :Sm} (hbox:∀n,S' (V6+n)=S (V6+n))
  (hslot:∀n,n<V6->lD ⟨w'.heap,ok,m⟩ (S' n) (a'.tmps.getD n Go.undef)):Rel (X.on w' (vV S m w) ok a'.tmps) cl ch S' m ok a' w' :=by
 have hle:Cx.le ⟨w.heap,ok,m⟩ ⟨w'.heap,ok,m⟩:=⟨λ_ _ h=>h,λb t hb=>hh b λe=>hr2 t (e▸hb),λ_ _ h=>h⟩;refine { size:=hsize.trans R.size,nodef:=(by rw[hdf];exact R.nodef),dfs:=(by rw[hdf];exact R.dfs),slot:=hslot,box:=λn=>(by rw[hbox];exact PU hle rfl (λb hb=>hh b λe=>hr1 n (e▸hb)) (R.box n)),inj:=λn n' b=>(by rw[hbox,hbox];exact R.inj n n' b),nd:=λn=>(by rw[hbox];exact R.nd n),sep:=λn b h=>(by rw[hbox]at h;obtain⟨h1,h2,h3⟩:=R.sep n b h;exact⟨h1,by rw[hsz];exact h2,.inr ((Bz R).2 ⟨n,h⟩)⟩),okLt:=λb t h=>(by rw[hsz];exact R.okLt b t h),okIn:=λ_ _ h=>h,okOut:=λ_ _ h=> .inl h,frame:=Frame'.refl _ _,fresh:=λn h1 h2=>R.fresh n h1 (by rwa[hbox]at h2),strict:=R.strict,gl:=λg u hg=>Ia.le hle (R.gl g u hg),kept:=λ_ _=>rfl }
theorem Rel.sub(R:Rel X cl ch S m ok a w){w' :World}(hos:w'.os=w.os)(htp:w'.tape=w.tape)(hout:w'.output=w.output)(hsz:w'.heap.size=w.heap.size)
  (hh:∀b,b≠r->w'.heap[b]? =w.heap[b]?) (hdr:w.drawn<=w'.drawn) (hr:X.w0.heap.size<=r\/r∈X.O) (hkp:∀n∈X.E.kp,tm.getD n Go.undef=a.tmps.getD n Go.undef):Sub X (X.on w' (vV S m w) ok tm):=by
 refine { frame:=⟨hos.trans R.frame.os,htp.trans R.frame.tape,hout.trans R.frame.output,by show X.w0.heap.size<=w'.heap.size;rw[hsz];exact R.frame.size,λb hb hO=>?_,λh=>X7 (R.frame.drawn h) hdr⟩,ok:=R.okIn,ok' :=R.okOut,O:=λb hb=>?_,kp:=λn hn=>(hkp n hn).trans (R.kept n hn) }
 .show w'.heap[b]? =_;rw[hh b λe=>by subst e;exact hr.elim (λh=>by omega) hO];exact R.frame.block b hb hO
 .obtain⟨n,h⟩:=(Bz R).1 hb;exact(R.sep n b h).2.2
end
theorem Sub.trans{X:Fx}{w0 w1:World}{O O1:c5B}{ok0 ok1:Nat->Ty->Prop}{tm tm1:Array Value}(h:Sub X (X.on w0 O ok0 tm))(k:Sub (X.on w0 O ok0 tm) (X.on w1 O1 ok1 tm1)):Sub X (X.on w1 O1 ok1 tm1):=
 ⟨Rel.frame_up h k.frame,λb t x=>k.ok b t (h.ok b t x),λb t x=>(k.ok' b t x).elim (h.ok' b t) λx=> .inr (x.elim (λx=> .inl (X7 h.frame.size x)) (h.O b)),
  λb x=>(k.O b x).elim (λx=> .inl (X7 h.frame.size x)) (h.O b),λn hn=>(k.kp n hn).trans (h.kp n hn)⟩
def xE{α σ:Type}(f:α->σ->Option σ):List α->σ->Option σ
 |[],s=>some s
 |e::r,s=>o5 (f e s) λs' =>xE f r s'
theorem Du{α σ:Type}{f:α->σ->Option σ} :∀{l k:List α} {s:σ},xE f (l++k) s=o5 (xE f l s) (xE f k)
 |[],k,s=>rfl|e::r,k,s=>by
  show o5 (f e s) (λs' =>xE f (r++k) s')=o5 (o5 (f e s) λs' =>xE f r s') (xE f k);cases f e s with
  |none=>rfl|some s' =>exact Du
def YT(k:Nat):Rgs->Bool
 |[]=>true|(a,b)::r=>bif Nat.ble a k&&Nat.blt k b then false else YT k r
theorem Og{k:Nat} :∀{rs:Rgs},YT k rs=true->¬Wr rs k
 |[],_=>ZA|(a,b)::r,h=>by
  unfold YT at h;cases hb:(Nat.ble a k&&Nat.blt k b)<;>rw[hb]at h
  .rw[Dh,not_or];refine⟨λ⟨h1,h2⟩=>?_,Og h⟩;have:(Nat.ble a k&&Nat.blt k b)=true:=by rw[x9];exact⟨mO h1,by rw[aF];exact h2⟩
   rw[this]at hb;cases hb
  .cases h
theorem j_{lo:Nat} :∀{rs:Rgs},VK lo (lo+1) rs=true->Wr rs lo
 |[],h=>by cases h|(a,b)::r,h=>by
  unfold VK at h;cases hb:(Nat.ble a lo&&Nat.ble (lo+1) b)<;>rw[hb]at h
  .exact Dh.2 (.inr (j_ h))
  .rw[x9]at hb;exact Dh.2 (.inl ⟨P9 hb.1,P9 hb.2⟩)
structure RngA where
 rs:Rgs
 hd:Sig
 an:Ann
def WY(ops0 ops1 ops2:List Oper):Option (Nat×Operand×Nat×Nat×Nat×Nat):=
 match ops0[ops0.length -1]? with
 |some ⟨some it,.range t x,_,_,_,none⟩=>(match ops1 with
  |[⟨some nx,.next (.tmp it1) false,_,_,_,none⟩,⟨some mo,.extract (.tmp nx1) 0,_,_,_,none⟩]=>(match ops2 with
   |⟨some pr,.entry (.tmp it2),_,_,_,none⟩::_=>bif Nat.beq it it1&&Nat.beq it it2&&Nat.beq nx nx1 then some (t,x,it,nx,mo,pr)else none
   |_=>none)
  |_=>none)
 |_=>none
def WX(E:Env)(A:RngA)(it nx mo pr:Nat):Bool:=
 Ju E it&&Ju E nx&&Ju E mo&&Ju E pr&&YT it A.rs&&VK nx (nx+1) A.rs&&VK mo (mo+1) A.rs&&VK pr (pr+1) A.rs&&
 !Nat.beq it nx&&!Nat.beq it mo&&!Nat.beq it pr&&!Nat.beq nx mo&&(match A.hd.als with|[]=>true|_=>false)&&!Cj nx (A.hd.ms.map (·.1))&&!Cj mo (A.hd.ms.map (·.1))
def b8I(M:MT)(e:M.k.den×M.v.den):V:=.tup [mkV M.ka (flat M.k e.1 []),mkV M.va (flat M.v e.2 [])]
def a4n{ρ:Type}(E:Env)(D:Den ρ)(q:Nat)(A:RngA)(ops2:List Oper)(nb nx mo pr:Nat)(M:MT)(s0:St)(e:M.k.den×M.v.den)(x:lZ A.hd):Option (lZ A.hd):=
 enter (q+1) A.hd A.rs s0 x λs1 w1=>
  CY E (q+2) ops2 (λ_ _ _ _=>none) (ops2.drop 1) (.kv pr (b8I M e)::.kv mo .undef::.kv nx .undef::s1) [] λs2 t2=>
   D (q+3) A.an s2 (ww t2 (Jt [pr,mo,nx] w1)) (lZ A.hd) λfl s4 w4=>match fl with
    | .nm=>EZ (q+1) A.hd A.rs s4 w4 some| .ex j=>bif Nat.beq j nb then EZ (q+1) A.hd A.rs s4 w4 some else none| .rt _=>none
noncomputable def b6O {ρ:Type} {R:Type} (E:Env) (D:Den ρ) (q:Nat) (A:RngA) (ops2:List Oper) (nb nx mo pr:Nat) (M:MT) (xs:List (M.k.den×M.v.den)) (s0 sb:St) (w:Rgs) (K:St->Rgs->Option R):Option R:=
 EZ (q+1) A.hd A.rs s0 [] λx0=>
  Qx (λys=>List.Perm ys xs) λys=>o5 (xE (λe x=>a4n E D q A ops2 nb nx mo pr M s0 e x) ys x0) λx1=>
   enter (q+1) A.hd A.rs sb x1 λs' w' =>K s' (TB w' w)
def b0e{α:Type}(u:Ty)(v:V)(K:List u.den->Option Nat->Cmd α):Cmd α:=match v with
 | .sl t xs=>Ty.castL t u xs (λxs=>K xs none) .fail
 | .own bx none=> .get (V6+bx) λ
  | .barr t xs=>Ty.castL t u xs (λxs=>K xs (some bx)) .fail|_=> .fail
 |_=> .fail
def b4y{R:Type}(rs:Rgs)(b:Option Nat)(s:St)(K:St->Option R):Option R:=match b with
 |none=>K s|some b=>bif YT (V6+b) rs then K (.kv (V6+b) .dead::s)else none
noncomputable def b6P {ρ:Type} {R:Type} (E:Env) (D:Den ρ) (q:Nat) (A:RngA) (ops0 ops1 ops2:Array Oper) (out out' mt nb:Nat) (s:St) (w:Rgs) (K:St->Rgs->Option R):Option R:=
 Uc E q ops0 s λs1 t1=>match WY ops0.toList ops1.toList ops2.toList with
  |some (t,x,it,nx,mo,pr)=>bif WX E A it nx mo pr&&Nat.beq mo mt&&Nat.beq out out' then(match GU E t with
   |some M=>bif M.v.flat then
     (sW x λv=>b0e M.ent v λxs b=>uG (L9 q (some it)) .dead (.set it (.ptr (L9 q (some it)) 0) (.ret (xs,b))):Cmd (List (M.k.den×M.v.den)×Option Nat)).runK s1 ([],[]) λp sb tr=>
      b4y A.rs p.2 sb λs0=>b6O E D q A ops2.toList nb nx mo pr M p.1 s0 sb (ww (tr::t1) w) K
    else none
   |none=>none)else none
  |none=>none
def GK(mv:Option Nat)(ck:Nat)(seen:Array Nat):Obj:=match mv with|none=> .mapIter none 0 #[] 0|some b=> .mapIter (some b) ck seen ck
structure ItI (Y:Fx) (r:Nat) (mv:Option Nat) (es:Array MapEntry) (ck:Nat) (seen:Array Nat) (own:Bool):Prop where
 rl:r<Y.w0.heap.size
 rO:r∉Y.O
 rk:∀t,¬Y.ok0 r t
 ri:Y.w0.heap[r]? =some (GK mv ck seen)
 bl:∀blk,mv=some blk->blk<Y.w0.heap.size/\blk∉Y.O/\blk≠r/\Y.w0.heap[blk]? =some (.map es ck)/\(own=true->∀t,¬Y.ok0 blk t)
theorem a7x{P:Program}{w:World}{mv:Option Nat}{es:Array MapEntry}{ck:Nat}{seen:Array Nat}(hr:w.heap[r]? =some (GK mv ck seen))(hb:∀blk,mv=some blk->w.heap[blk]? =some (.map es ck))(hn:mv=none->es=#[])
  (hs:∀e∈es.toList,e.born<ck) (ty:TypeId):
  ((leftOf es seen).size=0/\(Instr.next (.pointer (some ⟨r,0,none⟩)) false ty).run P w= .ok (.tuple #[.bool false]) w)\/
  ∃blk,mv=some blk/\∃e∈(leftOf es seen).toList,∃w1:World,(w1=w\/w1=w.drew)/\(Instr.next (.pointer (some ⟨r,0,none⟩)) false ty).run P w= .ok (.tuple #[.bool true,e.key,e.val]) (ChangeMaps.setBlock w1 r (GK mv ck (seen.push e.born))):=by
 cases mv with
 |none=>left;have:=hn rfl;subst this;refine⟨rfl,?_⟩;simp only[GK]at hr;simp[Instr.next,getObj,Sem.run,hr,Result.andThen]|some blk=>
  rcases run_next_at (P:=P) w ty r blk ck ck seen es ck hr (hb blk rfl) hs (A8 _)with h|⟨e,he,w1,h1,h2⟩
  .exact .inl h
  .exact .inr ⟨blk,rfl,e,he,w1,h1,h2⟩
end Go.GP
namespace Go.GP
theorem XY{ops0 ops1 ops2:List Oper}{t:Nat}{x:Operand}{it nx mo pr:Nat}(h:WY ops0 ops1 ops2=some (t,x,it,nx,mo,pr)):
  (∃o,ops0[ops0.length -1]? =some o/\o.guard=none/\o.dst=some it/\o.op= .range t x)/\
  (∃o1 o2,ops1=[o1,o2]/\o1.guard=none/\o1.dst=some nx/\o1.op= .next (.tmp it) false/\o2.guard=none/\o2.dst=some mo/\o2.op= .extract (.tmp nx) 0)/\
  ∃o3 r3,ops2=o3::r3/\o3.guard=none/\o3.dst=some pr/\o3.op= .entry (.tmp it):=by
 unfold WY at h;split at h
 case h_2=>cases h
 rename_i it' t' x' a1 a2 a3 h0;split at h
 case h_2=>cases h
 rename_i nx' it1 b1 b2 b3 mo' nx1 c1 c2 c3;split at h
 case h_2=>cases h
 rename_i pr' it2 d1 d2 d3 r3;cases hc:(Nat.beq it' it1&&Nat.beq it' it2&&Nat.beq nx' nx1)
 .rw[hc]at h;cases h
 rw[hc]at h;simp only[x9]at hc;obtain⟨⟨e1,e2⟩,e3⟩:=hc;have e1:=fJ e1;have e2:=fJ e2;have e3:=fJ e3;subst e1;subst e2;subst e3;simp only[cond_true,F7,je]at h;obtain⟨rfl,rfl,rfl,rfl,rfl,rfl⟩:=h;exact⟨⟨_,h0,rfl,rfl,rfl⟩,⟨_,_,rfl,rfl,rfl,rfl,rfl,rfl,rfl⟩,⟨_,_,rfl,rfl,rfl,rfl⟩⟩
variable {α:Type}
def He(xs:List α)(is:c5B):List α:=is.filterMap λi=>xs[i]?
theorem SS{α:Type} :∀(xs:List α),He xs (List.range xs.length)=xs
 |[]=>rfl|a::r=>by have ih:=SS r;unfold He at ih ⊢;rw[D7,iF,List.filterMap_cons];simp only[dZ];rw[List.filterMap_map];simpa[mJ]using ih
theorem a8J{es:Array MapEntry}(h:(es.toList.map (·.born)).Nodup){i j:Nat}{a b:MapEntry}(hi:es[i]? =some a)(hj:es[j]? =some b)(e:a.born=b.born):i=j:=by
 have h1:(es.toList.map (·.born))[i]? =some a.born:=by simp[hi]
 have h2:(es.toList.map (·.born))[j]? =some b.born:=by simp[hj]
 exact(List.getElem?_inj (X9.1 h1).1 h).1 (by rw[h1,h2,e])
theorem IP(xs:List α)(a b:c5B):He xs (a++b)=He xs a++He xs b:=List.filterMap_append
theorem WH{xs:List α}{is:c5B}(h:is.Perm (List.range xs.length)):(He xs is).Perm xs:=by have:=h.filterMap λi=>xs[i]?;have e:=SS xs;unfold He at e;rw[e]at this;exact this
variable {a:Act}{v:Value}
theorem yM{d:Nat}(h:d<a.tmps.size):(a.put (some d) v).tmps.getD d Go.undef=v:=Nw h v _
theorem xM{d n:Nat}(h:n≠d):(a.put (some d) v).tmps.getD n Go.undef=a.tmps.getD n Go.undef:=Ed h v _
theorem KO{d:Option Nat} :(a.put d v).tmps.size=a.tmps.size:=by cases d<;>simp[Act.put]
variable {ok:Nat->Ty->Prop}{w:World}
section
variable {X:Fx} {ρ:Type}
theorem a6S{h:Array Obj}{sg:Sig}{x:lZ sg}{t t' :Array Value}{O:c5B}(ha:sg.als=[])(ht:∀n∈sg.ms.map (·.1),t'.getD n Go.undef=t.getD n Go.undef)(H:UI h ok sg x t O):UI h ok sg x t' O:=by refine⟨?_,by rw[ha];intro p hp;cases hp⟩;have:((sg.ms.map (·.1)).map λn=>t'.getD n Go.undef)=(sg.ms.map (·.1)).map λn=>t.getD n Go.undef:=iE λn hn=>ht n hn;rw[this];exact H.1
set_option maxHeartbeats 1600000 in
theorem a4p(H:FxOk X){D:Den ρ}{body:Code}{nn q:Nat}(hD:∀{Y:Fx},Y.P=X.P->Y.E=X.E->FxOk Y->DOk Y nom (λ_ _ _ _=>True) D body nn)
  {A:RngA} {ops1 ops2:Array Oper} {nb out it nx mo pr i1 i2:Nat} (hck:WX X.E A it nx mo pr=true)
  {o1 o2 o3:Oper} {r3:List Oper} (hops1:ops1.toList=[o1,o2]) (g1:o1.guard=none) (d1:o1.dst=some nx) (p1:o1.op= .next (.tmp it) false) (g2:o2.guard=none) (d2:o2.dst=some mo) (p2:o2.op= .extract (.tmp nx) 0)
  (hops2:ops2.toList=o3::r3) (g3:o3.guard=none) (d3:o3.dst=some pr) (p3:o3.op= .entry (.tmp it))
  {M:MT} (hkf:M.k.flat=true) (hvf:M.v.flat=true) {xs:List (M.k.den×M.v.den)} {s0:St} {x0:lZ A.hd}
  {r:Nat} (hrX:X.w0.heap.size<=r) {mv:Option Nat} {es:Array MapEntry} {ck:Nat} (hso:uo es ck xs.length) (hmn:mv=none->es=#[])
  (hent:∀(i:Nat) (x:M.k.den×M.v.den),xs[i]? =some x->∃e:MapEntry,es[i]? =some e/\gok M.ka e.key/\gok M.va e.val/\lJ #[] (λ_ _=>False) M.k x.1 (qA M.ka e.key)/\lJ #[] (λ_ _=>False) M.v x.2 (qA M.va e.val))
  (hall:∀ys:List (M.k.den×M.v.den),ys.Perm xs->∃x1,xE (λe x=>a4n X.E D q A ops2.toList nb nx mo pr M s0 e x) ys x0=some x1)
  {X0:Fx} {cl0:Nat} {m0:Mp} {ok0:Nat->Ty->Prop} {a0:Act} {w0:World} (R0:Rel X0 cl0 (CB*(q+1)) (U7 s0) m0 ok0 a0 w0) {bi:Nat} (hit:U7 s0 it= .ptr bi 0) (hbi:m0 bi=some (.st r)) {own:Bool}
  {Q:Exit->Act->World->Prop}
  (hQ:∀(wk:World) (Ok:c5B) (okk:Nat->Ty->Prop) (tk:Array Value) (seen:Array Nat) (ys:List (M.k.den×M.v.den)) (x1:lZ A.hd) (m:Mp) (ok:Nat->Ty->Prop) (O:c5B) (a:Act) (w:World),ys.Perm xs->
   xE (λe x=>a4n X.E D q A ops2.toList nb nx mo pr M s0 e x) ys x0=some x1->Sub X (X.on wk Ok okk tk)->ItI (X.on wk Ok okk tk) r mv es ck seen own->
   Rel (X.on wk Ok okk tk) (CB*(q+1)) (CB*(q+1)) (U7 (uX A.rs s0)) m ok a w->Tk (X.on wk Ok okk tk) (U7 (uX A.rs s0)) m ok w O->UI w.heap ok A.hd x1 a.tmps O->(∀k l,m0 k=some l->m k=some l)->Q (.exit out) a w):
  ∀(f:Nat) (is:c5B) {wk:World} {Ok:c5B} {okk:Nat->Ty->Prop} {tk:Array Value} {seen:Array Nat} {x:lZ A.hd} {m:Mp} {ok:Nat->Ty->Prop} {O:c5B} {a:Act} {w:World},
   f+is.length=xs.length+1->is.Nodup->(∀i∈is,i<xs.length)->(∀i e,es[i]? =some e->(seen.contains e.born=true↔i∈is))->
   xE (λe x=>a4n X.E D q A ops2.toList nb nx mo pr M s0 e x) (He xs is) x0=some x->Sub X (X.on wk Ok okk tk)->ItI (X.on wk Ok okk tk) r mv es ck seen own->
   Rel (X.on wk Ok okk tk) (CB*(q+1)) (CB*(q+1)) (U7 (uX A.rs s0)) m ok a w->Tk (X.on wk Ok okk tk) (U7 (uX A.rs s0)) m ok w O->UI w.heap ok A.hd x a.tmps O->(∀k l,m0 k=some l->m k=some l)->
   Code.rounds X.P (.seq (.region i1 ops1 false) (.seq (.cond (.tmp mo) .skip (.exit out)) (.block nb (.seq (.region i2 ops2 false) body)))) Q f a w:=by
 unfold WX at hck;simp only[x9,Y1]at hck;obtain⟨⟨⟨⟨⟨⟨⟨⟨⟨⟨⟨⟨⟨⟨c1,c2⟩,c3⟩,c4⟩,c5⟩,c6⟩,c7⟩,c8⟩,c9⟩,c10⟩,c11⟩,c12⟩,c13⟩,c14⟩,c15⟩:=hck;have nxB:nx<V6:=O9 (jf c2).1 H.ntB;have moB:mo<V6:=O9 (jf c3).1 H.ntB;have prB:pr<V6:=O9 (jf c4).1 H.ntB;have itB:it<V6:=O9 (jf c1).1 H.ntB;have hals:A.hd.als=[]:=by
  revert c13;cases A.hd.als with
  |nil=>intro _;rfl|cons _ _=>intro h;cases h
 have nei:∀{x y:Nat},Nat.beq x y=false->x≠y:=λ{x y} h e=>by subst e;simp at h
 have e1:=nei c9;have e2:=nei c10;have e3:=nei c11;have e4:=nei c12;intro f;induction f with
 |zero=>intro is _ _ _ _ _ _ _ _ _ _ _ hf hnd hlt;have:=Pz xs.length hnd hlt;omega|succ f ih=>
  intro is wk Ok okk tk seen x m ok O a w hf hnd hlt hseen hw Sb I R T hsig km;rw[rounds_succ];have HY:FxOk (X.on wk Ok okk tk):=⟨H.nt,H.tt,H.fs,H.eqs,H.ms,H.fn,H.pl,H.df⟩;have hr0:w.heap[r]? =some (GK mv ck seen):=(R.frame.block r I.rl I.rO).trans I.ri;have hb0:∀blk,mv=some blk->w.heap[blk]? =some (.map es ck):=λblk hb=>by obtain⟨b1,b2,_,b3,_⟩:=I.bl blk hb;exact(R.frame.block blk b1 b2).trans b3
  have hitv:a.tmps.getD it Go.undef= .pointer (some ⟨r,0,none⟩):=by have:=R.slot it itB;rw[Bo (Og c5),hit]at this;obtain⟨blk,h1,h2⟩:=this;simp only at h1;rw[km bi _ hbi]at h1;cases h1;exact h2
  have hnxs:nx<a.tmps.size:=by rw[R.size];exact(jf c2).1
  have hmos:mo<a.tmps.size:=by rw[R.size];exact(jf c3).1
  have hprs:pr<a.tmps.size:=by rw[R.size];exact(jf c4).1
  refine wp_seq (wp_region ?_);have hsz1:ops1.size=2:=by rw[←J5,hops1];rfl
  have ho1:ops1[0]? =some o1:=by rw[←I4,hops1];rfl
  have ho2:ops1[1]? =some o2:=by rw[←I4,hops1];rfl
  rw[hsz1];show wpOps X.P ops1 _ [0,1] a w;rw[wpOps_cons];refine DI ho1 g1 ?_;have hst:∀e∈es.toList,e.born<ck:=hso.2.1;rcases a7x (P:=X.P) hr0 hb0 hmn hst o1.type with⟨hl,hrun⟩|⟨blk,hmv,e,he,w1,hw1,hrun⟩
  ·
   have hx:(execOp a.eval o1).run X.P w= .ok (.value (.tuple #[.bool false])) w:=by simp only[execOp,p1,Act.eval,hitv,H8,hrun];rfl
   unfold Oper.wp;rw[hx,cu,d1,wpOps_cons];refine DI ho2 g2 ?_;have hx2:(execOp (a.put (some nx) (.tuple #[.bool false])).eval o2).run X.P w= .ok (.value (.bool false)) w:=by simp only[execOp,p2,Act.eval,yM hnxs];simp[Instr.extract]
   unfold Oper.wp;rw[hx2,cu,d2];show wpOps X.P ops1 _ [] _ _;unfold wpOps;generalize ha' :(a.put (some nx) (Value.tuple #[Value.bool false])).put (some mo) (Value.bool false)=a';have ham:a'.tmps.getD mo Go.undef= .bool false:=by rw[←ha'];exact yM (by rw[KO];exact hmos)
   have hao:∀n,n≠nx->n≠mo->a'.tmps.getD n Go.undef=a.tmps.getD n Go.undef:=λn h1 h2=>by rw[←ha',xM h2,xM h1]
   have R' :Rel (X.on wk Ok okk tk) (CB*(q+1)) (CB*(q+1)) (U7 (uX A.rs s0)) m ok a' w:=by
    have S1:U7 (uX A.rs s0)=upd (upd (U7 (uX A.rs s0)) nx .undef) mo .undef:=by
     funext k;by_cases h:k=mo
     .subst h;rw[fQ];exact GV (j_ c7)
     .rw[V7 _ _ h];by_cases h' :k=nx
      .subst h';rw[fQ];exact GV (j_ c6)
      .rw[V7 _ _ h']
    rw[S1,←ha'];exact(R.put HY.ntB c2 (v:=.undef) trivial).put HY.ntB c3 (v:=.undef) trivial
   refine wp_seq ?_;refine wp_cond_split (t:=false) ham (λh=>by cases h) λ_=>wp_exit ?_;have hin:∀i,i<xs.length->i∈is:=λi hi=>by
    have hie:i<es.size:=by rw[hso.1];exact hi
    refine(hseen i _ (H7 hie)).1 ?_;cases hc:seen.contains es[i].born
    .exfalso;have:es[i]∈leftOf es seen:=by unfold leftOf;rw[Array.mem_filter];exact⟨Array.getElem_mem hie,by rw[hc];rfl⟩
     have h0:leftOf es seen=#[]:=Array.eq_empty_of_size_eq_zero hl;rw[h0]at this;simp at this
    .rfl
   have hp:is.Perm (List.range xs.length):=(nM hnd List.nodup_range).2 λi=>⟨λh=>aV.2 (hlt i h),λh=>hin i (aV.1 h)⟩;refine hQ wk Ok okk tk seen _ x m ok O a' w (WH hp) hw Sb I R' T (a6S hals (λn hn=>hao n (λe=>?_) (λe=>?_)) hsig) km
   .subst e;exact IE c14 hn
   .subst e;exact IE c15 hn
  ·
   obtain⟨hbl1,hbl2,hbl3,hbl4,hbl5⟩:=I.bl blk hmv;have heL:e∈es.toList/\seen.contains e.born=false:=by
    have:e∈leftOf es seen:=by simpa using he
    unfold leftOf at this;rw[Array.mem_filter]at this;exact⟨by simpa using this.1,by simpa using this.2⟩
   obtain⟨i,hil,hie⟩:=Y8 heL.1;have hie' :es[i]? =some e:=by rw[←I4,jk hil,hie]
   have hil' :i<xs.length:=by rw[←hso.1,←J5];exact hil
   have hni:i∉is:=λh=>by have:=(hseen i e hie').2 h;rw[heL.2]at this;cases this
   obtain⟨y,hy⟩:∃y,xs[i]? =some y:=⟨_,jk hil'⟩;obtain⟨e',he',k1,k2,k3,k4⟩:=hent i y hy;rw[hie']at he';cases he';have hnd' :(is++[i]).Nodup:=by rw[J9];exact⟨hnd,A7,λa ha b hb=>by simp only[iQ]at hb;subst hb;exact λe=>hni (e▸ha)⟩
   have hlt' :∀j∈is++[i],j<xs.length:=λj hj=>by
    rcases E5.1 hj with h|h
    .exact hlt j h
    .simp only[iQ]at h;subst h;exact hil'
   have hround:∃x',a4n X.E D q A ops2.toList nb nx mo pr M s0 y x=some x' :=by
    let js:=(List.range xs.length).filter λj=>decide (j∉is++[i]);have hp:((is++[i])++js).Perm (List.range xs.length):=by
     refine(nM ?_ List.nodup_range).2 λj=>?_
     .rw[J9];refine⟨hnd',List.Nodup.sublist List.filter_sublist List.nodup_range,λa ha b hb e=>?_⟩;subst e;have:=(bZ.1 hb).2;exact of_decide_eq_true this ha
     .rw[E5];constructor
      .rintro(h|h)
       .exact aV.2 (hlt' j h)
       .exact(bZ.1 h).1
      .intro h;by_cases hj:j∈is++[i]
       .exact .inl hj
       .exact .inr (bZ.2 ⟨h,decide_eq_true hj⟩)
    obtain⟨x1,h1⟩:=hall _ (WH hp);rw[IP,IP,Du,Du,hw]at h1;have:He xs [i]=[y]:=by unfold He;simp[hy]
    rw[this]at h1;cases hf:a4n X.E D q A ops2.toList nb nx mo pr M s0 y x with
    |none=>simp[o5,xE,hf]at h1|some x' =>exact⟨x',rfl⟩
   obtain⟨x',hround⟩:=hround;have hwalk:xE (λe x=>a4n X.E D q A ops2.toList nb nx mo pr M s0 e x) (He xs (is++[i])) x0=some x' :=by
    rw[IP,Du,hw];have:He xs [i]=[y]:=by unfold He;simp[hy]
    rw[this];simp[o5,xE,hround]
   generalize hw2:ChangeMaps.setBlock w1 r (GK mv ck (seen.push e.born))=w2 at hrun;have hw1h:w1.heap=w.heap/\w1.os=w.os/\w1.tape=w.tape/\w1.output=w.output:=by rcases hw1 with rfl|rfl<;>exact⟨rfl,rfl,rfl,rfl⟩
   have hw1d:w.drawn<=w1.drawn:=by
    rcases hw1 with rfl|rfl
    .exact A8 _
    .exact fE _
   have hrl:r<w.heap.size:=O9 I.rl R.frame.size;have hsz2:w2.heap.size=w.heap.size:=by rw[←hw2];simp[ChangeMaps.setBlock,hw1h.1]
   have hh2:∀b,b≠r->w2.heap[b]? =w.heap[b]?:=λb hb=>by rw[←hw2];simp[ChangeMaps.setBlock,hw1h.1,jl,Ne.symm hb]
   have hr2:w2.heap[r]? =some (GK mv ck (seen.push e.born)):=by rw[←hw2];simp[ChangeMaps.setBlock,hw1h.1,hrl]
   have hos2:w2.os=w.os:=by rw[←hw2];exact hw1h.2.1
   have htp2:w2.tape=w.tape:=by rw[←hw2];exact hw1h.2.2.1
   have hou2:w2.output=w.output:=by rw[←hw2];exact hw1h.2.2.2
   have hx:(execOp a.eval o1).run X.P w= .ok (.value (.tuple #[.bool true,e.key,e.val])) w2:=by simp only[execOp,p1,Act.eval,hitv,H8,hrun];rfl
   unfold Oper.wp;rw[hx,cu,d1,wpOps_cons];refine DI ho2 g2 ?_;have hx2:(execOp (a.put (some nx) (.tuple #[.bool true,e.key,e.val])).eval o2).run X.P w2= .ok (.value (.bool true)) w2:=by simp only[execOp,p2,Act.eval,yM hnxs];simp[Instr.extract]
   unfold Oper.wp;rw[hx2,cu,d2];show wpOps X.P ops1 _ [] _ _;unfold wpOps;generalize ha' :(a.put (some nx) (Value.tuple #[Value.bool true,e.key,e.val])).put (some mo) (Value.bool true)=a';have ham:a'.tmps.getD mo Go.undef= .bool true:=by rw[←ha'];exact yM (by rw[KO];exact hmos)
   have hao:∀n,n≠nx->n≠mo->a'.tmps.getD n Go.undef=a.tmps.getD n Go.undef:=λn h1 h2=>by rw[←ha',xM h2,xM h1]
   have hasz:a'.tmps.size=a.tmps.size:=by rw[←ha',KO,KO]
   have hadf:a'.defers=a.defers:=by rw[←ha'];rfl
   refine wp_seq ?_;refine wp_cond_split (t:=true) ham (λ_=>wp_skip ?_) (λh=>by cases h);refine wp_block (wp_seq (wp_region ?_));have ho3:ops2[0]? =some o3:=by rw[←I4,hops2];rfl
   have hsz3:ops2.size=r3.length+1:=by rw[←J5,hops2];rfl
   rw[hsz3,kC,fV,wpOps_cons];refine DI ho3 g3 ?_;have hx3:(execOp a'.eval o3).run X.P w2= .ok (.value (.tuple #[e.key,e.val])) w2:=by
    have hb2:w2.heap[blk]? =some (.map es ck):=(hh2 blk hbl3).trans (hb0 blk hmv);have hi2:w2.heap[r]? =some (.mapIter (some blk) ck (seen.push e.born) ck):=by rw[hr2,hmv];rfl
    have hen:=run_entry_at (P:=X.P) w2 r blk ck seen es ck e hi2 hb2 heL.1 hso.2.2;simp only[execOp,p3,Act.eval,hao it e1 e2,hitv,H8,hen];rfl
   unfold Oper.wp;rw[hx3,cu,d3];generalize ha2:a'.put (some pr) (Value.tuple #[e.key,e.val])=a2;obtain⟨s1,wr1,hk1,hwr1,hout1,hR1⟩:=oK (X:=X.on wk Ok okk tk) (show enter (q+1) A.hd A.rs s0 x _=some x' from hround);obtain⟨m1,R1,km1⟩:=hR1 (A8 _) R T hsig;have hown1:∀n,r∉P5 m1 n (U7 s1 (V6+n)):=λn h=>by
    rcases(R1.sep n r h).2.2 with h|h
    .exact absurd I.rl l7
    .exact I.rO h
   have hokr:∀t,¬ok r t:=λt h=>by
    rcases R1.okOut r t h with h|h|h
    .exact I.rk t h
    .exact absurd I.rl l7
    .exact I.rO h
   have ha2p:a2.tmps.getD pr Go.undef= .tuple #[e.key,e.val]:=by rw[←ha2];exact yM (by rw[hasz];exact hprs)
   have ha2o:∀n,n≠nx->n≠mo->n≠pr->a2.tmps.getD n Go.undef=a.tmps.getD n Go.undef:=λn h1 h2 h3=>by rw[←ha2,xM h3];exact hao n h1 h2
   have hle2:Cx.le ⟨w.heap,ok,m1⟩ ⟨w2.heap,ok,m1⟩:=⟨λ_ _ h=>h,λb t hb=>hh2 b λe=>hokr t (e▸hb),λ_ _ h=>h⟩;have R2:Rel ((X.on wk Ok okk tk).on w2 (vV (U7 s1) m1 w) ok a2.tmps) (CB*(q+2)) (CB*(q+2)) (U7 (.kv pr (b8I M y)::.kv mo .undef::.kv nx .undef::s1)) m1 ok a2 w2:=by
    refine R1.down (r:=r) hos2 htp2 hou2 hsz2 hh2 hown1 hokr (by rw[←ha2,KO];exact hasz) (by rw[←ha2];exact hadf) (λn=>?_) λn hn=>?_
    .rw[vS,vS,vS,V7 _ _ l7,V7 _ _ l7,V7 _ _ l7]
    .rw[vS,vS,vS];by_cases h1:n=pr
     .subst h1;rw[fQ,ha2p];refine⟨_,rfl,_,_,rfl,WR (KW k1) (ou (oZ hkf k3)),_,_,rfl,WR (KW k2) (ou (oZ hvf k4)),rfl⟩
     .rw[V7 _ _ h1];by_cases h2:n=mo
      .subst h2;rw[fQ];trivial
      .rw[V7 _ _ h2];by_cases h3:n=nx
       .subst h3;rw[fQ];trivial
       .rw[V7 _ _ h3,ha2o n h3 h2 h1];exact Fj hle2 (R1.slot n hn)
   have hkp2:∀n∈X.E.kp,a2.tmps.getD n Go.undef=a.tmps.getD n Go.undef:=λn hn=>
    ha2o n (λe=>(jf c2).2 (e▸hn)) (λe=>(jf c3).2 (e▸hn)) (λe=>(jf c4).2 (e▸hn))
   have Sb2:Sub X (X.on w2 (vV (U7 s1) m1 w) ok a2.tmps):=(R1.up Sb).sub hos2 htp2 hou2 hsz2 hh2 (by rw[←hw2];exact hw1d) (.inl hrX) hkp2;have H2:FxOk (X.on w2 (vV (U7 s1) m1 w) ok a2.tmps):=⟨H.nt,H.tt,H.fs,H.eqs,H.ms,H.fn,H.pl,H.df⟩;have I2:ItI (X.on w2 (vV (U7 s1) m1 w) ok a2.tmps) r mv es ck (seen.push e.born) own:=by
    refine { rl:=?_,rO:=λh=>?_,rk:=hokr,ri:=hr2,bl:=λblk' hb' =>?_ }
    .show r<w2.heap.size;rw[hsz2];exact hrl
    .obtain⟨n,h⟩:=(Bz R1).1 h;exact hown1 n h
    .rw[hmv]at hb';cases hb';refine⟨by show blk<w2.heap.size;rw[hsz2];exact O9 hbl1 R.frame.size,λh=>?_,hbl3,(hh2 blk hbl3).trans (hb0 blk hmv),λho t h=>?_⟩
     .obtain⟨n,h⟩:=(Bz R1).1 h;rcases(R1.sep n blk h).2.2 with h|h
      .exact absurd hbl1 l7
      .exact hbl2 h
     .rcases R1.okOut blk t h with h|h|h
      .exact hbl5 ho t h
      .exact absurd hbl1 l7
      .exact hbl2 h
   have hseen2:∀j e',es[j]? =some e' ->((seen.push e.born).contains e'.born=true↔j∈is++[i]):=λj e' hj=>by rw[E5,iQ,←hseen j e' hj];simp only[Array.contains_iff_mem,Array.mem_push];exact or_congr Iff.rfl ⟨λh=>a8J hso.2.2 hj hie' h,λh=>by subst h;rw[hie']at hj;cases hj;rfl⟩
   rcases CO _ hk1 with⟨s2,S,T',f0,f1,hc,hk2⟩|⟨_,_,_,_,_,_,_,_,_,_,_,_,_,hk2⟩
   case inr=>cases hk2
   have hdl:(ops2.toList.drop 1).length=ops2.size -1:=by rw[iK,J5]
   rw[hdl]at f1 hk2;rw[D8]at hk2;have hc' :Zv 1 ops2.size X.E (q+2) ops2.toList (λi=>S (i -1)) (λi=>T' (i -1)):=λi o h1 h2 ho=>by have:=hc (i -1) o (by rw[O0,show 1+(i -1)=i by omega];exact ho);rw[show i -1+1=i by omega]at this;show(oz X.E (q+2) ops2.toList o).eval (S (i -1)) ([],[])=some ((),S (i+1 -1),T' (i -1));rw[show i+1 -1=i by omega];exact this
   have hfr2:∀k,(∀x∈((List.range (ops2.size -1)).map T').reverse,k∉x.2)->U7 s2 k=U7 (.kv pr (b8I M y)::.kv mo .undef::.kv nx .undef::s1) k:=λk hk=>by
    have:∀n,n<=ops2.size -1->S n k=S 0 k:=by
     intro n;induction n with
     |zero=>intro _;rfl|succ n ih=>intro hn;have hi:(ops2.toList.drop 1)[n]? =some ((ops2.toList.drop 1)[n]'(by rw[hdl];omega)):=jk _;rw[qW (hc n _ hi) k (hk (T' n) (by simp;exact⟨n,l7,rfl⟩)),ih l7]
    rw[←f1,←f0];exact this _ (A8 _)
   have hsz2' :ops2.size -1=r3.length:=l7;have hstart:Rel (X.on w2 (vV (U7 s1) m1 w) ok a2.tmps) (CB*(q+2)) (CB*(q+2)+CB) ((λi=>S (i -1)) 1) m1 ok a2 w2:=by show Rel _ _ _ (S 0) _ _ _ _;rw[f0];exact R2.chmono (V5 _ _)
   have hgo:=XB (X:=X.on w2 (vV (U7 s1) m1 w) ok a2.tmps) H2 (ops:=ops2) (q:=q+2) (A8 _) hc' (m0:=m1) (ok0:=ok) (Q:=Exit.then (body.wp X.P (Exit.inBlock nb (Exit.then (Code.rounds X.P (.seq (.region i1 ops1 false) (.seq (.cond (.tmp mo) .skip (.exit out)) (.block nb (.seq (.region i2 ops2 false) body)))) Q f) Q))) (Exit.inBlock nb (Exit.then (Code.rounds X.P (.seq (.region i1 ops1 false) (.seq (.cond (.tmp mo) .skip (.exit out)) (.block nb (.seq (.region i2 ops2 false) body)))) Q f) Q))) (λm3 ok3 a3 w3 R3 km3 kok3=>by
    rw[aH];show wpOps X.P ops2 _ [] a3 w3;unfold wpOps;show body.wp X.P _ a3 w3;have R3:Rel (X.on w2 (vV (U7 s1) m1 w) ok a2.tmps) (CB*(q+2)) (CB*(q+2)+CB) (S (ops2.size -1)) m3 ok3 a3 w3:=R3;rw[f1]at R3;have R3' :Rel (X.on w2 (vV (U7 s1) m1 w) ok a2.tmps) (CB*(q+3)) (CB*(q+3)) (U7 s2) m3 ok3 a3 w3:=by
     have e:CB*(q+3)=CB*(q+2)+CB:=by rw[show q+3=(q+2)+1 from rfl,Nat.mul_add CB (q+2) 1,bD]
     rw[e];exact R3.climb (V5 _ _)
    refine wp_mono ((hD (Y:=X.on w2 (vV (U7 s1) m1 w) ok a2.tmps) rfl rfl H2).run hk2 R3' (λk l h=>by cases h)) ?_;rintro e4 a4 w4 ⟨fl,s4,wr4,hk4,hfl⟩;have fin:∀{m4:Mp} {ok4:Nat->Ty->Prop},EZ (q+1) A.hd A.rs s4 wr4 some=some x' ->Rel (X.on w2 (vV (U7 s1) m1 w) ok a2.tmps) (CB*(q+3+nn)) (CB*(q+3+nn)) (U7 s4) m4 ok4 a4 w4->(∀k l,m3 k=some l->m4 k=some l)->
      (∀k,Wr (ww ((List.range (ops2.size -1)).map T').reverse (Jt [pr,mo,nx] wr1)) k->Wr wr4 k)->(∀k,¬Wr wr4 k->U7 s4 k=U7 s2 k)->
      Code.rounds X.P (.seq (.region i1 ops1 false) (.seq (.cond (.tmp mo) .skip (.exit out)) (.block nb (.seq (.region i2 ops2 false) body)))) Q f a4 w4:=λ{m4 ok4} hlv R4 j1 j2 j3=>by
     obtain⟨x'',hx'',hL⟩:=jr (X:=X.on w2 (vV (U7 s1) m1 w) ok a2.tmps) hlv;cases hx'';obtain⟨m5,ok5,O5,R5,T5,hs5,km5⟩:=hL R0 R4 (λk l h=>j1 _ _ (km3 _ _ (km1 _ _ (km _ _ h)))) (λk hk=>by have hk' :¬Wr (ww ((List.range (ops2.size -1)).map T').reverse (Jt [pr,mo,nx] wr1)) k:=λh=>hk (j2 k h);rw[zt,Gp,not_or,not_or]at hk';obtain⟨n1,n2,n3⟩:=hk';simp only[D5,AV,or_false,not_or]at n2;rw[j3 k hk,hfr2 k (λx hx hkx=>n1 ⟨x,hx,hkx⟩),vS,vS,vS,V7 _ _ n2.1,V7 _ _ n2.2.1,V7 _ _ n2.2.2];exact hout1 k n3)
     exact ih (is++[i]) (by rw[E8,jQ];omega) hnd' hlt' hseen2 hwalk Sb2 I2 R5 T5 hs5 km5
    cases fl with
    |rt z=>cases hk4|nm=>obtain⟨rfl,m4,ok4,R4,j1,j2,j3⟩:=hfl;exact fin hk4 R4 j1 j2 j3
    |ex j=>
     obtain⟨rfl,m4,ok4,R4,j1,j2,j3⟩:=hfl;simp only at hk4;cases hb:Nat.beq j nb
     .simp[hb]at hk4
     .simp only[hb,cond_true]at hk4;have:=fJ hb;subst this;simp only[Exit.inBlock,if_true];exact fin hk4 R4 j1 j2 j3) (ops2.size -1) 1 (A8 _) l7 hstart (λ_ _ h=>h) (λ_ _ h=>h)
   rw[show r3.length=ops2.size -1 by omega];exact hgo
theorem Rel.restore{X:Fx}{cl ch:Nat}{S:Sm}{m:Mp}{L:c5B}(R:Rel X cl ch S m ok a w)(T:Tk X S m ok w L){bx blk:Nat}(hm:m bx=some (.mp blk)){t:Ty}{xs:List t.den}
  (ha:arrOk ⟨w.heap,ok,m⟩ t xs (.mp blk)) (h1:∀t,¬ok blk t) (h2:blk<w.heap.size) (h3:X.w0.heap.size<=blk\/blk∈X.O) (h4:∀n,blk∉P5 m n (S (V6+n))) (h5:blk∉L):
  Rel X cl ch (upd S (V6+bx) (.barr t xs)) m ok a w/\Tk X (upd S (V6+bx) (.barr t xs)) m ok w L:=
 R.backV (O1:=[blk]) (B:=L) A7 ⟨X3.2 ⟨h5,T.nodup⟩,λb hb=>by
  rcases D5.1 hb with rfl|hb
  .exact⟨h1,h2,h3,h4⟩
  .exact T.free b hb⟩ (by simp[P5,hm]) ⟨_,hm,ha⟩
theorem o_{h:Array Obj}{M:MT}(hkf:M.k.flat=true)(hvf:M.v.flat=true){xs:List (M.k.den×M.v.den)}(H:AY h ok M.ent xs v):
  ∃(mv:Option Nat) (es:Array MapEntry) (ck:Nat),v= .map mv/\(mv=none->es=#[])/\(∀blk,mv=some blk->h[blk]? =some (.map es ck))/\uo es ck xs.length/\
   ∀(i:Nat) (x:M.k.den×M.v.den),xs[i]? =some x->∃e:MapEntry,es[i]? =some e/\gok M.ka e.key/\gok M.va e.val/\lJ #[] (λ_ _=>False) M.k x.1 (qA M.ka e.key)/\lJ #[] (λ_ _=>False) M.v x.2 (qA M.va e.val):=by
 obtain⟨mv,rfl,h1,h2⟩:=H;cases mv with
 |none=>have:=h1 rfl;subst this;exact⟨none,#[],0,rfl,λ_=>rfl,(λ_ h=>nomatch h),⟨rfl,A7,A7⟩,λi x h=>by simp at h⟩|some blk=>obtain⟨es,ck,g1,g2,g3⟩:=h2 blk rfl;refine⟨some blk,es,ck,rfl,(λh=>nomatch h),λb hb=>by cases hb;exact g1,g2,λi x hi=>?_⟩;obtain⟨e,k1,k2,k3⟩:=g3 i x hi;obtain⟨l1,l2,l3,l4⟩:=Dy k2 k3;exact⟨e,k1,l1,l2,oZ hkf l3,oZ hvf l4⟩
theorem a3V{Q:α->Sm->Prop}{X:Fx}{cl ch:Nat}{S:Sm}{m:Mp}(R:Rel X cl ch S m ok a w){u:Ty}(hu:u.isEnt=true){v:V}{x:Value}{K:List u.den->Option Nat->Cmd α}(hv:lD ⟨w.heap,ok,m⟩ v x)
  (hK:∀xs b,AY w.heap ok u xs x->(∀bx,b=some bx->S (V6+bx)= .barr u xs/\∃blk,m bx=some (.mp blk)/\x= .map (some blk))->(b=none->∀blk,x= .map (some blk)->ok blk u)->(K xs b).post S Q):(b0e u v K).post S Q:=by
 unfold b0e;split<;>try trivial
 .refine eU λe=>?_;subst e;refine hK _ _ (AY.of_rep hu hv) (λ_ h=>nomatch h) λ_ blk hb=>?_;obtain⟨mv,e,h1,h2⟩:=(Q_ hu).1 hv;have e:x= .map mv:=by simpa using e
  rw[e]at hb;cases hb;exact(h2 blk rfl).1
 .rename_i bx;obtain⟨l,hm,hvw⟩:=hv;refine Y7 ?_;split<;>try trivial
  rename_i t xs hS;obtain⟨l',hm',ha⟩:=R.own_arr hS;simp only at hm;rw[hm]at hm';cases hm';refine eU λe=>?_;subst e;refine hK _ _ (AY.of_arr hu ha hvw) (λb hb=>?_) (λh=>nomatch h);cases hb;refine⟨hS,?_⟩;cases l with
  |nil=>have:=ha.2;rw[hu]at this;cases this|st b=>cases ha|arr blk off len cap sz=>have:=ha.1;rw[hu]at this;cases this|mp b=>simp only[Loc.view]at hvw;exact⟨b,hm,hvw⟩
theorem a7T{P:Program}{t k e:TypeId}{mv:Option Nat}{es:Array MapEntry}{ck:Nat}(hu:P.underlying t=some (.map k e))(hb:∀blk,mv=some blk->w.heap[blk]? =some (.map es ck)):
  (Instr.range t (.map mv)).run P w= .ok (.pointer (some ⟨w.heap.size,0,none⟩)) (w.alloc (GK mv ck #[])):=by
 cases mv with
 |none=>simp[Instr.range,H8,run_underlying hu,GK]|some blk=>simp[Instr.range,H8,run_underlying hu,zk (hb blk rfl),GK]
theorem a4m(H:FxOk X){D:Den ρ}{body:Code}{nn q:Nat}(hD:∀{Y:Fx},Y.P=X.P->Y.E=X.E->FxOk Y->DOk Y nom (λ_ _ _ _=>True) D body nn)
  {A:RngA} {ops0 ops1 ops2:Array Oper} {out out' mt nb i0 i1 i2:Nat} {R:Type} {s:St} {wr:Rgs} {K:St->Rgs->Option R} {res:R}
  (h:b6P X.E D q A ops0 ops1 ops2 out out' mt nb s wr K=some res) {m:Mp} {ok:Nat->Ty->Prop} {a:Act} {w:World} (Rl:Rel X (CB*q) (CB*q) (U7 s) m ok a w) {Q:Exit->Act->World->Prop}
  (hQ:∀s' w' a' w2,K s' w' =some res->NL X (q+2) m s wr s' w' a' w2->Q .normal a' w2):
  (Code.seq (.region i0 ops0 false) (.block out (.loop (.seq (.region i1 ops1 false) (.seq (.cond (.tmp mt) .skip (.exit out')) (.block nb (.seq (.region i2 ops2 false) body))))))).wp X.P Q a w:=by
 unfold b6P at h;obtain⟨s1,t1,h1,hfr1,hrun1⟩:=Nz H h;clear h;split at h1
 case h_2=>cases h1
 rename_i t x it nx mo pr hsh;obtain⟨⟨o0,ho0,g0,d0,p0⟩,⟨o1,o2,hops1,g1,d1,p1,g2,d2,p2⟩,⟨o3,r3,hops2,g3,d3,p3⟩⟩:=XY hsh;cases hck:(WX X.E A it nx mo pr&&Nat.beq mo mt&&Nat.beq out out')
 .rw[hck]at h1;cases h1
 rw[hck]at h1;simp only[x9]at hck;obtain⟨⟨hck,e1⟩,e2⟩:=hck;have e1:=fJ e1;have e2:=fJ e2;subst e1;subst e2;simp only[cond_true]at h1;cases hM:GU X.E t with
 |none=>rw[hM]at h1;cases h1|some M=>
 rw[hM]at h1;simp only at h1;obtain⟨hund,hkf,⟨ti,hti,hko,hka⟩,⟨tj,htj,htjt,hva⟩⟩:=Eo H hM;cases hvf:M.v.flat
 .rw[hvf]at h1;cases h1
 rw[hvf]at h1;simp only[cond_true]at h1;obtain⟨p,sb,tr,e2,h2⟩:=jI h1;have hck0:=hck;unfold WX at hck0;simp only[x9,Y1]at hck0;obtain⟨⟨⟨⟨⟨⟨⟨⟨⟨⟨⟨⟨⟨⟨c1,c2⟩,c3⟩,c4⟩,c5⟩,c6⟩,c7⟩,c8⟩,c9⟩,c10⟩,c11⟩,c12⟩,c13⟩,c14⟩,c15⟩:=hck0;have itB:it<V6:=O9 (jf c1).1 H.ntB;have hin:=pV H (q:=q) (some it) (λt ht=>by cases ht;exact(jf c1).1);refine wp_seq (hrun1 (Rl.chmono (V5 _ _)) λma oka aa wa Ra kma kka=>?_);rw[J5,I4]at ho0;have hlt:=(G7.1 ho0).1;rw[show ops0.size -(ops0.size -1)=1 by omega];show wpOps X.P ops0 _ [ops0.size -1] aa wa;rw[wpOps_cons];refine DI ho0 g0 ?_;generalize hbn:L9 q (some it)=bi at e2 hin;have key:=oh (Q:=λ(p:List (M.k.den×M.v.den)×Option Nat) S2=>AY wa.heap oka M.ent p.1 (aa.eval x)/\
   (∀bx,p.2=some bx->U7 s1 (V6+bx)= .barr M.ent p.1/\∃blk,ma bx=some (.mp blk)/\aa.eval x= .map (some blk))/\(p.2=none->∀blk,aa.eval x= .map (some blk)->oka blk M.ent)/\
   U7 s1 (V6+bi)= .undef/\S2=upd (upd (U7 s1) (V6+bi) .dead) it (.ptr bi 0)) (by
  refine bg Ra λv hv=>a3V Ra rfl hv λxs b g1 g2 g3=>og λhn=>?_;exact⟨g1,g2,g3,hn,rfl⟩) e2
 obtain⟨hmr,hown,hdat,hbu,hsb⟩:=key;obtain⟨xs,bo⟩:=p;simp only at hmr hown hdat h2;obtain⟨mv,es,ck,hmv,hmn,hmb,hso,hent⟩:=o_ hkf hvf hmr;have hrun0:(execOp aa.eval o0).run X.P wa= .ok (.value (.pointer (some ⟨wa.heap.size,0,none⟩))) (wa.alloc (GK mv ck #[])):=by simp only[execOp,p0,hmv,H8,a7T hund hmb];rfl
 unfold Oper.wp;rw[hrun0,cu,d0];show wpOps X.P ops0 _ [] _ _;unfold wpOps;generalize hr:wa.heap.size=r at*;generalize hwb:wa.alloc (GK mv ck #[])=wb at*;generalize hab:aa.put (some it) (Value.pointer (some ⟨r,0,none⟩))=ab at*;have hwbs:wb.heap.size=r+1:=by rw[←hwb,←hr];simp
 have hwbo:∀b,b<r->wb.heap[b]? =wa.heap[b]?:=λb hb=>by rw[←hwb];exact wU _ _ l7
 have hwbr:wb.heap[r]? =some (GK mv ck #[]):=by rw[←hwb,←hr];exact heap_alloc_new wa _
 generalize hmbx:mi ma bi (.st r) []=mb at*;have hmbi:mb bi=some (.st r):=by rw[←hmbx];simp
 have hman:ma bi=none:=Ra.fresh bi hin.1 hbu;have hmbo:∀k l,ma k=some l->mb k=some l:=λk l hk=>by
  have:k≠bi:=λe=>by subst e;rw[hman]at hk;cases hk
  rw[←hmbx];show mi ma bi (.st r) [] k=_;rw[jg _ _ _ this];exact hk
 have hckB:CB*(q+1)=CB*q+CB:=by rw[Nat.mul_add,bD]
 have Rb0:Rel X (CB*q) (CB*q+CB) (upd (U7 s1) (V6+bi) .dead) mb oka aa wb:=by rw[←hmbx];refine Ra.lay hbu hin.1 l7 A7 (by rw[←hwb];rfl) (by rw[←hwb];rfl) (by rw[←hwb];rfl) l7 (λb hb _=>hwbo b l7) aW (λb hb=>by simp[P5]at hb) trivial (λ_=>by rw[←hwb];exact A8 _)
 have Rb:Rel X (CB*q) (CB*q+CB) (U7 sb) mb oka ab wb:=by rw[hsb,←hab];exact Rb0.put H.ntB c1 ⟨r,hmbi,rfl⟩
 have hsbit:U7 sb it= .ptr bi 0:=by rw[hsb,fQ]
 have hsbx:∀n,U7 sb (V6+n)=if n=bi then .dead else U7 s1 (V6+n):=λn=>by
  rw[hsb,V7 _ _ l7];by_cases e:n=bi
  .subst e;rw[fQ,if_pos rfl]
  .rw[V7 _ _ l7,if_neg e]
 have h3:∃s0,b6O X.E D q A ops2.toList nb nx mo pr M xs s0 sb (ww (tr::t1) wr) K=some res/\U7 s0 it= .ptr bi 0/\Rel X (CB*q) (CB*q+CB) (U7 s0) mb oka ab wb/\
   (bo=none->s0=sb)/\(∀bx,bo=some bx->s0= .kv (V6+bx) .dead::sb/\¬Wr A.rs (V6+bx)):=by
  unfold b4y at h2;cases bo with
  |none=>exact⟨sb,h2,hsbit,Rb,λ_=>rfl,λ_ h=>nomatch h⟩|some bx=>
   simp only at h2;cases hn:YT (V6+bx) A.rs
   .rw[hn]at h2;cases h2
   .rw[hn]at h2;refine⟨_,h2,?_,?_,(λh=>nomatch h),λb hb=>by cases hb;exact⟨rfl,Og hn⟩⟩
    .rw[vS,V7 _ _ l7];exact hsbit
    .rw[vS];exact Rb.kill bx
 obtain⟨s0,h3,hs0it,R0,hs0n,hs0s⟩:=h3;have hs0o:∀n b,b∈P5 mb n (U7 s0 (V6+n))->b∈P5 ma n (U7 s1 (V6+n))/\bo≠some n:=λn b hb=>by
  have hsbo:b∈P5 mb n (U7 sb (V6+n))->b∈P5 ma n (U7 s1 (V6+n)):=λhb=>by
   rw[hsbx]at hb;by_cases e:n=bi
   .subst e;rw[if_pos rfl]at hb;simp[P5]at hb
   .rw[if_neg e]at hb;rw[Ew (m:=ma) (by rw[←hmbx];exact jg _ _ _ e) (by rw[←hmbx];exact MV _ _ _ e)]at hb;exact hb
  cases bo with
  |none=>rw[hs0n rfl]at hb;exact⟨hsbo hb,A7⟩|some bx=>
   obtain⟨e,_⟩:=hs0s bx rfl;rw[e,vS]at hb;by_cases e' :n=bx
   .subst e';rw[fQ]at hb;simp[P5]at hb
   .rw[V7 _ _ l7]at hb;exact⟨hsbo hb,by simp only[ne_eq,F7];exact λe=>e' e.symm⟩
 have hr1:∀n,r∉P5 mb n (U7 s0 (V6+n)):=λn hb=>by have:=(Ra.sep n r (hs0o n r hb).1).2.1;omega
 have hr2:∀t,¬oka r t:=λt ht=>by have:=Ra.okLt r t ht;omega
 have hrX:X.w0.heap.size<=r:=by rw[←hr];exact Ra.frame.size
 have R0' :Rel X (CB*(q+1)) (CB*(q+1)) (U7 s0) mb oka ab wb:=by rw[hckB];exact R0.climb (V5 _ _)
 have RY:Rel (X.on wb (vV (U7 s0) mb wb) oka ab.tmps) (CB*(q+1)) (CB*(q+1)) (U7 s0) mb oka ab wb:=
  R0'.down (r:=r) rfl rfl rfl rfl (λ_ _=>rfl) hr1 hr2 rfl rfl (λ_=>rfl) R0'.slot
 have Sb:Sub X (X.on wb (vV (U7 s0) mb wb) oka ab.tmps):=R0'.sub (r:=r) rfl rfl rfl rfl (λ_ _=>rfl) (A8 _) (.inl hrX) (λ_ _=>rfl);have hblk:∀blk,mv=some blk->blk<r/\(∀n,blk∉P5 mb n (U7 s0 (V6+n)))/\(bo.isSome=true->(∀t,¬oka blk t)/\(X.w0.heap.size<=blk\/blk∈X.O)):=λblk hb=>by
  have hlt:blk<r:=by rw[←hr];exact(G7.1 (hmb blk hb)).1
  subst hb;cases bo with
  |none=>have:=hdat rfl blk hmv;exact⟨hlt,λn h=>(Ra.sep n blk (hs0o n blk h).1).1 _ this,λh=>nomatch h⟩|some bx=>
   obtain⟨g1,blk',g2,g3⟩:=hown bx rfl;rw[hmv]at g3;simp only[Value.map.injEq,F7]at g3;subst g3;have ho:blk∈P5 ma bx (U7 s1 (V6+bx)):=by rw[g1];simp[P5,g2]
   refine⟨hlt,λn h=>?_,λ_=>⟨(Ra.sep bx blk ho).1,(Ra.sep bx blk ho).2.2⟩⟩;obtain⟨h1,h2⟩:=hs0o n blk h;exact h2 (by rw[Ra.inj n bx blk h1 ho])
 have I0:ItI (X.on wb (vV (U7 s0) mb wb) oka ab.tmps) r mv es ck #[] bo.isSome:=by
  refine { rl:=?_,rO:=λh=>?_,rk:=hr2,ri:=hwbr,bl:=λblk hb=>?_ }
  .show r<wb.heap.size;omega
  .obtain⟨n,h⟩:=(Bz R0').1 h;exact hr1 n h
  .obtain⟨b1,b2,b3⟩:=hblk blk hb;exact⟨by show blk<wb.heap.size;omega,λh=>by obtain⟨n,h⟩:=(Bz R0').1 h;exact b2 n h,l7,(hwbo blk b1).trans (hmb blk hb),λho=>(b3 ho).1⟩
 unfold b6O at h3;obtain⟨x0,hk0,hL⟩:=jr (X:=X.on wb (vV (U7 s0) mb wb) oka ab.tmps) h3;obtain⟨m2,ok2,O2,R2,T2,hs2,km2⟩:=hL RY RY (λ_ _ h=>h) (λ_ _=>rfl);obtain⟨_,hall⟩:=Yk hk0;show(Code.block out _).wp X.P Q ab wb;refine wp_block (wp_loop_rounds (xs.length+1) ?_);refine a4p H hD hck hops1 g1 d1 p1 g2 d2 p2 hops2 g3 d3 p3 hkf hvf (xs:=xs) (s0:=s0) (x0:=x0) hrX hso hmn hent (λys hp=>?_) RY hs0it hmbi (own:=bo.isSome) (λwk Ok okk tk seen ys x1 m ok O a w hp hwk Sb I R T hs km=>?_)
  (xs.length+1) [] A7 aW A7 (λi e _=>by simp) rfl Sb I0 R2 T2 hs2 km2
 .obtain⟨x1,hx1,_⟩:=zl (hall ys hp);exact⟨x1,hx1⟩
 .obtain⟨x1',hx1,hen⟩:=zl (hall ys hp);rw[hwk]at hx1;cases hx1;have hfin:Rel X (CB*(q+1)) (CB*(q+1)) (U7 (uX A.rs sb)) m ok a w/\Tk X (U7 (uX A.rs sb)) m ok w O:=by
   have Rx:=R.up Sb;have Tx:=T.up Sb;cases bo with
   |none=>rw[hs0n rfl]at Rx Tx;exact⟨Rx,Tx⟩|some bx=>
    obtain⟨e,hnw⟩:=hs0s bx rfl;obtain⟨q1,blk,q2,q3⟩:=hown bx rfl;rw[hmv]at q3;simp only[Value.map.injEq]at q3;obtain⟨i1,i2,i3,i4,i5⟩:=I.bl blk q3;obtain⟨b1,b2,b3⟩:=hblk blk q3;have hS:upd (U7 (uX A.rs s0)) (V6+bx) (.barr M.ent xs)=U7 (uX A.rs sb):=by
     funext k;by_cases e' :k=V6+bx
     .subst e';rw[fQ,Bo hnw,hsbx];by_cases e2:bx=bi
      .subst e2;rw[hman]at q2;cases q2
      .rw[if_neg e2];exact q1.symm
     .rw[V7 _ _ e'];by_cases hw:Wr A.rs k
      .rw[GV hw,GV hw]
      .rw[Bo hw,Bo hw,e,vS,V7 _ _ e']
    rw[←hS];refine Rx.restore Tx (blk:=blk) (km _ _ (hmbo _ _ q2)) ⟨rfl,es,ck,(R.frame.block blk i1 i2).trans i4,hso,λi x hi=>?_⟩ (λt h=>?_) (O9 i1 R.frame.size) (b3 rfl).2 (λn h=>?_) (λh=>?_)
    .obtain⟨e,l1,l2,l3,l4,l5⟩:=hent i x hi;obtain⟨j1,j2⟩:=a0V (M:=M) (e:=e) l2 l3 (oZ (h' :=w.heap) (ok' :=ok) hkf l4) (oZ (h' :=w.heap) (ok' :=ok) hvf l5);exact⟨e,l1,j1,j2⟩
    .rcases R.okOut blk t h with h|h|h
     .exact i5 rfl t h
     .exact absurd i1 l7
     .exact i2 h
    .rcases(R.sep n blk h).2.2 with h|h
     .exact absurd i1 l7
     .exact i2 h
    .rcases(T.free blk h).2.2.1 with h|h
     .exact absurd i1 l7
     .exact i2 h
  obtain⟨s',w',hk',hwr',hout',hR'⟩:=oK (X:=X) hen;obtain⟨m',R',km'⟩:=hR' (A8 _) hfin.1 hfin.2 hs;simp only[Exit.inBlock,if_true];refine hQ s' _ a w hk' ⟨m',ok,R',λk l h=>km' _ _ (km _ _ (hmbo _ _ (kma _ _ h))),λk h=>OT.2 (.inr (zt.2 (.inr h))),λk h=>?_⟩;rw[OT,not_or,zt,not_or]at h;rw[hout' k h.1,qW e2 k λhk=>h.2.1 ⟨tr,A7,hk⟩];exact hfr1 k λx hx hkx=>h.2.1 ⟨x,by simp[hx],hkx⟩
end
end Go.GP
namespace Go.GP
inductive SAnn where
 |fin (a:Ann)
 |seq (a:Ann) (r:SAnn)
 |nd (f:Nat) (sp:NSpec) (r:SAnn)
 |rng (A:RngA) (r:SAnn)
structure RngV where
 i0:Nat
 ops0:Array Oper
 out:Nat
 i1:Nat
 ops1:Array Oper
 mt:Nat
 out' :Nat
 nb:Nat
 i2:Nat
 ops2:Array Oper
 body:Code
def RngV.code(v:RngV):Code:=.seq (.region v.i0 v.ops0 false) (.block v.out (.loop (.seq (.region v.i1 v.ops1 false) (.seq (.cond (.tmp v.mt) .skip (.exit v.out')) (.block v.nb (.seq (.region v.i2 v.ops2 false) v.body))))))
def Ur:Code->Option RngV
 | .seq (.region i0 ops0 false) (.block out (.loop (.seq (.region i1 ops1 false) (.seq (.cond (.tmp mt) .skip (.exit out')) (.block nb (.seq (.region i2 ops2 false) body))))))=>some ⟨i0,ops0,out,i1,ops1,mt,out',nb,i2,ops2,body⟩|_=>none
variable {c:Code}
theorem a4o{v:RngV}(h:Ur c=some v):c=v.code:=by
 unfold Ur at h;split at h
 .cases h;rfl
 .cases h
def Um:Code->Option (Nat×Array Oper)
 | .region i ops false=>some (i,ops)|_=>none
theorem a4g{v:Nat×Array Oper}(h:Um c=some v):c= .region v.1 v.2 false:=by
 unfold Um at h;split at h
 .cases h;rfl
 .cases h
def Fz:Code->Option (Code×Code)
 | .seq x y=>some (x,y)|_=>none
theorem Ou{v:Code×Code}(h:Fz c=some v):c= .seq v.1 v.2:=by
 unfold Fz at h;split at h
 .cases h;rfl
 .cases h
noncomputable def XM {ρ:Type} (E:Env) (rt:Ret) (ret:rt.den->ρ) (pan:Int->Cmd ρ):SAnn->Code->Nat->St->Rgs->(R:Type)->(Flow ρ->St->Rgs->Option R)->Option R
 | .fin a,c=>λq s w R K=>BZ E rt ret pan c q a s w R K
 | .seq a r,c=>λq s w R K=>match Fz c with
  |some (x,y)=>BZ E rt ret pan x q a s w R λfl s' w' =>match fl with
   | .nm=>XM E rt ret pan r y (q+vT x) s' w' R K| .ex id=>K (.ex id) s' w'| .rt z=>K (.rt z) s' w'
  |none=>none
 | .nd f sp r,c=>λq s w R K=>match Fz c with
  |some (x,y)=>(match Um x with
   |some v=>b6M E q v.2 f sp s w λs' w' =>XM E rt ret pan r y (q+2) s' w' R K
   |none=>none)
  |none=>none
 | .rng A r,c=>λq s w R K=>match Fz c with
  |some (x,y)=>(match Ur x with
   |some v=>b6P E (BZ E rt ret pan v.body) q A v.ops0 v.ops1 v.ops2 v.out v.out' v.mt v.nb s w λs' w' =>XM E rt ret pan r y (q+2) s' w' R K
   |none=>none)
  |none=>none
def XE(P:Program)(gl:List (Nat×(t:Ty)×List t.den)):SAnn->Prop
 | .fin _=>True| .seq _ r=>XE P gl r| .nd f sp r=>(Qq P gl f sp/\∃fn,P.funcs[f]? =some fn/\fn.body.isSome=true/\(fn.name== "runtime.NumGoroutine")=false)/\XE P gl r| .rng _ r=>XE P gl r
section
variable {X:Fx} {rt:Ret} {ρ:Type} {mE:Mp} {RetP:ρ->Exit->Act->World->Prop}
theorem a3j(H:FxOk X){ret:rt.den->ρ}{pan:Int->Cmd ρ}(hret:UH X rt ret mE RetP)(hpan:UG X pan mE RetP):
  ∀(sa:SAnn) (c:Code),XE X.P X.E.gl sa->∀{q:Nat} {s:St} {wr:Rgs} {R:Type} {K:Flow ρ->St->Rgs->Option R} {r:R},XM X.E rt ret pan sa c q s wr R K=some r->
   ∀{m:Mp} {ok:Nat->Ty->Prop} {a:Act} {w:World},Rel X (CB*q) (CB*q) (U7 s) m ok a w->(∀k l,mE k=some l->m k=some l)->c.wp X.P (a0r X RetP (q+vT c) m s wr K r) a w:=by
 intro sa;induction sa with
 |fin an=>exact λc _ {q s wr R K r} h {m ok a w} Rl hE=>(wR H hret hpan c).run (by unfold XM at h;exact h) Rl hE|seq an sr ih=>
  intro c hN q s wr R K r h m ok a w Rl hE;unfold XM at h;cases hv:Fz c with
  |none=>simp only[hv]at h;cases h|some v=>
  obtain⟨x,y⟩:=v;simp only[hv]at h;have:=Ou hv;subst this;refine wp_seq (wp_mono ((wR H hret hpan x).run h Rl hE) ?_);rintro e a' w' ⟨fl,s',wr',hk,hfl⟩;cases fl with
  |nm=>obtain⟨rfl,m',ok',R1,k1,k2,k3⟩:=hfl;refine wp_mono (ih y hN hk R1 (λk l h=>k1 _ _ (hE _ _ h))) ?_;rintro e a2 w2 ⟨fl,s2,wr2,hk2,hfl2⟩;exact⟨fl,s2,wr2,hk2,hfl2.trans k1 k2 k3 (by simp only[vT];omega)⟩
  |ex id=>obtain⟨rfl,hs⟩:=hfl;exact⟨.ex id,s',wr',hk,rfl,hs.up (by simp only[vT];omega)⟩
  |rt x=>
   obtain⟨hl,hs⟩:=hfl;rcases hl with rfl|⟨ch,rfl⟩
   .exact⟨.rt x,s',wr',hk,.inl rfl,hs⟩
   .exact⟨.rt x,s',wr',hk,.inr ⟨_,rfl⟩,hs⟩
 |nd f sp sr ih=>
  intro c hN q s wr R K r h m ok a w Rl hE;unfold XM at h;cases hv:Fz c with
  |none=>simp only[hv]at h;cases h|some v=>
  obtain⟨x,y⟩:=v;simp only[hv]at h;have:=Ou hv;subst this;cases hv2:Um x with
  |none=>simp only[hv2]at h;cases h|some v=>
  obtain⟨i0,ops⟩:=v;simp only[hv2]at h;have:=a4g hv2;subst this;refine wp_seq (a4f H hN.1.1 hN.1.2 h (Rl.chmono (V5 _ _)) λs' t m' ok' a' w' hk hfr R' k1 k2=>?_);have e:CB*(q+1)=CB*q+CB:=by rw[Nat.mul_add,bD]
  have R1:Rel X (CB*(q+1)) (CB*(q+1)) (U7 s') m' ok' a' w' :=by rw[e];exact R'.climb (V5 _ _)
  refine wp_mono (ih y hN.2 hk (R1.upq l7) (λk l h=>k1 _ _ (hE _ _ h))) ?_;rintro e a2 w2 ⟨fl,s2,wr2,hk2,hfl2⟩;exact⟨fl,s2,wr2,hk2,hfl2.trans k1 (λk h=>zt.2 (.inr h)) (λk h=>hfr k λx hx hkx=>h (zt.2 (.inl ⟨x,hx,hkx⟩))) (by simp only[vT];omega)⟩
 |rng A sr ih=>
  intro c hN q s wr R K r h m ok a w Rl hE;unfold XM at h;cases hv:Fz c with
  |none=>simp only[hv]at h;cases h|some v=>
  obtain⟨x,y⟩:=v;simp only[hv]at h;have:=Ou hv;subst this;cases hv2:Ur x with
  |none=>simp only[hv2]at h;cases h|some v=>
  obtain⟨i0,ops0,out,i1,ops1,mt,out',nb,i2,ops2,body⟩:=v;simp only[hv2]at h;have:=a4o hv2;subst this;unfold RngV.code;refine wp_seq (a4m H (nn:=vT body) (λ{Y} h1 h2 HY=>?_) h Rl λs' w' a' w2 hk hst=>?_)
  .have e2:BZ X.E rt ret pan body=BZ Y.E rt ret pan body:=by rw[h2]
   rw[e2];exact wR HY (λ{s R K r} h=>by obtain⟨x,_,_,_,hk⟩:=jI h;exact⟨x,hk,λ_ _=>trivial⟩) (λ_ _ _ _ _ _ _ _ _ _=>trivial) body
  .obtain⟨m',ok',R1,k1,k2,k3⟩:=hst;refine wp_mono (ih y hN hk R1 (λk l h=>k1 _ _ (hE _ _ h))) ?_;rintro e a2 w2 ⟨fl,s2,wr2,hk2,hfl2⟩;exact⟨fl,s2,wr2,hk2,hfl2.trans k1 k2 k3 (by simp only[vT];omega)⟩
end
noncomputable def Yw {ρ:Type} (E:Env) (ps:List MG) (rt:Ret) (ret:rt.den->ρ) (body:Code) (sa:SAnn) (x:X4 ps):Option ρ:=
 bif Nat.ble ps.length E.nt&&Fv (rt.outs.map (·.1)) (jE ps 0)&&a2w (rt.outs.map (·.1)) E.kp&&a1A ps then
 (CZ ps x 0 λvs n=>bif Nat.ble n CB then FB (List.range vs.length) vs (ZT ps 0 (.ret ()))else .fail).runK [] ([],[]) λ_ s _=>
  XM E rt ret (λ_=> .fail) sa body 1 s [] ρ λfl s' _=>b2J E rt ret fl s'
 else none
theorem Yx{P:Program}{E:Env}{f:FuncId}{fn:Func}{c:Code}{ps:List MG}{ρ:Type}{rt:Ret}{ret:rt.den->ρ}{sa:SAnn}(hf:P.funcs[f]? =some fn)(hb:fn.body=some c)(hnt:fn.ntmps=E.nt)
  (hres:fn.results.toList=rt.rs.map (·.1)) (hE:EnvOk P E) (hN:XE P E.gl sa) {w:World} {ok:Nat->Ty->Prop} {O:c5B} {vals:c5A} {x:X4 ps} {y:ρ}
  (hlt:∀b t,ok b t->b<w.heap.size) (hnd:O.Nodup) (hO:∀b∈O,(∀t,¬ok b t)/\b<w.heap.size) (hgl:∀g u,dL E.gl g=some u->Ia ⟨w.heap,ok,nom⟩ g u.1 u.2)
  (hrel:lI w.heap ok ps x vals O) (hdv:UE w.heap vals ps vals) (hden:Yw E ps rt ret c sa x=some y) {Rr:Ending->World->Prop}
  (hR:∀r0 e w',y=ret r0->a8u (E.gl=[]) w ok O vals ps (rt.rs.map (·.2)) (rt.outs.map (·.2)) r0 e w' ->Rr e w'):Calls P f vals.toArray w Rr:=by
 unfold Yw at hden;cases hle00:(Nat.ble ps.length E.nt&&Fv (rt.outs.map (·.1)) (jE ps 0)&&a2w (rt.outs.map (·.1)) E.kp&&a1A ps)
 .simp only[hle00,cond_false]at hden;cases hden
 simp only[hle00,cond_true]at hden;refine UY (D:=λq an s w R K=>XM E rt ret (λ_=> .fail) sa c q s w R K) (nn:=vT c) (λ{X} h1 h2 H {mE RetP} a b=>by subst h1;subst h2;exact⟨λ{q an s wr R K r} h {m ok act w} Rl hE=>a3j H (ret:=ret) (pan:=λ_=> .fail) a b sa c hN h Rl hE⟩)
  (df:=none) (λl h=>by cases h) (λl h=>by cases h) hf hb hnt hres hE hlt hnd hO hgl hrel hdv hle00 (an:=.leaf) (y:=y) (ret:=ret) (pan:=λ_=> .fail) hden ?_ ?_
 .intro r0 v w' ok' O' rs os B hy g1 g2 g3 g4 g5 g6 g7 g8;exact hR r0 _ w' hy ⟨v,ok',O',rs,os,B,rfl,g1,g2,g3,g4,g5,g6,g7,g8⟩
 .intro c S S' tr a' w' _ he;cases he
theorem a0R{P:Program}{E:Env}{f:FuncId}{fn:Func}{ps:List MG}{rt:Ret}{sa:SAnn}{F:X4 ps->Option rt.den}(hf:P.funcs[f]? =some fn)(hb:fn.body=some c)(hnt:fn.ntmps=E.nt)
  (hres:fn.results.toList=rt.rs.map (·.1)) (hE:EnvOk P E) (hN:XE P E.gl sa) (hF:∀x r,F x=some r->Yw E ps rt (λr=>r) c sa x=some r):
  dI P E.gl f ⟨ps,rt.rs.map (·.2),rt.outs.map (·.2),F⟩:=by
 intro w ok O vals x r hlt hnd hO hgl hrel hdv hfn;refine Yx hf hb hnt hres hE hN hlt hnd hO hgl hrel hdv (hF x r hfn) λr0 e w' hy hp=>?_;subst hy;exact hp
theorem a0S{P:Program}{E:Env}{f:FuncId}{fn:Func}{ps:List MG}{rt:Ret}{sa:SAnn}{dom:X4 ps->rt.den->Prop}(hf:P.funcs[f]? =some fn)(hb:fn.body=some c)(hnt:fn.ntmps=E.nt)
  (hres:fn.results.toList=rt.rs.map (·.1)) (hE:EnvOk P E) (hN:XE P E.gl sa) (hF:∀x,(∃r,dom x r)->Yw E ps rt (λr=>(dom x r:Prop)) c sa x=some True):
  Qq P E.gl f ⟨rt.den,ps,rt.rs.map (·.2),rt.outs.map (·.2),dom,λa _=>some a⟩:=by
 intro w ok O vals x hlt hnd hO hgl hrel hdv hex hall;refine Yx hf hb hnt hres hE hN hlt hnd hO hgl hrel hdv (hF x hex) λr0 e w' hy hp=>?_;exact⟨r0,r0,of_eq_true hy.symm,rfl,hp⟩
def JF(n:Nat)(p:Nat×Nat):Prop:=p.1<2^n/\p.2&&& p.1=p.2
def zh(n:Nat)(B:Nat->Prop)(p:Nat×Nat):Prop:=JF n p/\∀x,x<2^n->x&&& p.1=p.2->B x
abbrev qp(p:Nat×Nat):Int×Int:=((p.1:Int),(p.2:Int))
def a0q(n:Nat)(es:List ((Int×Int)×Bool)):Prop:=n<=8/\(es.map (·.1)).Nodup/\∀e∈es,e.2=true/\∃b,b<2^n/\e.1=qp (2^n -1,b)
def UO(n:Nat)(es:List ((Int×Int)×Bool))(x:Nat):Prop:=qp (2^n -1,x)∈es.map (·.1)
def UC(n:Nat)(B:Nat->Prop)(z:List ((Int×Int)×Bool)):Prop:=(z.map (·.1)).Nodup/\(∀e∈z,e.2=true)/\∀p,p∈z.map (·.1)↔∃q,zh n B q/\p=qp q
def RQ(x:List ((Int×Int)×Bool)×Int)(z:List ((Int×Int)×Bool)):Prop:=∃n:Nat,x.2=n/\a0q n x.1/\UC n (UO n x.1) z
def pcN(n:Nat):Nat:=(List.range 8).countP λi=>n.testBit i
def Cc(p:Int×Int):Bool:=decide (0<=p.1)&&decide (p.1<256)
def QC(x y:Int):Int:=if x<y then -1 else if y<x then 1 else 0
def ZM(x y:Int×Int):Int:=if QC (pcN x.1.toNat) (pcN y.1.toNat)≠0 then QC (pcN x.1.toNat) (pcN y.1.toNat)else if QC x.1 y.1≠0 then QC x.1 y.1 else QC x.2 y.2
def ltP(x y:Int×Int):Bool:=decide (ZM x y<0)
def Dv(xs:List (Int×Int))(u:Unit):Option (List (Int×Int)):=if xs.length<=1073741824/\xs.all Cc=true then some (xs.mergeSort λx y=> !(ltP y x))else none
theorem ZL{x y:Int} :QC x y<0↔x<y:=by
 unfold QC;split
 .simp[*]
 .split<;>simp<;>omega
theorem TZ{x y:Int} :QC x y≠0↔x≠y:=by
 unfold QC;split
 .simp;omega
 .split<;>simp<;>omega
theorem Uh(x y:Int×Int):ltP x y=true↔pcN x.1.toNat<pcN y.1.toNat\/(pcN x.1.toNat=pcN y.1.toNat/\(x.1<y.1\/(x.1=y.1/\x.2<y.2))):=by
 unfold ltP ZM;rw[decide_eq_true_iff];by_cases h1:QC (pcN x.1.toNat) (pcN y.1.toNat)=0
 .have e1:((pcN x.1.toNat:Nat):Int)=pcN y.1.toNat:=by
   by_cases h:((pcN x.1.toNat:Nat):Int)=pcN y.1.toNat
   .exact h
   .exact absurd h1 (TZ.2 h)
  simp only[h1,ne_eq,not_true_eq_false,if_false];by_cases h2:QC x.1 y.1=0
  .have e2:x.1=y.1:=by
    by_cases h:x.1=y.1
    .exact h
    .exact absurd h2 (TZ.2 h)
   simp only[h2,ne_eq,not_true_eq_false,if_false,ZL];omega
  .simp only[h2,ne_eq,not_false_eq_true,if_true,ZL];have e2:=TZ.1 h2;omega
 .simp only[h1,ne_eq,not_false_eq_true,if_true,ZL];have e1:=TZ.1 h1;omega
theorem VZ(x:Int×Int):ltP x x=false:=by
 cases h:ltP x x
 .rfl
 .have:=(Uh x x).1 h;omega
theorem YQ{x y z:Int×Int}(h:ltP x y=true)(k:ltP y z=true):ltP x z=true:=by rw[Uh]at*;omega
theorem We{x y z:Int×Int}(h:ltP x y=false)(k:ltP y z=false):ltP x z=false:=by
 cases e:ltP x z
 .rfl
 .have h' :¬ltP x y=true:=by rw[h];simp
  have k' :¬ltP y z=true:=by rw[k];simp
  rw[Uh]at*;omega
variable {x:Int×Int}{y:Int×Int}
theorem YP(h:ltP x y=false)(k:ltP y x=false):x=y:=by
 have h' :¬ltP x y=true:=by rw[h];simp
 have k' :¬ltP y x=true:=by rw[k];simp
 rw[Uh]at*;exact jW l7 l7
end Go.GP
namespace Go.GP
open Go.RowKit Go.Sort
abbrev PTy:Ty:=.prod (.int .i64) (.int .i64)
abbrev RP:={p:Int×Int // Cc p=true}
instance:Inhabited RP:=⟨⟨(0,0),rfl⟩⟩
def Kr(p:RP):c5A:=[.int .i64 p.1.1,.int .i64 p.1.2]
def cfP(x y:RP):Int:=ZM x.1 y.1
theorem c5e:SWO (Go.Proofs.ltOf cfP):=⟨λx=>VZ x.1,λx y z=>YQ,λx y z=>We⟩
def Ny:(xs:List (Int×Int))->xs.all Cc=true->List RP
 |[],_=>[]|x::xs,h=>⟨x,(Bool.and_eq_true_iff.1 (show(Cc x&&xs.all Cc)=true from h)).1⟩::Ny xs (Bool.and_eq_true_iff.1 (show(Cc x&&xs.all Cc)=true from h)).2
theorem YG:∀(xs:List (Int×Int)) (h:xs.all Cc=true),(Ny xs h).map (·.1)=xs
 |[],_=>rfl|x::xs,h=>by simp only[Ny,aU,YG xs]
theorem a3w(ys:List RP):(ys.mergeSort λx y=> !Go.Proofs.ltOf cfP y x).map (·.1)=(ys.map (·.1)).mergeSort λx y=> !ltP y x:=
 List.map_mergeSort (r:=λx y=> !Go.Proofs.ltOf cfP y x) (s:=λx y=> !ltP y x) (f:=(·.1)) (λa _ b _=>rfl)
variable {c:Array Value}{T:TypeId}
theorem b6b{h:Array Obj}{blk k:Nat}{f:Nat×Nat}(hb:h[blk]? =some (.cells c T f)){a b:Value}(ha:c[k]? =some a)(h2:c[k+1]? =some b):dJ h blk k 2=some [a,b]:=by obtain⟨ha1,ha2⟩:=G7.1 ha;obtain⟨hb1,hb2⟩:=G7.1 h2;rw[kE hb _ _ l7];rw[V9 (by simpa using ha1),V9 (by simpa using hb1)];simp[ha2,hb2]
variable {d:Array RP}
theorem YD{i c:Nat}(hi:i<d.size)(hc:c<2):(flatK Kr 2 d)[i*2+c]! =(Kr d[i]!)[c]!:=by rw[get_flatK _ _ _ _ l7];have e1:(i*2+c) / 2=i:=l7;have e2:(i*2+c) % 2=c:=l7;rw[e1,e2]
variable {w:World}
theorem XP{ok:Nat->Ty->Prop}{m:Mp}{xs:List (Int×Int)}(hxs:d.toList.map (·.1)=xs){blk off len cap sz:Nat}(h:arrOk ⟨w.heap,ok,m⟩ PTy xs (.arr blk off len cap sz)):HoldsK Kr 2 w blk off d:=by
 obtain⟨_,rfl,rfl,hc,c,T,f,hb,hz,hs,hx⟩:=h;have hz:f=(0,0):=hz.elim id (λh=>nomatch h.1);subst hz;intro t ht;have ht' :t<d.size*2:=by simpa using ht
 have hb' :w.heap[blk]? =some (.cells c T (0,0)):=hb;obtain⟨i,c',hi,hc',rfl⟩:∃i c',i<d.size/\c' <2/\t=i*2+c' :=⟨t / 2,t % 2,l7,l7,l7⟩;rw[YD hi hc'];have hxi:xs[i]? =some (d[i]!).1:=by rw[←hxs,W9,I4,H7 hi,getElem!_pos d i hi];rfl
 obtain⟨es,he,hr⟩:=hx i _ hxi;obtain⟨a,b,rfl,hra,hrb⟩:=hr;have hra:a=[.int .i64 (d[i]!).1.1]:=hra;have hrb:b=[.int .i64 (d[i]!).1.2]:=hrb;subst hra;subst hrb;have he' :dJ w.heap blk (off+i*2) 2=some [.int .i64 (d[i]!).1.1,.int .i64 (d[i]!).1.2]:=he;refine⟨?_,by simp[World.frozen?,hb']⟩;rw[←jS];refine wG he' ?_;rcases(show c' =0\/c' =1 by omega)with rfl|rfl<;>rfl
theorem a4b{blk off n:Nat}{fr:Nat×Nat}(hb:w.heap[blk]? =some (.cells c T fr))(d:Array Value):
  (putRow id (Sort.ahead w n) blk off d).heap[blk]? =some (.cells (putCells id off d c) T fr):=by
 show(w.heap.modify blk (onCells (putCells id off d)))[blk]? =_;rw[fM,if_pos rfl,hb];rfl
theorem a1R{blk off n b:Nat}(h:b≠blk)(d:Array Value):(putRow id (Sort.ahead w n) blk off d).heap[b]? =w.heap[b]?:=by show(w.heap.modify blk (onCells (putCells id off d)))[b]? =_;rw[fM,if_neg (λe=>h e.symm)]
theorem a8C{h:Array Obj}{ok:Nat->Ty->Prop}{m:Mp}{blk off cap:Nat}{ys:List (Int×Int)}(hb:h[blk]? =some (.cells (putCells id off (flatK Kr 2 d) c) T (0,0)))
  (hfit:off+cap*2<=c.size) (hys:d.toList.map (·.1)=ys) (hd:ys.length<=cap):arrOk ⟨h,ok,m⟩ PTy ys (.arr blk off ys.length cap 2):=by
 have hl:ys.length=d.size:=by rw[←hys];simp
 refine⟨rfl,rfl,rfl,hd,_,T,_,hb,.inl rfl,by simp[putCells];exact hfit,λi y hi=>?_⟩;have hi' :i<d.size:=by have:=(X9.1 hi).1;omega
 have hy:y=(d[i]!).1:=by rw[←hys,W9,I4,H7 hi']at hi;rw[getElem!_pos d i hi'];exact(aZ hi).symm
 subst hy;refine⟨[.int .i64 (d[i]!).1.1,.int .i64 (d[i]!).1.2],?_,⟨[_],[_],rfl,rfl,rfl⟩⟩;have hc:∀c',c' <2->(putCells id off (flatK Kr 2 d) c)[off+i*2+c']? =some (Kr d[i]!)[c']!:=λc' hc' =>by unfold putCells;rw[Array.getElem?_mapIdx,H7 (show off+i*2+c' <c.size by omega)];simp only[aY,size_flatK];rw[if_pos l7,show off+i*2+c' -off=i*2+c' by omega,YD hi' hc'];rfl
 exact b6b hb (hc 0 l7) (hc 1 l7)
theorem a3b{P:Program}{g:Nat}{F:(Int×Int)×(Int×Int)->c5E}(h:dI P [] g ⟨[(true,.dat PTy),(true,.dat PTy)],[(false,.dat (.int .i64))],[],F⟩)
  (hF:∀x y,Cc x=true->Cc y=true->F (x,y)=some (ZM x y)) (blk off size:Nat) (w:World):Go.Proofs.CmpLays P g #[] Kr 2 cfP blk off size w:=by
 intro m os dk _ x y;generalize Go.Proofs.sortWorldK Kr 2 w blk off m dk os=W;have hrel:lI W.heap (λ_ _=>False) [(true,.dat PTy),(true,.dat PTy)] (x.1,y.1) [.agg (Kr x).toArray,.agg (Kr y).toArray] []:=
  ⟨_,Kr x,_,[],[],rfl,rfl,⟨_,rfl,rfl⟩,⟨⟨[_],[_],rfl,rfl,rfl⟩,rfl⟩,_,Kr y,rfl,⟨_,rfl,rfl⟩,⟨[_],[_],rfl,rfl,rfl⟩,rfl⟩
 refine(h W (λ_ _=>False) [] _ (x.1,y.1) (ZM x.1 y.1) (λ_ _ h=>h.elim) A7 A7 (λg u h=>by simp[dL]at h) hrel (by simp[UE]) (hF _ _ x.2 y.2)).mono ?_;rintro e w' ⟨v,ok',O',rs,os',B,rfl,hfr,_,_,_,_,⟨hl1,hrv⟩,_,hres⟩;obtain⟨v1,cs,hv,hcs,hrep,_⟩:=hres;have hcs:cs=[v1]:=hcs;have hrep:cs=[.int .i64 (ZM x.1 y.1)]:=hrep;subst hcs;obtain rfl:=(U6 hrep).1;cases os' with
 |cons a l=>exact absurd (congrArg List.length hv) (by have h1:rs.length=1:=hl1;rw[E8,h1];simp only[D7,I5];omega)|nil=>
  rw[D8]at hv;subst hv;subst hrv;refine⟨rfl,w'.drawn -W.drawn,w'.heap.extract W.heap.size w'.heap.size,?_⟩;have h1:=hfr.drawn rfl;have h2:w'.heap=W.heap++w'.heap.extract W.heap.size w'.heap.size:=by
   apply Array.ext_getElem?;intro b;rw[Array.getElem?_append];by_cases hb:b<W.heap.size
   .rw[if_pos hb];exact hfr.block b hb A7
   .rw[if_neg hb,Array.getElem?_extract];have:=hfr.size;by_cases hb2:b<w'.heap.size
    .rw[if_pos l7,show W.heap.size+(b -W.heap.size)=b by omega]
    .rw[if_neg l7,Array.getElem?_eq_none l7]
  cases w' with
  |mk h' t' d' o' u' =>
   cases W with
   |mk h0 t0 d0 o0 u0=>have e1:o' =o0:=hfr.os;have e2:t' =t0:=hfr.tape;have e3:u' =u0:=hfr.output;subst e1;subst e2;subst e3;simp only[grow,World.drewN];have h1:d0<=d' :=h1;congr 1;omega
theorem a1P{P:Program}{ρ:Go.Shelf.Ren}{gl:List (Nat×(t:Ty)×List t.den)}{g:Nat}{F:(Int×Int)×(Int×Int)->c5E}(L:Go.Proofs.SlLaysF0.n6 P ρ)
  (aE:∀w,(isAgg (ρ.t 24)).run P w= .ok true w) (zE:∀w,(Go.sizeOf (ρ.t 24)).run P w= .ok 2 w) (eg:∀args w,(callFunc g args).run P w= .ok (.enter g args) w)
  (h:dI P [] g ⟨[(true,.dat PTy),(true,.dat PTy)],[(false,.dat (.int .i64))],[],F⟩) (hF:∀x y,Cc x=true->Cc y=true->F (x,y)=some (ZM x y)):
  dI P gl (ρ.f 6) ⟨[(false,.ownb PTy),(false,.fn g [])],[],[(false,.own PTy)],λx=>Dv x.1 x.2⟩:=by
 intro w ok O vals x r hlt hnd hO _ hrel hdv hfn;obtain⟨v,cs,vs',O1,O2,rfl,rfl,h1,⟨l,v',hcs,hv,ha,rfl⟩,v2,cs2,rfl,h3,⟨vs,hfn2,hcap,rfl⟩⟩:=hrel;have h1:cs=[v]:=h1;rw[h1]at hcs;simp only[G5,and_true]at hcs;subst hcs;have h3:cs2=[v2]:=h3;rw[h3]at hfn2;obtain rfl:=(U6 hfn2).1;have hvs:vs=#[]:=by have:vs.toList=[]:=hcap;exact Array.toList_eq_nil_iff.1 this
 subst hvs;obtain⟨x,u⟩:=x;simp only[Dv]at hfn;split at hfn
 .rename_i hx;cases hfn;cases l with
  |st b=>cases ha|mp b=>cases ha.1|nil=>
   have ha:x=[]:=ha.1;subst ha;have hv:v= .slice none 0 0:=hv;subst hv;refine(Go.Proofs.AnyF.slices_SortFunc_none L none 0 (.func (.func g) #[] #[]) w).mono λe w' ⟨he,hw⟩=>?_;subst he;subst hw;exact⟨_,ok,[],[],[.slice none 0 0],[],rfl,Frame'.refl _ _,λ_ _ h=>h,λb t h=>⟨hlt b t h,.inl h⟩,A7,A7,⟨rfl,rfl⟩,⟨[],rfl,rfl,rfl⟩,
    ⟨_,_,rfl,rfl,wO.2 ⟨.nil,_,rfl,rfl,(by simp[arrOk,Ty.isEnt]),rfl⟩⟩⟩
  |arr blk off len cap sz=>
   have hmp:=YG x hx.2;have hH:=XP (d:=(Ny x hx.2).toArray) (by simpa using hmp) ha;obtain⟨_,rfl,rfl,hc,c,T,f,hb,hz,hs,hx'⟩:=ha;have hz:f=(0,0):=hz.elim id (λh=>nomatch h.1);subst hz;have hv:v= .slice (some ⟨blk,off,none⟩) x.length cap:=hv;subst hv;have hfree:=hO blk (by simp[Loc.blks]);have hsz:(Ny x hx.2).toArray.size=x.length:=by have:=congrArg List.length hmp;simpa using this
   have hC:=Go.Proofs.AnyQ.slices_SortFunc_total L 2 aE zE Kr (λ_=>rfl) (λx v hv=>by simp[Kr]at hv;rcases hv with rfl|rfl<;>rfl) cfP c5e g #[] blk off cap (Ny x hx.2).toArray w eg
    (a3b h hF _ _ _ _) hH hfree.2 (by rw[hsz];have:=hx.1;omega) (λa b h1 h2=>Subtype.ext (YP h1 h2))
   rw[hsz]at hC;refine hC.mono λe w' ⟨he,n,os,hw⟩=>?_;subst he;have hys:=a3w (Ny x hx.2);rw[hmp]at hys;have hlen:(x.mergeSort λx y=> !ltP y x).length=x.length:=List.length_mergeSort ..;have hpsz:(putRow id (Sort.ahead w n) blk off (flatK Kr 2 (((Ny x hx.2).toArray.toList.mergeSort λx y=> !Go.Proofs.ltOf cfP y x).toArray))).heap.size=w.heap.size:=by simp[Sort.ahead]
   have hw' :w' =Sort.grow (putRow id (Sort.ahead w n) blk off (flatK Kr 2 (((Ny x hx.2).toArray.toList.mergeSort λx y=> !Go.Proofs.ltOf cfP y x).toArray))) os:=hw;have hold:∀b,b<w.heap.size->w'.heap[b]? =(putRow id (Sort.ahead w n) blk off (flatK Kr 2 (((Ny x hx.2).toArray.toList.mergeSort λx y=> !Go.Proofs.ltOf cfP y x).toArray))).heap[b]?:=λb hb=>by rw[hw'];show(_++os)[b]? =_;rw[jK (by rw[hpsz];exact hb)]
   have hge:w.heap.size<=w'.heap.size:=by rw[hw'];simp[Sort.grow,Sort.ahead]
   have g1:=(hold blk hfree.2).trans (a4b hb _);have harr:=a8C (ok:=ok) (m:=nom) (cap:=cap) (ys:=x.mergeSort λx y=> !ltP y x) g1 (by simpa[Ty.size]using hs) (by simpa using hys) (by rw[hlen];exact hc);rw[hlen]at harr;refine⟨_,ok,[blk],[],[.slice (some ⟨blk,off,none⟩) x.length cap],[],rfl,⟨by rw[hw'];rfl,by rw[hw'];rfl,by rw[hw'];rfl,hge,λb h1 h2=>?_,λ_=>by rw[hw'];exact V5 _ _⟩,λ_ _ h=>h,
    λb t h=>⟨O9 (hlt b t h) hge,.inl h⟩,A7,λb hb=>?_,⟨rfl,rfl⟩,⟨[],rfl,rfl,rfl⟩,⟨_,_,rfl,rfl,wO.2 ⟨.arr blk off x.length cap 2,_,rfl,rfl,harr,rfl⟩⟩⟩
   .rw[hold b h1];exact a1R (λe=>h2 (by simp[e,Loc.blks])) _
   .have:b=blk:=by simpa using hb
    subst this;exact⟨hfree.1,O9 hfree.2 hge,.inr (by simp[Loc.blks])⟩
 .cases hfn
end Go.GP
