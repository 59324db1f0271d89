import Derived.Test.YtbnndcenjpgdpaaGreatDoorV1
import Derived.Laws.StructEq
import Derived.ChangeSame
import Derived.Carry
import Derived.SizedLaws
import Derived.Deep.DeepHandedRow
import Derived.Lib.LaidTab
import Derived.Lib.ItoaNum
import Derived.Lib.ItoaMem
import Derived.Lib.Repeat
import Derived.Sort.Grow
import Derived.Lib.SlicesCompact
import Derived.Lib.Bytealg
import Derived.Sort.Row
import Derived.Shelf.Strings.BuilderF
import Derived.Shelf.Strings.IndexAnyAll
import Derived.Lib.IndexMore
import Derived.Shelf.Strings.Split
import Derived.Lib.FrozenHead2
set_option linter.all false
namespace Go.GP
variable {q:Nat}{m:Mp}{a:Act}{w:World}{s:St}{wr:Rgs}{q':Nat}{n:Nat}
section
variable {X:Fx} {rt:Ret} {ρ:Type} {mE:Mp} {RetP:ρ->Exit->Act->World->Prop}
def Lf(e:Exit):Prop:=e= .ret\/(∃ch,e= .panic ch)\/∃l,e= .goto l
def Oh(X:Fx)(q:Nat)(m:Mp)(s:St)(wr:Rgs)(s' :St)(w' :Rgs)(a:Act)(w:World):Prop:=
 ∃m' ok',Rel X (CB*q) (CB*q) (aI s') m' ok' a w/\(∀k l,m k=some l->m' k=some l)/\(∀k,Wr wr k->Wr w' k)/\(∀k,¬Wr w' k->aI s' k=aI s k)
def a2m(X:Fx)(RetP:ρ->Exit->Act->World->Prop)(q:Nat)(m:Mp)(s:St)(wr:Rgs)(fl:Flow ρ)(s' :St)(w' :Rgs)(e:Exit)(a:Act)(w:World):Prop:=
 match fl with
 | .nm=>e= .normal/\Oh X q m s wr s' w' a w| .ex id=>e= .exit id/\Oh X q m s wr s' w' a w| .rt x=>Lf e/\RetP x e a w
def a4A(X:Fx)(RetP:ρ->Exit->Act->World->Prop)(q:Nat)(m:Mp)(s:St)(wr:Rgs){R:Type}(K:Flow ρ->St->Rgs->Option R)(r:R)(e:Exit)(a:Act)(w:World):Prop:=
 ∃fl s' w',K fl s' w' =some r/\a2m X RetP q m s wr fl s' w' e a w
structure DOk (X:Fx) (mE:Mp) (RetP:ρ->Exit->Act->World->Prop) (D:Den ρ) (c:Code) (n:Nat):Prop where
 run:∀{q:Nat} {an:Ann} {s:St} {wr:Rgs} {R:Type} {K:Flow ρ->St->Rgs->Option R} {r:R},D q an s wr R K=some r->
  ∀{m:Mp} {ok:Nat->Ty->Prop} {a:Act} {w:World},Rel X (CB*q) (CB*q) (aI s) m ok a w->(∀k l,mE k=some l->m k=some l)->
   c.wp X.P (a4A X RetP (q+n) m s wr K r) a w
def YS(X:Fx)(rt:Ret){ρ:Type}(ret:rt.den->ρ)(mE:Mp)(RetP:ρ->Exit->Act->World->Prop):Prop:=
 ∀{s:St} {R:Type} {K:rt.den->Option R} {r:R},(b0s X.E rt).runK s ([],[]) (λx _ _=>K x)=some r->
  ∃x,K x=some r/\∀{cl ch:Nat} {m:Mp} {ok:Nat->Ty->Prop} {a:Act} {w:World},Rel X cl ch (aI s) m ok a w->(∀k l,mE k=some l->m k=some l)->RetP (ret x) .ret a w
def YQ(X:Fx){ρ:Type}(pan:a6t ρ)(mE:Mp)(RetP:ρ->Exit->Act->World->Prop):Prop:=
 ∀{c:Int⊕Nat} {S S' :Sm} {tr:Tr} {x:ρ},c≠.inl 0->(pan c).eval S ([],[])=some (x,S',tr)->∀{cl ch:Nat} {m:Mp} {ok:Nat->Ty->Prop} {a:Act} {w:World},Rel X cl ch S m ok a w->(∀k l,mE k=some l->m k=some l)->RetP x (match c with| .inl c=> .panic (xn X.P c)| .inr l=> .goto l) a w
theorem a4M{p q:Nat}(h:p<=q):CB*p<=CB*q:=Nat.mul_le_mul_left _ h
theorem Rel.upq{p q:Nat}{S:Sm}{ok:Nat->Ty->Prop}(R:Rel X (CB*p) (CB*p) S m ok a w)(h:p<=q):Rel X (CB*q) (CB*q) S m ok a w:=
 (R.climb (a4M h)).chmono (a4M h)
theorem Oh.here{ok:Nat->Ty->Prop}(R:Rel X (CB*q) (CB*q) (aI s) m ok a w)(h:q<=q'):Oh X q' m s wr s wr a w:=
 ⟨m,ok,R.upq h,λ_ _ h=>h,λ_ h=>h,λ_ _=>rfl⟩
theorem Oh.up{s s' :St}{wr w' :Rgs}(h:Oh X q m s wr s' w' a w)(hq:q<=q'):Oh X q' m s wr s' w' a w:=by obtain⟨m',ok',R,h1,h2,h3⟩:=h;exact⟨m',ok',R.upq hq,h1,h2,h3⟩
theorem Oh.trans{m m1:Mp}{s s1 s2:St}{wr w1 w2:Rgs}(k1:∀k l,m k=some l->m1 k=some l)(k2:∀k,Wr wr k->Wr w1 k)(k3:∀k,¬Wr w1 k->aI s1 k=aI s k)
  (h:Oh X q m1 s1 w1 s2 w2 a w) (hq:q<=q'):Oh X q' m s wr s2 w2 a w:=by
 obtain⟨m',ok',R,h1,h2,h3⟩:=h;exact⟨m',ok',R.upq hq,λk l h=>h1 k l (k1 k l h),λk h=>h2 k (k2 k h),λk h=>(h3 k h).trans (k3 k λh' =>h (h2 k h'))⟩
theorem a2m.up{s s' :St}{wr w' :Rgs}{fl:Flow ρ}{e:Exit}(h:a2m X RetP q m s wr fl s' w' e a w)(hq:q<=q'):a2m X RetP q' m s wr fl s' w' e a w:=by
 cases fl with
 |nm=>exact⟨h.1,h.2.up hq⟩|ex id=>exact⟨h.1,h.2.up hq⟩|rt x=>exact h
theorem a2m.trans{m m1:Mp}{s s1 s2:St}{wr w1 w2:Rgs}{fl:Flow ρ}{e:Exit}(k1:∀k l,m k=some l->m1 k=some l)(k2:∀k,Wr wr k->Wr w1 k)(k3:∀k,¬Wr w1 k->aI s1 k=aI s k)
  (h:a2m X RetP q m1 s1 w1 fl s2 w2 e a w) (hq:q<=q'):a2m X RetP q' m s wr fl s2 w2 e a w:=by
 cases fl with
 |nm=>exact⟨h.1,h.2.trans k1 k2 k3 hq⟩|ex id=>exact⟨h.1,h.2.trans k1 k2 k3 hq⟩|rt x=>exact h
theorem KH(hq:q+1<=n){s s3:St}{wr w3:Rgs}{m m2:Mp}{ok2:Nat->Ty->Prop}
  (km:∀k l,m k=some l->m2 k=some l) (hout:∀k,¬Wr w3 k->aI s3 k=aI s k)
  (hR:∃m',Rel X (CB*(q+1)) (CB*(q+1)) (aI s3) m' ok2 a w/\(∀k l,m2 k=some l->m' k=some l)):Oh X n m s wr s3 (Un w3 wr) a w:=by
 obtain⟨m',R,k⟩:=hR;exact⟨m',ok2,R.upq hq,λk' l h=>k _ _ (km _ _ h),λk h=>YU.2 (.inr h),λk h=>hout k λh' =>h (YU.2 (.inl h'))⟩
theorem sF{core:Den ρ}{c:Code}(hc:DOk X mE RetP core c n):DOk X mE RetP (Gz core) c (n+1):=by
 refine⟨?_⟩;intro q an s wr R K r h m ok a w Rl hE;have plain:core (q+1) an s wr R K=some r->c.wp X.P (a4A X RetP (q+(n+1)) m s wr K r) a w:=λh=>by
  have:=hc.run h (Rl.upq (eQ q)) hE
  grind
 cases an
 case join rs nm an=>
  unfold Gz at h;obtain⟨x,h1,h2⟩:=Ee h;obtain⟨s3,w3,hk3,hrs,hout,hR⟩:=ru h2;refine wp_mono (hc.run h1 (Rl.upq (eQ q)) hE) ?_;rintro e a' w' ⟨fl,s',wr',hk,hfl⟩;cases fl with
  |ex id=>grind|rt x=>grind|nm=>obtain⟨rfl,m',ok',R1,k1,k2,k3⟩:=hfl;obtain⟨x',hx,hL⟩:=jS hk;cases hx;obtain⟨m2,ok2,O,R2,T2,hr,km⟩:=hL Rl R1 k1 k3;exact⟨.nm,s3,_,hk3,rfl,KH l9 km hout (hR (E5 _) R2 T2 hr)⟩
 case joinR rs nm an=>
  unfold Gz at h;obtain⟨o,h1,h2⟩:=Ee h;refine wp_mono (hc.run h1 (Rl.upq (eQ q)) hE) ?_;rintro e a' w' ⟨fl,s',wr',hk,hfl⟩;cases fl with
  |ex id=>grind|rt x=>cases hk;exact⟨.rt x,_,_,h2,hfl⟩|nm=>obtain⟨rfl,m',ok',R1,k1,k2,k3⟩:=hfl;obtain⟨x',hx,hL⟩:=jS hk;cases hx;obtain⟨s3,w3,hk3,hrs,hout,hR⟩:=ru (show enter q nm rs s x' (λs' w' =>K .nm s' (Un w' wr))=some r from h2);obtain⟨m2,ok2,O,R2,T2,hr,km⟩:=hL Rl R1 k1 k3;exact⟨.nm,s3,_,hk3,rfl,KH l9 km hout (hR (E5 _) R2 T2 hr)⟩
 all_goals exact plain h
theorem a3h{core:Den ρ}{c:Code}(hc:DOk X mE RetP core c n):DOk X mE RetP (a0V core) (.loop c) (2+n):=by
 refine⟨?_⟩;intro q an s wr R K r h m ok a w Rl hE;cases an
 case loop rs hd xid xs an=>
  unfold a0V at h;simp only at h;obtain⟨x0,hk0,hL0⟩:=jS (X:=X) h;obtain⟨m2,ok2,O,R2,T2,hr,km⟩:=hL0 Rl Rl (λ_ _ h=>h) (λ_ _=>rfl);obtain⟨y,hl,hen⟩:=Ee hk0;clear hk0 h hL0;obtain⟨s3,w3,hk3,hrs,hout,hR⟩:=ru (X:=X) hen;refine wp_loop_rounds au ?_;unfold fF at hl;have key:∀(f:Nat) {x:qJ hd} {m2:Mp} {ok2:Nat->Ty->Prop} {O:c5y} {a:Act} {w:World},
    wW (λx=>b0u core q rs hd xid xs an s x) f x=some y->
    Rel X (CB*q) (CB*q) (aI (DZ rs s)) m2 ok2 a w->Tk X (aI (DZ rs s)) m2 ok2 w O->a2o w.heap ok2 hd x a.tmps O->(∀k l,m k=some l->m2 k=some l)->
    Code.rounds X.P c (a4A X RetP (q+(2+n)) m s wr K r) f a w:=by
   intro f;induction f with
   |zero=>simp[wW]|succ f ih=>
    intro x m2 ok2 O a w h R2 T2 hr km;rw[rounds_succ];unfold wW at h;split at h
    .rename_i x' hf;obtain⟨s1,w1,hcore,_,hout1,hR1⟩:=ru (X:=X) (show enter q hd rs s x _=some _ from hf);obtain⟨m1,R1,km1⟩:=hR1 (E5 _) R2 T2 hr;refine wp_mono (hc.run hcore (R1.upq l9) (λk l h=>km1 _ _ (km _ _ (hE _ _ h)))) ?_;rintro e a' w' ⟨fl,s',wr',hk,hfl⟩;cases fl with
     |rt x=>grind|ex id=>
      simp only at hk;cases hb:Nat.beq id xid
      .simp_all
      .simp only[hb,cond_true]at hk;obtain⟨y',hx,_⟩:=jS (X:=X) hk
       grind
     |nm=>obtain⟨rfl,m',ok',R1',k1,k2,k3⟩:=hfl;obtain⟨y',hx,hL⟩:=jS (X:=X) hk;cases hx;obtain⟨m4,ok4,O4,R4,T4,hr4,km4⟩:=hL Rl R1' (λk l h=>k1 _ _ (km1 _ _ (km _ _ h))) (λk h=>(k3 k h).trans (hout1 k λh' =>h (k2 k h')));exact ih h R4 T4 hr4 km4
    .rename_i y' hf;cases h;obtain⟨s1,w1,hcore,_,hout1,hR1⟩:=ru (X:=X) (show enter q hd rs s x _=some _ from hf);obtain⟨m1,R1,km1⟩:=hR1 (E5 _) R2 T2 hr;refine wp_mono (hc.run hcore (R1.upq l9) (λk l h=>km1 _ _ (km _ _ (hE _ _ h)))) ?_;rintro e a' w' ⟨fl,s',wr',hk,hfl⟩;cases fl with
     |rt x=>grind|nm=>
      simp only at hk;obtain⟨y',hx,_⟩:=jS (X:=X) hk
      grind
     |ex id=>
      simp only at hk;cases hb:Nat.beq id xid
      .simp_all
      .simp only[hb,cond_true]at hk;have hid:=fZ hb;subst hid;obtain⟨rfl,m',ok',R1',k1,k2,k3⟩:=hfl;obtain⟨y',hx,hL⟩:=jS (X:=X) hk;cases hx;obtain⟨m4,ok4,O4,R4,T4,hr4,km4⟩:=hL Rl R1' (λk l h=>k1 _ _ (km1 _ _ (km _ _ h))) (λk h=>(k3 k h).trans (hout1 k λh' =>h (k2 k h')));exact⟨.ex id,s3,_,hk3,rfl,KH (q:=q+1) l9 km4 hout (hR (a4M (eQ q)) R4 T4 hr4)⟩
    grind
  grind
 case loopR rs hd xid xs an=>
  unfold a0V at h;simp only at h;obtain⟨x0,hk0,hL0⟩:=jS (X:=X) h;obtain⟨m2,ok2,O,R2,T2,hr,km⟩:=hL0 Rl Rl (λ_ _ h=>h) (λ_ _=>rfl);obtain⟨y,hl,hen⟩:=Ee hk0;clear hk0 h hL0;refine wp_loop_rounds au ?_;unfold X5 at hl;have key:∀(f:Nat) {x:qJ hd} {m2:Mp} {ok2:Nat->Ty->Prop} {O:c5y} {a:Act} {w:World},
    fQ (λx=>b0v core q rs hd xid xs an s x) f x=some y->
    Rel X (CB*q) (CB*q) (aI (DZ rs s)) m2 ok2 a w->Tk X (aI (DZ rs s)) m2 ok2 w O->a2o w.heap ok2 hd x a.tmps O->(∀k l,m k=some l->m2 k=some l)->
    Code.rounds X.P c (a4A X RetP (q+(2+n)) m s wr K r) f a w:=by
   intro f;induction f with
   |zero=>simp[fQ]|succ f ih=>
    intro x m2 ok2 O a w h R2 T2 hr km;rw[rounds_succ];unfold fQ at h;split at h
    .rename_i x' hf;obtain⟨s1,w1,hcore,_,hout1,hR1⟩:=ru (X:=X) (show enter q hd rs s x _=some _ from hf);obtain⟨m1,R1,km1⟩:=hR1 (E5 _) R2 T2 hr;refine wp_mono (hc.run hcore (R1.upq l9) (λk l h=>km1 _ _ (km _ _ (hE _ _ h)))) ?_;rintro e a' w' ⟨fl,s',wr',hk,hfl⟩;cases fl with
     |rt x=>grind|ex id=>
      simp only at hk;cases hb:Nat.beq id xid
      .simp_all
      .simp only[hb,cond_true]at hk;obtain⟨y',hx,_⟩:=jS (X:=X) hk
       grind
     |nm=>obtain⟨rfl,m',ok',R1',k1,k2,k3⟩:=hfl;obtain⟨y',hx,hL⟩:=jS (X:=X) hk;cases hx;obtain⟨m4,ok4,O4,R4,T4,hr4,km4⟩:=hL Rl R1' (λk l h=>k1 _ _ (km1 _ _ (km _ _ h))) (λk h=>(k3 k h).trans (hout1 k λh' =>h (k2 k h')));exact ih h R4 T4 hr4 km4
    .rename_i y' hf;cases h;obtain⟨s3,w3,hk3,hrs,hout,hR⟩:=ru (X:=X) (show enter (q+1) xs rs s y' (λs' w' =>K (.ex xid) s' (Un w' wr))=some r from hen);obtain⟨s1,w1,hcore,_,hout1,hR1⟩:=ru (X:=X) (show enter q hd rs s x _=some _ from hf);obtain⟨m1,R1,km1⟩:=hR1 (E5 _) R2 T2 hr;refine wp_mono (hc.run hcore (R1.upq l9) (λk l h=>km1 _ _ (km _ _ (hE _ _ h)))) ?_;rintro e a' w' ⟨fl,s',wr',hk,hfl⟩;cases fl with
     |rt x=>grind|nm=>
      simp only at hk;obtain⟨y',hx,_⟩:=jS (X:=X) hk
      grind
     |ex id=>
      simp only at hk;cases hb:Nat.beq id xid
      .simp_all
      .simp only[hb,cond_true]at hk;have hid:=fZ hb;subst hid;obtain⟨rfl,m',ok',R1',k1,k2,k3⟩:=hfl;obtain⟨y',hx,hL⟩:=jS (X:=X) hk;cases hx;obtain⟨m4,ok4,O4,R4,T4,hr4,km4⟩:=hL Rl R1' (λk l h=>k1 _ _ (km1 _ _ (km _ _ h))) (λk h=>(k3 k h).trans (hout1 k λh' =>h (k2 k h')));exact⟨.ex id,s3,_,hk3,rfl,KH (q:=q+1) l9 km4 hout (hR (a4M (eQ q)) R4 T4 hr4)⟩
    .rename_i r' hf;cases h;obtain⟨s1,w1,hcore,_,hout1,hR1⟩:=ru (X:=X) (show enter q hd rs s x _=some _ from hf);obtain⟨m1,R1,km1⟩:=hR1 (E5 _) R2 T2 hr;refine wp_mono (hc.run hcore (R1.upq l9) (λk l h=>km1 _ _ (km _ _ (hE _ _ h)))) ?_;rintro e a' w' ⟨fl,s',wr',hk,hfl⟩;cases fl with
     |rt x=>cases hk;obtain⟨hl,hp⟩:=hfl;rcases hl with rfl|⟨ch,rfl⟩|⟨ch,rfl⟩<;>exact⟨.rt r',[],[],hen,by simp[Lf],hp⟩
     |nm=>
      simp only at hk;obtain⟨y',hx,_⟩:=jS (X:=X) hk
      grind
     |ex id=>
      simp only at hk;cases hb:Nat.beq id xid
      .simp_all
      .simp only[hb,cond_true]at hk;obtain⟨y',hx,_⟩:=jS (X:=X) hk
       grind
    grind
  grind
 all_goals simp_all [a0V]
theorem Au(H:FxOk X){ret:rt.den->ρ}{pan:a6t ρ}(hret:YS X rt ret mE RetP)(hpan:YQ X pan mE RetP):∀c:Code,DOk X mE RetP (FP X.E rt ret pan c) c (zt c)
 | .skip=>sF ⟨λ{q an s wr R K r} h {m ok a w} Rl hE=>wp_skip ⟨.nm,s,wr,h,rfl,Oh.here Rl l9⟩⟩| .label l=>sF ⟨λ{q an s wr R K r} h {m ok a w} Rl hE=>wp_label ⟨.nm,s,wr,h,rfl,Oh.here Rl l9⟩⟩| .exit id=>sF ⟨λ{q an s wr R K r} h {m ok a w} Rl hE=>wp_exit ⟨.ex id,s,wr,h,rfl,Oh.here Rl l9⟩⟩| .ret=>sF ⟨λ{q an s wr R K r} h {m ok a w} Rl hE=>by obtain⟨x,hk,hp⟩:=hret h;exact wp_ret ⟨.rt (ret x),[],[],hk,.inl rfl,hp Rl hE⟩⟩
 | .region id ops draw=>sF ⟨λ{q an s wr R K r} h {m ok a w} Rl hE=>by
  rcases f_ H h with⟨c,s',ws,hk,hR⟩|⟨s',w',hk,⟨t,rfl,hfr⟩,hR⟩
  case inl=>
   obtain⟨x,s3,tr,he,hk⟩:=kV hk;cases hd:Oq tr.1 ws
   .simp_all
   simp only[hd,cond_true]at hk;have hd:=xw hd;refine hR (Rl.chmono (bu _ _)) λhz S3 m' ok' a' w2 R' k1 k2 k3=>?_;obtain⟨T',g1,_⟩:=rX he S3 (λz hzr=>k3 z (hd z hzr));exact⟨.rt x,[],[],hk,.inr (.inl ⟨_,rfl⟩),hpan (λe=>hz (Sum.inl.inj e)) g1 R' (λk l h=>k1 _ _ (hE _ _ h))⟩
  refine hR (Rl.chmono (bu _ _)) λm' ok' a' w2 R' k1 k2=>⟨.nm,s',_,hk,rfl,m',ok',?_,k1,λk h=>PZ.2 (.inr h),λk h=>hfr k λx hx hkx=>h (PZ.2 (.inl ⟨x,hx,hkx⟩))⟩;have e:CB*(q+1)=CB*q+CB:=by grind
  exact R'.climb (bu _ _)⟩
 | .seq x y=>by
  have hx:=Au H hret hpan x;have hy:=Au H hret hpan y;have:=sF (c:=.seq x y) (n:=zt x+zt y) (core:=λq a s w R K=>FP X.E rt ret pan x q a.l s w R λfl s' w' =>match fl with
   | .nm=>FP X.E rt ret pan y (q+zt x) a.r s' w' R K| .ex id=>K (.ex id) s' w'
   | .rt r=>K (.rt r) s' w') (DOk.mk λ{q an s wr R K r} h {m ok a w} Rl hE=>by
    refine wp_seq (wp_mono (hx.run h Rl hE) ?_);rintro e a' w' ⟨fl,s',wr',hk,hfl⟩;cases fl with
    |nm=>obtain⟨rfl,m',ok',R1,k1,k2,k3⟩:=hfl;refine wp_mono (hy.run hk R1 (λk l h=>k1 _ _ (hE _ _ h))) ?_;rintro e a2 w2 ⟨fl,s2,wr2,hk2,hfl2⟩;exact⟨fl,s2,wr2,hk2,hfl2.trans k1 k2 k3 l9⟩
    |ex id=>obtain⟨rfl,hs⟩:=hfl;exact⟨.ex id,s',wr',hk,rfl,hs.up l9⟩
    |rt x=>obtain⟨hl,hs⟩:=hfl;rcases hl with rfl|⟨ch,rfl⟩|⟨ch,rfl⟩<;>exact⟨.rt x,s',wr',hk,by simp[Lf],hs⟩)
  rw[show zt (.seq x y)=zt x+zt y+1 by grind [zt]];exact this
 | .block id x=>by
  have hx:=Au H hret hpan x;have:=sF (c:=.block id x) (core:=λq a s w R K=>FP X.E rt ret pan x q a.l s w R λfl s' w' =>match fl with
   | .nm=>K .nm s' w'| .ex j=>bif Nat.beq j id then K .nm s' w' else K (.ex j) s' w'
   | .rt r=>K (.rt r) s' w') (DOk.mk λ{q an s wr R K r} h {m ok a w} Rl hE=>by
    refine wp_block (wp_mono (hx.run h Rl hE) ?_);rintro e a' w' ⟨fl,s',wr',hk,hfl⟩;cases fl with
    |nm=>obtain⟨rfl,hs⟩:=hfl;exact⟨.nm,s',wr',hk,rfl,hs⟩
    |ex j=>
     obtain⟨rfl,hs⟩:=hfl;cases hb:Nat.beq j id
     .simp only[hb,cond_false]at hk;have hne:j≠id:=λe=>by simp_all
      simp only[Exit.inBlock,hne,if_false];exact⟨.ex j,s',wr',hk,rfl,hs⟩
     .simp only[hb,cond_true]at hk;have:=fZ hb;subst this;simp only[Exit.inBlock,if_true];exact⟨.nm,s',wr',hk,rfl,hs⟩
    |rt x=>obtain⟨hl,hs⟩:=hfl;rcases hl with rfl|⟨ch,rfl⟩|⟨ch,rfl⟩<;>exact⟨.rt x,s',wr',hk,by simp[Lf],hs⟩)
  rw[show zt (.block id x)=zt x+1 by grind [zt]];exact this
 | .cond c x y=>by
  have hx:=Au H hret hpan x;have hy:=Au H hret hpan y;have:=sF (X:=X) (c:=.cond c x y) (n:=zt x+zt y) (core:=λq a s w R K=>(qI c λv=>Cmd.ret v:Cmd V).runK s ([],[]) λv s' _=>match v with
   | .b t=>l7 t (FP X.E rt ret pan x q a.l s' w R K) (FP X.E rt ret pan y (q+zt x) a.r s' w R K)
   |_=>none) (DOk.mk λ{q an s wr R K r} h {m ok a w} Rl hE=>by
    obtain⟨v,s',tr,he,hk⟩:=kV h;obtain⟨hv,hs⟩:=qY (Z8 Rl (K:=λv=>Cmd.ret v) (Q:=λv S' =>kU ⟨w.heap,ok,m⟩ v (a.eval c)/\S' =aI s) λv hv=>⟨hv,rfl⟩) he;cases v<;>try (simp at hk)
    case b t=>
     have R1:Rel X (CB*q) (CB*q) (aI s') m ok a w:=by simp_all
     refine wp_cond_split (QK hv) (λht=>?_) (λht=>?_)
     .subst ht;refine wp_mono (hx.run (show FP X.E rt ret pan x q an.l s' wr R K=some r from hk) R1 hE) ?_;rintro e a2 w2 ⟨fl,s2,wr2,hk2,hfl2⟩;exact⟨fl,s2,wr2,hk2,hfl2.trans (λ_ _ h=>h) (λ_ h=>h) (λk _=>by rw[hs]) l9⟩
     .subst ht;refine wp_mono (hy.run (show FP X.E rt ret pan y (q+zt x) an.r s' wr R K=some r from hk) (R1.upq l9) hE) ?_;rintro e a2 w2 ⟨fl,s2,wr2,hk2,hfl2⟩;exact⟨fl,s2,wr2,hk2,hfl2.trans (λ_ _ h=>h) (λ_ h=>h) (λk _=>by rw[hs]) l9⟩)
  rw[show zt (.cond c x y)=zt x+zt y+1 by grind [zt]];exact this
 | .loop x=>by have hx:=Au H hret hpan x;have:=sF (a3h hx);rw[show zt (.loop x)=2+zt x+1 by grind [zt]];exact this| .goto l=>sF ⟨λ{q an s wr R K r} h {m ok a w} Rl hE=>by obtain⟨x,s3,tr,he,hk⟩:=kV h;exact wp_goto ⟨.rt x,[],[],hk,.inr (.inr ⟨_,rfl⟩),hpan (λe=>by grind) he Rl hE⟩⟩| .scope x=>⟨λh=>by grind [FP]⟩| .rangeFunc ..=>⟨λh=>by grind [FP]⟩| .refuse ..=>⟨λh=>by grind [FP]⟩
end
end Go.GP
namespace Go.GP
structure EnvOk (P:Program) (E:Env):Prop where
 nt:64*E.nt<=999936
 tt:∀t i,bZ E.tt t=some i->TiOk P t i
 fs:∀p∈E.fs,a6s P E.gl p
 eqs:∀t sh,bZ E.eqs t=some sh->KE P t sh
 ms:∀p∈E.ms,YP P p.1.1 p.1.2 p.2.1 p.2.2
 fn:∀p∈E.fs,∃fn,P.funcs[a6K p.1]? =some fn/\fn.body.isSome=true/\(fn.name== "runtime.NumGoroutine")=false
 pl:∀p∈E.pl,PlP P p.1 p.2.1 p.2.2
theorem PD{C:Cx} :∀{a:List V} {xs:c5x},jk C a xs->a.length=xs.length
 |[],_,h=>by simp only[jk]at h;simp[h]|c::a,_,⟨v,r,e,h1,h2⟩=>by subst e;simp[PD h2]
def QP(tmps:Array Value):ResultVar->Sem Value
 | .tmp t=>pure (tmps.getD t undef)| .cell a t=>do loadVar t (←asAddr (tmps.getD a undef))
def a6q(h:Array Obj)(tm:Nat->Value):List (Nat×MG)->c5x->c5y->Prop
 |[],os,B=>os=[]/\B=[]
 |(n,md)::ns,os,B=>(LC md=true->∃os',os=tm n::os' /\a6q h tm ns os' B)/\(LC md=false->(∃b arr T os' B',tm n= .pointer (some ⟨b,0,none⟩)/\h[b]? =some (.cells arr T (0,0))/\os= .agg arr::os' /\B=b::B' /\a6q h tm ns os' B')\/
  (∃t b arr T os' B',tm n= .iface t (.pointer (some ⟨b,0,none⟩))/\h[b]? =some (.cells arr T (0,0))/\os= .agg arr::os' /\B=b::B' /\a6q h tm ns os' B')\/
  (∃l os',Loc.view l none (tm n)/\os=tm n::os' /\a6q h tm ns os' B))
def Ue(h:Array Obj)(ok:Nat->Ty->Prop):List MG->c5x->Prop
 |[],vs=>vs=[]|m::ms,vs=>∃v r cs x O,vs=v::r/\Xr m.1 v cs/\lS h ok m.2 none x cs O/\Ue h ok ms r
theorem XE{h:Array Obj}{ok:Nat->Ty->Prop} :∀{ms:List MG} {x:Y3 ms} {vs:c5x} {O:c5y},nI h ok ms x vs O->Ue h ok ms vs
 |[],_,_,_,e=>e.1|[m],x,_,_,⟨v,cs,e,hg,hr⟩=>⟨v,[],cs,x,_,e,hg,hr,rfl⟩|m::m' ::r,x,_,_,⟨v,cs,vs',O1,O2,e,eo,hg,h1,h2⟩=>⟨v,vs',cs,x.1,O1,e,hg,h1,XE h2⟩
section
variable {X:Fx} {cl ch:Nat} {m:Mp} {a:Act} {w:World}
theorem JW{α:Type}{Q:α->Sm->Prop}(H:FxOk X){S:Sm}{ok:Nat->Ty->Prop}(R:Rel X cl ch S m ok a w):∀(l:List ResultVar) {K:List V->Cmd α}
  (hK:∀vs rvs,jk ⟨w.heap,ok,m⟩ vs rvs->rvs.length=l.length->(l.mapM (QP a.tmps)).run X.P w= .ok rvs w->(K vs).post S Q),(QO X.E l K).post S Q
 |[],K,hK=>hK [] [] rfl rfl x8
 | .tmp t::l,K,hK=>by unfold QO;refine aX λhb=>X3 ?_;refine JW H R l λvs rvs hr hl hrun=>?_;refine hK _ (a.tmps.getD t undef::rvs) ⟨_,_,rfl,R.slot t (EY hb),hr⟩ (by simp[hl]) ?_;simp only[List.mapM_cons,J9,QP,jQ,L8,hrun]
 | .cell p t::l,K,hK=>by unfold QO;refine aX λhb=>X3 ?_;refine AQ H R (R.slot p (EY hb)) λv u ad hv hx hload=>?_;refine JW H R l λvs rvs hr hl hrun=>?_;refine hK _ (u::rvs) ⟨_,_,rfl,hv,hr⟩ (by simp[hl]) ?_;simp only[List.mapM_cons,J9,QP,hx,asAddr,jQ,L8,hload,hrun]
theorem BI{α:Type}{Q:α->Sm->Prop} :∀(ns:List (Nat×MG)) {S:Sm} {ok:Nat->Ty->Prop} {T:c5y} {K:List V->Cmd α} (R:Rel X cl ch S m ok a w) (hT:Tk X S m ok w T)
  (hK:∀S' ws os B,Rel X cl ch S' m ok a w->Tk X S' m ok w (T++B)->a6q w.heap (λn=>a.tmps.getD n Go.undef) ns os B->jk ⟨w.heap,ok,m⟩ ws os->(K ws).post S' Q),(NG ns K).post S Q
 |[],S,ok,T,K,R,hT,hK=>hK S [] [] [] R (by simpa using hT) ⟨rfl,rfl⟩ rfl|(n,md)::ns,S,ok,T,K,R,hT,hK=>by
  unfold NG;cases hmb:LC md
  case true=>
   simp only[cond_true];refine U5 λhb=>X3 ?_;have hsl:=R.slot n (by rw[bK]at hb;exact hb);split<;>try trivial
   rename_i bx o hSn;rw[hSn]at hsl;refine BI ns R hT λS' ws os B R' T' ho hw=>?_;exact hK S' _ (a.tmps.getD n Go.undef::os) B R' T' ⟨λ_=>⟨os,rfl,ho⟩,λh=>by rw[hmb]at h;cases h⟩ ⟨_,_,rfl,hsl,hw⟩
  simp only[cond_false];refine U5 λhb=>X3 ?_;have hsl:=R.slot n (by rw[bK]at hb;exact hb);split<;>try trivial
  .rename_i bx hSn;rw[hSn]at hsl;obtain⟨blk,hm,hv⟩:=hsl;refine X3 ?_;split<;>try trivial
   rename_i cs hS;obtain⟨blk',arr,Ty,hm',hh,hl⟩:=R.own_cells hS;simp only at hm;rw[hm]at hm';cases hm';refine ed ?_;have hT1:Tk X (upd S (U4+bx) .dead) m ok w (T++[blk]):=hT.kill R bx (λb hb=>by simp at hb;subst hb;simp[N8,hS,hm]) x8;refine BI ns (R.kill bx) hT1 λS' ws os B R' T' ho hw=>?_;exact hK S' _ (.agg arr::os) (blk::B) R' (by simpa using T') ⟨(λh=>by rw[hmb]at h;cases h),λ_=> .inl ⟨blk,arr,Ty,os,B,hv,hh,rfl,rfl,ho⟩⟩ ⟨_,_,rfl,⟨arr,rfl,hl⟩,hw⟩
  .rename_i t u hSn;rw[hSn]at hsl;obtain⟨z,hz,_,hsl⟩:=hsl;split<;>try trivial
   rename_i bx;obtain⟨blk,hm,hv⟩:=hsl;refine X3 ?_;split<;>try trivial
   rename_i cs hS;obtain⟨blk',arr,Ty,hm',hh,hl⟩:=R.own_cells hS;simp only at hm;rw[hm]at hm';cases hm';refine ed ?_;have hT1:Tk X (upd S (U4+bx) .dead) m ok w (T++[blk]):=hT.kill R bx (λb hb=>by simp at hb;subst hb;simp[N8,hS,hm]) x8;refine BI ns (R.kill bx) hT1 λS' ws os B R' T' ho hw=>?_;exact hK S' _ (.agg arr::os) (blk::B) R' (by simpa using T') ⟨(λh=>by rw[hmb]at h;cases h),λ_=> .inr (.inl ⟨t,blk,arr,Ty,os,B,hv▸hz,hh,rfl,rfl,ho⟩)⟩ ⟨_,_,rfl,⟨arr,rfl,hl⟩,hw⟩
  .rename_i bx hSn;rw[hSn]at hsl;obtain⟨l,hm,hv⟩:=hsl;refine BI ns R hT λS' ws os B R' T' ho hw=>?_;exact hK S' _ (a.tmps.getD n Go.undef::os) B R' T' ⟨(λh=>by rw[hmb]at h;cases h),λ_=> .inr (.inr ⟨l,os,hv,rfl,ho⟩)⟩ ⟨_,_,rfl,⟨l,hm,hv⟩,hw⟩
end
theorem Oa{l:Loc}{v:Value}(h:l.view none v):(∃a n c,v= .slice a n c)\/∃b,v= .map (some b):=by
 cases l with
 |nil=>exact .inl ⟨_,_,_,h⟩|st b=>cases h|mp b=>exact .inr ⟨_,h⟩|arr blk off len cap sz=>exact .inl ⟨_,_,_,h⟩
theorem a7s{h h0:Array Obj}{ok0:Nat->Ty->Prop}{tm:Nat->Value} :∀(ms:List MG) (k:Nat) {ns:List (Nat×MG)} {vals:c5x} {os:c5x} {B:c5y},EI ms ns=true->ns.map (·.1)=mV ms k->
  Ue h0 ok0 ms vals->(∀i v,k+i∈mV ms k->vals[i]? =some v->tm (k+i)=v)->a6q h tm ns os B->rV h ms vals os B:=by
 have tail:∀{m:List MG} {k:Nat} {v:Value} {r:c5x},(∀i u,k+i∈mV m (k+1)->(v::r)[i]? =some u->tm (k+i)=u)->∀i u,(k+1)+i∈mV m (k+1)->r[i]? =some u->tm ((k+1)+i)=u:=by intro m k v r h i u hi hu;have e:k+(i+1)=k+1+i:=l9;have:=h (i+1) u (by rw[e];exact hi) (by simpa using hu);rwa[e]at this
 have tail2:∀{m:List MG} {k:Nat} {v:Value} {r:c5x},(∀i u,k+i∈k::mV m (k+1)->(v::r)[i]? =some u->tm (k+i)=u)->(tm k=v)/\∀i u,(k+1)+i∈mV m (k+1)->r[i]? =some u->tm ((k+1)+i)=u:=λh=>
  ⟨by have:=h 0 _ x8 rfl;simpa using this,tail (λi u hi hu=>h i u (U9 _ hi) hu)⟩
 have hd:∀{ns:List (Nat×MG)} {k:Nat} {l:c5y},ns.map (·.1)=k::l->∃m0 ns',ns=(k,m0)::ns' /\ns'.map (·.1)=l:=by
  intro ns k l h;cases ns with
  |nil=>cases h|cons n0 ns=>obtain⟨n0,m0⟩:=n0;simp only[aB,H8]at h;obtain⟨rfl,h⟩:=h;exact⟨m0,ns,rfl,h⟩
 intro ms;induction ms with
 |nil=>
  intro k ns vals os B hsb hn hs ht ho;simp only[Ue]at hs;subst hs;cases ns with
  |nil=>exact ho|cons _ _=>cases hn
 |cons m ms ih=>
  intro k ns vals os B hsb hn hs ht ho;obtain⟨v,r,cs,x,O,rfl,hg,hr,hs⟩:=hs;obtain⟨g,m⟩:=m;cases m
  case box md=>
   obtain⟨m0,ns,rfl,hn1⟩:=hd hn;have hsb:(bif LC m0 then false else EI ms ns)=true:=hsb;cases hmb:LC m0<;>rw[hmb]at hsb<;>try (cases hsb;done)
   obtain⟨htv,ht⟩:=tail2 ht;have ho:=ho.2 hmb;obtain⟨blk,arr,T,O',hc,_⟩:=hr;have hv:v= .pointer (some ⟨blk,0,none⟩)\/∃ar,v= .agg ar:=by
    cases g
    .left;have hg:cs=[v]:=hg;rw[hg]at hc;simpa using hc
    .right;obtain⟨ar,e,_⟩:=hg;exact⟨ar,e⟩
   rcases ho with⟨b,arr,T,os',B',e,hh,e1,e2,ho'⟩|⟨t,b,arr,T,os',B',e,_⟩|⟨l,os',e,_⟩
   .exact⟨b,arr,T,os',B',htv.symm.trans e,hh,e1,e2,ih (k+1) hsb hn1 hs ht ho'⟩
   .rw[htv]at e;rcases hv with rfl|⟨_,rfl⟩<;>cases e
   .rcases Oa e with⟨_,_,_,e⟩|⟨_,e⟩<;>rw[htv]at e<;>rcases hv with rfl|⟨_,rfl⟩<;>cases e
  case ownb u=>
   obtain⟨m0,ns,rfl,hn1⟩:=hd hn;have hsb:(bif LC m0 then false else EI ms ns)=true:=hsb;cases hmb:LC m0<;>rw[hmb]at hsb<;>try (cases hsb;done)
   obtain⟨htv,ht⟩:=tail2 ht;have ho:=ho.2 hmb;obtain⟨l,v',hc,hvv,_⟩:=hr;have hv:((∃a n c,v= .slice a n c)\/∃b,v= .map (some b))\/∃ar,v= .agg ar:=by
    cases g
    .left;have hg:cs=[v]:=hg;rw[hg]at hc;simp only[H8,and_true]at hc;subst hc;exact Oa hvv
    .right;obtain⟨ar,e,_⟩:=hg;exact⟨ar,e⟩
   rcases ho with⟨b,arr,T,os',B',e,_⟩|⟨t,b,arr,T,os',B',e,_⟩|⟨l,os',e,rfl,ho'⟩
   .rw[htv]at e;rcases hv with(⟨_,_,_,rfl⟩|⟨_,rfl⟩)|⟨_,rfl⟩<;>cases e
   .rw[htv]at e;rcases hv with(⟨_,_,_,rfl⟩|⟨_,rfl⟩)|⟨_,rfl⟩<;>cases e
   .rw[htv];exact⟨os',rfl,ih (k+1) hsb hn1 hs ht ho'⟩
  case ifc t md=>
   cases md
   case box md=>
    obtain⟨m0,ns,rfl,hn1⟩:=hd hn;have hsb:(bif LC m0 then false else EI ms ns)=true:=hsb;cases hmb:LC m0<;>rw[hmb]at hsb<;>try (cases hsb;done)
    obtain⟨htv,ht⟩:=tail2 ht;have ho:=ho.2 hmb;obtain⟨u,hc,blk,arr,T,O',hu,_⟩:=hr;have hv:v= .iface t u\/∃ar,v= .agg ar:=by
     cases g
     .left;have hg:cs=[v]:=hg;rw[hg]at hc;simpa using hc
     .right;obtain⟨ar,e,_⟩:=hg;exact⟨ar,e⟩
    rcases ho with⟨b,arr,T,os',B',e,_⟩|⟨t,b,arr,T,os',B',e,hh,e1,e2,ho'⟩|⟨l,os',e,_⟩
    .rw[htv]at e;rcases hv with rfl|⟨_,rfl⟩<;>cases e
    .exact⟨t,b,arr,T,os',B',htv.symm.trans e,hh,e1,e2,ih (k+1) hsb hn1 hs ht ho'⟩
    .rcases Oa e with⟨_,_,_,e⟩|⟨_,e⟩<;>rw[htv]at e<;>rcases hv with rfl|⟨_,rfl⟩<;>cases e
   all_goals
    exact ih (k+1) hsb hn hs (tail ht) ho
  case mbx=>
   obtain⟨m0,ns,rfl,hn1⟩:=hd hn;have hsb:(bif LC m0 then EI ms ns else false)=true:=hsb;cases hmb:LC m0<;>rw[hmb]at hsb<;>try (cases hsb;done)
   obtain⟨htv,ht⟩:=tail2 ht;obtain⟨os',rfl,ho1⟩:=ho.1 hmb;rw[htv];exact⟨os',rfl,ih (k+1) hsb hn1 hs ht ho1⟩
  case sit=>cases hsb
  all_goals exact ih (k+1) hsb hn hs (tail ht) ho
theorem a2a:∀{a b:c5y},a7O a b=true->∀n∈a,n∈b
 |[],_,_,_,h=>by cases h|a::r,b,h,n,hn=>by
  unfold a7O at h;cases hb:Ea a b<;>rw[hb]at h
  .cases h
  .rcases D7.1 hn with rfl|hn
   .exact Ym hb
   .exact a2a h n hn
theorem RV:∀{ms:List MG} {k n:Nat},n∈mV ms k->k<=n/\n<k+ms.length
 |[],k,n,h=>by cases h|(g,m)::ms,k,n,h=>by
  have key:n∈k::mV ms (k+1)->k<=n/\n<k+(ms.length+1):=λh=>by
   rcases D7.1 h with rfl|h
   .omega
   .have:=RV h;omega
  cases m
  case box md=>exact key h
  case ownb u=>exact key h
  case mbx=>exact key h
  case ifc t md=>
   cases md
   case box md=>exact key h
   all_goals exact key (U9 _ h)
  all_goals exact key (U9 _ h)
variable {P:Program}{fn:Func}
theorem a1H{w:World}{tmps:Array Value}{rvs:c5x}(h:(fn.results.toList.mapM (QP tmps)).run P w= .ok rvs w):
  ∃v,(results fn tmps).run P w= .ok v w/\SQ rvs.length v rvs:=by
 have hm:(fn.results.mapM (QP tmps)).run P w= .ok rvs.toArray w:=by rw[Array.mapM_eq_mapM_toList];simp[h]
 have e:results fn tmps=(do let vs ←fn.results.mapM (QP tmps);pure (if h:vs.size=1 then vs[0]else .tuple vs):Sem Value):=by unfold results;congr 1
 rw[e,J9,hm];clear h hm e;rcases rvs with _|⟨x,_|⟨y,r⟩⟩
 .exact⟨.tuple #[],rfl,rfl,rfl⟩
 .exact⟨x,rfl,rfl,rfl⟩
 .exact⟨.tuple (x::y::r).toArray,x8,rfl,rfl⟩
section
variable {X:Fx} {cl ch:Nat} {m:Mp} {ok:Nat->Ty->Prop} {a:Act} {w:World}
theorem a6F{Q:Unit->Sm->Prop}{xall:c5x}(hall:∀k p,xall[k]? =some p->a.tmps.getD k Go.undef=p):∀(ms:List MG) (n:Nat) {xs:c5x} {S:Sm} {K:Cmd Unit}
  (R:Rel X cl ch S m ok a w) (hxs:∀i v,xs[i]? =some v->a.tmps.getD (n+i) Go.undef=v) (hl:ms.length=xs.length) (hd:U_ w.heap xall ms xs)
  (hK:∀S',Rel X cl ch S' m ok a w->K.post S' Q),(a0t ms n K).post S Q:=by
 intro ms;induction ms with
 |nil=>intro n xs S K R hxs hl hd hK;exact hK S R|cons md ms ih=>
  intro n xs S K R hxs hl hd hK;obtain⟨g,md⟩:=md;cases xs with
  |nil=>cases hl|cons x xs=>
   have hxs' :∀i v,xs[i]? =some v->a.tmps.getD (n+1+i) Go.undef=v:=λi v h=>by have:=hxs (i+1) v (by simpa using h);rwa[show n+(i+1)=n+1+i by omega]at this
   have hl' :ms.length=xs.length:=by simpa using hl
   cases md
   case dv k off sz fo=>obtain⟨⟨p,hp,hpa⟩,hd⟩:=hd;unfold a0t;refine U5 λhb=>X3 ?_;simp only[D5]at hb;have hk:=EY hb.1;have hn:=EY hb.2;have hsl:=R.slot k hk;rw[hall k p hp]at hsl;refine NH R hsl λr y hr hy=>ed ?_;have hx:=hxs 0 x rfl;rw[jO]at hx;have:y=x:=hy.det hpa;subst this;exact ih (n+1) (R.slotV hn (by rw[hx];exact hr)) hxs' hl' hd hK
   all_goals
    unfold a0t;exact ih (n+1) R hxs' hl' hd hK
end
theorem a4p{X:Fx}(H:FxOk X){ρ:Type}{rt:Ret}{ret:rt.den->ρ}{pan:a6t ρ}(hG:∀l,pan (.inr l)= .fail)(hres:fn.results.toList=rt.rs.map (·.1)){c:Code}{an:Ann}{q:Nat}{s:St}{mE:Mp}{ok1:Nat->Ty->Prop}{y:ρ}
  {D:Den ρ} {nn:Nat} (hD:∀{RetP:ρ->Exit->Act->World->Prop},YS X rt ret mE RetP->YQ X pan mE RetP->DOk X mE RetP D c nn)
  (hk:D q an s [] ρ (λfl s' _=>b6q X.E rt ret fl s')=some y)
  {act:Act} {w1:World} (Rq:Rel X (CB*q) (CB*q) (aI s) mE ok1 act w1) {ps:List MG} {vals:c5x} {h00:Array Obj} {ok00:Nat->Ty->Prop} (hsame:rt.outs.map (·.1)=mV ps 0) (hsub:∀n∈rt.outs.map (·.1),n∈X.E.kp) (hnosb:EI ps rt.outs=true)
  (hshp:Ue h00 ok00 ps vals) (htm:∀i v,0+i∈mV ps 0->vals[i]? =some v->X.tm0.getD (0+i) Go.undef=v) {Rr:Ending->World->Prop}
  (hN:∀r0 v w' ok' O' rs os B,y=ret r0->Frame' (X.E.gl=[]) X.w0 w' X.O->(∀b t,X.ok0 b t->ok' b t)->(∀b t,ok' b t->b<w'.heap.size/\(X.ok0 b t\/X.w0.heap.size<=b\/b∈X.O))->
   (O' ++B).Nodup->(∀b∈O' ++B,(∀t,¬ok' b t)/\b<w'.heap.size/\(X.w0.heap.size<=b\/b∈X.O))->
   SQ (rt.rs.map (·.2)).length v rs->rV w'.heap ps vals os B->nI w'.heap ok' (rt.rs.map (·.2)++rt.outs.map (·.2)) r0 (rs++os) O' ->Rr (.returned v) w')
  (hP:∀{c:Int} {S S' :Sm} {tr:Tr} {cl ch:Nat} {m:Mp} {ok:Nat->Ty->Prop} {a' :Act} {w' :World},c≠0->(pan (.inl c)).eval S ([],[])=some (y,S',tr)->Rel X cl ch S m ok a' w' ->(∀k l,mE k=some l->m k=some l)->
   Leaves X.P fn a'.tmps Rr a'.defers (.panicking (xn X.P c)) w'):
  c.wp X.P (bodyPostD X.P fn Rr) act w1:=by
 let RetN:rt.den->Act->World->Prop:=λr0 a' w' =>(∀d∈a'.defers,a4B X.P d)/\∃v,(results fn a'.tmps).run X.P w' = .ok v w' /\
  ∃ok' O' rs os B,Frame' (X.E.gl=[]) X.w0 w' X.O/\(∀b t,X.ok0 b t->ok' b t)/\(∀b t,ok' b t->b<w'.heap.size/\(X.ok0 b t\/X.w0.heap.size<=b\/b∈X.O))/\
   (O' ++B).Nodup/\(∀b∈O' ++B,(∀t,¬ok' b t)/\b<w'.heap.size/\(X.w0.heap.size<=b\/b∈X.O))/\
   SQ (rt.rs.map (·.2)).length v rs/\rV w'.heap ps vals os B/\nI w'.heap ok' (rt.rs.map (·.2)++rt.outs.map (·.2)) r0 (rs++os) O'
 let RetP:ρ->Exit->Act->World->Prop:=λz e a' w' =>(e= .ret->∃r0,z=ret r0/\RetN r0 a' w')/\
  (∀ch,e= .panic ch->∃(c:Int) (S S' :Sm) (tr:Tr) (cl ch' :Nat) (m:Mp) (ok:Nat->Ty->Prop),ch=xn X.P c/\c≠0/\(pan (.inl c)).eval S ([],[])=some (z,S',tr)/\Rel X cl ch' S m ok a' w' /\(∀k l,mE k=some l->m k=some l))/\∀l,e≠.goto l
 have hretN:∀{s:St} {R:Type} {K:rt.den->Option R} {r:R},(b0s X.E rt).runK s ([],[]) (λx _ _=>K x)=some r->
   ∃x,K x=some r/\∀{cl ch:Nat} {m:Mp} {ok:Nat->Ty->Prop} {a:Act} {w:World},Rel X cl ch (aI s) m ok a w->RetN x a w:=by
  intro s R K r h;obtain⟨x,s',tr,he,hk⟩:=kV h;refine⟨x,hk,λ{cl ch m ok1 a1 w1} R1=>?_⟩;refine qY (Q:=λx _=>RetN x a1 w1) ?_ he;unfold b0s;refine JW H R1 _ λvs1 rvs hv1 hl1 hrun=>BI (T:=[]) _ R1 Tk.nil λS2 ws os B R2 T2 hout hws=>?_;refine wL _ R2 T2 λS2 m2 R2 T2 km2=>?_;refine a0B _ R2 T2 (j_ km2 (Ik hv1 hws)) λS3 ok3 y O3 R3 T3 k3 s3 hy=>?_;simp only[G8]at T3;have hp:(B++O3).Perm (O3++B):=lI;rw[←hres]at hrun;obtain⟨v,hv,hrv⟩:=a1H hrun;refine⟨R3.nodef,v,hv,ok3,O3,rvs,os,B,R3.frame,R3.okIn,λb t hb=>⟨R3.okLt b t hb,R3.okOut b t hb⟩,hp.nodup_iff.1 T3.nodup,λb hb=>?_,?_,a7s ps 0 hnosb hsame hshp (λi v hi hv=>?_) hout,hy⟩
  .obtain⟨f1,f2,f3,_⟩:=T3.free b (hp.mem_iff.2 hb);exact⟨f1,f2,f3⟩
  .refine⟨by rw[hl1];simp,hrv.2⟩
  .rw[R1.kept (0+i) (hsub _ (by rw[hsame];exact hi))];exact htm i v hi hv
 have hret:YS X rt ret mE RetP:=by intro s R K r h;obtain⟨x,hk,hx⟩:=hretN h;exact⟨x,hk,λR1 _=>⟨λ_=>⟨x,rfl,hx R1⟩,λch e=>(by cases e),λl e=>by cases e⟩⟩
 have hpan:YQ X pan mE RetP:=λ{c S S' tr x} hc he {cl ch m ok a w} R1 km=>by
  cases c with
  |inl c=>exact⟨λe=>(by cases e),λch' e=>(by cases e;exact⟨c,S,S',tr,cl,ch,m,ok,rfl,λe=>hc (by rw[e]),he,R1,km⟩),λl e=>by cases e⟩|inr l=>rw[hG]at he;cases he
 have fin:∀{r0:rt.den} {a' :Act} {w' :World},y=ret r0->RetN r0 a' w' ->Leaves X.P fn a'.tmps Rr a'.defers .returning w' :=λhy h=>by obtain⟨h1,v,h2,ok',O',rs,os,B,g1,g2,g3,g4,g5,g6,g7,g8⟩:=h;exact Rz ⟨v,h2,hN _ v _ ok' O' rs os B hy g1 g2 g3 g4 g5 g6 g7 g8⟩ _ h1
 have hwp:=(hD hret hpan).run hk Rq (λ_ _ h=>h);refine wp_mono hwp ?_;rintro e a' w' ⟨fl,s',wr',hk2,hfl⟩;cases fl with
 |ex id=>cases hk2|rt z=>
  have hk2:some z=some y:=hk2;cases hk2;obtain⟨hl,h1,h2,h3⟩:=hfl;rcases hl with rfl|⟨ch,rfl⟩|⟨l,rfl⟩
  .obtain⟨r0,hy,hn⟩:=h1 rfl;exact fin hy hn
  .obtain⟨c,S,S',tr,cl,ch',m,ok,rfl,hc,he,R1,km⟩:=h2 ch rfl;exact hP hc he R1 km
  .exact absurd rfl (h3 l)
 |nm=>obtain⟨rfl,m',ok',R',k1,_,_⟩:=hfl;obtain⟨r0,hy,hp⟩:=hretN (K:=λr=>some (ret r)) hk2;simp only[G6]at hy;exact fin hy.symm (hp R')
theorem a2z{E:Env}{f:FuncId}{c:Code}{ps:List MG}{ρ:Type}{rt:Ret}{ret:rt.den->ρ}{pan:a6t ρ}{an:Ann}{df:Option (List Deferred)}{D:Den ρ}{nn:Nat}(hG:∀l,pan (.inr l)= .fail)
  (hD:∀{X:Fx},X.P=P->X.E=E->FxOk X->∀{mE:Mp} {RetP:ρ->Exit->Act->World->Prop},YS X rt ret mE RetP->YQ X pan mE RetP->DOk X mE RetP D c nn) (hdf:∀l,df=some l->[]=l)
  (hdf2:∀l,df=some l->∀p∈E.pl,Nat.beq p.2.2 0=false) (hf:P.funcs[f]? =some fn) (hb:fn.body=some c) (hnt:fn.ntmps=E.nt)
  (hres:fn.results.toList=rt.rs.map (·.1)) (hE:EnvOk P E) {w:World} {ok:Nat->Ty->Prop} {O:c5y} {vals:c5x} {x:Y3 ps} {y:ρ}
  (hlt:∀b t,ok b t->b<w.heap.size) (hnd:O.Nodup) (hO:∀b∈O,(∀t,¬ok b t)/\b<w.heap.size) (hgl:∀g u,bZ E.gl g=some u->GG ⟨w.heap,ok,nom⟩ g u.1 u.2)
  (hrel:nI w.heap ok ps x vals O) (hdv:U_ w.heap vals ps vals)
  (hle00:(Nat.ble ps.length E.nt&&IQ (rt.outs.map (·.1)) (mV ps 0)&&a7O (rt.outs.map (·.1)) E.kp&&EI ps rt.outs)=true)
  (hden:((Jl ps x 0 λvs n=>bif Nat.ble n CB then Ls (List.range vs.length) vs (a0t ps 0 (.ret ()))else .fail).runK [] ([],[]) λ_ s _=>
   D 1 an s [] ρ (λfl s' _=>b6q E rt ret fl s'))=some y) {Rr:Ending->World->Prop}
  (hN:∀r0 v w' ok' O' rs os B,y=ret r0->Frame' (E.gl=[]) w w' O->(∀b t,ok b t->ok' b t)->(∀b t,ok' b t->b<w'.heap.size/\(ok b t\/w.heap.size<=b\/b∈O))->
   (O' ++B).Nodup->(∀b∈O' ++B,(∀t,¬ok' b t)/\b<w'.heap.size/\(w.heap.size<=b\/b∈O))->
   SQ (rt.rs.map (·.2)).length v rs->rV w'.heap ps vals os B->nI w'.heap ok' (rt.rs.map (·.2)++rt.outs.map (·.2)) r0 (rs++os) O' ->Rr (.returned v) w')
  (hP:∀{c:Int} {S S' :Sm} {tr:Tr} {a' :Act} {w' :World},c≠0->(pan (.inl c)).eval S ([],[])=some (y,S',tr)->Frame' (E.gl=[]) w w' O->(∀l,df=some l->a'.defers=l)->
   Leaves P fn a'.tmps Rr a'.defers (.panicking (xn P c)) w'):Calls P f vals.toArray w Rr:=by
 let X:Fx:=⟨P,E,w,O,ok,vals.toArray++Array.replicate (E.nt -vals.length) undef,df⟩;have H:FxOk X:=⟨hE.nt,hE.tt,hE.fs,hE.eqs,hE.ms,hE.fn,hE.pl,hdf2⟩;refine calls_of_wp_defers hf hb ?_;simp only[jr];rw[hnt];generalize hact:({ tmps:=vals.toArray++Array.replicate (E.nt -vals.length) undef,defers:=[] } :Act)=act;have hvl:vals.length=ps.length:=MH hrel;simp only[D5]at hle00;obtain⟨⟨⟨hle0,hsame⟩,hsub⟩,hnosb⟩:=hle00;have hsame:=Kq hsame;have hsub:=a2a hsub;have hle1:=S9 hle0;obtain⟨u,s,tr,he,hk⟩:=kV hden;have hsize:act.tmps.size=E.nt:=by subst hact;simp;omega
 have hslots:∀n,n<vals.length->act.tmps.getD n undef=vals.getD n undef:=λn hn=>by subst hact;simp only[Y2];rw[mg (by simpa using hn)];simp[ZC]
 have R0:Rel X 0 0 (aI []) nom ok act w:={ size:=hsize,nodef:=(by subst hact;intro d hd;cases hd),dfs:=(by subst hact;exact hdf),slot:=λn _=>trivial,box:=λn=>trivial,inj:=λn n' b h=>(by simp[aI,N8]at h),nd:=λn=>(by simp[aI,N8]),sep:=λn b h=>(by simp[aI,N8]at h),okLt:=hlt,okIn:=λb t h=>h,okOut:=λb t h=> .inl h,frame:=Frame'.refl w O,fresh:=λ_ _ _=>rfl,strict:=λ_ _=>rfl,gl:=hgl,kept:=λn _=>by subst hact;rfl };have T0:Tk X (aI []) nom ok w (O++[]):=⟨by simpa using hnd,λb hb=>by simp only[E9]at hb;obtain⟨h1,h2⟩:=hO b hb;exact⟨h1,h2,.inr hb,λn e=>by simp[aI,N8]at e⟩⟩
 have key:=qY (GY (T:=[]) ps (Q:=λ_ S' =>∃m' vs,Rel X 0 CB S' m' ok act w/\jk ⟨w.heap,ok,m'⟩ vs vals) R0 (E5 0) T0 hrel
  (K:=λvs n=>bif Nat.ble n CB then Ls (List.range vs.length) vs (a0t ps 0 (.ret ()))else .fail) λS1 m1 vs n1 ch1 R1 c1 T1 k1 s1 l1 e1=>aX λhb=>by
   have hn1:=S9 hb;have hvs:=PD l1;have hr:vals=(List.range vs.length).map λn=>act.tmps.getD n Go.undef:=by
    apply jV
    .simp[hvs]
    .intro i h1 h2;simp only[List.getElem_map,List.getElem_range];rw[hslots i h1,ZC,qC h1];rfl
   have hall:∀k p,vals[k]? =some p->act.tmps.getD k Go.undef=p:=λk p hk=>by rw[hslots k (aJ.1 hk).1,ZC,hk];rfl
   refine Ip _ (R1.chmono (ch' :=CB) l9) (by rw[←hr];exact l1) λS' R' =>?_;refine a6F hall ps 0 R' (λi v hi=>by rw[bC];exact hall i v hi) hvl.symm hdv λS2 R2=>⟨m1,vs,R2,l1⟩) he
 obtain⟨mE,vs,RE,hvs⟩:=key;have Rq:Rel X (CB*1) (CB*1) (aI s) mE ok act w:=(RE.climb (iF _)).chmono (by rw[mY];exact E5 _);refine a4p H hG hres (D:=D) (nn:=nn) (hD rfl rfl H) hk Rq hsame hsub hnosb (XE hrel) (λi v hi hv=>?_) hN (λ{c S S' tr cl ch m ok' a' w'} hc he R1 _=>hP hc he R1.frame R1.dfs);have hlt2:=(RV hi).2;have h2:=hslots (0+i) (by rw[hvl];omega);rw[←hact]at h2;refine h2.trans ?_;rw[ZC,bC,hv];rfl
theorem MS{P:Program}{E:Env}{f:FuncId}{fn:Func}{c:Code}{ps:List MG}{rt:Ret}{an:Ann}{F:Y3 ps->Option rt.den}(hf:P.funcs[f]? =some fn)(hb:fn.body=some c)(hnt:fn.ntmps=E.nt)
  (hres:fn.results.toList=rt.rs.map (·.1)) (hE:EnvOk P E) (hF:∀x r,F x=some r->a6E E ps rt c an x=some r):
  dK P E.gl f ⟨ps,rt.rs.map (·.2),rt.outs.map (·.2),F⟩:=by
 intro w ok O vals x r hlt hnd hO hgl hrel hdv hfn;have hden:=hF x r hfn;clear hfn hF;unfold a6E at hden;cases hle00:(Nat.ble ps.length E.nt&&IQ (rt.outs.map (·.1)) (mV ps 0)&&a7O (rt.outs.map (·.1)) E.kp&&EI ps rt.outs)
 .simp only[hle00,cond_false]at hden;cases hden
 simp only[hle00,cond_true]at hden;refine a2z (hG:=λ_=>rfl) (D:=FP E rt (λr=>r) (λ_=> .fail) c) (λ{X} h1 h2 H {mE RetP} a b=>by subst h1;subst h2;exact Au H a b c) (df:=none) (λl h=>by cases h) (λl h=>by cases h) hf hb hnt hres hE hlt hnd hO hgl hrel hdv hle00 (an:=an) (y:=r) (ret:=λr=>r) (pan:=λ_=> .fail) hden ?_ ?_
 .intro r0 v w' ok' O' rs os B hy g1 g2 g3 g4 g5 g6 g7 g8;subst hy;exact⟨v,ok',O',rs,os,B,rfl,g1,g2,g3,g4,g5,g6,g7,g8⟩
 .intro c S S' tr a' w' _ he;cases he
def zV:V->Value->Bool
 | .undef,v=>v.oneCell'| .b x,.bool y=>x==y| .i k n,.int k' n' =>decide (k=k')&&decide (n=n')| .s l,.string s=>decide (l=s.data.toList)| .nl,.slice none 0 0=>true| .sl t xs,.map none=>t.isEnt&&xs.isEmpty| .npt,.pointer none=>true| .ifd x,.nilIface=>x.isNone|_,_=>false
def zL:List V->c5x->Bool
 |[],[]=>true|c::cs,v::vs=>zV c v&&zL cs vs|_,_=>false
theorem b4w{C:Cx}{c:V}{v:Value}(h:zV c v=true):rP C c v/\v.oneCell' =true:=by
 unfold zV at h;split at h
 .exact⟨trivial,h⟩
 .simp at h;subst h;exact⟨rfl,rfl⟩
 .simp at h;obtain⟨rfl,rfl⟩:=h;exact⟨rfl,rfl⟩
 .rename_i l s;have:=of_decide_eq_true h;subst this;exact⟨rfl,rfl⟩
 .exact⟨rfl,rfl⟩
 .rename_i t xs;simp only[D5,List.isEmpty_iff]at h;obtain⟨h1,rfl⟩:=h;exact⟨(a3K h1).2 ⟨none,rfl,λ_=>rfl,λ_ h=>nomatch h⟩,rfl⟩
 .exact⟨rfl,rfl⟩
 .rename_i x;cases x
  .exact⟨rfl,rfl⟩
  .cases h
 .cases h
theorem a6m{C:Cx} :∀{cs:List V} {vs:c5x},zL cs vs=true->fU C cs vs
 |[],[],_=>rfl|[],_::_,h=>by grind [zL]|_::_,[],h=>by grind [zL]|c::cs,v::vs,h=>by unfold zL at h;simp at h;obtain⟨h1,h2⟩:=b4w h.1;exact⟨v,vs,rfl,h1,h2,a6m h.2⟩
def NL:(t:Ty)->c5x->Option c5x
 | .bool,.bool b::r=>bif b then none else some r| .int k,.int k' n::r=>bif decide (k=k')&&decide (n=0)then some r else none| .str,.string s::r=>bif decide (s.data.toList=[])then some r else none| .sl t,.slice none 0 0::r=>bif t.isEnt then none else some r| .sl t,.map none::r=>bif t.isEnt then some r else none
 | .prod a b,vs=>match NL a vs with|some r=>NL b r|none=>none
 | .unit,vs=>some vs| .ifv,.nilIface::r=>some r|_,_=>none
theorem QL:∀{t:Ty} {vs r:c5x},NL t vs=some r->∃cs,vs=cs++r/\kZ #[] (λ_ _=>False) t t.zero cs
 | .bool,vs,r,h=>by
  cases vs with
  |nil=>cases h|cons v vs=>
   cases v<;>try (cases h;done)
   case bool b=>
    cases b
    .simp only[NL,cond_false,G6]at h;subst h;exact⟨[.bool false],rfl,rfl⟩
    .simp[NL]at h
 | .int k,vs,r,h=>by
  cases vs with
  |nil=>cases h|cons v vs=>
   cases v<;>try (cases h;done)
   case int k' n=>
    unfold NL at h;cases hc:(decide (k=k')&&decide (n=0))
    .simp[hc]at h
    .simp only[hc,cond_true,G6]at h;simp only[D5,decide_eq_true_eq]at hc;obtain⟨rfl,rfl⟩:=hc;subst h;exact⟨[.int k 0],rfl,rfl⟩
 | .str,vs,r,h=>by
  cases vs with
  |nil=>cases h|cons v vs=>
   cases v<;>try (cases h;done)
   case string s=>
    unfold NL at h;cases hc:decide (s.data.toList=[])
    .simp only[hc,cond_false]at h;cases h
    .simp only[hc,cond_true,G6]at h;subst h;have he:=of_decide_eq_true hc;refine⟨[.string s],rfl,?_⟩;show[Value.string s]=[Value.string ⟨(Ty.zero .str).toArray⟩];congr 2;obtain⟨⟨l⟩⟩:=s;simp only at he;subst he;rfl
 | .sl t,vs,r,h=>by
  cases vs with
  |nil=>cases h|cons v vs=>
   cases v<;>try (cases h;done)
   case slice a n c=>
    cases a<;>try (cases h;done)
    cases n<;>try (cases h;done)
    cases c<;>try (cases h;done)
    cases ht:t.isEnt<;>simp only[NL,ht,cond_true,cond_false,G6]at h
    .subst h;exact⟨[.slice none 0 0],rfl,.inl ⟨ht,none,0,rfl,E5 _,λi x hi=>by simp[Ty.zero]at hi⟩⟩
    .cases h
   case map mv=>
    cases mv<;>try (cases h;done)
    cases ht:t.isEnt<;>simp only[NL,ht,cond_true,cond_false,G6]at h
    .cases h
    .subst h;exact⟨[.map none],rfl,.inr ⟨ht,none,rfl,λ_=>rfl,λ_ h=>nomatch h⟩⟩
 | .ent ..,vs,r,h=>by
  cases vs with
  |nil=>cases h|cons v vs=>cases v<;>cases h
 | .ifv,vs,r,h=>by
  cases vs with
  |nil=>cases h|cons v vs=>
   cases v<;>try (cases h;done)
   simp only[NL,G6]at h;subst h;exact⟨[.nilIface],rfl,rfl⟩
 | .unit,vs,r,h=>by
  have:vs=r:=by cases vs<;>(simp only[NL,G6]at h;exact h)
  subst this;exact⟨[],rfl,rfl⟩
 | .prod a b,vs,r,h=>by
  have h' :(match NL a vs with|some r=>NL b r|none=>none)=some r:=by cases vs<;>exact h
  cases ha:NL a vs with
  |none=>simp[ha]at h'|some r1=>simp only[ha]at h';obtain⟨c,rfl,h1⟩:=QL ha;obtain⟨d,rfl,h2⟩:=QL h';exact⟨c++d,x8,c,d,rfl,h1,h2⟩
def a6H:List (Nat×Nat)->List Field->Bool
 |[],[]=>true|(t,o)::r,f::fs=>Nat.beq f.type t&&Nat.beq f.offset o&&a6H r fs|_,_=>false
theorem XO:∀{a:List (Nat×Nat)} {b:List Field},a6H a b=true->b.map (λf=>(f.type,f.offset))=a
 |[],[],_=>rfl|[],_::_,h=>by grind [a6H]|_::_,[],h=>by grind [a6H]|(t,o)::r,f::fs,h=>by unfold a6H at h;simp only[D5]at h;have h1:=fZ h.1.1;have h2:=fZ h.1.2;simp[XO h.2,←h1,←h2]
def b1L(P:Program)(t:TypeId)(td:TD):Bool:=
 match P.underlying t with
 |none=>false
 |some d=>match td,d with
  | .bool,.bool=>true| .int k,.int k' =>decide (k=k')| .str,.string=>true| .sl e,.slice e' =>Nat.beq e e'| .ptr e,.pointer e' =>Nat.beq e e'| .struct fs,.struct fields=>a6H fs fields.toList| .arr n e,.array n' e' =>Nat.beq n n' &&Nat.beq e e'| .map k e,.map k' e' =>Nat.beq k k' &&Nat.beq e e'| .other,.struct _=>false| .other,.array _ _=>false| .other,_=>true|_,_=>false
theorem a4r{t:TypeId}{td:TD}(h:b1L P t td=true):b1M P t td:=by
 unfold b1L at h;split at h
 .grind
 .rename_i d hd;split at h<;>try (cases h)
  .exact hd
  .have:=of_decide_eq_true h;subst this;exact hd
  .exact hd
  .have:=fZ h;subst this;exact hd
  .have:=fZ h;subst this;exact hd
  .rename_i fs fields;exact⟨fields,hd,XO h⟩
  .simp only[D5]at h;have h1:=fZ h.1;have h2:=fZ h.2;subst h1;subst h2;exact hd
  .simp only[D5]at h;have h1:=fZ h.1;have h2:=fZ h.2;subst h1;subst h2;exact hd
  .refine⟨d,hd,?_⟩<;>simp_all
def a6n(inf:TypeInfo)(i:TI):Bool:=
 bif Nat.beq i.zero.length i.size then(match inf.zero with|some z=>zL i.zero z.cells.toList|none=>false)else true
def b5T(inf:TypeInfo)(i:TI):Bool:=
 match i.ty with
 |none=>true|some u=>Nat.beq u.size i.size&&(match inf.zero with|some z=>(match NL u z.cells.toList with|some []=>true|_=>false)|none=>false)
def b4B(inf:TypeInfo)(i:TI):Bool:=
 match inf.zero with
 |none=>true|some z=>bif az i.td then(match z with| .agg _=>true|_=>false)else z.oneCell'
def b1N(P:Program)(t:TypeId)(i:TI):Bool:=
 match P.info? t with
 |none=>false|some inf=>Nat.beq inf.size i.size&&Nat.beq inf.bytes i.bytes&&a6n inf i&&b5T inf i&&b1L P t i.td&&(az i.td || Nat.beq i.size 1)&&b4B inf i
theorem a4s{t:TypeId}{i:TI}(h:b1N P t i=true):TiOk P t i:=by
 unfold b1N at h;split at h
 .grind
 .rename_i inf hi;simp only[D5,rE]at h;obtain⟨⟨⟨⟨⟨⟨h1,h2⟩,h3⟩,h4⟩,h5⟩,h6⟩,h8⟩:=h;refine⟨⟨inf,hi,fZ h1,fZ h2,λhl=>?_,λu hu=>?_⟩,a4r h5,λha=>?_,λinf' z hinf hz=>?_⟩<;>grind [Nat.eq_of_beq_eq_true,a6n,a6m,b5T,QL,b4B]
def a2f(P:Program):List (Nat×TI)->Bool
 |[]=>true|(t,i)::r=>b1N P t i&&a2f P r
theorem WP{P:Program} :∀{tt:List (Nat×TI)},a2f P tt=true->∀t i,bZ tt t=some i->TiOk P t i
 |[],_,t,i,h=>by grind [bZ]|(k,v)::r,hc,t,i,h=>by
  unfold a2f at hc;simp at hc;unfold bZ at h;cases hb:Nat.beq k t
  .simp[hb,cond_false]at h;exact WP hc.2 t i h
  .simp[hb,cond_true,G6]at h;have:=fZ hb;subst this;subst h;exact a4s hc.1
def XZ(P:Program):List (Nat×FSpec)->Bool
 |[]=>true|(f,_)::r=>(match P.funcs[a6K f]? with|some fn=>fn.body.isSome&&!(fn.name== "runtime.NumGoroutine")|none=>false)&&XZ P r
theorem Vd{P:Program} :∀{l:List (Nat×FSpec)},XZ P l=true->∀p∈l,∃fn,P.funcs[a6K p.1]? =some fn/\fn.body.isSome=true/\(fn.name== "runtime.NumGoroutine")=false
 |[],_,p,h=>by grind|(k,v)::r,hc,p,h=>by
  unfold XZ at hc;simp at hc;rcases D7.1 h with rfl|h
  .grind
  .exact Vd hc.2 p h
end Go.GP
namespace Go.GP
def a7Y(P:Program)(gl:List (Nat×(t:Ty)×List t.den)):List (Nat×FSpec)->Prop
 |[]=>True|p::r=>a6s P gl p/\a7Y P gl r
theorem XC{P:Program}{gl:List (Nat×(t:Ty)×List t.den)} :∀{l:List (Nat×FSpec)},a7Y P gl l->∀p∈l,a6s P gl p
 |[],_,p,h=>by grind|(k,v)::r,hc,p,h=>by
  rcases D7.1 h with rfl|h
  .exact hc.1
  .exact XC hc.2 p h
def S_(P:Program):List ((Nat×String)×Nat×Option Nat)->Prop
 |[]=>True|(k,r)::l=>YP P k.1 k.2 r.1 r.2/\S_ P l
theorem Uc{P:Program} :∀{l:List ((Nat×String)×Nat×Option Nat)},S_ P l->∀p∈l,YP P p.1.1 p.1.2 p.2.1 p.2.2
 |[],_,p,h=>by grind|(k,v)::r,hc,p,h=>by
  rcases D7.1 h with rfl|h
  .exact hc.1
  .exact Uc hc.2 p h
def T_(P:Program):List (Nat×Nat×Nat)->Prop
 |[]=>True|(f,off,sz)::l=>PlP P f off sz/\T_ P l
theorem Ud{P:Program} :∀{l:List (Nat×Nat×Nat)},T_ P l->∀p∈l,PlP P p.1 p.2.1 p.2.2
 |[],_,p,h=>by grind|(f,off,sz)::l,hc,p,h=>by
  rcases D7.1 h with rfl|h
  .exact hc.1
  .exact Ud hc.2 p h
theorem a0x{P:Program}{E:Env}(hnt:Nat.ble (64*E.nt) 999936=true)(htt:a2f P E.tt=true)(heq:∀t sh,bZ E.eqs t=some sh->KE P t sh)(hfn:XZ P E.fs=true)(hms:S_ P E.ms)(hfs:a7Y P E.gl E.fs)(hpl:T_ P E.pl):EnvOk P E:=
 ⟨S9 hnt,WP htt,XC hfs,heq,Uc hms,Vd hfn,Ud hpl⟩
end Go.GP
namespace Go.GP
def GZ(rec:TypeId->List Ty->Bool)(cells:TypeId->Nat):Nat->List Field->List Ty->Bool
 |_,[],sh=>sh.isEmpty|off,f::r,sh=>(f.name != "_")&&Nat.beq f.offset off&&Nat.ble (cells f.type) sh.length&&rec f.type (sh.take (cells f.type))&&GZ rec cells (off+cells f.type) r (sh.drop (cells f.type))
def yf(P:Program):Nat->TypeId->List Ty->Bool
 |0,_,_=>false
 |n+1,t,sh=>match P.underlying t with
  |some .bool=>(match sh with|[.bool]=>true|_=>false)|some (.int k)=>(match sh with|[.int k']=>decide (k=k')|_=>false)|some .string=>(match sh with|[.str]=>true|_=>false)|some (.struct fs)=> !P.stoodInHeld t&&(P.info? t).isSome&&Nat.beq (P.cellsOf t) sh.length&&GZ (yf P n) P.cellsOf 0 fs.toList sh|_=>false
theorem lg.length:∀{sh:List Ty} {vs:c5x},lg sh vs->vs.length=sh.length
 |[],_,h=>by simp_all [lg]| .bool::ts,_,⟨_,_,rfl,h⟩=>by simp[lg.length h]| .int _::ts,_,⟨_,_,rfl,h⟩=>by simp[lg.length h]| .str::ts,_,⟨_,_,rfl,h⟩=>by simp[lg.length h]| .sl _::_,_,h=>h.elim| .prod _ _::_,_,h=>h.elim| .unit::_,_,h=>h.elim
theorem lg.take_drop:∀{sh:List Ty} {vs:c5x} (n:Nat),lg sh vs->lg (sh.take n) (vs.take n)/\lg (sh.drop n) (vs.drop n)
 |sh,vs,0,h=>⟨by simp[lg],h⟩|[],_,n+1,h=>by simp_all [lg]| .bool::ts,_,n+1,⟨b,r,rfl,h⟩=>by have:=lg.take_drop n h;exact⟨⟨b,_,rfl,this.1⟩,this.2⟩| .int _::ts,_,n+1,⟨b,r,rfl,h⟩=>by have:=lg.take_drop n h;exact⟨⟨b,_,rfl,this.1⟩,this.2⟩| .str::ts,_,n+1,⟨b,r,rfl,h⟩=>by have:=lg.take_drop n h;exact⟨⟨b,_,rfl,this.1⟩,this.2⟩| .sl _::_,_,_+1,h=>h.elim| .prod _ _::_,_,_+1,h=>h.elim| .unit::_,_,_+1,h=>h.elim
theorem Gu{C:Cx} :∀{sh:List Ty} {cs:List V} {vs:c5x},Ad sh cs=true->fU C cs vs->lg sh vs
 |[],[],vs,_,h=>h|[],_::_,_,h,_=>by grind [Ad]|t::ts,[],_,h,_=>by simp_all [Ad]|t::ts,c::cs,_,h,⟨v,r,rfl,h1,_,h3⟩=>by
  cases t<;>cases c<;>simp[Ad,D5,decide_eq_true_eq]at h<;>try (cases h;done)
  case bool.b x=>subst h1;exact⟨_,_,rfl,Gu h h3⟩
  case int.i k k' n=>obtain⟨rfl,h⟩:=h;subst h1;exact⟨_,_,rfl,Gu h h3⟩
  case str.s l=>subst h1;exact⟨_,_,rfl,Gu h h3⟩
theorem Zn{a b:V}{r q:List V}{e:Bool}(h:zB (a::r) (b::q)=some e):∃e1 e2,eq1 a b=some e1/\zB r q=some e2/\e=(e1&&e2):=by
 unfold zB at h;split at h
 .grind
 .rename_i e1 h1;split at h
  .cases h;exact⟨_,true,h1,rfl,x8⟩
  .split at h
   .rename_i e2 h2;cases h;exact⟨_,_,h1,h2,rfl⟩
   grind
theorem Ov{C:Cx} :∀{cs ds:List V} {xs ys:c5x} {e:Bool},fU C cs xs->fU C ds ys->zB cs ds=some e->(e=true↔xs=ys)
 |[],[],xs,ys,e,h1,h2,h=>by simp_all [fU,zB]|[],_::_,_,_,_,_,_,h=>by grind [zB]|_::_,[],_,_,_,_,_,h=>by grind [zB]|a::r,b::q,xs,ys,e,hx,hy,h=>by
  obtain⟨v,vs,rfl,hv,_,hvs⟩:=hx;obtain⟨u,us,rfl,hu,_,hus⟩:=hy;obtain⟨e1,e2,k1,k2,rfl⟩:=Zn h;have ih:=Ov hvs hus k2;have hd:e1=true↔v=u:=by
   cases a<;>cases b<;>simp[eq1]at k1<;>try (cases k1)
   case b.b x y=>
    have hv:v= .bool x:=hv;have hu:u= .bool y:=hu
    grind [WZ]
   case i.i j x k y=>
    have hv:v= .int j x:=hv;have hu:u= .int k y:=hu
    grind [D8]
   case s.s x y=>
    have hv:v= .string ⟨x.toArray⟩:=hv;have hu:u= .string ⟨y.toArray⟩:=hu
    grind [seq]
  simp_all
def VOf(P:Program)(t:TypeId)(xs:c5x)(v:Value):Prop:=match P.underlying t with
 |some (.struct _)=>v= .agg xs.toArray|_=>xs=[v]
variable {P:Program}{t:TypeId}
theorem a2B{i:TypeInfo}(h:P.info? t=some i):P.cellsOf t=i.size:=by simp[Program.cellsOf,h]
variable {n:Nat}{sh:List Ty}
theorem VQ(hc:yf P n t sh=true)(hcs:P.cellsOf t=sh.length){cs:Array Value}{off:Nat}(hl:off+sh.length<=cs.size)(w:World):
  ∃v,(part t cs off).run P w= .ok v w/\VOf P t ((cs.toList.drop off).take sh.length) v:=by
 cases n with
 |zero=>cases hc|succ n=>
  unfold yf at hc;split at hc
  all_goals try (cases hc;done)
  .rename_i ht;split at hc<;>try (cases hc;done)
   simp only[A8,F6]at hl ⊢;refine⟨cs[off]'l9,?_,?_⟩
   .have h1:=Dp (P:=P) (t:=t) (d:=.bool) ht w
    grind [part,Sem.run_bind,Result.andThen_ok,az,Sem.run_pure]
   .simp only[VOf,ht];apply jV
    all_goals grind
  .rename_i k ht;split at hc<;>try (cases hc;done)
   simp only[A8,F6]at hl ⊢;refine⟨cs[off]'l9,?_,?_⟩
   .have h1:=Dp (P:=P) (t:=t) (d:=.int k) ht w
    grind [part,Sem.run_bind,Result.andThen_ok,az,Sem.run_pure]
   .simp only[VOf,ht];apply jV
    all_goals grind
  .rename_i ht;split at hc<;>try (cases hc;done)
   simp only[A8,F6]at hl ⊢;refine⟨cs[off]'l9,?_,?_⟩
   .have h1:=Dp (P:=P) (t:=t) (d:=.str) ht w
    grind [part,Sem.run_bind,Result.andThen_ok,az,Sem.run_pure]
   .simp only[VOf,ht];apply jV
    all_goals grind
  .rename_i fs ht;simp only[D5]at hc;obtain⟨⟨⟨_,h2⟩,_⟩,_⟩:=hc;obtain⟨inf,hinf⟩:=Option.isSome_iff_exists.1 h2;have hsz:=a2B hinf;refine⟨.agg (cs.extract off (off+inf.size)),?_,?_⟩
   .have h1:=Dp (P:=P) (t:=t) (d:=.struct (fs.toList.map λf=>(f.type,f.offset))) ⟨fs,ht,rfl⟩ w;simp_all [sizeOf,typeInfo,part,az]
   .simp only[VOf,ht];congr 1
    grind
theorem Qp{P:Program} :∀(n:Nat) (t:TypeId) (sh:List Ty),yf P n t sh=true->∀(d:Nat),n<=d->∀(xs ys:c5x) (v u:Value),lg sh xs->lg sh ys->VOf P t xs v->VOf P t ys u->∀w:World,
  ∃r,(Op.equalIn d t v u).run P w= .ok r w/\(r=true↔xs=ys)
 |0,_,_,h,_,_,_,_,_,_,_,_,_,_,_=>by cases h|n+1,t,sh,h,d,hd,xs,ys,v,u,hx,hy,hv,hu,w=>by
  obtain⟨d,rfl⟩:∃k,d=k+1:=⟨d -1,l9⟩;unfold yf at h;split at h
  all_goals try (cases h;done)
  .rename_i ht;split at h<;>try (cases h;done)
   obtain⟨a,r1,rfl,h1⟩:=hx;obtain⟨b,r2,rfl,h2⟩:=hy;simp only[lg]at h1 h2;subst h1;subst h2;simp only[VOf,ht]at hv hu;obtain rfl:=(Y8 hv).1;obtain rfl:=(Y8 hu).1;simp_all [run_equalIn_bool]
  .rename_i k ht;split at h<;>try (cases h;done)
   have:=of_decide_eq_true h;subst this;obtain⟨a,r1,rfl,h1⟩:=hx;obtain⟨b,r2,rfl,h2⟩:=hy;simp only[lg]at h1 h2;subst h1;subst h2;simp only[VOf,ht]at hv hu;obtain rfl:=(Y8 hv).1;obtain rfl:=(Y8 hu).1;exact⟨a==b,run_equalIn_int w d t k k a b ht,x8⟩
  .rename_i ht;split at h<;>try (cases h;done)
   obtain⟨a,r1,rfl,h1⟩:=hx;obtain⟨b,r2,rfl,h2⟩:=hy;simp only[lg]at h1 h2;subst h1;subst h2;simp only[VOf,ht]at hv hu;obtain rfl:=(Y8 hv).1;obtain rfl:=(Y8 hu).1;refine⟨a.toList==b.toList,run_equalIn_string w d t a b ht,?_⟩;constructor
   .intro h;have h:=eq_of_beq h;rw[ByteArray.toList_eq,ByteArray.toList_eq]at h;obtain⟨⟨x⟩⟩:=a<;>simp_all
   simp_all
  .rename_i fs ht;simp only[D5,fC]at h;obtain⟨⟨⟨h1,h2⟩,h3⟩,h4⟩:=h;have hlen:=fZ h3;simp only[VOf,ht]at hv hu;subst hv;subst hu;have hfo:P.fieldsOf t=fs:=by grind [Program.fieldsOf]
   rw[run_equalIn_struct w d t _ _ (by simp_all) h1,hfo];have hxl:=hx.length;have hyl:=hy.length;have key:∀(l:List Field) (off:Nat) (s:List Ty),GZ (yf P n) P.cellsOf off l s=true->s=sh.drop off->off<=sh.length->∃r,(Op.eqFields d xs.toArray ys.toArray l).run P w= .ok r w/\(r=true↔xs.drop off=ys.drop off):=by
    intro l;induction l with
    |nil=>
     intro off s hs he ho;unfold GZ at hs;have:s=[]:=by simp_all
     have hoff:off=sh.length:=by
      have:=congrArg List.length (he.symm.trans this)
      grind
     refine⟨true,rfl,?_⟩<;>simp_all [dG]
    |cons f r ih=>
     intro off s hs he ho;unfold GZ at hs;simp only[D5]at hs;obtain⟨⟨⟨⟨g1,g2⟩,g3⟩,g4⟩,g5⟩:=hs;have g2:=fZ g2;have g3:=S9 g3;subst he;simp only[mM]at g3;have hsl:((sh.drop off).take (P.cellsOf f.type)).length=P.cellsOf f.type:=by simp_all
     obtain⟨v1,e1,o1⟩:=VQ g4 hsl.symm (cs:=xs.toArray) (off:=off) (by grind) w;obtain⟨u1,e2,o2⟩:=VQ g4 hsl.symm (cs:=ys.toArray) (off:=off) (by grind) w;rw[hsl]at o1 o2;obtain⟨b1,e3,q1⟩:=Qp n f.type _ g4 d l9 _ _ v1 u1 (((hx.take_drop off).2).take_drop _).1 (((hy.take_drop off).2).take_drop _).1 o1 o2 w;obtain⟨b2,e4,q2⟩:=ih (off+P.cellsOf f.type) _ g5 x8 l9;have hne:f.name≠ "_":=by simp_all
     have split:(xs.drop off=ys.drop off)↔((xs.drop off).take (P.cellsOf f.type)=(ys.drop off).take (P.cellsOf f.type)/\xs.drop (off+P.cellsOf f.type)=ys.drop (off+P.cellsOf f.type)):=by
      grind [List.drop_drop,List.take_append_drop]
     simp only[Op.eqFields,if_pos hne,J9,g2,e1,e2,e3,L8];cases b1<;>simp_all
   grind
theorem XL{P:Program}(em:Bool):∀(n:Nat) (t:TypeId) (sh:List Ty),yf P n t sh=true->∀(d:Nat),n<=d->∀(xs:c5x) (v:Value),lg sh xs->VOf P t xs v->∀w:World,
  (Instr.checkKey em d t v).run P w= .ok () w
 |0,_,_,h,_,_,_,_,_,_,_=>by cases h|n+1,t,sh,h,d,hd,xs,v,hx,hv,w=>by
  obtain⟨d,rfl⟩:∃k,d=k+1:=⟨d -1,l9⟩;unfold yf at h;split at h
  all_goals try (cases h)
  .rename_i ht;split at h<;>try (cases h)
   obtain⟨a,r1,rfl,h1⟩:=hx;simp[Instr.checkKey,run_underlying ht]
  .rename_i k ht;split at h<;>try (cases h)
   have:=of_decide_eq_true h;obtain⟨a,r1,rfl,h1⟩:=hx;simp[VOf,ht]at hv;simp[Instr.checkKey,run_underlying ht]
  .rename_i ht;split at h<;>try (cases h)
   obtain⟨a,r1,rfl,h1⟩:=hx;simp[VOf,ht]at hv;simp[Instr.checkKey,run_underlying ht]
  .rename_i fs ht;simp at h;obtain⟨⟨⟨h1,h2⟩,h3⟩,h4⟩:=h;simp[VOf,ht]at hv;have hxl:=hx.length;have key:∀(l:List Field) (off:Nat) (s:List Ty),GZ (yf P n) P.cellsOf off l s=true->s=sh.drop off->off<=sh.length->
     (forIn l PUnit.unit (λ(f:Field) (_:PUnit)=>(do
      if f.name≠ "_" then Instr.checkKey em d f.type (←part f.type xs.toArray f.offset)
      pure (ForInStep.yield PUnit.unit):Sem (ForInStep PUnit)))).run P w= .ok PUnit.unit w:=by
    intro l;induction l with
    |nil=>simp|cons f r ih=>
     intro off s hs he ho;unfold GZ at hs;simp only[D5]at hs;obtain⟨⟨⟨⟨g1,g2⟩,g3⟩,g4⟩,g5⟩:=hs;have g2:=fZ g2;subst he;have hsl:((sh.drop off).take (P.cellsOf f.type)).length=P.cellsOf f.type:=by simp_all
     obtain⟨v1,e1,o1⟩:=VQ g4 hsl.symm (cs:=xs.toArray) (off:=off) (by grind) w;rw[hsl]at o1;have e3:=XL em n f.type _ g4 d l9 _ v1 (((hx.take_drop off).2).take_drop _).1 o1 w
     grind [List.drop_drop,Sem.run_bind,Result.andThen_ok,Sem.run_pure]
   have:=key fs.toList 0 sh h4 x8 l9;simp_all [Instr.checkKey,run_underlying]
theorem a0Q(hn:n<=10000)(h:yf P n t sh=true)(hs:(match P.underlying t with|some (.struct _)=>true|_=>false)=true):Y_ P t sh:=by
 have hv:∀zs,VOf P t zs.toList (.agg zs):=λzs=>by
  grind [VOf]
 refine⟨?_,λw xs hx=>⟨λem=>XL em n t sh h 10000 hn _ _ hx (hv xs) w,λys hy=>Qp n t sh h 10000 hn _ _ _ _ hx hy (hv xs) (hv ys) w⟩⟩<;>grind
theorem a2N(hn:n<=10000)(h:yf P n t sh=true)(hs:(match P.underlying t with|some (.struct _)=>true|_=>false)=true)(hg:P.eqGuardType P.depth t=false):KE P t sh:=by
 refine⟨?_,a0Q hn h hs⟩;intro w C cs ds xs ys e op x y s1 s2 h1 h2 he hop;have hv:∀zs,VOf P t zs.toList (.agg zs):=λzs=>by
  grind [VOf]
 obtain⟨r,hr,hq⟩:=Qp n t sh h 10000 hn _ _ _ _ (Gu s1 h1) (Gu s2 h2) (hv xs) (hv ys) w<;>grind [Ov,Sem.run_bind,run_eqGuard_agg,Result.andThen_ok,run_eql_struct,run_neq_struct]
def a2O(P:Program):List (Nat×List Ty)->Bool
 |[]=>true|(t,sh)::r=>yf P 20 t sh&&(match P.underlying t with|some (.struct _)=>true|_=>false)&&!P.eqGuardType P.depth t&&a2O P r
theorem a0z{P:Program} :∀{l:List (Nat×List Ty)},a2O P l=true->∀t sh,bZ l t=some sh->KE P t sh
 |[],_,t,sh,h=>by grind [bZ]|(k,v)::r,hc,t,sh,h=>by
  unfold a2O at hc;simp at hc;unfold bZ at h;cases hb:Nat.beq k t
  .simp[hb,cond_false]at h;exact a0z hc.2 t sh h
  .simp[hb,cond_true,G6]at h;have:=fZ hb;subst this;subst h;exact a2N l9 hc.1.1.1 hc.1.1.2 hc.1.2
end Go.GP
namespace Go.GP
open Go.ChangeShapes Go.WideShapes Go.RowKit
def wf:(t:Ty)->t.den->Prop
 | .bool,_=>True| .int k,n=>(Lit.int k n).wf=true| .str,l=>l.length<=reachBytes| .sl t,xs=>xs.length<=reachBytes/\∀x∈xs,wf t x| .prod a b,x=>wf a x.1/\wf b x.2| .unit,_=>True| .any _,_=>True| .ifv,_=>True| .ent _ _ a b,x=>wf a x.1/\wf b x.2
def Df(rec:TypeId->Ty->Bool)(cells:TypeId->Nat):Nat->List Field->Ty->Bool
 |off,fs,u=>match fs with
  |[]=>false
  |f::r=>match r with
   |[]=>Nat.beq f.offset off&&rec f.type u&&Nat.beq (cells f.type) u.size
   |g::r' =>match u with
    | .prod a b=>Nat.beq f.offset off&&rec f.type a&&Nat.beq (cells f.type) a.size&&Df rec cells (off+a.size) (g::r') b|_=>false
termination_by _ fs _=>fs.length
def G_(P:Program):Nat->TypeId->Ty->Bool
 |0,_,_=>false
 |n+1,t,u=>match P.underlying t with
  |some .bool=>(match u with| .bool=>true|_=>false)|some (.int k)=>(match u with| .int k' =>decide (k=k')|_=>false)|some .string=>(match u with| .str=>true|_=>false)|some (.slice e)=>(match u with| .sl v=>G_ P n e v&&Nat.beq (P.cellsOf e) v.size&&Nat.blt 0 v.size&&Nat.blt 0 (P.bytesOf e)&&!v.isEnt|_=>false)|some (.struct fs)=>Df (G_ P n) P.cellsOf 0 fs.toList u&&Nat.beq (P.cellsOf t) u.size|_=>false
theorem OI{α:Type}{Q:Nat->α->Prop} :∀(n:Nat),(∀i,i<n->∃x,Q i x)->∃xs:List α,xs.length=n/\∀i x,xs[i]? =some x->Q i x
 |0,_=>⟨[],rfl,λi x h=>by grind⟩
 |n+1,h=>by obtain⟨xs,hl,hx⟩:=OI n λi hi=>h i l9;obtain⟨y,hy⟩:=h n l9;refine⟨xs++[y],by simp[hl],λi x hi=>?_⟩<;>grind
variable {n:Nat}
theorem UC{w:World}{a:Addr}{es:c5x}(hn:0<n)(h:w.cells? 0 a n=some es):
  a.spot=none/\a.block<w.heap.size/\bW w.heap a.block a.off n=some es:=by
 obtain⟨blk,off,spot⟩:=a;simp only[World.cells?,iF,if_true]at h;have hlen:es.length=n:=by simpa using Lib.mapM_length h
 have hat:∀i,i<n->∃b,es[i]? =some b/\w.cell? (Addr.add ⟨blk,off,spot⟩ i)=some b:=λi hi=>Lib.mapM_at h i i (by grind);obtain⟨b0,_,h0⟩:=hat 0 hn;simp only[Addr.add,if_true,World.cell?]at h0;cases hb:w.heap[blk]? with
 |none=>simp_all|some o=>
  cases o<;>simp only[hb]at h0<;>try (cases h0;done)
  rename_i c T f;have hs:spot=none:=by simp_all
  subst hs;have hat' :∀i,i<n->es[i]? =c[off+i]?/\off+i<c.size:=λi hi=>by
   grind [Addr.add,World.cell?]
  refine⟨rfl,(N7.1 hb).1,?_⟩;have hle:off+n<=c.size:=by have:=(hat' (n -1) l9).2;omega
  rw[jH hb _ _ hle];congr 1;apply aS<;>grind
section
variable {H:Type} {enc:TypeId×Value->H} {P:Program} {w:World} {sp:Nat->Bool} {held:Bool} {ok:Nat->Ty->Prop}
theorem KA{e:TypeId} :∀{l:List (DataW H)} {d:DataW H},d∈l->∀b∈d.weights P e,b∈DataW.weightsAll P e l
 |x::l,d,h,b,hb=>by
  simp[DataW.weightsAll,F9];rcases D7.1 h with rfl|h
  .exact .inl hb
  .exact .inr (KA h b hb)
theorem UU{n:Nat}(IH:∀t u,G_ P n t u=true->∀au cs d ps,DataW.trod enc P w 0 sp held au t cs=some (d,ps)->(∀b∈d.weights P t,b<=reachBytes)->∃x,kZ w.heap ok u x cs/\wf u x){cs:c5x}{m:Nat} :
  ∀(fs:List Field) (off:Nat) (u:Ty),Df (G_ P n) P.cellsOf off fs u=true->∀(xs:List (DataW H×List MemPlace)),xs.length=fs.length->
   (∀(i:Nat) (f:Field),fs[i]? =some f->DataW.trod enc P w 0 sp held m f.type ((cs.drop f.offset).take (P.cellsOf f.type))=xs[i]?)->(∀b∈DataW.weightsEach P (fs.map (·.type)) (xs.map (·.1)),b<=reachBytes)->
   ∃x,kZ w.heap ok u x ((cs.drop off).take u.size)/\wf u x
 |[],off,u,h,_,_,_,_=>by simp_all [Df]|[f],off,u,h,xs,hl,hx,hw=>by
  unfold Df at h;simp only[D5]at h;have h1:=fZ h.1.1;have h3:=fZ h.2;match xs,hl with
  |[y],_=>
   have h4:=hx 0 f rfl
   grind [DataW.weightsEach]
 |f::g::r,off,u,h,xs,hl,hx,hw=>by
  unfold Df at h;cases u<;>try (cases h)
  rename_i a b;simp only[D5]at h;obtain⟨⟨⟨h1,h2⟩,h3⟩,h4⟩:=h;have h1:=fZ h1;have h3:=fZ h3;match xs,hl with
  |y::ys,hl=>
   have h5:=hx 0 f rfl;rw[h1,h3]at h5;obtain⟨p,hp,wp⟩:=IH _ _ h2 _ _ y.1 y.2 (by simpa using h5) λc hc=>hw c (by grind [DataW.weightsEach]);obtain⟨q,hq,wq⟩:=UU IH (g::r) (off+a.size) b h4 ys (by simp_all) (λi f' hf=>by have:=hx (i+1) f' (by simp_all);simpa using this) λc hc=>hw c (by simp_all [DataW.weightsEach])
   refine⟨(p,q),⟨_,_,?_,hp,hq⟩,wp,wq⟩;show(cs.drop off).take (a.size+b.size)=_;rw[List.take_add,lX]
theorem JV(hok:∀b t,b<w.heap.size->ok b t):∀(n:Nat) (t:TypeId) (u:Ty),G_ P n t u=true->∀(au:Nat) (cs:c5x) (d:DataW H) (ps:List MemPlace),DataW.trod enc P w 0 sp held au t cs=some (d,ps)->
  (∀b∈d.weights P t,b<=reachBytes)->∃x,kZ w.heap ok u x cs/\wf u x
 |0,_,_,h,_,_,_,_,_,_=>by cases h|n+1,t,u,h,au,cs,d,ps,hd,hw=>by
  unfold G_ at h;split at h
  .rename_i ht;cases u<;>try (cases h)
   obtain⟨b,rfl,hx⟩:=DataW.trod_bool ht hd;exact⟨b,rfl,trivial⟩
  .rename_i k ht;cases u<;>try (cases h)
   have:=of_decide_eq_true h;subst this;obtain⟨b,rfl,hx,hwf⟩:=DataW.trod_int ht hd;exact⟨b,rfl,hwf⟩
  .rename_i ht;cases u<;>try (cases h)
   obtain⟨s,rfl,hx,hs⟩:=DataW.trod_string ht hd;obtain⟨rfl,rfl⟩:=hx;refine⟨s.data.toList,rfl,hw _ ?_⟩;simp[DataW.weights]
  .rename_i e ht;cases u<;>try (cases h)
   rename_i v;simp only[D5,fC]at h;obtain⟨⟨⟨⟨h1,h2⟩,h3⟩,h4⟩,hE0⟩:=h;have h2:=fZ h2;rw[bK]at h3 h4;rcases DataW.trod_slice ht hd with⟨rfl,hx⟩|⟨a,len,cap,elems,rest,m,rfl,rfl,hx,hb,hl,hm,hlen,hel,_,_⟩
   .exact⟨[],.inl ⟨hE0,none,0,rfl,E5 _,λi x hi=>by simp_all⟩,x8,λx hx=>by simp_all⟩
   .obtain⟨rfl,rfl⟩:=hx;have hW:DataW.weights P t (.slice (elems.map (·.1)) (rest.map (·.1)):DataW H)=((elems.map (·.1)).length+(rest.map (·.1)).length)*P.bytesOf e::(DataW.weightsAll P e (elems.map (·.1))++DataW.weightsAll P e (rest.map (·.1))):=by
     simp_all [DataW.weights]
    rw[hW]at hw;have hsz:=hw _ (gz ..);simp at hsz;have hlr:=by have h6:(elems.length+rest.length)*1<=(elems.length+rest.length)*P.bytesOf e:=Nat.mul_le_mul_left _ h4;omega
    have each:∀i,i<len->∃x,wf v x/\a.spot=none/\a.block<w.heap.size/\∃es,bW w.heap a.block (a.off+i*v.size) v.size=some es/\kZ w.heap ok v x es:=by
     intro i hi;have h5:=hel i hi;rw[h2]at h5;rw[qC l9]at h5;obtain⟨es,hc,hd2⟩:=Option.bind_eq_some_iff.1 h5;obtain⟨x,hx,wx⟩:=JV hok n e v h1 m es _ _ hd2 λb hb=>hw b (by refine U9 _ (U8 _ (KA (P9.2 ⟨_,aK l9,rfl⟩) b hb)))
     obtain⟨s1,s2,s3⟩:=UC h3 hc;by_cases hz:i*v.size=0
     .grind [Addr.add]
     .obtain⟨es0,hc0,_⟩:=Option.bind_eq_some_iff.1 (by rw[hel 0 l9,qC l9]);rw[h2]at hc0;have s0:=(UC h3 hc0).1
      grind [Addr.add]
    obtain⟨xs,hxl,hxs⟩:=OI len each;refine⟨xs,.inl ⟨hE0,some a,cap,by grind,l9,λi x hi=>?_⟩,l9,λx hx=>?_⟩
    .obtain⟨_,s1,s2,es,s3,s4⟩:=hxs i x hi;refine⟨a.block,a.off,es,?_,hok _ _ s2,s3,s4⟩;obtain⟨b,o,s⟩:=a<;>simp_all
    .obtain⟨i,hi,rfl⟩:=mF.1 hx;exact(hxs i _ (qC hi)).1
  .rename_i fs ht;simp only[D5]at h;have h2:=fZ h.2;obtain⟨xs,m,rfl,hx,hl,hlen,hf⟩:=DataW.trod_struct ht hd;obtain⟨rfl,rfl⟩:=hx;have hW:DataW.weights P t (.agg (xs.map (·.1)):DataW H)=DataW.weightsEach P (fs.toList.map (·.type)) (xs.map (·.1)):=by simp_all [DataW.weights]
   rw[hW]at hw;have:=UU (λt u hu au cs d ps hd hw=>JV hok n t u hu au cs d ps hd hw) fs.toList 0 u h.1 xs l9 (λi f hi=>hf i f (by simp_all)) hw
   grind
  grind
end
def a8f(P:Program)(t:TypeId):Bool:=match P.underlying t with|some (.struct _)=>true|_=>false
variable {P:Program}
theorem b3x{W:World}{base n:Nat}{t:TypeId}{u:Ty}{v:Value}(h:G_ P n t u=true)(hv:Value.okWide P W .any base t v):Xr (a8f P t) v v.cells.toList:=by
 cases n with
 |zero=>cases h|succ n=>
  unfold G_ at h;unfold a8f;split at h
  .rename_i ht;simp[Value.okWide,ht,Cell.okWide,Cell.ok]at hv ⊢;cases v<;>first|rfl|simp_all
  .rename_i ht;simp[Value.okWide,ht,Cell.okWide,Cell.ok]at hv ⊢;cases v<;>first|rfl|simp_all
  .rename_i ht;simp[Value.okWide,ht,Cell.okWide,Cell.ok]at hv ⊢;cases v<;>first|rfl|simp_all
  .rename_i ht;simp[Value.okWide,ht,Cell.okWide,Cell.ok]at hv ⊢;cases v<;>first|rfl|simp_all
  .rename_i ht;simp[Value.okWide,ht]at hv ⊢;obtain⟨cs,rfl,_,_⟩:=hv;exact⟨cs,rfl,rfl⟩
  grind
def pJ(P:Program)(n:Nat):List TypeId->List MG->Bool
 |[],[]=>true|t::ts,(g,.dat u)::ms=>G_ P n t u&&(a8f P t==g)&&P.readableRec t&&Nat.blt t P.types.size&&pJ P n ts ms|_,_=>false
def wfM:(m:M)->m.den->Prop
 | .dat t,x=>wf t x|_,_=>True
def a2j:(ms:List MG)->Y3 ms->Prop
 |[],_=>True|[m],x=>wfM m.2 x|m::m' ::r,x=>wfM m.2 x.1/\a2j (m' ::r) x.2
section
variable {H:Type} {enc:TypeId×Value->H} {P:Program} {W:World} {base n:Nat} {ok:Nat->Ty->Prop}
theorem Yy(hok:∀b t,b<W.heap.size->ok b t):∀{ts:List TypeId} {ms:List MG} {vs:c5x} {ds:List (DataW H)} {ps:List MemPlace},pJ P n ts ms=true->DataW.TrodAll enc P W 0 (λ_=>true) true ts vs ds ps->
  (∀(j:Nat) t v,ts[j]? =some t->vs[j]? =some v->Value.okWide P W .any base t v)->(∀b∈DataW.weightsEach P ts ds,b<=reachBytes)->∃x,nI W.heap ok ms x vs []/\a2j ms x
 |[],[],vs,ds,ps,h,hd,hv,hw=>by obtain⟨rfl,rfl,rfl⟩:=trodAll_nil hd;exact⟨(),⟨rfl,rfl⟩,trivial⟩
 |[],_::_,_,_,_,h,_,_,_=>by grind [pJ]|_::_,[],_,_,_,h,_,_,_=>by grind [pJ]|t::ts,(g,m)::ms,vs,ds,ps,h,hd,hv,hw=>by
  cases m<;>simp only[pJ,D5]at h<;>try (cases h;done)
  rename_i u;obtain⟨⟨⟨⟨h1,h2⟩,_⟩,_⟩,h3⟩:=h;have h2:=eq_of_beq h2;subst h2;obtain⟨v,vs',d,ds',p,q,rfl,rfl,rfl,⟨au,h4⟩,h5⟩:=trodAll_cons hd;have hw' :∀b∈d.weights P t++DataW.weightsEach P ts ds',b<=reachBytes:=by simp_all [DataW.weightsEach]
  obtain⟨x,hx,wx⟩:=JV hok n t u h1 _ _ _ _ h4 λb hb=>hw' b (U8 _ hb);have hg:=b3x h1 (hv 0 t v rfl rfl);obtain⟨y,hy,wy⟩:=Yy hok h3 h5 (λj t v hj hk=>hv (j+1) t v (by simp_all) (by simp_all)) λb hb=>hw' b (gy _ hb);cases ms with
  |nil=>
   cases ts with
   |cons _ _=>grind [pJ]|nil=>obtain⟨rfl,rfl,rfl⟩:=trodAll_nil h5;exact⟨x,⟨v,_,rfl,hg,hx,rfl⟩,wx⟩
  |cons m' ms=>exact⟨(x,y),⟨v,_,vs',[],[],rfl,rfl,hg,⟨hx,rfl⟩,hy⟩,wx,wy⟩
theorem MK(hl:laidOutB P=true){W' :World}(hb:Below W.heap.size W W'){sp:Nat->Bool} :∀{ts:List TypeId} {ms:List MG} {vs:c5x} {ds:List (DataW H)} {ps:List MemPlace},pJ P n ts ms=true->
  DataW.TrodAll enc P W 0 (λ_=>true) true ts vs ds ps->(∀x∈ps,x.block<W.heap.size)->(∀x∈ps,sp x.block=true)->DataW.TrodAll enc P W' 0 sp true ts vs ds ps
 |[],ms,vs,ds,ps,h,hd,_,_=>by obtain⟨rfl,rfl,rfl⟩:=trodAll_nil hd;rfl
 |_::_,[],_,_,_,h,_,_,_=>by grind [pJ]|t::ts,(g,m)::ms,vs,ds,ps,h,hd,hlt,hsp=>by
  cases m<;>simp only[pJ,D5]at h<;>try (cases h;done)
  obtain⟨⟨⟨⟨h1,h2⟩,h6⟩,h7⟩,h3⟩:=h;rw[bK]at h7;obtain⟨v,vs',d,ds',p,q,rfl,rfl,rfl,h4,h5⟩:=trodAll_cons hd;exact⟨p,q,WideElems.Trod_stays hl h6 h7 h4 (λx hx=>hb.same (hlt x (U8 _ hx))) (λx hx=>hsp x (U8 _ hx)),
   MK hl hb h3 h5 (λx hx=>hlt x (gy _ hx)) (λx hx=>hsp x (gy _ hx)),rfl⟩
end
theorem a0J{W:World}{name:String}{g:Nat}{k:IntKind}{zs:c5w}(hg:P.globalNamed name=some g)(hz:0<zs.length)(h:Lib.TabIs P W name k zs):
  GG ⟨W.heap,λb _=>b<W.heap.size,nom⟩ g (.int k) zs:=by
 have hc:∀i z,zs[i]? =some z->W.cell? ⟨g,i,none⟩=some (.int k z):=λi z hi=>by have:=World.var?_cell hg h i;simp_all
 have key:∀i z,zs[i]? =some z->g<W.heap.size/\bW W.heap g i 1=some [.int k z]:=λi z hi=>by
  have h2:W.cells? 0 ⟨g,i,none⟩ 1=some [.int k z]:=by simp_all [World.cells?,Addr.add]
  obtain⟨_,s2,s3⟩:=UC l9 h2<;>simp_all
 refine⟨(key 0 zs[0] (qC hz)).1,?_,λi z hi=>⟨_,?_,rfl⟩⟩
 .unfold Lib.TabIs World.var? at h;simp[hg,mP]at h;split at h
  .rename_i cs T f hb;simp at h;subst h;exact⟨_,T,f,hb,by simp[Ty.size]⟩
  grind
 simp_all [Ty.size]
theorem a2b{w:World}{ok:Nat->Ty->Prop}{m:Mp}{name:String}{g:Nat}{k:IntKind}{zs:c5w}(hg:P.globalNamed name=some g)(h:GG ⟨w.heap,ok,m⟩ g (.int k) zs):Lib.TabIs P w name k zs:=by
 obtain⟨_,⟨c,T,f,hb,hl⟩,hz⟩:=h;unfold Lib.TabIs World.var?;simp[hg,mP,hb,G6];simp[Ty.size,mY]at hl;apply Array.ext
 .grind
 .intro i h1 h2;have hi:i<zs.length:=l9;obtain⟨es,he,hr⟩:=hz i zs[i] (qC hi);rw[jH hb _ _ (by grind [Ty.size])]at he;simp[Ty.size,mY,G6]at he;have h3:es=[.int k zs[i]]:=hr
  grind [List.getElem?_cons_zero]
theorem b3j{h:Array Obj}{all:c5x} :∀{ms:List MG} {ts:List TypeId} {vs:c5x},pJ P n ts ms=true->U_ h all ms vs:=by
 intro ms;induction ms with
 |nil=>intro ts vs _;trivial|cons md ms ih=>
  intro ts vs hp;obtain⟨g,md⟩:=md;cases ts with
  |nil=>cases hp|cons t ts=>
   cases md<;>simp[pJ,D5]at hp<;>try (cases hp;done)
   cases vs with
   |nil=>trivial|cons v vs=>exact ih hp.2
theorem ZF{H:Type}{enc:TypeId×Value->H}{gl:List (Nat×(t:Ty)×List t.den)}{f:FuncId}{fn:Func}{s:ChangeSpec}{ms:List MG}{F:Y3 ms->c5z}{tb:TypeId}
  (hlaid:laidOutB P=true) (hF:dK P gl f ⟨ms,[(false,.dat .bool)],[],F⟩) (law:∀x,a2j ms x->F x=some true) (hpars:pJ P 30 fn.params.toList ms=true) (hres:fn.resultTypes=#[tb]) (hbool:P.underlying tb=some .bool)
  (hvars:s.vars=[]) (hsfn:∀ds:List (DataW H),ds.length=ms.length->s.fn H ds= { results:=[.lit (.bool true)],args:=ds })
  {W:World} {base:Nat} {args:Array Value} {ds gs:List (DataW H)} {before:List MemPlace} {apart fresh handsOn again:Bool}
  (hgl:∀g u,bZ gl g=some u->GG ⟨W.heap,λb _=>b<W.heap.size,nom⟩ g u.1 u.2)
  (hval:∀(j:Nat) t v,fn.params[j]? =some t->args[j]? =some v->Value.okWide P W .any base t v)
  (hW:DataW.Whole enc P fn.params.toList s.vars apart W args.toList ds gs before)
  (hz:(DataW.weightsEach P (fn.params.toList++s.plain.varTypes P) (ds++gs)).all (·<=reachBytes)=true):
  Calls P f args W λe W' =>∃v,e= .returned v/\s.post enc P fn apart fresh handsOn again W args v W' :=by
 have hW' :=hW;obtain⟨p,q,hA,hV,rfl,hfz,hnd⟩:=hW;rw[hvars]at hV;obtain⟨rfl,rfl⟩:=trodVars_none hV;have hlen:ds.length=ms.length:=by
  have:∀{ts:List TypeId} {ms:List MG} {vs:c5x} {ds:List (DataW H)} {ps:List MemPlace},pJ P 30 ts ms=true->DataW.TrodAll enc P W 0 (λ_=>true) true ts vs ds ps->ds.length=ms.length:=by
   intro ts;induction ts with
   |nil=>
    grind [trodAll_nil,pJ]
   |cons t ts ih=>
    intro ms vs ds ps h hd;obtain⟨v,vs',d,ds',p,q,rfl,rfl,rfl,h4,h5⟩:=trodAll_cons hd;cases ms with
    |nil=>grind [pJ]|cons m ms=>
     obtain⟨g,m⟩:=m;cases m<;>simp only[pJ,D5]at h<;>try (cases h;done)
     grind
  grind
 have hvt:s.plain.varTypes P=[]:=by grind [ChangeSpec.plain,DataSpec.varTypes]
 rw[hvt]at hz;simp only[E9,ax,decide_eq_true_eq]at hz;obtain⟨x,hx,wx⟩:=Yy (ok:=λb _=>b<W.heap.size) (λb t hb=>hb) hpars hA (λj t v hj hv=>hval j t v (by simp_all) (by simp_all)) hz;have hc:=hF W (λb _=>b<W.heap.size) [] args.toList x true (λb t hb=>hb) dD (λb hb=>by grind) hgl hx (b3j hpars) (law x wx);simp only[Array.toArray_toList]at hc;refine hc.mono λe W' ⟨v,ok',O',rs,os,B,he,hfr,_,_,_,_,hrv,hos,hrel⟩=>?_;subst he;have hnoos:os=[]:=by
  have:∀{ms:List MG} {vs:c5x} {ts:List TypeId},pJ P 30 ts ms=true->rV W'.heap ms vs os B->os=[]:=by
   intro ms;induction ms with
   |nil=>
    grind [rV]
   |cons m ms ih=>
    intro vs ts h ho;obtain⟨g,m⟩:=m;cases ts with
    |nil=>grind [pJ]|cons t ts=>
     cases m<;>simp only[pJ,D5]at h<;>try (cases h;done)
     cases vs<;>grind [rV]
  grind
 subst hnoos;obtain⟨v1,cs,hvs,hg,⟨hrep,_⟩⟩:=hrel;simp only[E9]at hvs;subst hvs;have hv1:v1= .bool true:=by have h1:cs=[v1]:=hg;have h2:cs=[.bool true]:=hrep;simp_all
 subst hv1;have hv:v= .bool true:=hrv.2;subst hv;have hbel:Below W.heap.size W W' :=⟨hfr.os,hfr.tape,hfr.output,hfr.size,λk hk=>hfr.block k hk x8⟩;simp only[E9]at hW' hfz;have hlt:∀x∈p,x.block<W.heap.size:=λx hx=>by simpa using hW'.lt x hx
 have hres1:∀(b:Nat) (sp:Nat->Bool) (hd:Bool),DataW.TrodAll enc P W' b sp hd fn.resultTypes.toList ((Value.bool true).resultList fn.resultTypes.size) (s.fn H (ds++[])).results []:=λb sp hd=>by rw[E9,hsfn ds hlen,hres];exact trodAll_cons_mk (shut_bool hbool _) trodAll_mk0
 have hargs1:∀sp:Nat->Bool,(∀x∈p,sp x.block=true)->DataW.TrodAll enc P W' 0 sp true fn.params.toList args.toList (s.fn H (ds++[])).args p:=λsp hs=>by rw[E9,hsfn ds hlen];exact MK hlaid hbel hpars hA hlt hs
 have hvars1:∀sp:Nat->Bool,DataW.TrodVars enc P W' sp s.vars (s.fn H (ds++[])).vars []:=λsp=>by rw[E9,hsfn ds hlen,hvars];rfl
 refine⟨_,rfl,ds,[],p,[],p,[],hW',hres1 _ _ _,hargs1 _ (λx hx=>by simp_all),hvars1 _,World.keptBut_mono (λx hx=>⟨hx,.inr (.inl hx)⟩) (hbel.frame (·∈p)),λ_=>⟨ok_one hres rfl (okWide_bool_mk hbool _),_,_,([]++p)++[],⟨[]++p,[],trodAll_append (hargs1 _ (λ_ _=>rfl)) (hres1 _ _ _),hvars1 _,rfl,?_,?_⟩,?_⟩⟩
 .intro b off hp;simp only[G8,E9]at hp;rw[hbel.frozen (hlt _ hp)];exact hfz b off hp
 all_goals grind
end Go.GP
namespace Go.GP
open Go.RowKit
theorem a2t(w:World)(k:Nat)(os:Array Obj):Below w.heap.size w (Sort.grow (w.drewN k) os):=
 ⟨rfl,rfl,rfl,x8,λi hi=>by show((w.drewN k).heap++os)[i]? =_;simp_all [mg]⟩
theorem Gh{P:Program}{w w' :World}(hb:Below w.heap.size w w'){ok:Nat->Ty->Prop}(hlt:∀b t,ok b t->b<w.heap.size){ps:List MG}{vals:c5x}(hps:rV w'.heap ps vals [] []){t:Ty}{x:t.den}{v:Value}(hr:kZ w'.heap ok t x [v]){μ:Prop}(hdr:μ->w.drawn<=w'.drawn):
  ∃v' ok' O' rs os B,(Ending.returned v)= .returned v' /\Frame' μ w w' []/\(∀b t,ok b t->ok' b t)/\(∀b t,ok' b t->b<w'.heap.size/\(ok b t\/w.heap.size<=b\/b∈([]:c5y)))/\
   (O' ++B).Nodup/\(∀b∈O' ++B,(∀t,¬ok' b t)/\b<w'.heap.size/\(w.heap.size<=b\/b∈([]:c5y)))/\
   SQ 1 v' rs/\rV w'.heap ps vals os B/\nI w'.heap ok' ([(false,.dat t)]++[]) x (rs++os) O' :=
 ⟨v,ok,[],[v],[],[],rfl,⟨hb.os,hb.tape,hb.output,hb.size,λb h _=>hb.block b h,hdr⟩,λb t h=>h,λb t h=>⟨gG (hlt b t h) hb.size,.inl h⟩,x8,x8,⟨rfl,rfl⟩,hps,⟨v,[v],rfl,rfl,hr,rfl⟩⟩
def FD(n:Int):Option c5v:=if -9223372036854775808<=n/\n<=9223372036854775807 then some (Lib.itoa n)else none
def uw(s:c5v)(c:Int):Option c5v:=if 0<=c/\c<=9223372036854775807/\s.length*c.toNat<=140737488355328 then some (Lib.repeatL s c.toNat)else none
variable {P:Program}
theorem a3e{f g:Nat}{gl:List (Nat×(t:Ty)×List t.den)}
  (hC:∀(n:Int) (h0:-9223372036854775808<=n) (h1:n<=9223372036854775807) (w:World) (htab:Lib.TabIs P w "internal/strconv.uint64pow10" .u64 Lib.pow10Tab),
   Calls P f #[.int .i64 n] w λe w' =>e= .returned (.string ⟨(Lib.itoa n).toArray⟩)/\∃k os,w' =Sort.grow (w.drewN k) os)
  (hg:P.globalNamed "internal/strconv.uint64pow10"=some g) (hgl:bZ gl g=some ⟨.int .u64,Lib.pow10Tab⟩):
  dK P gl f ⟨[(false,.dat (.int .i64))],[(false,.dat .str)],[],λx=>FD x⟩:=by
 intro w ok O vals x r hlt _ _ hgls hrel hdv hfn;obtain⟨v,cs,rfl,h1,h2,rfl⟩:=hrel;subst h1;obtain rfl:=(Y8 h2).1;simp only[FD]at hfn;split at hfn
 .rename_i hx;cases hfn;refine(hC x hx.1 hx.2 w (a2b hg (hgls _ _ hgl))).mono λe w' ⟨he,k,os,hw⟩=>?_;subst he;subst hw;exact Gh (P:=P) (t:=.str) (ps:=[(false,.dat (.int .i64))]) (vals:=[.int .i64 x]) (a2t w k os) hlt ⟨rfl,rfl⟩ rfl (λ_=>bu _ _)
 grind
theorem m_{f:Nat}{gl:List (Nat×(t:Ty)×List t.den)}[GlNe gl]
  (hC:∀(s:ByteArray) (c:Nat) (w:World) (hc:c<=9223372036854775807) (hlen:s.size*c<=140737488355328),
   Calls P f #[.string s,.int .i64 c] w λe w' =>e= .returned (.string ⟨(Lib.repeatL s.data.toList c).toArray⟩)/\Below w.heap.size w w'):
  dK P gl f ⟨[(false,.dat .str),(false,.dat (.int .i64))],[(false,.dat .str)],[],λx=>uw x.1 x.2⟩:=by
 intro w ok O vals x r hlt _ _ _ hrel hdv hfn;obtain⟨v,cs,vs',O1,O2,rfl,rfl,h1,⟨h2,rfl⟩,v2,cs2,rfl,h3,h4,rfl⟩:=hrel;subst h1;subst h3;obtain rfl:=(Y8 h2).1;obtain rfl:=(Y8 h4).1;simp only[uw]at hfn;split at hfn
 .rename_i hx;cases hfn;obtain⟨a,c⟩:=x;obtain⟨n,rfl⟩:∃n:Nat,c=n:=⟨c.toNat,(fM hx.1).symm⟩;have hh:=hC ⟨a.toArray⟩ n w l9 (by grind [ByteArray.size]);refine Calls.mono hh λe w' ⟨he,hb⟩=>?_;subst he;exact Gh (P:=P) (t:=.str) (x:=Lib.repeatL a (n:Int).toNat) (ps:=[(false,.dat .str),(false,.dat (.int .i64))]) (vals:=[.string ⟨a.toArray⟩,.int .i64 n]) hb hlt ⟨rfl,rfl⟩ (by simp[kZ]) (λh=>absurd h GlNe.ne)
 grind
end Go.GP
namespace Go.GP
def b4x(Q:Nat->((t:Ty)×List t.den)->Prop):List (Nat×(t:Ty)×List t.den)->Prop
 |[]=>True|(g,u)::r=>Q g u/\b4x Q r
theorem Ug{Q:Nat->((t:Ty)×List t.den)->Prop} :∀{l:List (Nat×(t:Ty)×List t.den)},b4x Q l->∀g u,bZ l g=some u->Q g u
 |[],_,g,u,h=>by grind [bZ]|(k,v)::r,hc,g,u,h=>by
  unfold bZ at h;cases hb:Nat.beq k g
  .simp[hb,cond_false]at h;exact Ug hc.2 g u h
  .simp[hb,cond_true,G6]at h;have:=fZ hb;subst this;subst h;exact hc.1
end Go.GP
namespace Go.GP
open Go.RowKit Go.Sort
def a4a(x:Int):c5w->c5w
 |[]=>[x]|y::l=>bif U7 x y then x::y::l else y::a4a x l
def Jw:c5w->c5w
 |[]=>[]|x::l=>a4a x (Jw l)
def ddp(p:Int):c5w->c5w
 |[]=>[]|y::l=>bif D8 y p then ddp p l else y::ddp y l
def dd:c5w->c5w
 |[]=>[]|x::l=>x::ddp x l
theorem QS(x:Int):∀l,(a4a x l).Perm (x::l)
 |[]=> .refl _|y::l=>by
  unfold a4a;cases U7 x y
  .exact(List.Perm.cons y (QS x l)).trans (List.Perm.swap x y l)
  .exact .refl _
theorem Hg:∀l,(Jw l).Perm l
 |[]=> .refl _|x::l=>(QS x (Jw l)).trans ((Hg l).cons x)
theorem SB(x:Int):∀{l:c5w},l.Pairwise (·<=·)->(a4a x l).Pairwise (·<=·)
 |[],_=>by simp[a4a]|y::l,h=>by
  have h' :=V8.1 h;unfold a4a;cases hxy:U7 x y
  .have hxy' :y<x:=by simp_all [U7]
   refine V8.2 ⟨λz hz=>?_,SB x h'.2⟩<;>grind [QS]
  .have hxy' :x<=y:=by simp_all [U7]
   refine V8.2 ⟨λz hz=>?_,h⟩<;>grind
theorem Hl:∀l,(Jw l).Pairwise (·<=·)
 |[]=>List.Pairwise.nil|x::l=>SB x (Hl l)
theorem Ti(l:c5w):(l.mergeSort λx y=>decide (x<=y))=Jw l:=by
 grind [List.Perm.eq_of_pairwise,Hl,List.mergeSort_perm,Hg,List.pairwise_mergeSort]
theorem UG(y:Int):∀(l:c5w) (p:Int),ddp p (l++[y])=ddp p l++(bif D8 y ((p::l).getLast x8)then[]else[y])
 |[],p=>rfl|z::l,p=>by
  have hg:(p::z::l).getLast x8=(z::l).getLast x8:=List.getLast_cons _;simp[G9,ddp];by_cases h:z=p
  .subst h;simp[D8,decide_true,cond_true];exact UG y l z
  .have h' :D8 z p=false:=by simp[D8,h]
   rw[h'];rw[UG y l z];rfl
theorem Qi(l:c5w)(y:Int)(m:Nat)(hm:m<=l.length):Lib.compactUpTo (l++[y]).toArray m=Lib.compactUpTo l.toArray m:=by
 grind [Lib.compactUpTo,Lib.keeps,List.filter_congr,List.map_congr_left]
theorem Zf(x y:Int)(l:c5w):Lib.compact (x::l++[y])=Lib.compact (x::l)++(bif D8 y ((x::l).getLast x8)then[]else[y]):=by
 have hlen:(x::l++[y]).length=(x::l).length+1:=x8;have h1:Lib.compact (x::l++[y])=Lib.compactUpTo (x::l++[y]).toArray (x::l).length++(if Lib.keeps (x::l++[y]).toArray (x::l).length=true then[(x::l++[y]).toArray[(x::l).length]!]else[]):=by
  grind [Lib.compact,Lib.compactUpTo,List.range_succ]
 grind [Qi,Lib.keeps,Lib.compact,D8]
theorem a1V{motive:c5w->Prop}(h0:motive [])(h1:∀l y,motive l->motive (l++[y])):∀n (l:c5w),l.length=n->motive l
 |0,l,h=>by simp_all|n+1,l,h=>by
  have hne:l≠[]:=by grind
  rw[←List.dropLast_concat_getLast hne];exact h1 _ _ (a1V h0 h1 n _ (by simp_all))
theorem a2E(l:c5w):Lib.compact l=dd l:=by
 cases l with
 |nil=>rfl|cons x l=>
  refine a1V (motive:=λl=>Lib.compact (x::l)=x::ddp x l) ?_ (λl y ih=>?_) l.length l rfl
  .simp[Lib.compact,Lib.compactUpTo,Lib.keeps,ddp]
  .have:=Zf x y l;simp_all [UG]
def Dt(xs:c5w):Option c5w:=bif Nat.blt xs.length 4611686018427387904 then some (Jw xs)else none
def wJ(xs:c5w):Option c5w:=bif Nat.blt xs.length 4611686018427387904 then some (dd xs)else none
def xQ(s t:c5v):c5z:=match t with
 |[c]=>some (decide (0<=Lib.indexByte s c))|_=>none
variable {w:World}{ok:Nat->Ty->Prop}
theorem OC{m:Mp}{xs:c5w}{blk off len cap sz:Nat}(h:arrOk ⟨w.heap,ok,m⟩ (.int .i64) xs (.arr blk off len cap sz)):Holds (Value.int .i64) w blk off xs.toArray:=by
 obtain⟨_,rfl,rfl,hc,c,T,f,hb,hz,hs,hx⟩:=h;have hz:=hz.elim id (λh=>nomatch h.1);intro j hj;have hj' :=l9;obtain⟨es,he,hr⟩:=hx j xs[j] (qC hj');subst hr;have he' :bW w.heap blk (off+j*1) 1=some [.int .i64 xs[j]]:=he;refine⟨?_,?_⟩
 .have:=xZ he' (j:=0) rfl;simp_all
 grind [World.frozen?]
variable {blk:Nat}{off:Nat}{n:Nat}{c:Array Value}{T:TypeId}
theorem a7y{fr:Nat×Nat}(hb:w.heap[blk]? =some (.cells c T fr))(d:Array Int):
  (putRow (Value.int .i64) (Sort.ahead w n) blk off d).heap[blk]? =some (.cells (putCells (Value.int .i64) off d c) T fr):=by
 show(w.heap.modify blk (onCells (putCells (Value.int .i64) off d)))[blk]? =_;rw[qE,if_pos rfl,hb];rfl
theorem a3z{blk off n b:Nat}(h:b≠blk)(d:Array Int):(putRow (Value.int .i64) (Sort.ahead w n) blk off d).heap[b]? =w.heap[b]?:=by
 show(w.heap.modify blk (onCells (putCells (Value.int .i64) off d)))[b]? =_
 grind
theorem a4I{h:Array Obj}{m:Mp}{blk off cap:Nat}{d:Array Int}{ys:c5w}(hb:h[blk]? =some (.cells (putCells (Value.int .i64) off d c) T (0,0)))
  (hfit:off+cap<=c.size) (hd:d.size<=cap) (hl:ys.length<=d.size) (hy:∀(i:Nat) (y:Int),ys[i]? =some y->d[i]? =some y):arrOk ⟨h,ok,m⟩ (.int .i64) ys (.arr blk off ys.length cap 1):=by
 refine⟨rfl,rfl,rfl,l9,_,T,_,hb,.inl rfl,by simp[putCells,Ty.size];omega,λi y hi=>⟨[.int .i64 y],?_,rfl⟩⟩<;>grind [putCells,bW,List.drop_eq_getElem_cons]
theorem a5J{μ:Prop}{P:Program}{d:Array Int}{os:Array Obj}(hlt:∀b t,ok b t->b<w.heap.size)(hfree:(∀t,¬ok blk t)/\blk<w.heap.size)
  (hb:w.heap[blk]? =some (.cells c T (0,0))) {w' :World} (hw:w' =Sort.grow (putRow (Value.int .i64) (Sort.ahead w n) blk off d) os):
  w'.heap[blk]? =some (.cells (putCells (Value.int .i64) off d c) T (0,0))/\Frame' μ w w' [blk]/\(∀b t,ok b t->b<w'.heap.size/\(ok b t\/w.heap.size<=b\/b∈[blk]))/\blk<w'.heap.size:=by
 subst hw;have hsz:(putRow (Value.int .i64) (Sort.ahead w n) blk off d).heap.size=w.heap.size:=x8;have hge:w.heap.size<=(Sort.grow (putRow (Value.int .i64) (Sort.ahead w n) blk off d) os).heap.size:=x8;have hold:∀b,b<w.heap.size->(Sort.grow (putRow (Value.int .i64) (Sort.ahead w n) blk off d) os).heap[b]? =(putRow (Value.int .i64) (Sort.ahead w n) blk off d).heap[b]?:=λb hb=>by
  show((putRow (Value.int .i64) (Sort.ahead w n) blk off d).heap++os)[b]? =_
  grind
 refine⟨by rw[hold blk hfree.2];exact a7y hb d,⟨rfl,rfl,rfl,hge,λb h1 h2=>?_,λ_=>bu _ _⟩,λb t h=>⟨gG (hlt b t h) hge,.inl h⟩,gG hfree.2 hge⟩<;>grind [a3z]
variable {P:Program}{f:Nat}
theorem a4i{gl:List (Nat×(t:Ty)×List t.den)}
  (hC:∀(blk off cap:Nat) (zs:c5w) (w:World) (hH:Holds (Value.int .i64) w blk off zs.toArray) (hblk:blk<w.heap.size) (hsz:zs.length<4611686018427387904),
   Calls P f #[.slice (some ⟨blk,off,none⟩) zs.length cap] w λe w' =>e= .returned (.tuple #[])/\∃n os,w' =Sort.grow (putRow (Value.int .i64) (Sort.ahead w n) blk off (zs.mergeSort λx y=>decide (x<=y)).toArray) os)
  (hN:∀(p:Option Addr) (cap:Nat) (w:World),Calls P f #[.slice p 0 cap] w λe w' =>e= .returned (.tuple #[])/\w' =w):
  dK P gl f ⟨[(false,.ownb (.int .i64))],[],[(false,.own (.int .i64))],λx=>Dt x⟩:=by
 intro w ok O vals x r hlt hnd hO _ hrel hdv hfn;obtain⟨v,cs,rfl,h1,l,v',hcs,hv,ha,rfl⟩:=hrel;have h1:cs=[v]:=h1;rw[h1]at hcs;simp at hcs;subst hcs;simp[Dt]at hfn;cases hx0:Nat.blt x.length 4611686018427387904<;>rw[hx0]at hfn
 .grind
 rw[bK]at hx0;have hx:=hx0;rw[←Ti]at hfn;cases hfn;cases l with
 |st b=>cases ha|mp b=>cases ha.1|nil=>
  have ha:=ha.1;have hv:v= .slice none 0 0:=hv;subst hv;refine(hN none 0 w).mono λe w' ⟨he,hw⟩=>?_;subst he;subst hw;exact⟨_,ok,[],[],[.slice none 0 0],[],rfl,Frame'.refl _ _,λ_ _ h=>h,λb t h=>⟨hlt b t h,.inl h⟩,x8,x8,⟨rfl,rfl⟩,⟨[],rfl,rfl,rfl⟩,
   ⟨_,_,rfl,rfl,xX.2 ⟨.nil,_,rfl,rfl,(by simp_all),rfl⟩⟩⟩
 |arr blk off len cap sz=>
  have hH:=OC ha;obtain⟨_,rfl,rfl,hc,c,T,f,hb,hz,hs,hx'⟩:=ha;have hz:f=(0,0):=hz.elim id (λh=>nomatch h.1);subst hz;have hv:v= .slice (some ⟨blk,off,none⟩) x.length cap:=hv;subst hv;have hfree:=hO blk (by simp[Loc.blks]);refine(hC blk off cap x w hH hfree.2 hx).mono λe w' ⟨he,n,os,hw⟩=>?_;subst he;obtain⟨g1,g2,g3,g4⟩:=a5J (P:=P) hlt hfree hb hw;have hlen:(x.mergeSort λx y=>decide (x<=y)).length=x.length:=List.length_mergeSort ..;have hfit:off+cap<=c.size:=by simp_all [Ty.size]
  have harr:=a4I (ok:=ok) (m:=nom) (cap:=cap) (ys:=x.mergeSort λx y=>decide (x<=y)) g1 hfit (by simp_all) x8 (λi y hi=>by simp_all);rw[hlen]at harr;refine⟨_,ok,[blk],[],[.slice (some ⟨blk,off,none⟩) x.length cap],[],rfl,g2,λ_ _ h=>h,g3,x8,λb hb=>?_,⟨rfl,rfl⟩,⟨[],rfl,rfl,rfl⟩,⟨_,_,rfl,rfl,xX.2 ⟨.arr blk off x.length cap 1,_,rfl,rfl,harr,rfl⟩⟩⟩<;>simp_all [Loc.blks]
theorem a2F(zs:c5w):(Lib.compact zs).length<=zs.length:=by
 grind [Lib.compact,Lib.compactUpTo]
theorem Xf{gl:List (Nat×(t:Ty)×List t.den)}
  (hC:∀(blk off cap:Nat) (zs:c5w) (w:World) (hH:Holds (Value.int .i64) w blk off zs.toArray) (hsz:zs.length<=9223372036854775807) (hcap:zs.length<=cap),
   Calls P f #[.slice (some ⟨blk,off,none⟩) zs.length cap] w λe w' =>e= .returned (.slice (some ⟨blk,off,none⟩) (Lib.compact zs).length cap)/\∃q,w' =putRow (Value.int .i64) (Sort.ahead w q) blk off (Lib.compact zs++List.replicate (zs.length -(Lib.compact zs).length) 0).toArray)
  (hN:∀(a:Option Addr) (cap:Nat) (w:World),Calls P f #[.slice a 0 cap] w λe w' =>e= .returned (.slice a 0 cap)/\w' =w):
  dK P gl f ⟨[(false,.own (.int .i64))],[(false,.own (.int .i64))],[],λx=>wJ x⟩:=by
 intro w ok O vals x r hlt hnd hO _ hrel hdv hfn;obtain⟨v,cs,rfl,h1,hrm⟩:=hrel;obtain⟨l,v',hcs,hv,ha,rfl⟩:=xX.1 hrm;have h1:=h1;rw[h1]at hcs;simp at hcs;subst hcs;simp[wJ]at hfn;cases hx0:Nat.blt x.length 4611686018427387904<;>rw[hx0]at hfn
 .grind
 rw[bK]at hx0;have hx:=hx0;rw[←a2E]at hfn;cases hfn;cases l with
 |st b=>cases ha|mp b=>cases ha.1|nil=>
  have ha:x=[]:=ha.1;subst ha;have hv:v= .slice none 0 0:=hv;subst hv;refine(hN none 0 w).mono λe w' ⟨he,hw⟩=>?_;subst he;subst hw;exact⟨_,ok,[],[.slice none 0 0],[],[],rfl,Frame'.refl _ _,λ_ _ h=>h,λb t h=>⟨hlt b t h,.inl h⟩,x8,x8,⟨rfl,rfl⟩,⟨rfl,rfl⟩,
   ⟨_,_,rfl,rfl,xX.2 ⟨.nil,_,rfl,rfl,⟨rfl,rfl⟩,rfl⟩⟩⟩
 |arr blk off len cap sz=>
  have hH:=OC ha;obtain⟨_,rfl,rfl,hc,c,T,f,hb,hz,hs,hx'⟩:=ha;have hz:f=(0,0):=hz.elim id (λh=>nomatch h.1);subst hz;have hv:v= .slice (some ⟨blk,off,none⟩) x.length cap:=hv;subst hv;have hfree:=hO blk (by simp[Loc.blks]);refine(hC blk off cap x w hH l9 hc).mono λe w' ⟨he,n,hw⟩=>?_;subst he;have hle:=a2F x;obtain⟨g1,g2,g3,g4⟩:=a5J (P:=P) (n:=n) (off:=off) (d:=(Lib.compact x++List.replicate (x.length -(Lib.compact x).length) 0).toArray) (os:=#[]) (w' :=w') hlt hfree hb (by simp_all);have hfit:off+cap<=c.size:=by simp_all [Ty.size]
  have harr:=a4I (ok:=ok) (m:=nom) (cap:=cap) (ys:=Lib.compact x) g1 hfit (by simp_all) x8 (λi y hi=>by
   grind)
  refine⟨_,ok,[blk],[.slice (some ⟨blk,off,none⟩) (Lib.compact x).length cap],[],[],rfl,g2,λ_ _ h=>h,g3,x8,λb hb=>?_,⟨rfl,rfl⟩,⟨rfl,rfl⟩,⟨_,_,rfl,rfl,xX.2 ⟨.arr blk off (Lib.compact x).length cap 1,_,rfl,rfl,harr,rfl⟩⟩⟩<;>simp_all [Loc.blks]
theorem SX{gl:List (Nat×(t:Ty)×List t.den)}
  (hC:∀(s:ByteArray) (c:UInt8) (w:World),Calls P f #[.string s,.string ⟨#[c]⟩] w λe w' =>e= .returned (.bool (decide (0<=Lib.indexByte s.data.toList c)))/\w' =w):
  dK P gl f ⟨[(false,.dat .str),(false,.dat .str)],[(false,.dat .bool)],[],λx=>xQ x.1 x.2⟩:=by
 intro w ok O vals x r hlt _ _ _ hrel hdv hfn;obtain⟨v,cs,vs',O1,O2,rfl,rfl,h1,⟨h2,rfl⟩,v2,cs2,rfl,h3,h4,rfl⟩:=hrel;subst h1;subst h3;obtain rfl:=(Y8 h2).1;obtain rfl:=(Y8 h4).1;simp[xQ]at hfn;split at hfn
 .rename_i c hx;cases hfn;rw[hx];refine(hC ⟨x.1.toArray⟩ c w).mono λe w' ⟨he,hw⟩=>?_;subst he;subst hw;exact Gh (P:=P) (t:=.bool) (ps:=[(false,.dat .str),(false,.dat .str)]) (vals:=[_,_]) ⟨rfl,rfl,rfl,E5 _,λ_ _=>rfl⟩ hlt ⟨rfl,rfl⟩ rfl (λ_=>E5 _)
 grind
def CW{α:Type}(xs:List α):Option (List α):=iy [] xs
theorem a0p{E:Env}{f:FuncId}{fn:Func}{c:Code}{t:Ty}(hf:P.funcs[f]? =some fn)(hb:fn.body=some c)(hnt:fn.ntmps=E.nt)(hres:fn.results.toList=[.tmp 2])(hE:EnvOk P E)
  (h0:∀b,a6E E [(false,.cell (some (some b)))] ⟨[(.tmp 2,(false,.own t))],[]⟩ c .leaf ()=some [])
  (h2:∀xs,a6E E [(false,.dat (.sl t))] ⟨[(.tmp 2,(false,.own t))],[]⟩ c .leaf xs=l7 (D8 (x9 xs) 0) none (o5 (iy [] xs) λz=>some z))
  (ht:t.isEnt=false:=by rfl):
  dK P E.gl f ⟨[(false,.dat (.sl t))],[(false,.own t)],[],λxs=>CW xs⟩:=by
 intro w ok O vals x r hlt hnd hO hgl hrel hdv hfn;obtain⟨v,cs,rfl,h1,hr,rfl⟩:=hrel;subst h1;cases x with
 |nil=>
  obtain⟨a,cap,e,_,_⟩:=(yL ht).1 hr;have e:=(Y8 e).1;have hr:r=[]:=by
   grind [CW,iy]
  subst hr;exact MS (ps:=[(false,.cell (some (some a.isNone)))]) (rt:=⟨[(.tmp 2,(false,.own t))],[]⟩) (F:=λ_=>some []) hf hb hnt hres hE (λx r h=>by cases h;exact h0 a.isNone) w ok [] [v] () [] hlt hnd hO hgl
   ⟨v,[v],rfl,rfl,v,rfl,by subst e;rfl,(λh=>nomatch h),(λb h=>by simp_all),rfl⟩ trivial rfl
 |cons z zs=>
  exact MS (rt:=⟨[(.tmp 2,(false,.own t))],[]⟩) hf hb hnt hres hE (λx r h=>(h2 x).trans h) w ok [] [v] (z::zs) r hlt hnd hO hgl
   ⟨v,[v],rfl,rfl,hr,rfl⟩ trivial (by
    have h3:D8 (x9 (z::zs)) 0=false:=by grind [D8,x9]
    have h4:iy [] (z::zs)=some r:=hfn
    grind [l7,o5,iy])
end Go.GP
namespace Go.GP
open Go.Shelf Go.RowKit Go.Proofs
structure OthB (w w' :World) (ks:c5y):Prop where
 os:w'.os=w.os
 tape:w'.tape=w.tape
 output:w'.output=w.output
 size:w.heap.size<=w'.heap.size
 block:∀k,k<w.heap.size->k∉ks->w'.heap[k]? =w.heap[k]?
theorem OthB.trans{a b c:World}{ks:c5y}(h:OthB a b ks)(k:OthB b c ks):OthB a c ks:=
 ⟨k.os.trans h.os,k.tape.trans h.tape,k.output.trans h.output,V9 h.size k.size,λi hi hn=>(k.block i (gG hi h.size) hn).trans (h.block i hi hn)⟩
variable {xs:c5v}{l:Loc}
theorem o_{h:Array Obj}{te:Nat}(hr:sH h te xs l):∀b∈l.blks,b<h.size:=by
 intro b hb;cases l with
 |nil=>grind [Loc.blks]|st b=>cases hr|mp b=>cases hr|arr g off len cap sz=>simp[Loc.blks]at hb;obtain⟨_,_,_,_,_,cur,fz,h6,_⟩:=hr<;>grind
variable {w:World}
theorem a2u{P:Program}{t u ty e:TypeId}{i:TypeInfo}(ht:P.underlying t=some (.slice e))(hu:P.underlying u=some .string)(hi:P.info? e=some i)(hz:i.zero=some (.int .u8 0))
  (hsize:i.size=1) (hby:i.bytes=1) {v:Value} {l:Loc} {xs ys:c5v} (hv:l.view none v) (hr:sH w.heap e xs l) (hmax:xs.length+ys.length<=140737488355328):
  ∃v' w' l',(Builtin.append_ #[t,u] ty #[v,.string ⟨ys.toArray⟩]).run P w= .ok v' w' /\l'.view none v' /\sH w'.heap e (xs++ys) l' /\(∀b∈l'.blks,b∈l.blks\/w.heap.size<=b)/\OthB w w' l.blks:=by
 have hys:(⟨ys.toArray⟩:ByteArray).size=ys.length:=by simp[ByteArray.size]
 have hsc:Lib.strCells ⟨ys.toArray⟩=ys.map λc=>Value.int .u8 (c.toNat:Int):=rfl;have hback:∀{B:Nat} {h:Array Obj} {w' :World} {v' :Value} {zs:c5v} {n:Nat},n=zs.length->w'.ownsRowF B e 1 v' n (zs.map λc=>Value.int .u8 (c.toNat:Int))->∃l',l'.view none v' /\sH w'.heap e zs l' /\∀b∈l'.blks,B<=b:=by
  intro B h w' v' zs n hn ho;rcases ho.2 with⟨rfl,h0⟩|⟨g,cap,cur,fz,rfl,hB,hg,hfz,hc,hcm,hcs,htk⟩
  .exact⟨.nil,rfl,(aZ.1 (hn▸h0)),λb hb=>by simp[Loc.blks]at hb⟩
  .exact⟨.arr g 0 n cap 1,rfl,⟨rfl,rfl,hn,hc,hcm,cur,fz,hg,l9,l9,by rw[mY]at htk;exact htk⟩,λb hb=>by simp[Loc.blks]at hb;subst hb;exact hB⟩
 cases l with
 |st b=>cases hr|mp b=>cases hr|nil=>have hr:=hr;subst hr;have hv:v= .slice none 0 0:=hv;subst hv;obtain⟨v',w',h1,h2,h3,h4⟩:=Lib.run_append_own_stringF (P:=P) w w.heap.size t u ty e i ht hu hi hz hsize hby (.slice none 0 0) 0 [] ⟨rfl,.inl ⟨rfl,rfl⟩⟩ ⟨ys.toArray⟩ (by simp at hmax;unfold maxLen;omega) (by rw[hys];simpa using hmax) (E5 _);rw[hsc,G8,hys,bC]at h2;obtain⟨l',g1,g2,g3⟩:=hback (h:=w'.heap) rfl h2;exact⟨v',w',l',h1,g1,by simpa using g2,λb hb=> .inr (g3 b hb),⟨h3.os,h3.tape,h3.output,h3.size,λk hk _=>h3.block k hk (by simp[Value.ownBlock])⟩⟩
 |arr g off len cap sz=>
  obtain⟨rfl,rfl,rfl,hc,hcm,cur,fz,hg,hfz,hcs,htk⟩:=hr;have hv:v= .slice (some ⟨g,0,none⟩) xs.length cap:=hv;subst hv;by_cases hroom:xs.length+ys.length<=cap
  .have hrun:=Lib.run_append_room_stringF (P:=P) w t u ty e i ht hu hi hsize g xs.length cap cur fz hg hfz ⟨ys.toArray⟩ l9 l9;rw[hys,hsc]at hrun;refine⟨_,_,.arr g 0 (xs.length+ys.length) cap 1,hrun,rfl,⟨rfl,rfl,x8,hroom,hcm,_,fz,setRow_heap w g cur _ e _ hg,l9,?_,?_⟩,λb hb=> .inl hb,⟨rfl,rfl,rfl,x8,λk _ hk=>setRow_other w g k _ (λe=>hk (by simp[Loc.blks,e]))⟩⟩<;>grind
  .have holds:∀(j:Nat) (u:Value),(xs.map λc=>Value.int .u8 (c.toNat:Int))[j]? =some u->w.cell? ((⟨g,0,none⟩:Addr).add j)=some u:=λj u hj=>by
    have ho:w.ownsRowF 0 e 1 (.slice (some ⟨g,0,none⟩) xs.length cap) xs.length (xs.map λc=>Value.int .u8 (c.toNat:Int)):=⟨x8,.inr ⟨g,cap,cur,fz,rfl,iF _,hg,l9,hc,hcm,l9,by simp_all⟩⟩;exact ho.cells (g:=g) rfl j u hj
   have hrun:=Lib.run_append_grow_string (P:=P) w t u ty e i (.int .u8 0) ht hu hi hz ⟨g,0,none⟩ xs.length cap (xs.map λc=>Value.int .u8 (c.toNat:Int)) (by simp_all) holds ⟨ys.toArray⟩ l9 l9 (by rw[hby,hys];exact growslice_fits l9 l9);rw[hys,hsc]at hrun;have hge:=grownCap_ge w (xs.length+ys.length) cap e;have hcm2:grownCap w (xs.length+ys.length) cap e<=maxLen:=grownCap_le_maxLen w (xs.length+ys.length) cap e (by grind [maxLen]);refine⟨_,_,.arr w.heap.size 0 (xs.length+ys.length) _ 1,hrun,rfl,⟨rfl,rfl,x8,hge,hcm2,_,(0,0),heap_alloc_new w.drew _,iF _,?_,?_⟩,λb hb=> .inr (by simp_all [Loc.blks]),⟨rfl,rfl,rfl,x8,λk hk _=>heap_alloc_old w.drew _ hk⟩⟩
   .have hz1:(Value.int IntKind.u8 0).cells.size=1:=rfl;simp_all [size_zeroCells]
   grind
theorem a2w{P:Program}{ops:Array Oper}{rest:List Oper}{o:Oper}{a:Act}{Q:Exit->Act->World->Prop}{w:World}(hgd:o.guard=none)(sl x:Operand)(t u:TypeId)
  (ho:o.op= .call { callee:=.builtin .append,args:=#[sl,x],argTypes:=#[t,u] }) {e:TypeId} {i:TypeInfo} (ht:P.underlying t=some (.slice e)) (hu:P.underlying u=some .string) (hi:P.info? e=some i) (hz:i.zero=some (.int .u8 0))
  (hsize:i.size=1) (hby:i.bytes=1) {v:Value} {l:Loc} {xs ys:c5v} (hs:a.eval sl=v) (hx:a.eval x= .string ⟨ys.toArray⟩) (hv:l.view none v) (hr:sH w.heap e xs l) (hmax:xs.length+ys.length<=140737488355328)
  (h:∀v' w' l',l'.view none v' ->sH w'.heap e (xs++ys) l' ->(∀b∈l'.blks,b∈l.blks\/w.heap.size<=b)->OthB w w' l.blks->wpList P ops Q rest (a.put o.dst v') w'):wpList P ops Q (o::rest) a w:=by
 refine wpList_plain hgd λK hK=>?_;obtain⟨v',w',l',h1,h2,h3,h4,h5⟩:=a2u (ty:=o.type) ht hu hi hz hsize hby hv hr hmax;unfold Oper.wp execOp;simp[ho,resolve,invoke,builtin,J9,jQ,L8,List.map_toArray,aB,List.map_nil,hs,hx,h1];exact hK _ _ (h v' w' l' h2 h3 h4 h5)
def ul(h:Array Obj)(tb b:Nat)(es:c5x)(a v:Value):Prop:=∃arr,h[b]? =some (.cells arr tb (0,0))/\arr.toList=es++[a,v]
section
variable {w:World} {tb b:Nat} {es:c5x} {a v:Value}
theorem ul.arr(h:ul w.heap tb b es a v):w.heap[b]? =some (.cells (es++[a,v]).toArray tb (0,0)):=by obtain⟨arr,h1,h2⟩:=h;rw[h1,←h2]
theorem ul.lt(h:ul w.heap tb b es a v):b<w.heap.size:=(N7.1 h.arr).1
theorem ul.cell0(h:ul w.heap tb b es a v):w.cell? ⟨b,es.length,none⟩=some a:=by rw[Lib.cell_of_heap h.arr];simp
theorem ul.cell1(h:ul w.heap tb b es a v):w.cell? ⟨b,es.length+1,none⟩=some v:=by rw[Lib.cell_of_heap h.arr];simp[F7]
theorem ul.frozen(h:ul w.heap tb b es a v)(k:Nat):w.frozen? ⟨b,k,none⟩=false:=Lib.frozen_of_heap h.arr k
theorem ul.shape(h:ul w.heap tb b es a v):w.shape? b=some (tb,es.length+2):=by simp[World.shape?,h.arr]
theorem ul.set0(h:ul w.heap tb b es a v)(x:Value):ul (w.setCell ⟨b,es.length,none⟩ x).heap tb b es x v:=by refine⟨_,by rw[setCell_eq_setRow w b es.length _ _ _ _ h.arr];exact setRow_heap w b _ _ _ _ h.arr,?_⟩;simp
theorem ul.set1(h:ul w.heap tb b es a v)(x:Value):ul (w.setCell ⟨b,es.length+1,none⟩ x).heap tb b es a x:=by refine⟨_,by rw[setCell_eq_setRow w b (es.length+1) _ _ _ _ h.arr];exact setRow_heap w b _ _ _ _ h.arr,?_⟩;simp[List.set_append]
theorem ul.congr{h h' :Array Obj}(e:h'[b]? =h[b]?)(k:ul h tb b es a v):ul h' tb b es a v:=by obtain⟨arr,h1,h2⟩:=k;exact⟨arr,e.trans h1,h2⟩
end
variable {P:Program} {ρ:Ren}
set_option maxHeartbeats 2000000 in
set_option maxRecDepth 100000 in
theorem b2k(L:Lays.n170 P ρ){tb b:Nat}{es:c5x}{a v:Value}(hb:ul w.heap tb b es a v)(hv:l.view none v)(hr:sH w.heap (ρ.t 5) xs l):
  Calls P (ρ.f 170) #[.pointer (some ⟨b,es.length,none⟩)] w λe w' =>e= .returned (.int .i64 xs.length)/\w' =w:=by
 obtain⟨ao,cap,rfl⟩:∃ao cap,v= .slice ao xs.length cap:=by
  cases l with
  |nil=>have h:xs=[]:=hr;subst h;exact⟨_,_,hv⟩|st _=>cases hr|mp _=>cases hr|arr g off len cap sz=>obtain⟨_,_,rfl,_⟩:=hr;exact⟨_,_,hv⟩
 have c1:w.cell? ⟨b,es.length+1,none⟩=some (.slice ao xs.length cap):=hb.cell1;have mixed:=L.mixed;have t72:=L.t72;have a72:=L.a72;have z72:=L.z72;have v72:=L.v72;have u72:=run_underlying L.t72;have t70:=L.t70;have a70:=L.a70;have z70:=L.z70;have v70:=L.v70;have u70:=run_underlying L.t70;have t37:=L.t37;have a37:=L.a37;have z37:=L.z37;have v37:=L.v37;have u37:=run_underlying L.t37;have t3:=L.t3;have a3:=L.a3;have z3:=L.z3;have v3:=L.v3;have u3:=run_underlying L.t3
 go_enter L.f170,Body.n170_ntmps ρ
 go_wp2
 go_ret
 exact⟨rfl,rfl⟩
set_option maxHeartbeats 2000000 in
set_option maxRecDepth 100000 in
theorem a2v(L:Lays.n169 P ρ)(X:Builder.Extra P ρ){tb b:Nat}{es:c5x}{p v:Value}(hb:ul w.heap tb b es p v)
  (hv:l.view none v) (hr:sH w.heap (ρ.t 5) xs l) (hlen:xs.length<=140737488355328) (hnb:b∉l.blks):
  Calls P (ρ.f 169) #[.pointer (some ⟨b,es.length,none⟩)] w λe w' =>e= .returned (.string ⟨xs.toArray⟩)/\ul w'.heap tb b es p v/\sH w'.heap (ρ.t 5) xs l/\OthB w w' l.blks:=by
 have mixed:=L.mixed;have t72:=L.t72;have a72:=L.a72;have z72:=L.z72;have v72:=L.v72;have u72:=run_underlying L.t72;have t70:=L.t70;have a70:=L.a70;have z70:=L.z70;have v70:=L.v70;have u70:=run_underlying L.t70;have t37:=L.t37;have a37:=L.a37;have z37:=L.z37;have v37:=L.v37;have u37:=run_underlying L.t37;have t127:=L.t127;have a127:=L.a127;have z127:=L.z127;have v127:=L.v127;have u127:=run_underlying L.t127;have t3:=L.t3;have a3:=L.a3;have z3:=L.z3;have v3:=L.v3;have u3:=run_underlying L.t3;have t9:=L.t9;have a9:=L.a9;have z9:=L.z9;have v9:=L.v9;have u9:=run_underlying L.t9;have t5:=X.t5;have a5:=X.a5;have z5:=X.z5;have v5:=X.v5;have u5:=run_underlying X.t5;have hlt:b<w.heap.size:=hb.lt;have c1:w.drew.cell? ⟨b,es.length+1,none⟩=some v:=ul.cell1 (w:=w.drew) hb;have hdrew:OthB w w.drew l.blks:=⟨rfl,rfl,rfl,E5 _,λ_ _ _=>rfl⟩;cases l with
 |st _=>cases hr|mp _=>cases hr|nil=>
  have hx:xs=[]:=hr;subst hx;have hv:v= .slice none 0 0:=hv;subst hv;have hUS:=Any.unsafeString_none L X;have hSD:(Builtin.unsafeSliceData_ #[(ρ.t 37)] (ρ.t 127) #[.slice none 0 0]).run P w.drew= .ok (.pointer none) w.drew:=rfl
  go_enter L.f169,Body.n169_ntmps ρ
  go_wp2
  go_region_o
  all_goals (go_wp2;go_ret;exact⟨rfl,hb,rfl,hdrew⟩)
 |arr g off len cap sz=>
  have hr0:=hr;obtain⟨rfl,rfl,rfl,hc,hcm,cur,fz,hg,hfz,hcs,htk⟩:=hr;have hv:v= .slice (some ⟨g,0,none⟩) xs.length cap:=hv;subst hv;have hgd:w.drew.heap[g]? =some (.cells cur (ρ.t 5) fz):=hg;by_cases hx0:xs=[]
  .subst hx0;have hUS:=Any.unsafeString_none L X;by_cases hc0:cap=0
   .subst hc0;have hSD:(Builtin.unsafeSliceData_ #[(ρ.t 37)] (ρ.t 127) #[.slice (some ⟨g,0,none⟩) 0 0]).run P w.drew= .ok (.pointer (some ⟨w.drew.heap.size,0,none⟩)) (w.drew.alloc (.view ⟨g,0,none⟩ (ρ.t 5))):=
     Lib.run_unsafeSliceData_zero w.drew _ _ (ρ.t 5) L.t127 ⟨g,0,none⟩ 0 ((ρ.t 5),cur.size) (by simp[World.shape?,hgd])
    have hal:ul (w.drew.alloc (.view ⟨g,0,none⟩ (ρ.t 5))).heap tb b es p (.slice (some ⟨g,0,none⟩) 0 0):=hb.congr (heap_alloc_old w.drew _ hlt);have c2:(w.drew.alloc (.view ⟨g,0,none⟩ (ρ.t 5))).cell? ⟨b,es.length+1,none⟩=some (.slice (some ⟨g,0,none⟩) 0 0):=hal.cell1;have c3:(w.alloc (.view ⟨g,0,none⟩ (ρ.t 5))).drew.cell? ⟨b,es.length+1,none⟩=some (.slice (some ⟨g,0,none⟩) 0 0):=c2;have c0:w.cell? ⟨b,es.length+1,none⟩=some (.slice (some ⟨g,0,none⟩) 0 0):=c1;have hglt:g<w.heap.size:=(N7.1 hg).1;have fin:∀w',w' =w.drew.alloc (.view ⟨g,0,none⟩ (ρ.t 5))->ul w'.heap tb b es p (.slice (some ⟨g,0,none⟩) 0 0)/\sH w'.heap (ρ.t 5) [] (.arr g 0 0 0 1)/\OthB w w' [g]:=λw' e=>by subst e;exact⟨hal,wZ (λk hk=>by simp[Loc.blks]at hk;subst hk;exact heap_alloc_old w.drew _ hglt) hr0,⟨rfl,rfl,rfl,x8,λk hk _=>heap_alloc_old w.drew _ hk⟩⟩
    go_enter L.f169,Body.n169_ntmps ρ
    go_wp2
    go_region_o
    all_goals (go_wp2;go_ret;exact⟨rfl,fin _ rfl⟩)
   .have hSD:(Builtin.unsafeSliceData_ #[(ρ.t 37)] (ρ.t 127) #[.slice (some ⟨g,0,none⟩) 0 cap]).run P w.drew= .ok (.pointer (some ⟨g,0,none⟩)) w.drew:=
     Lib.run_unsafeSliceData_row _ _ _ _ _ _ hc0
    clear hc0
    go_enter L.f169,Body.n169_ntmps ρ
    go_wp2
    go_region_o
    all_goals (go_wp2;go_ret;exact⟨rfl,hb,hr0,hdrew⟩)
  .have hl0:xs.length≠0:=by simpa using hx0
   have hSD:(Builtin.unsafeSliceData_ #[(ρ.t 37)] (ρ.t 127) #[.slice (some ⟨g,0,none⟩) xs.length cap]).run P w.drew= .ok (.pointer (some ⟨g,0,none⟩)) w.drew:=
    Lib.run_unsafeSliceData_row _ _ _ _ _ _ l9
   have hown:w.ownsRowF 0 (ρ.t 5) 1 (.slice (some ⟨g,0,none⟩) xs.length cap) xs.length (xs.map λc=>Value.int .u8 (c.toNat:Int)):=⟨x8,.inr ⟨g,cap,cur,fz,rfl,iF _,hg,l9,hc,hcm,l9,by rw[mY];exact htk⟩⟩;have hUS:(Builtin.unsafeString_ #[(ρ.t 127),(ρ.t 3)] (ρ.t 9) #[.pointer (some ⟨g,0,none⟩),.int .i64 xs.length]).run P w.drew= .ok (.string ⟨xs.toArray⟩) (w.drew.freeze ⟨g,0,none⟩ xs.length):=by refine Lib.run_unsafeString_row w.drew (ρ.t 127) (ρ.t 3) (ρ.t 9) (ρ.t 5) L.t127 X.cellsByte g cur.size (by simp[World.shape?,hgd]) xs hx0 l9 (by unfold maxLen at hcm;omega) ?_;intro j x hx;exact hown.cells (g:=g) rfl j (.int .u8 x.toNat) (by simp[hx])
   have hgb:b≠g:=λe=>hnb (by simp[Loc.blks,e]);have fin:∀w',w' =w.drew.freeze ⟨g,0,none⟩ xs.length->ul w'.heap tb b es p (.slice (some ⟨g,0,none⟩) xs.length cap)/\sH w'.heap (ρ.t 5) xs (.arr g 0 xs.length cap 1)/\OthB w w' [g]:=λw' e=>by
    subst e;have ho:∀k,k≠g->(w.drew.freeze ⟨g,0,none⟩ xs.length).heap[k]? =w.heap[k]?:=λk hk=>by
     unfold World.freeze;split
     .rfl
     .simp only[qE];rw[if_neg (λe=>hk e.symm)];rfl
    refine⟨hb.congr (ho b hgb),?_,⟨by unfold World.freeze;split<;>rfl,by unfold World.freeze;split<;>rfl,by unfold World.freeze;split<;>rfl,by unfold World.freeze;split<;>simp,λk _ hk=>ho k (by simpa using hk)⟩⟩;unfold World.freeze;split
    .exact hr0
    .obtain⟨lo,hi⟩:=fz;refine⟨rfl,rfl,rfl,hc,hcm,cur,(if lo==hi then(0,0+xs.length)else(min lo 0,max hi (0+xs.length))),by simp[qE,hgd],?_,hcs,htk⟩;simp only at hfz;split<;>simp<;>omega
   go_enter L.f169,Body.n169_ntmps ρ
   go_wp2
   go_region_o
   all_goals (go_wp2;go_ret;exact⟨rfl,fin _ rfl⟩)
def ig(x ys:c5v):Option (Int×Unit×c5v):=if x.length+ys.length<=1073741824 then some (ys.length,(),x++ys)else none
def Oe(x:c5v):Option (Int×c5v):=some (x.length,x)
def yP(x:c5v):Option (c5v×c5v):=if x.length<=1073741824 then some (x,x)else none
def mW(t:Ty)(x:mbD t)(ys:c5v):Option (Int×Unit×mbD t):=if(mbT t x).length+ys.length<=1073741824 then some (ys.length,(),mbM t (mbX t x) (mbT t x++ys))else none
def um(t:Ty)(x:mbD t):Option (c5v×mbD t):=if(mbT t x).length<=1073741824 then some (mbT t x,x)else none
variable {tb:Nat}
theorem a2y{gl:List (Nat×(t:Ty)×List t.den)}(L:Lays.n170 P ρ) :
  dK P gl (ρ.f 170) ⟨[(false,.mbx .unit tb (ρ.t 5) 0)],[(false,.dat (.int .i64))],[(false,.mbx .unit tb (ρ.t 5) 0)],λx=>Oe x⟩:=by
 intro w ok O vals xs r hok hO hO2 hgl hrel hdv hF;have hF:some ((xs.length:Int),xs)=some r:=hF;cases hF;obtain⟨v0,cs0,rfl,hg,h1⟩:=hrel;have hg:cs0=[v0]:=hg;subst hg;obtain⟨b,arr,es,a,v,l,e,hb,he,hx,ha,hv,hr,rfl⟩:=h1;simp only[H8,and_true]at e;subst e;have hx:es=[]:=hx;subst hx;refine(b2k L (es:=[]) ⟨arr,hb,he⟩ hv hr).mono ?_;rintro e w' ⟨rfl,rfl⟩;refine⟨_,ok,b::l.blks,[.int .i64 xs.length],[.pointer (some ⟨b,0,none⟩)],[],rfl,Frame'.refl _ _,λ_ _ h=>h,λk t hk=>⟨hok k t hk,.inl hk⟩,by simpa using hO,λk hk=>?_,⟨rfl,rfl⟩,⟨_,rfl,rfl,rfl⟩,?_⟩
 .rw[E9]at hk;exact⟨(hO2 k hk).1,(hO2 k hk).2,.inr hk⟩
 .refine⟨.int .i64 xs.length,[.int .i64 xs.length],[.pointer (some ⟨b,0,none⟩)],[],b::l.blks,rfl,rfl,rfl,⟨rfl,rfl⟩,?_⟩;exact⟨_,_,rfl,rfl,⟨b,arr,[],a,v,l,rfl,hb,he,rfl,ha,hv,hr,rfl⟩⟩
theorem Me{gl:List (Nat×(t:Ty)×List t.den)}[GlNe gl](L:Lays.n169 P ρ)(X:Builder.Extra P ρ){t:Ty} :
  dK P gl (ρ.f 169) ⟨[(false,.mbx t tb (ρ.t 5) t.size)],[(false,.dat .str)],[(false,.mbx t tb (ρ.t 5) t.size)],λx=>um t x⟩:=by
 intro w ok O vals xs r hok hO hO2 hgl hrel hdv hF;have hF:um t xs=some r:=hF;unfold um at hF;split at hF
 case isFalse=>cases hF
 rename_i hmax;cases hF;obtain⟨v0,cs0,rfl,hg,h1⟩:=hrel;have hg:cs0=[v0]:=hg;subst hg;obtain⟨b,arr,es,a,v,l,e,hb,he,hx,ha,hv,hr,rfl⟩:=h1;simp only[H8,and_true]at e;subst e;have hes:=bV hx;have hnd:(b::l.blks).Nodup:=by simpa using hO
 have hnb:=(Y9.1 hnd).1;have key:=a2v L X ⟨arr,hb,he⟩ hv hr l9 hnb;rw[hes]at key;refine key.mono ?_;rintro e w' ⟨rfl,⟨arr',hb',he'⟩,hr',ho⟩;refine⟨_,ok,b::l.blks,[.string ⟨(mbT t xs).toArray⟩],[.pointer (some ⟨b,t.size,none⟩)],[],rfl,⟨ho.os,ho.tape,ho.output,ho.size,λk hk hn=>ho.block k hk (λh=>hn (by simp[h])),λh=>absurd h GlNe.ne⟩,λ_ _ h=>h,λk t hk=>⟨gG (hok k t hk) ho.size,.inl hk⟩,by simpa using hO,λk hk=>?_,⟨rfl,rfl⟩,⟨_,rfl,rfl,rfl⟩,?_⟩
 .rw[E9]at hk;exact⟨(hO2 k hk).1,gG (hO2 k hk).2 ho.size,.inr hk⟩
 .refine⟨.string ⟨(mbT t xs).toArray⟩,[.string ⟨(mbT t xs).toArray⟩],[.pointer (some ⟨b,t.size,none⟩)],[],b::l.blks,rfl,rfl,rfl,⟨rfl,rfl⟩,?_⟩;exact⟨_,_,rfl,rfl,⟨b,arr',es,a,v,l,rfl,hb',he',dm (λ_ _ h=>h) (λk u hk=>ho.block k (hok k u hk) (λh=>(hO2 k (by simp[h])).1 u hk)) hx,ha,hv,hr',rfl⟩⟩
theorem Xa{gl:List (Nat×(t:Ty)×List t.den)}[GlNe gl](L:Lays.n169 P ρ)(X:Builder.Extra P ρ) :
  dK P gl (ρ.f 169) ⟨[(false,.mbx .unit tb (ρ.t 5) 0)],[(false,.dat .str)],[(false,.mbx .unit tb (ρ.t 5) 0)],λx=>yP x⟩:=Me (t:=.unit) L X
end Go.GP
namespace Go.GP
open Go.ChangeShapes Go.WideShapes Go.RowKit
def iD(s p:c5v):c5z:=some (Lib.hasPrefix s p)
def Bh(s:c5v)(c:Int):c5A:=some (Lib.indexByte s c.toNat.toUInt8)
def Us(s:c5v):Bool:=s.all λb=>Nat.blt b.toNat 128
def Cm(s c:c5v):c5A:=bif Nat.blt s.length 4294967281&&Nat.blt c.length 4294967281&&Us s&&Us c then some (Lib.indexAny s c)else none
theorem b8X{h:Array Obj}{ok:Nat->Ty->Prop}{vals:c5x}{O:c5y}{x:c5v×c5v}(hrel:nI h ok [(false,.dat .str),(false,.dat .str)] x vals O):vals=[.string ⟨x.1.toArray⟩,.string ⟨x.2.toArray⟩]/\O=[]:=by obtain⟨v,cs,vs',O1,O2,rfl,rfl,h1,⟨h2,rfl⟩,v2,cs2,rfl,h3,h4,rfl⟩:=hrel;subst h1;subst h3;have h2:[v]=[.string ⟨x.1.toArray⟩]:=h2;have h4:[v2]=[.string ⟨x.2.toArray⟩]:=h4;simp_all
variable {P:Program}{f:Nat}
theorem Tc{gl:List (Nat×(t:Ty)×List t.den)}
  (hC:∀(s p:ByteArray) (w:World),Calls P f #[.string s,.string p] w λe w' =>e= .returned (.bool (Lib.hasPrefix s.data.toList p.data.toList))/\w' =w):
  dK P gl f ⟨[(false,.dat .str),(false,.dat .str)],[(false,.dat .bool)],[],λx=>iD x.1 x.2⟩:=by
 intro w ok O vals x r hlt _ _ _ hrel hdv hfn;obtain⟨rfl,rfl⟩:=b8X hrel;cases hfn;refine(hC ⟨x.1.toArray⟩ ⟨x.2.toArray⟩ w).mono λe w' ⟨he,hw⟩=>?_;subst he;subst hw;exact Gh (P:=P) (t:=.bool) (ps:=[(false,.dat .str),(false,.dat .str)]) (vals:=[_,_]) ⟨rfl,rfl,rfl,E5 _,λ_ _=>rfl⟩ hlt ⟨rfl,rfl⟩ rfl (λ_=>E5 _)
theorem Td{gl:List (Nat×(t:Ty)×List t.den)}
  (hC:∀(s:ByteArray) (c:Int) (w:World),Calls P f #[.string s,.int .u8 c] w λe w' =>e= .returned (.int .i64 (Lib.indexByte s.data.toList c.toNat.toUInt8))/\w' =w):
  dK P gl f ⟨[(false,.dat .str),(false,.dat (.int .u8))],[(false,.dat (.int .i64))],[],λx=>Bh x.1 x.2⟩:=by
 intro w ok O vals x r hlt _ _ _ hrel hdv hfn;obtain⟨v,cs,vs',O1,O2,rfl,rfl,h1,⟨h2,rfl⟩,v2,cs2,rfl,h3,h4,rfl⟩:=hrel;subst h1;subst h3;obtain rfl:=(Y8 h2).1;obtain rfl:=(Y8 h4).1;cases hfn;refine(hC ⟨x.1.toArray⟩ x.2 w).mono λe w' ⟨he,hw⟩=>?_;subst he;subst hw;exact Gh (P:=P) (t:=.int .i64) (ps:=[(false,.dat .str),(false,.dat (.int .u8))]) (vals:=[_,_]) ⟨rfl,rfl,rfl,E5 _,λ_ _=>rfl⟩ hlt ⟨rfl,rfl⟩ rfl (λ_=>E5 _)
theorem Rj{s:c5v}(h:Us s=true):∀(j:Nat) b,s[j]? =some b->b.toNat<128:=λj b hb=>by have:=ax.1 h b (rD hb);simp_all
theorem Vk{gl:List (Nat×(t:Ty)×List t.den)}[GlNe gl]
  (hC:∀(s c:ByteArray) (w:World),s.size<4294967281->c.size<4294967281->(∀(j:Nat) b,s.data.toList[j]? =some b->b.toNat<128)->(∀(j:Nat) b,c.data.toList[j]? =some b->b.toNat<128)->
   Calls P f #[.string s,.string c] w λe w' =>e= .returned (.int .i64 (Lib.indexAny s.data.toList c.data.toList))/\Below w.heap.size w w'):
  dK P gl f ⟨[(false,.dat .str),(false,.dat .str)],[(false,.dat (.int .i64))],[],λx=>Cm x.1 x.2⟩:=by
 intro w ok O vals x r hlt _ _ _ hrel hdv hfn;obtain⟨rfl,rfl⟩:=b8X hrel;simp only[Cm]at hfn;cases hc:(Nat.blt x.1.length 4294967281&&Nat.blt x.2.length 4294967281&&Us x.1&&Us x.2)
 .simp_all
 .rw[hc]at hfn;cases hfn;simp only[D5,bK]at hc;obtain⟨⟨⟨h1,h2⟩,h3⟩,h4⟩:=hc;refine(hC ⟨x.1.toArray⟩ ⟨x.2.toArray⟩ w (by grind [ByteArray.size]) (by grind [ByteArray.size]) (Rj h3) (Rj h4)).mono λe w' ⟨he,hw⟩=>?_;subst he;exact Gh (P:=P) (t:=.int .i64) (x:=Lib.indexAny x.1 x.2) (ps:=[(false,.dat .str),(false,.dat .str)]) (vals:=[_,_]) hw hlt ⟨rfl,rfl⟩ rfl (λh=>absurd h GlNe.ne)
end Go.GP
namespace Go.GP
open Go.Shelf Go.RowKit Go.Proofs
structure Lw (P:Program) (ρ:Ren) (tb o:Nat):Prop where
 mixed:P.follows Departure.mixedOrders=true
 f166:P.funcs[ρ.f 166]? =some (Body.n166 ρ)
 t72:P.underlying (ρ.t 72)=some (.struct #[{ name:= "addr",type:=ρ.t 70,offset:=0,embedded:=false,tag:= "",pkgPath:= "strings",byteOffset:=0 },{ name:= "buf",type:=ρ.t 37,offset:=1,embedded:=false,tag:= "",pkgPath:= "strings",byteOffset:=8 }])
 a72:∀w:World,(isAgg (ρ.t 72)).run P w= .ok true w
 z72:∀w:World,(sizeOf (ρ.t 72)).run P w= .ok 2 w
 v72:∀w:World,(zeroValue (ρ.t 72)).run P w= .ok (.agg #[.pointer none,.slice none 0 0]) w
 t70:P.underlying (ρ.t 70)=some (.pointer (ρ.t 72))
 a70:∀w:World,(isAgg (ρ.t 70)).run P w= .ok false w
 z70:∀w:World,(sizeOf (ρ.t 70)).run P w= .ok 1 w
 v70:∀w:World,(zeroValue (ρ.t 70)).run P w= .ok (.pointer none) w
 t37:P.underlying (ρ.t 37)=some (.slice (ρ.t 5))
 a37:∀w:World,(isAgg (ρ.t 37)).run P w= .ok false w
 z37:∀w:World,(sizeOf (ρ.t 37)).run P w= .ok 1 w
 v37:∀w:World,(zeroValue (ρ.t 37)).run P w= .ok (.slice none 0 0) w
 t3:P.underlying (ρ.t 3)=some (.int .i64)
 a3:∀w:World,(isAgg (ρ.t 3)).run P w= .ok false w
 z3:∀w:World,(sizeOf (ρ.t 3)).run P w= .ok 1 w
 v3:∀w:World,(zeroValue (ρ.t 3)).run P w= .ok (.int .i64 0) w
 t9:P.underlying (ρ.t 9)=some (.string)
 a9:∀w:World,(isAgg (ρ.t 9)).run P w= .ok false w
 z9:∀w:World,(sizeOf (ρ.t 9)).run P w= .ok 1 w
 v9:∀w:World,(zeroValue (ρ.t 9)).run P w= .ok (.string ⟨#[]⟩) w
 t4:P.underlying (ρ.t 4)=some (.bool)
 a4:∀w:World,(isAgg (ρ.t 4)).run P w= .ok false w
 z4:∀w:World,(sizeOf (ρ.t 4)).run P w= .ok 1 w
 v4:∀w:World,(zeroValue (ρ.t 4)).run P w= .ok (.bool false) w
 t164:P.underlying (ρ.t 164)=some (.unsafePointer)
 a164:∀w:World,(isAgg (ρ.t 164)).run P w= .ok false w
 z164:∀w:World,(sizeOf (ρ.t 164)).run P w= .ok 1 w
 v164:∀w:World,(zeroValue (ρ.t 164)).run P w= .ok (.pointer none) w
 e240:∀args w,(callFunc (ρ.f 240) args).run P w= .ok (.enter (ρ.f 240) args) w
 used:∀(b:Nat) (w:World),w.cell? ⟨b,o,none⟩=some (.pointer (some ⟨b,o,none⟩))->Calls P (ρ.f 240) #[.pointer (some ⟨b,o,none⟩)] w λe w' =>e= .returned (.tuple #[])/\w' =w
 fresh:∀(b:Nat) (w:World),w.cell? ⟨b,o,none⟩=some (.pointer none)->w.shape? b=some (tb,o+2)->w.frozen? ⟨b,o,none⟩=false->Calls P (ρ.f 240) #[.pointer (some ⟨b,o,none⟩)] w λe w' =>e= .returned (.tuple #[])/\w' =w.setCell ⟨b,o,none⟩ (.pointer (some ⟨b,o,none⟩))
variable {P:Program} {ρ:Ren}
variable {tb:Nat}{es:c5x}{b:Nat}{w:World}
theorem Lw.check(L:Lw P ρ tb es.length){a v:Value}(hb:ul w.heap tb b es a v)(ha:a= .pointer none\/a= .pointer (some ⟨b,es.length,none⟩)):
  Calls P (ρ.f 240) #[.pointer (some ⟨b,es.length,none⟩)] w λe w' =>e= .returned (.tuple #[])/\ul w'.heap tb b es (.pointer (some ⟨b,es.length,none⟩)) v/\w'.heap.size=w.heap.size/\OthB w w' [b]:=by
 rcases ha with rfl|rfl
 .refine(L.fresh b w hb.cell0 hb.shape (hb.frozen _)).mono ?_;rintro e w' ⟨rfl,rfl⟩;exact⟨rfl,hb.set0 _,by simp[World.setCell],⟨rfl,rfl,rfl,by simp[World.setCell],λk _ hk=>Below.heap_setCell _ _ _ _ (λe=>hk (by simp[e]))⟩⟩
 .refine(L.used b w hb.cell0).mono ?_;rintro e w' ⟨rfl,rfl⟩;exact⟨rfl,hb,rfl,⟨rfl,rfl,rfl,E5 _,λ_ _ _=>rfl⟩⟩
set_option maxHeartbeats 2000000 in
set_option maxRecDepth 100000 in
theorem a2x(L:Lw P ρ tb es.length)(X:Builder.Extra P ρ){a v:Value}{l:Loc}{xs ys:c5v}(hb:ul w.heap tb b es a v)(ha:a= .pointer none\/a= .pointer (some ⟨b,es.length,none⟩))
  (hv:l.view none v) (hr:sH w.heap (ρ.t 5) xs l) (hlen:xs.length+ys.length<=140737488355328) (hnb:b∉l.blks):
  Calls P (ρ.f 166) #[.pointer (some ⟨b,es.length,none⟩),.string ⟨ys.toArray⟩] w λe w' =>e= .returned (.tuple #[.int .i64 ys.length,.nilIface])/\
   ∃v' l',ul w'.heap tb b es (.pointer (some ⟨b,es.length,none⟩)) v' /\l'.view none v' /\sH w'.heap (ρ.t 5) (xs++ys) l' /\b∉l'.blks/\(∀k∈l'.blks,k∈l.blks\/w.heap.size<=k)/\OthB w w' (b::l.blks):=by
 obtain⟨i0,hi,hz0,hz1,hz2⟩:=info_parts X.infoByte;have mixed:=L.mixed;have t72:=L.t72;have a72:=L.a72;have z72:=L.z72;have v72:=L.v72;have u72:=run_underlying L.t72;have t70:=L.t70;have a70:=L.a70;have z70:=L.z70;have v70:=L.v70;have u70:=run_underlying L.t70;have t37:=L.t37;have a37:=L.a37;have z37:=L.z37;have v37:=L.v37;have u37:=run_underlying L.t37;have t3:=L.t3;have a3:=L.a3;have z3:=L.z3;have v3:=L.v3;have u3:=run_underlying L.t3;have t9:=L.t9;have a9:=L.a9;have z9:=L.z9;have v9:=L.v9;have u9:=run_underlying L.t9;have t4:=L.t4;have a4:=L.a4;have z4:=L.z4;have v4:=L.v4;have u4:=run_underlying L.t4;have t164:=L.t164;have a164:=L.a164;have z164:=L.z164;have v164:=L.v164;have u164:=run_underlying L.t164;have t5:=X.t5;have a5:=X.a5;have z5:=X.z5;have v5:=X.v5;have u5:=run_underlying X.t5;have e240:=L.e240;have hlt:b<w.heap.size:=hb.lt
 go_enter L.f166,Body.n166_ntmps ρ
 go_wp2_with (go_at_fn (ρ.f 240);refine(L.check hb ha).mono ?_)
 rintro e w1 ⟨rfl,hb1,hs1,ho1⟩;have c0:=hb1.cell0;have c1:=hb1.cell1;have hr1:sH w1.heap (ρ.t 5) xs l:=wZ (λk hk=>ho1.block k (o_ hr k hk) (λe=>hnb (by simp at e;rw[←e];exact hk))) hr
 go_wp2_with (at_builtin;refine a2w rfl _ _ (ρ.t 37) (ρ.t 9) rfl L.t37 L.t9 hi hz0 hz1 hz2 rfl rfl hv hr1 hlen ?_)
 intro v' w2 l' hv' hr' hbl ho2;have hb2:ul w2.heap tb b es (.pointer (some ⟨b,es.length,none⟩)) v:=hb1.congr (ho2.block b l9 hnb);have d0:=hb2.cell0;have d1:=hb2.cell1;have f1:=hb2.frozen (es.length+1);have hnb' :b∉l'.blks:=λh=>(hbl b h).elim hnb (λh=>by omega);have hone:=kW hv';obtain⟨ao,n',cap,rfl⟩:∃ao n' cap,v' = .slice ao n' cap:=by
  cases l' with
  |nil=>exact⟨_,_,_,hv'⟩|st _=>cases hr'|mp _=>cases hr'|arr g off len cap sz=>exact⟨_,_,_,hv'⟩
 go_wp2
 go_ret2
 refine⟨by simp[ByteArray.size],_,l',hb2.set1 _,hv',wZ (λk hk=>Below.heap_setCell _ _ _ _ (λe=>hnb' (by have e:k=b:=e;rw[←e];exact hk))) hr',hnb',λk hk=>(hbl k hk).elim .inl (λh=> .inr l9),?_⟩
 .refine⟨ho2.os.trans ho1.os,ho2.tape.trans ho1.tape,ho2.output.trans ho1.output,?_,λk hk hn=>?_⟩
  .have:=ho2.size;simp[World.setCell];omega
  .simp only[D7,not_or]at hn;rw[Below.heap_setCell _ _ _ _ (λe=>hn.1 e),ho2.block k l9 hn.2,ho1.block k hk (by simpa using hn.1)]
theorem a4K{gl:List (Nat×(t:Ty)×List t.den)}[GlNe gl]{t:Ty}{tb te b:Nat}{w w' :World}{ok:Nat->Ty->Prop}{l l' :Loc}{x:mbD t}{zs:c5v}{v' :Value}
  (hok:∀b t,ok b t->b<w.heap.size) (hO2:∀k∈b::l.blks,(∀t,¬ok k t)/\k<w.heap.size) (hx:kZ w.heap ok t (mbX t x) es) (hb' :ul w'.heap tb b es (.pointer (some ⟨b,es.length,none⟩)) v') (hv' :l'.view none v') (hr' :sH w'.heap te zs l')
  (hnb' :b∉l'.blks) (hbl:∀k∈l'.blks,k∈l.blks\/w.heap.size<=k) (ho:OthB w w' (b::l.blks)):
  Frame' (gl=[]) w w' (b::l.blks)/\(∀k t,ok k t->k<w'.heap.size/\(ok k t\/w.heap.size<=k\/k∈b::l.blks))/\(b::l'.blks).Nodup/\(∀k∈b::l'.blks,(∀t,¬ok k t)/\k<w'.heap.size/\(w.heap.size<=k\/k∈b::l.blks))/\
   lS w'.heap ok (.mbx t tb te es.length) none (mbM t (mbX t x) zs) [.pointer (some ⟨b,es.length,none⟩)] (b::l'.blks):=by
 have hlt' :b<w'.heap.size:=hb'.lt;refine⟨⟨ho.os,ho.tape,ho.output,ho.size,λk hk hn=>ho.block k hk hn,λh=>absurd h GlNe.ne⟩,λk t hk=>⟨gG (hok k t hk) ho.size,.inl hk⟩,Y9.2 ⟨hnb',Loc.blks_nodup l'⟩,?_,?_⟩
 .intro k hk;rcases D7.1 hk with rfl|hk
  .exact⟨(hO2 k x8).1,hlt',.inr x8⟩
  .refine⟨λt hkt=>?_,o_ hr' k hk,?_⟩
   .rcases hbl k hk with h|h
    .exact(hO2 k (by simp[h])).1 t hkt
    .have:=hok k t hkt;omega
   .rcases hbl k hk with h|h
    .exact .inr (by simp[h])
    .exact .inl h
 .obtain⟨arr,h1,h2⟩:=hb';refine⟨b,arr,es,_,v',l',rfl,h1,h2,?_,.inr rfl,hv',by rw[a9h];exact hr',rfl⟩;rw[a9i];exact dm (λ_ _ h=>h) (λk u hk=>ho.block k (hok k u hk) (λh=>(hO2 k h).1 u hk)) hx
theorem OO{gl:List (Nat×(t:Ty)×List t.den)}[GlNe gl]{t:Ty}(L:Lw P ρ tb t.size)(X:Builder.Extra P ρ):
  dK P gl (ρ.f 166) ⟨[(false,.mbx t tb (ρ.t 5) t.size),(false,.dat .str)],[(false,.dat (.int .i64)),(false,.cell none)],[(false,.mbx t tb (ρ.t 5) t.size)],λx=>mW t x.1 x.2⟩:=by
 intro w ok O vals x r hok hO hO2 hgl hrel hdv hF;obtain⟨xs,ys⟩:=x;have hF:mW t xs ys=some r:=hF;unfold mW at hF;split at hF
 case isFalse=>cases hF
 rename_i hmax;cases hF;obtain⟨v0,cs0,vs',O1,O2,rfl,rfl,hg,h1,hrest⟩:=hrel;obtain⟨v1,cs1,rfl,hg1,h2,rfl⟩:=hrest;have hg:cs0=[v0]:=hg;have hg1:cs1=[v1]:=hg1;subst hg;subst hg1;have h2:[v1]=[Value.string ⟨ys.toArray⟩]:=h2;simp only[H8,and_true]at h2;subst h2;obtain⟨b,arr,es,a,v,l,e,hb,he,hx,ha,hv,hr,rfl⟩:=h1;simp only[H8,and_true]at e;subst e;have hes:=bV hx;have hnd:(b::l.blks).Nodup:=by simpa using hO
 have hnb:=(Y9.1 hnd).1;rw[←hes];rw[←hes]at L;refine(a2x L X ⟨arr,hb,he⟩ ha hv hr (show(mbT t xs).length+ys.length<=140737488355328 by omega) hnb).mono ?_;rintro e w' ⟨rfl,v',l',hb',hv',hr',hnb',hbl,ho⟩;obtain⟨f1,f2,f3,f4,f5⟩:=a4K (gl:=gl) (zs:=mbT t xs++ys) hok (λk hk=>hO2 k (by simpa using hk)) hx hb' hv' hr' hnb' hbl ho;refine⟨_,ok,b::l'.blks,[.int .i64 ys.length,.nilIface],[.pointer (some ⟨b,es.length,none⟩)],[],rfl,by simpa using f1,λ_ _ h=>h,λk t hk=>by simpa using f2 k t hk,by simpa using f3,λk hk=>by simpa using f4 k (by simpa using hk),⟨rfl,rfl⟩,⟨_,rfl,rfl,rfl⟩,?_⟩;refine⟨.int .i64 ys.length,[.int .i64 ys.length],[.nilIface,.pointer (some ⟨b,es.length,none⟩)],[],b::l'.blks,rfl,rfl,rfl,⟨rfl,rfl⟩,?_⟩;refine⟨.nilIface,[.nilIface],[.pointer (some ⟨b,es.length,none⟩)],[],b::l'.blks,rfl,rfl,rfl,⟨_,rfl,rfl,(λh=>nomatch h),(λ_ h=>nomatch h),rfl⟩,?_⟩;exact⟨_,_,rfl,rfl,f5⟩
theorem Xb{gl:List (Nat×(t:Ty)×List t.den)}[GlNe gl](L:Lw P ρ tb 0)(X:Builder.Extra P ρ):
  dK P gl (ρ.f 166) ⟨[(false,.mbx .unit tb (ρ.t 5) 0),(false,.dat .str)],[(false,.dat (.int .i64)),(false,.cell none)],[(false,.mbx .unit tb (ρ.t 5) 0)],λx=>ig x.1 x.2⟩:=OO (t:=.unit) L X
end Go.GP
namespace Go.GP
open Go.ChangeShapes Go.WideShapes Go.RowKit
def Bg(s c:c5v):Option (c5v×c5v×Bool):=if s.length<4294967281 then some (Lib.cut s c)else none
variable {g:Nat}
theorem a8N{h:Array Obj}{ok:Nat->Ty->Prop}{m:Mp}{k:IntKind}{n:Int}{T:TypeId}{f:Nat×Nat}(hok:ok g (.any (some k)))(hh:h[g]? =some (.cells #[.int k n] T f)):
  GG ⟨h,ok,m⟩ g (.any (some k)) [()]:=by
 refine⟨hok,⟨_,_,_,hh,rfl⟩,λi x hi=>?_⟩;cases i with
 |zero=>exact⟨[.int k n],jH hh 0 1 x8,.int k n,rfl,rfl,n,rfl⟩|succ i=>simp at hi
theorem a6N{w:World}{ok:Nat->Ty->Prop}{m:Mp}{k:IntKind}(h:GG ⟨w.heap,ok,m⟩ g (.any (some k)) [()]):∃n,w.cell? ⟨g,0,none⟩=some (.int k n):=by
 obtain⟨_,_,h2⟩:=h;obtain⟨es,he,v,rfl,_,n,rfl⟩:=h2 0 () rfl;obtain⟨c,T,f,hb,hn,e⟩:=qw he;refine⟨n,?_⟩;have hn:1<=c.size:=by simpa[Ty.size]using hn
 have h0:c[0]? =some (.int k n):=by have:=congrArg (λl=>l[0]?) e;simp only[Nat.zero_mul,iI,Ty.size,aA,jM (show 0<1 by omega)]at this;rw[gu]at this;exact this.symm
 have hb:w.heap[g]? =some (.cells c T f):=hb;simp only[World.cell?,hb,mP,h0];rfl
theorem a6C{P:Program}{f g:Nat}{gl:List (Nat×(t:Ty)×List t.den)}
  (hC:∀(s sep:ByteArray) (m:Int) (w:World) (hs:s.size<4294967281) (hm:w.cell? ⟨g,0,none⟩=some (.int .i64 m)),
   Calls P f #[.string s,.string sep] w λe w' =>e= .returned (.tuple #[.string ⟨(Lib.cut s.data.toList sep.data.toList).1.toArray⟩,.string ⟨(Lib.cut s.data.toList sep.data.toList).2.1.toArray⟩,.bool (Lib.cut s.data.toList sep.data.toList).2.2])/\∃n,w' =w.drewN n)
  (hgl:bZ gl g=some ⟨.any (some .i64),[()]⟩):
  dK P gl f ⟨[(false,.dat .str),(false,.dat .str)],[(false,.dat .str),(false,.dat .str),(false,.dat .bool)],[],λx=>Bg x.1 x.2⟩:=by
 intro w ok O vals x r hlt hnd hO hgls hrel hdv hfn;obtain⟨rfl,rfl⟩:=b8X hrel;simp only[Bg]at hfn;split at hfn
 .rename_i hl;cases hfn;obtain⟨m,hm⟩:=a6N (hgls g _ hgl);refine(hC ⟨x.1.toArray⟩ ⟨x.2.toArray⟩ m w (by simpa[ByteArray.size]using hl) hm).mono λe w' ⟨he,n,hw⟩=>?_;subst he;subst hw;exact⟨_,ok,[],[.string ⟨(Lib.cut x.1 x.2).1.toArray⟩,.string ⟨(Lib.cut x.1 x.2).2.1.toArray⟩,.bool (Lib.cut x.1 x.2).2.2],[],[],rfl,⟨rfl,rfl,rfl,E5 _,λ_ _ _=>rfl,λ_=>bu _ _⟩,λ_ _ h=>h,λb t h=>⟨hlt b t h,.inl h⟩,
   by simp,x8,⟨rfl,rfl⟩,⟨rfl,rfl⟩,_,_,_,[],[],rfl,rfl,rfl,⟨rfl,rfl⟩,_,_,_,[],[],rfl,rfl,rfl,⟨rfl,rfl⟩,_,_,rfl,rfl,rfl,rfl⟩
 .cases hfn
end Go.GP
namespace Go.GP
open Go.Shelf Go.RowKit Go.Proofs
variable {w:World}
theorem a0m{P:Program}{t ty e:TypeId}{i:TypeInfo}(ht:P.underlying t=some (.slice e))(hi:P.info? e=some i)(hz:i.zero=some (.int .u8 0))
  (hsize:i.size=1) (hby:i.bytes=1) {v:Value} {l:Loc} {xs:c5v} {y:UInt8} (hv:l.view none v) (hr:sH w.heap e xs l) (hmax:xs.length+1<=140737488355328)
  {ad:Addr} (hx:w.cell? ad=some (.int .u8 (y.toNat:Int))):
  ∃v' w' l',(Builtin.append_ #[t,t] ty #[v,.slice (some ad) 1 1]).run P w= .ok v' w' /\l'.view none v' /\sH w'.heap e (xs++[y]) l' /\(∀b∈l'.blks,b∈l.blks\/w.heap.size<=b)/\OthB w w' l.blks:=by
 have hnews:∀j u,([Value.int .u8 (y.toNat:Int)])[j]? =some u->w.cell? (ad.add j)=some u:=by
  intro j u hj;match j,hj with
  |0,hj=>simp at hj;subst hj;obtain⟨a,b,c⟩:=ad;simpa[Addr.add]using hx
 have h1:∀u∈[Value.int .u8 (y.toNat:Int)],u.oneCell' =true:=by intro u hu;simp at hu;subst hu;rfl
 cases l with
 |st b=>cases hr|mp b=>cases hr|nil=>
  have hr:xs=[]:=hr;subst hr;have hv:v= .slice none 0 0:=hv;subst hv;obtain⟨v',w',r1,r2,r3,r4⟩:=run_append_ownF (P:=P) w w.heap.size t ty e i (.int .u8 0) 1 1 ht hi hz hsize hby rfl C9 (.slice none 0 0) 0 [] ⟨rfl,.inl ⟨rfl,rfl⟩⟩ ad 1 1 [.int .u8 (y.toNat:Int)] rfl hnews h1 (by unfold maxLen;omega) l9 (E5 _);rcases r2.2 with⟨_,h0⟩|⟨g,cap,cur,fz,rfl,hB,hg,hfz,hc,hcm,hcs,htk⟩
  .omega
  .refine⟨_,w',.arr g 0 1 cap 1,r1,by simp[Loc.view],⟨rfl,rfl,rfl,by simpa using hc,hcm,cur,fz,hg,by simpa using hfz,by simpa using hcs,by simpa using htk⟩,λb hb=> .inr (by simp[Loc.blks]at hb;subst hb;exact hB),⟨r3.os,r3.tape,r3.output,r3.size,λk hk _=>r3.block k hk (by simp[Value.ownBlock])⟩⟩
 |arr g off len cap sz=>
  obtain⟨rfl,rfl,rfl,hc,hcm,cur,fz,hg,hfz,hcs,htk⟩:=hr;have hv:v= .slice (some ⟨g,0,none⟩) xs.length cap:=hv;subst hv;by_cases hroom:xs.length+1<=cap
  .have hrun:=run_append_roomF (P:=P) w t ty e i ht hi g xs.length cap cur fz hg (by rw[hsize];omega) ad 1 1 [.int .u8 (y.toNat:Int)] (by rw[hsize];rfl) hnews h1 hroom (by rw[hsize];simp;omega);rw[hsize,mY]at hrun;refine⟨_,_,.arr g 0 (xs.length+1) cap 1,hrun,rfl,⟨rfl,rfl,x8,hroom,hcm,_,fz,setRow_heap w g cur _ e _ hg,l9,?_,?_⟩,λb hb=> .inl hb,⟨rfl,rfl,rfl,x8,λk _ hk=>setRow_other w g k _ (λe=>hk (by simp[Loc.blks,e]))⟩⟩
   .simp only[jr,A7,fV,mM,P7,A8,F6];omega
   .rw[htk];rw[show xs.length+1=((xs++[y]).map λc=>Value.int .u8 (c.toNat:Int)).length by simp];rw[rF];exact bJ
  .have holds:∀(j:Nat) (u:Value),(xs.map λc=>Value.int .u8 (c.toNat:Int))[j]? =some u->w.cell? ((⟨g,0,none⟩:Addr).add j)=some u:=λj u hj=>by
    have ho:w.ownsRowF 0 e 1 (.slice (some ⟨g,0,none⟩) xs.length cap) xs.length (xs.map λc=>Value.int .u8 (c.toNat:Int)):=⟨x8,.inr ⟨g,cap,cur,fz,rfl,iF _,hg,l9,hc,hcm,l9,by rw[mY];exact htk⟩⟩;exact ho.cells (g:=g) rfl j u hj
   have hrun:=run_append_grow (P:=P) w t ty e i (.int .u8 0) ht hi hz ⟨g,0,none⟩ xs.length cap (xs.map λc=>Value.int .u8 (c.toNat:Int)) (by rw[hsize];simp) holds ad 1 1 [.int .u8 (y.toNat:Int)] (by rw[hsize];rfl) hnews l9 l9 (by rw[hby];exact growslice_fits l9 l9);have hge:=grownCap_ge w (xs.length+1) cap e;have hcm2:grownCap w (xs.length+1) cap e<=maxLen:=grownCap_le_maxLen w (xs.length+1) cap e (by unfold maxLen;omega);refine⟨_,_,.arr w.heap.size 0 (xs.length+1) _ 1,hrun,rfl,⟨rfl,rfl,x8,hge,hcm2,_,(0,0),heap_alloc_new w.drew _,iF _,?_,?_⟩,λb hb=> .inr (by simp[Loc.blks]at hb;omega),⟨rfl,rfl,rfl,x8,λk hk _=>heap_alloc_old w.drew _ hk⟩⟩
   .have hz1:(Value.int IntKind.u8 0).cells.size=1:=rfl;simp only[Array.size_append,jr,size_zeroCells,hz1,jd,A8,F6];omega
   .simp only[Array.toList_append,E8];rw[←E8];rw[show xs.length+1=((xs++[y]).map λc=>Value.int .u8 (c.toNat:Int)).length by simp];rw[show(xs.map λc=>Value.int .u8 (c.toNat:Int))++[.int .u8 (y.toNat:Int)]=(xs++[y]).map λc=>Value.int .u8 (c.toNat:Int) by simp];exact bJ
theorem a0n{P:Program}{ops:Array Oper}{rest:List Oper}{o:Oper}{a:Act}{Q:Exit->Act->World->Prop}{w:World}(hgd:o.guard=none)(sl x:Operand)(t:TypeId)
  (ho:o.op= .call { callee:=.builtin .append,args:=#[sl,x],argTypes:=#[t,t] }) {e:TypeId} {i:TypeInfo} (ht:P.underlying t=some (.slice e)) (hi:P.info? e=some i) (hz:i.zero=some (.int .u8 0))
  (hsize:i.size=1) (hby:i.bytes=1) {v:Value} {l:Loc} {xs:c5v} {y:UInt8} {ad:Addr} (hs:a.eval sl=v) (hx:a.eval x= .slice (some ad) 1 1) (hv:l.view none v) (hr:sH w.heap e xs l) (hmax:xs.length+1<=140737488355328)
  (hc:w.cell? ad=some (.int .u8 (y.toNat:Int)))
  (h:∀v' w' l',l'.view none v' ->sH w'.heap e (xs++[y]) l' ->(∀b∈l'.blks,b∈l.blks\/w.heap.size<=b)->OthB w w' l.blks->wpList P ops Q rest (a.put o.dst v') w'):wpList P ops Q (o::rest) a w:=by
 refine wpList_plain hgd λK hK=>?_;obtain⟨v',w',l',h1,h2,h3,h4,h5⟩:=a0m (ty:=o.type) ht hi hz hsize hby hv hr hmax hc;unfold Oper.wp execOp;simp only[ho,resolve,invoke,builtin,J9,jQ,L8,List.map_toArray,aB,List.map_nil,hs,hx,h1];exact hK _ _ (h v' w' l' h2 h3 h4 h5)
variable {P:Program} {ρ:Ren}
variable {tb:Nat}
set_option maxHeartbeats 2000000 in
set_option maxRecDepth 100000 in
theorem a6w{es:c5x}(L:Lw P ρ tb es.length)(X:Builder.Extra P ρ)(f167:P.funcs[ρ.f 167]? =some (Body.n167 ρ)){b:Nat}{a v:Value}{l:Loc}{xs:c5v}{y:UInt8}(hb:ul w.heap tb b es a v)(ha:a= .pointer none\/a= .pointer (some ⟨b,es.length,none⟩))
  (hv:l.view none v) (hr:sH w.heap (ρ.t 5) xs l) (hlen:xs.length+1<=140737488355328) (hnb:b∉l.blks):
  Calls P (ρ.f 167) #[.pointer (some ⟨b,es.length,none⟩),.int .u8 (y.toNat:Int)] w λe w' =>e= .returned .nilIface/\
   ∃v' l',ul w'.heap tb b es (.pointer (some ⟨b,es.length,none⟩)) v' /\l'.view none v' /\sH w'.heap (ρ.t 5) (xs++[y]) l' /\b∉l'.blks/\(∀k∈l'.blks,k∈l.blks\/w.heap.size<=k)/\OthB w w' (b::l.blks):=by
 obtain⟨i0,hi,hz0,hz1,hz2⟩:=info_parts X.infoByte;have mixed:=L.mixed;have t72:=L.t72;have a72:=L.a72;have z72:=L.z72;have v72:=L.v72;have u72:=run_underlying L.t72;have t70:=L.t70;have a70:=L.a70;have z70:=L.z70;have v70:=L.v70;have u70:=run_underlying L.t70;have t37:=L.t37;have a37:=L.a37;have z37:=L.z37;have v37:=L.v37;have u37:=run_underlying L.t37;have t3:=L.t3;have a3:=L.a3;have z3:=L.z3;have v3:=L.v3;have u3:=run_underlying L.t3;have t9:=L.t9;have a9:=L.a9;have z9:=L.z9;have v9:=L.v9;have u9:=run_underlying L.t9;have t4:=L.t4;have a4:=L.a4;have z4:=L.z4;have v4:=L.v4;have u4:=run_underlying L.t4;have t164:=L.t164;have a164:=L.a164;have z164:=L.z164;have v164:=L.v164;have u164:=run_underlying L.t164;have t5:=X.t5;have a5:=X.a5;have z5:=X.z5;have v5:=X.v5;have u5:=run_underlying X.t5;have e240:=L.e240;have hlt:b<w.heap.size:=hb.lt
 go_enter f167,Body.n167_ntmps ρ
 go_wp2_with (go_at_fn (ρ.f 240);refine(L.check hb ha).mono ?_)
 rintro e w1 ⟨rfl,hb1,hs1,ho1⟩;have c0:=hb1.cell0;have c1:=hb1.cell1;have hr1:sH w1.heap (ρ.t 5) xs l:=wZ (λk hk=>ho1.block k (o_ hr k hk) (λe=>hnb (by simp at e;rw[←e];exact hk))) hr;have hr2:sH (w1.alloc (.cells #[.int .u8 (y.toNat:Int)] (ρ.t 5))).heap (ρ.t 5) xs l:=wZ (λk hk=>Lib.alloc_old w1 _ k (o_ hr1 k hk)) hr1
 go_wp2_with (at_builtin;refine a0n (y:=y) (ad:=⟨w.heap.size,0,none⟩) rfl _ _ (ρ.t 37) rfl L.t37 hi hz0 hz1 hz2 rfl rfl hv hr2 hlen (by rw[←hs1];simp) ?_)
 intro v' w2 l' hv' hr' hbl ho2;have hlt1:b<w1.heap.size:=l9;have hb2:ul w2.heap tb b es (.pointer (some ⟨b,es.length,none⟩)) v:=hb1.congr ((ho2.block b H7 hnb).trans (Lib.alloc_old w1 _ b hlt1));have d0:=hb2.cell0;have d1:=hb2.cell1;have f1:=hb2.frozen (es.length+1);have hbl' :∀k∈l'.blks,k∈l.blks\/w.heap.size<=k:=λk hk=>by
  rcases hbl k hk with h|h
  .exact .inl h
  .have h2:w.heap.size+1<=k:=by first|exact h|simpa using h|simpa[hs1]using h
   exact .inr l9
 have hnb' :b∉l'.blks:=λh=>(hbl' b h).elim hnb (λh=>by omega);have hone:=kW hv';obtain⟨ao,n',cap,rfl⟩:∃ao n' cap,v' = .slice ao n' cap:=by
  cases l' with
  |nil=>exact⟨_,_,_,hv'⟩|st _=>cases hr'|mp _=>cases hr'|arr g off len cap sz=>exact⟨_,_,_,hv'⟩
 go_wp2
 go_ret
 refine⟨rfl,_,l',hb2.set1 _,hv',wZ (λk hk=>Below.heap_setCell _ _ _ _ (λe=>hnb' (by have e:k=b:=e;rw[←e];exact hk))) hr',hnb',hbl',?_⟩
 .refine⟨ho2.os.trans ho1.os,ho2.tape.trans ho1.tape,ho2.output.trans ho1.output,?_,λk hk hn=>?_⟩
  .have:=ho2.size;simp[World.setCell]at this ⊢;omega
  .simp only[D7,not_or]at hn;rw[Below.heap_setCell _ _ _ _ (λe=>hn.1 e),ho2.block k H7 hn.2,Lib.alloc_old w1 _ k l9,ho1.block k hk (by simpa using hn.1)]
theorem b9i{n:Int}(n0:0<=n)(n1:n<=255):((n.toNat.toUInt8.toNat:Nat):Int)=n:=by
 have h1:n.toNat<256:=l9;have h2:n.toNat.toUInt8.toNat=n.toNat:=by simp[Nat.toUInt8,UInt8.toNat_ofNat];omega
 rw[h2];omega
def FC(xs:c5v)(n:Int):Option (Unit×c5v):=bif Nat.ble (xs.length+1) 1073741824&&decide (0<=n)&&decide (n<=255)then some ((),xs++[n.toNat.toUInt8])else none
def yQ(t:Ty)(x:mbD t)(n:Int):Option (Unit×mbD t):=bif Nat.ble ((mbT t x).length+1) 1073741824&&decide (0<=n)&&decide (n<=255)then some ((),mbM t (mbX t x) (mbT t x++[n.toNat.toUInt8]))else none
theorem RH{gl:List (Nat×(t:Ty)×List t.den)}[GlNe gl]{t:Ty}(L:Lw P ρ tb t.size)(X:Builder.Extra P ρ)(f167:P.funcs[ρ.f 167]? =some (Body.n167 ρ)):
  dK P gl (ρ.f 167) ⟨[(false,.mbx t tb (ρ.t 5) t.size),(false,.dat (.int .u8))],[(false,.cell none)],[(false,.mbx t tb (ρ.t 5) t.size)],λx=>yQ t x.1 x.2⟩:=by
 intro w ok O vals x r hok hO hO2 hgl hrel hdv hF;obtain⟨xs,n⟩:=x;have hF:yQ t xs n=some r:=hF;unfold yQ at hF;cases hc:(Nat.ble ((mbT t xs).length+1) 1073741824&&decide (0<=n)&&decide (n<=255))<;>rw[hc]at hF
 .cases hF
 simp only[D5,decide_eq_true_eq,Nat.ble_eq]at hc;obtain⟨⟨hmax,n0⟩,n1⟩:=hc;have n0:(0:Int)<=n:=n0;have n1:n<=(255:Int):=n1;cases hF;obtain⟨v0,cs0,vs',O1,O2,rfl,rfl,hg,h1,hrest⟩:=hrel;obtain⟨v1,cs1,rfl,hg1,h2,rfl⟩:=hrest;have hg:cs0=[v0]:=hg;have hg1:cs1=[v1]:=hg1;subst hg;subst hg1;have h2:[v1]=[Value.int .u8 n]:=h2;simp only[H8,and_true]at h2;subst h2;obtain⟨b,arr,es,a,v,l,e,hb,he,hx,ha,hv,hr,rfl⟩:=h1;simp only[H8,and_true]at e;subst e;have hes:=bV hx;have hnd:(b::l.blks).Nodup:=by simpa using hO
 have hnb:=(Y9.1 hnd).1;have hn:((n.toNat.toUInt8.toNat:Nat):Int)=n:=b9i n0 n1;rw[←hes];rw[←hes]at L;have key:=a6w L X f167 (y:=n.toNat.toUInt8) ⟨arr,hb,he⟩ ha hv hr (show(mbT t xs).length+1<=140737488355328 by omega) hnb;rw[hn]at key;refine key.mono ?_;rintro e w' ⟨rfl,v',l',hb',hv',hr',hnb',hbl,ho⟩;obtain⟨f1,f2,f3,f4,f5⟩:=a4K (gl:=gl) (zs:=mbT t xs++[n.toNat.toUInt8]) hok (λk hk=>hO2 k (by simpa using hk)) hx hb' hv' hr' hnb' hbl ho;refine⟨_,ok,b::l'.blks,[.nilIface],[.pointer (some ⟨b,es.length,none⟩)],[],rfl,by simpa using f1,λ_ _ h=>h,λk t hk=>by simpa using f2 k t hk,by simpa using f3,λk hk=>by simpa using f4 k (by simpa using hk),⟨rfl,rfl⟩,⟨_,rfl,rfl,rfl⟩,?_⟩;refine⟨.nilIface,[.nilIface],[.pointer (some ⟨b,es.length,none⟩)],[],b::l'.blks,rfl,rfl,rfl,⟨_,rfl,rfl,(λh=>nomatch h),(λ_ h=>nomatch h),rfl⟩,?_⟩;exact⟨_,_,rfl,rfl,f5⟩
theorem YY{gl:List (Nat×(t:Ty)×List t.den)}[GlNe gl](L:Lw P ρ tb 0)(X:Builder.Extra P ρ)(f167:P.funcs[ρ.f 167]? =some (Body.n167 ρ)):
  dK P gl (ρ.f 167) ⟨[(false,.mbx .unit tb (ρ.t 5) 0),(false,.dat (.int .u8))],[(false,.cell none)],[(false,.mbx .unit tb (ρ.t 5) 0)],λx=>FC x.1 x.2⟩:=RH (t:=.unit) L X f167
def yC(_:c5v):Option c5v:=some []
theorem Zb{gl:List (Nat×(t:Ty)×List t.den)}[GlNe gl]{f tb te:Nat}
  (hR:∀(b:Nat) (w:World) (a v:Value),ul w.heap tb b [] a v->Calls P f #[.pointer (some ⟨b,0,none⟩)] w λe w' =>e= .returned (.tuple #[])/\w' =(w.setCell ⟨b,0,none⟩ (.pointer none)).setCell ⟨b,1,none⟩ (.slice none 0 0)):
  dK P gl f ⟨[(false,.mbx .unit tb te 0)],[],[(false,.mbx .unit tb te 0)],λx=>yC x⟩:=by
 intro w ok O vals xs r hok hO hO2 hgl hrel hdv hF;have hF:some ([]:c5v)=some r:=hF;cases hF;obtain⟨v0,cs0,rfl,hg,h1⟩:=hrel;have hg:cs0=[v0]:=hg;subst hg;obtain⟨b,arr,es,a,v,l,e,hb,he,hx,ha,hv,hr,rfl⟩:=h1;simp only[H8,and_true]at e;subst e;have hx:es=[]:=hx;subst hx;have hB:ul w.heap tb b [] a v:=⟨arr,hb,he⟩;refine(hR b w a v hB).mono ?_;rintro e w' ⟨rfl,rfl⟩;obtain⟨arr',hb',he'⟩:=(hB.set0 (.pointer none)).set1 (.slice none 0 0);have hsz:((w.setCell ⟨b,0,none⟩ (.pointer none)).setCell ⟨b,1,none⟩ (.slice none 0 0)).heap.size=w.heap.size:=by simp[World.setCell]
 refine⟨_,ok,[b],[],[.pointer (some ⟨b,0,none⟩)],[],rfl,⟨rfl,rfl,rfl,by rw[hsz];exact E5 _,λk hk hn=>?_,λh=>absurd h GlNe.ne⟩,λ_ _ h=>h,λk t hk=>⟨by rw[hsz];exact hok k t hk,.inl hk⟩,x8,λk hk=>?_,⟨rfl,rfl⟩,⟨_,rfl,rfl,rfl⟩,?_⟩
 .have hkb:k≠b:=λe=>hn (by simp[e]);rw[Below.heap_setCell _ _ _ _ (λe=>hkb e),Below.heap_setCell _ _ _ _ (λe=>hkb e)]
 .simp only[E9,V7]at hk;subst hk;exact⟨(hO2 k x8).1,by rw[hsz];exact(hO2 k x8).2,.inr x8⟩
 .exact⟨_,_,rfl,rfl,⟨b,arr',[],_,_,.nil,rfl,hb',he',rfl,.inl rfl,rfl,rfl,rfl⟩⟩
end Go.GP
