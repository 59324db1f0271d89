import Derived.Test.YtpiondedhhgjbaaGreatDoorV1
import Derived.Laws.StructEq
import Derived.ChangeSame
import Derived.Carry
import Derived.SizedLaws
import Derived.Deep.DeepHandedRow
import Derived.Lib.LaidTab
import Derived.Lib.ItoaNum
import Derived.Lib.ItoaMem
import Derived.Lib.Repeat
import Derived.Sort.Grow
import Derived.Lib.SlicesCompact
import Derived.Lib.Bytealg
import Derived.Sort.Row
import Derived.Shelf.Strings.BuilderF
import Derived.Shelf.Strings.IndexAnyAll
import Derived.Lib.IndexMore
import Derived.Shelf.Strings.Split
import Derived.Lib.FrozenHead2
set_option linter.all false
namespace Go.GP
variable {q:Nat}{m:Mp}{a:Act}{w:World}{s:St}{wr:Rgs}{q':Nat}{n:Nat}
section
variable {X:Fx} {rt:Ret} {ρ:Type} {mE:Mp} {RetP:ρ->Exit->Act->World->Prop}
def Lf(e:Exit):Prop:=e= .ret\/∃ch,e= .panic ch
def OJ(X:Fx)(q:Nat)(m:Mp)(s:St)(wr:Rgs)(s' :St)(w' :Rgs)(a:Act)(w:World):Prop:=
 ∃m' ok',Rel X (CB*q) (CB*q) (aV s') m' ok' a w/\(∀k l,m k=some l->m' k=some l)/\(∀k,Wr wr k->Wr w' k)/\(∀k,¬Wr w' k->aV s' k=aV s k)
def a1w(X:Fx)(RetP:ρ->Exit->Act->World->Prop)(q:Nat)(m:Mp)(s:St)(wr:Rgs)(fl:Flow ρ)(s' :St)(w' :Rgs)(e:Exit)(a:Act)(w:World):Prop:=
 match fl with
 | .nm=>e= .normal/\OJ X q m s wr s' w' a w| .ex id=>e= .exit id/\OJ X q m s wr s' w' a w| .rt x=>Lf e/\RetP x e a w
def a3M(X:Fx)(RetP:ρ->Exit->Act->World->Prop)(q:Nat)(m:Mp)(s:St)(wr:Rgs){R:Type}(K:Flow ρ->St->Rgs->Option R)(r:R)(e:Exit)(a:Act)(w:World):Prop:=
 ∃fl s' w',K fl s' w' =some r/\a1w X RetP q m s wr fl s' w' e a w
structure DOk (X:Fx) (mE:Mp) (RetP:ρ->Exit->Act->World->Prop) (D:Den ρ) (c:Code) (n:Nat):Prop where
 run:∀{q:Nat} {an:Ann} {s:St} {wr:Rgs} {R:Type} {K:Flow ρ->St->Rgs->Option R} {r:R},D q an s wr R K=some r->
  ∀{m:Mp} {ok:Nat->Ty->Prop} {a:Act} {w:World},Rel X (CB*q) (CB*q) (aV s) m ok a w->(∀k l,mE k=some l->m k=some l)->
   c.wp X.P (a3M X RetP (q+n) m s wr K r) a w
def a1y(X:Fx)(rt:Ret){ρ:Type}(ret:rt.den->ρ)(mE:Mp)(RetP:ρ->Exit->Act->World->Prop):Prop:=
 ∀{s:St} {R:Type} {K:rt.den->Option R} {r:R},(a9b X.E rt).runK s ([],[]) (λx _ _=>K x)=some r->
  ∃x,K x=some r/\∀{cl ch:Nat} {m:Mp} {ok:Nat->Ty->Prop} {a:Act} {w:World},Rel X cl ch (aV s) m ok a w->(∀k l,mE k=some l->m k=some l)->RetP (ret x) .ret a w
def a1x(X:Fx){ρ:Type}(pan:Int->Cmd ρ)(mE:Mp)(RetP:ρ->Exit->Act->World->Prop):Prop:=
 ∀{c:Int} {S S' :Sm} {tr:Tr} {x:ρ},c≠0->(pan c).eval S ([],[])=some (x,S',tr)->∀{cl ch:Nat} {m:Mp} {ok:Nat->Ty->Prop} {a:Act} {w:World},Rel X cl ch S m ok a w->(∀k l,mE k=some l->m k=some l)->RetP x (.panic (nX X.P c)) a w
theorem a3Z{p q:Nat}(h:p<=q):CB*p<=CB*q:=Nat.mul_le_mul_left _ h
theorem Rel.upq{p q:Nat}{S:Sm}{ok:Nat->Ty->Prop}(R:Rel X (CB*p) (CB*p) S m ok a w)(h:p<=q):Rel X (CB*q) (CB*q) S m ok a w:=
 (R.climb (a3Z h)).chmono (a3Z h)
theorem OJ.here{ok:Nat->Ty->Prop}(R:Rel X (CB*q) (CB*q) (aV s) m ok a w)(h:q<=q'):OJ X q' m s wr s wr a w:=
 ⟨m,ok,R.upq h,λ_ _ h=>h,λ_ h=>h,λ_ _=>rfl⟩
theorem OJ.up{s s' :St}{wr w' :Rgs}(h:OJ X q m s wr s' w' a w)(hq:q<=q'):OJ X q' m s wr s' w' a w:=by obtain⟨m',ok',R,h1,h2,h3⟩:=h;exact⟨m',ok',R.upq hq,h1,h2,h3⟩
theorem OJ.trans{m m1:Mp}{s s1 s2:St}{wr w1 w2:Rgs}(k1:∀k l,m k=some l->m1 k=some l)(k2:∀k,Wr wr k->Wr w1 k)(k3:∀k,¬Wr w1 k->aV s1 k=aV s k)
  (h:OJ X q m1 s1 w1 s2 w2 a w) (hq:q<=q'):OJ X q' m s wr s2 w2 a w:=by
 obtain⟨m',ok',R,h1,h2,h3⟩:=h;exact⟨m',ok',R.upq hq,λk l h=>h1 k l (k1 k l h),λk h=>h2 k (k2 k h),λk h=>(h3 k h).trans (k3 k λh' =>h (h2 k h'))⟩
theorem a1w.up{s s' :St}{wr w' :Rgs}{fl:Flow ρ}{e:Exit}(h:a1w X RetP q m s wr fl s' w' e a w)(hq:q<=q'):a1w X RetP q' m s wr fl s' w' e a w:=by
 cases fl with
 |nm=>exact⟨h.1,h.2.up hq⟩|ex id=>exact⟨h.1,h.2.up hq⟩|rt x=>exact h
theorem a1w.trans{m m1:Mp}{s s1 s2:St}{wr w1 w2:Rgs}{fl:Flow ρ}{e:Exit}(k1:∀k l,m k=some l->m1 k=some l)(k2:∀k,Wr wr k->Wr w1 k)(k3:∀k,¬Wr w1 k->aV s1 k=aV s k)
  (h:a1w X RetP q m1 s1 w1 fl s2 w2 e a w) (hq:q<=q'):a1w X RetP q' m s wr fl s2 w2 e a w:=by
 cases fl with
 |nm=>exact⟨h.1,h.2.trans k1 k2 k3 hq⟩|ex id=>exact⟨h.1,h.2.trans k1 k2 k3 hq⟩|rt x=>exact h
theorem LW(hq:q+1<=n){s s3:St}{wr w3:Rgs}{m m2:Mp}{ok2:Nat->Ty->Prop}
  (km:∀k l,m k=some l->m2 k=some l) (hout:∀k,¬Wr w3 k->aV s3 k=aV s k)
  (hR:∃m',Rel X (CB*(q+1)) (CB*(q+1)) (aV s3) m' ok2 a w/\(∀k l,m2 k=some l->m' k=some l)):OJ X n m s wr s3 (Uw w3 wr) a w:=by
 obtain⟨m',R,k⟩:=hR;exact⟨m',ok2,R.upq hq,λk' l h=>k _ _ (km _ _ h),λk h=>Yz.2 (.inr h),λk h=>hout k λh' =>h (Yz.2 (.inl h'))⟩
theorem vV{core:Den ρ}{c:Code}(hc:DOk X mE RetP core c n):DOk X mE RetP (JM core) c (n+1):=by
 refine⟨?_⟩;intro q an s wr R K r h m ok a w Rl hE;have plain:core (q+1) an s wr R K=some r->c.wp X.P (a3M X RetP (q+(n+1)) m s wr K r) a w:=λh=>by have:=hc.run h (Rl.upq (Nat.le_succ q)) hE;rwa[show q+1+n=q+(n+1) by omega]at this
 cases an
 case join rs nm an=>
  unfold JM at h;simp only at h;obtain⟨x,h1,h2⟩:=Ce h;obtain⟨s3,w3,hk3,hrs,hout,hR⟩:=sV (X:=X) h2;refine wp_mono (hc.run h1 (Rl.upq (Nat.le_succ q)) hE) ?_;rintro e a' w' ⟨fl,s',wr',hk,hfl⟩;cases fl with
  |ex id=>cases hk|rt x=>cases hk|nm=>obtain⟨rfl,m',ok',R1,k1,k2,k3⟩:=hfl;obtain⟨x',hx,hL⟩:=kG (X:=X) hk;cases hx;obtain⟨m2,ok2,O,R2,T2,hr,km⟩:=hL Rl R1 k1 k3;exact⟨.nm,s3,_,hk3,rfl,LW (q:=q) o5 km hout (hR (D7 _) R2 T2 hr)⟩
 case joinR rs nm an=>
  unfold JM at h;simp only at h;obtain⟨o,h1,h2⟩:=Ce h;refine wp_mono (hc.run h1 (Rl.upq (Nat.le_succ q)) hE) ?_;rintro e a' w' ⟨fl,s',wr',hk,hfl⟩;cases fl with
  |ex id=>cases hk|rt x=>cases hk;exact⟨.rt x,_,_,h2,hfl⟩|nm=>obtain⟨rfl,m',ok',R1,k1,k2,k3⟩:=hfl;obtain⟨x',hx,hL⟩:=kG (X:=X) hk;cases hx;obtain⟨s3,w3,hk3,hrs,hout,hR⟩:=sV (X:=X) (show enter q nm rs s x' (λs' w' =>K .nm s' (Uw w' wr))=some r from h2);obtain⟨m2,ok2,O,R2,T2,hr,km⟩:=hL Rl R1 k1 k3;exact⟨.nm,s3,_,hk3,rfl,LW (q:=q) o5 km hout (hR (D7 _) R2 T2 hr)⟩
 all_goals exact plain h
theorem a2q{core:Den ρ}{c:Code}(hc:DOk X mE RetP core c n):DOk X mE RetP (a0d core) (.loop c) (2+n):=by
 refine⟨?_⟩;intro q an s wr R K r h m ok a w Rl hE;cases an
 case loop rs hd xid xs an=>
  unfold a0d at h;simp only at h;obtain⟨x0,hk0,hL0⟩:=kG (X:=X) h;obtain⟨m2,ok2,O,R2,T2,hr,km⟩:=hL0 Rl Rl (λ_ _ h=>h) (λ_ _=>rfl);obtain⟨y,hl,hen⟩:=Ce hk0;clear hk0 h hL0;obtain⟨s3,w3,hk3,hrs,hout,hR⟩:=sV (X:=X) hen;refine wp_loop_rounds dZ ?_;unfold fA at hl;have key:∀(f:Nat) {x:rE hd} {m2:Mp} {ok2:Nat->Ty->Prop} {O:c6I} {a:Act} {w:World},
    zJ (λx=>a9e core q rs hd xid xs an s x) f x=some y->
    Rel X (CB*q) (CB*q) (aV (EW rs s)) m2 ok2 a w->Tk X (aV (EW rs s)) m2 ok2 w O->a1A w.heap ok2 hd x a.tmps O->(∀k l,m k=some l->m2 k=some l)->
    Code.rounds X.P c (a3M X RetP (q+(2+n)) m s wr K r) f a w:=by
   intro f;induction f with
   |zero=>intro x m2 ok2 O a w h;simp[zJ]at h|succ f ih=>
    intro x m2 ok2 O a w h R2 T2 hr km;rw[rounds_succ];unfold zJ at h;split at h
    .rename_i x' hf;obtain⟨s1,w1,hcore,_,hout1,hR1⟩:=sV (X:=X) (show enter q hd rs s x _=some _ from hf);obtain⟨m1,R1,km1⟩:=hR1 (D7 _) R2 T2 hr;refine wp_mono (hc.run hcore (R1.upq o5) (λk l h=>km1 _ _ (km _ _ (hE _ _ h)))) ?_;rintro e a' w' ⟨fl,s',wr',hk,hfl⟩;cases fl with
     |rt x=>cases hk|ex id=>
      simp only at hk;cases hb:Nat.beq id xid
      .simp[hb]at hk
      .simp only[hb,cond_true]at hk;obtain⟨y',hx,_⟩:=kG (X:=X) hk;cases hx
     |nm=>obtain⟨rfl,m',ok',R1',k1,k2,k3⟩:=hfl;obtain⟨y',hx,hL⟩:=kG (X:=X) hk;cases hx;obtain⟨m4,ok4,O4,R4,T4,hr4,km4⟩:=hL Rl R1' (λk l h=>k1 _ _ (km1 _ _ (km _ _ h))) (λk h=>(k3 k h).trans (hout1 k λh' =>h (k2 k h')));exact ih h R4 T4 hr4 km4
    .rename_i y' hf;cases h;obtain⟨s1,w1,hcore,_,hout1,hR1⟩:=sV (X:=X) (show enter q hd rs s x _=some _ from hf);obtain⟨m1,R1,km1⟩:=hR1 (D7 _) R2 T2 hr;refine wp_mono (hc.run hcore (R1.upq o5) (λk l h=>km1 _ _ (km _ _ (hE _ _ h)))) ?_;rintro e a' w' ⟨fl,s',wr',hk,hfl⟩;cases fl with
     |rt x=>cases hk|nm=>simp only at hk;obtain⟨y',hx,_⟩:=kG (X:=X) hk;cases hx
     |ex id=>
      simp only at hk;cases hb:Nat.beq id xid
      .simp[hb]at hk
      .simp only[hb,cond_true]at hk;have hid:=eU hb;subst hid;obtain⟨rfl,m',ok',R1',k1,k2,k3⟩:=hfl;obtain⟨y',hx,hL⟩:=kG (X:=X) hk;cases hx;obtain⟨m4,ok4,O4,R4,T4,hr4,km4⟩:=hL Rl R1' (λk l h=>k1 _ _ (km1 _ _ (km _ _ h))) (λk h=>(k3 k h).trans (hout1 k λh' =>h (k2 k h')));exact⟨.ex id,s3,_,hk3,rfl,LW (q:=q+1) o5 km4 hout (hR (a3Z (Nat.le_succ q)) R4 T4 hr4)⟩
    .cases h
  exact key dZ (x:=x0) hl R2 T2 hr km
 case loopR rs hd xid xs an=>
  unfold a0d at h;simp only at h;obtain⟨x0,hk0,hL0⟩:=kG (X:=X) h;obtain⟨m2,ok2,O,R2,T2,hr,km⟩:=hL0 Rl Rl (λ_ _ h=>h) (λ_ _=>rfl);obtain⟨y,hl,hen⟩:=Ce hk0;clear hk0 h hL0;refine wp_loop_rounds dZ ?_;unfold V4 at hl;have key:∀(f:Nat) {x:rE hd} {m2:Mp} {ok2:Nat->Ty->Prop} {O:c6I} {a:Act} {w:World},
    iZ (λx=>a9f core q rs hd xid xs an s x) f x=some y->
    Rel X (CB*q) (CB*q) (aV (EW rs s)) m2 ok2 a w->Tk X (aV (EW rs s)) m2 ok2 w O->a1A w.heap ok2 hd x a.tmps O->(∀k l,m k=some l->m2 k=some l)->
    Code.rounds X.P c (a3M X RetP (q+(2+n)) m s wr K r) f a w:=by
   intro f;induction f with
   |zero=>intro x m2 ok2 O a w h;simp[iZ]at h|succ f ih=>
    intro x m2 ok2 O a w h R2 T2 hr km;rw[rounds_succ];unfold iZ at h;split at h
    .rename_i x' hf;obtain⟨s1,w1,hcore,_,hout1,hR1⟩:=sV (X:=X) (show enter q hd rs s x _=some _ from hf);obtain⟨m1,R1,km1⟩:=hR1 (D7 _) R2 T2 hr;refine wp_mono (hc.run hcore (R1.upq o5) (λk l h=>km1 _ _ (km _ _ (hE _ _ h)))) ?_;rintro e a' w' ⟨fl,s',wr',hk,hfl⟩;cases fl with
     |rt x=>cases hk|ex id=>
      simp only at hk;cases hb:Nat.beq id xid
      .simp[hb]at hk
      .simp only[hb,cond_true]at hk;obtain⟨y',hx,_⟩:=kG (X:=X) hk;cases hx
     |nm=>obtain⟨rfl,m',ok',R1',k1,k2,k3⟩:=hfl;obtain⟨y',hx,hL⟩:=kG (X:=X) hk;cases hx;obtain⟨m4,ok4,O4,R4,T4,hr4,km4⟩:=hL Rl R1' (λk l h=>k1 _ _ (km1 _ _ (km _ _ h))) (λk h=>(k3 k h).trans (hout1 k λh' =>h (k2 k h')));exact ih h R4 T4 hr4 km4
    .rename_i y' hf;cases h;obtain⟨s3,w3,hk3,hrs,hout,hR⟩:=sV (X:=X) (show enter (q+1) xs rs s y' (λs' w' =>K (.ex xid) s' (Uw w' wr))=some r from hen);obtain⟨s1,w1,hcore,_,hout1,hR1⟩:=sV (X:=X) (show enter q hd rs s x _=some _ from hf);obtain⟨m1,R1,km1⟩:=hR1 (D7 _) R2 T2 hr;refine wp_mono (hc.run hcore (R1.upq o5) (λk l h=>km1 _ _ (km _ _ (hE _ _ h)))) ?_;rintro e a' w' ⟨fl,s',wr',hk,hfl⟩;cases fl with
     |rt x=>cases hk|nm=>simp only at hk;obtain⟨y',hx,_⟩:=kG (X:=X) hk;cases hx
     |ex id=>
      simp only at hk;cases hb:Nat.beq id xid
      .simp[hb]at hk
      .simp only[hb,cond_true]at hk;have hid:=eU hb;subst hid;obtain⟨rfl,m',ok',R1',k1,k2,k3⟩:=hfl;obtain⟨y',hx,hL⟩:=kG (X:=X) hk;cases hx;obtain⟨m4,ok4,O4,R4,T4,hr4,km4⟩:=hL Rl R1' (λk l h=>k1 _ _ (km1 _ _ (km _ _ h))) (λk h=>(k3 k h).trans (hout1 k λh' =>h (k2 k h')));exact⟨.ex id,s3,_,hk3,rfl,LW (q:=q+1) o5 km4 hout (hR (a3Z (Nat.le_succ q)) R4 T4 hr4)⟩
    .rename_i r' hf;cases h;obtain⟨s1,w1,hcore,_,hout1,hR1⟩:=sV (X:=X) (show enter q hd rs s x _=some _ from hf);obtain⟨m1,R1,km1⟩:=hR1 (D7 _) R2 T2 hr;refine wp_mono (hc.run hcore (R1.upq o5) (λk l h=>km1 _ _ (km _ _ (hE _ _ h)))) ?_;rintro e a' w' ⟨fl,s',wr',hk,hfl⟩;cases fl with
     |rt x=>
      cases hk;obtain⟨hl,hp⟩:=hfl;rcases hl with rfl|⟨ch,rfl⟩
      .exact⟨.rt r',[],[],hen,.inl rfl,hp⟩
      .exact⟨.rt r',[],[],hen,.inr ⟨_,rfl⟩,hp⟩
     |nm=>simp only at hk;obtain⟨y',hx,_⟩:=kG (X:=X) hk;cases hx
     |ex id=>
      simp only at hk;cases hb:Nat.beq id xid
      .simp[hb]at hk
      .simp only[hb,cond_true]at hk;obtain⟨y',hx,_⟩:=kG (X:=X) hk;cases hx
    .cases h
  exact key dZ (x:=x0) hl R2 T2 hr km
 all_goals (unfold a0d at h;cases h)
theorem zQ(H:FxOk X){ret:rt.den->ρ}{pan:Int->Cmd ρ}(hret:a1y X rt ret mE RetP)(hpan:a1x X pan mE RetP):∀c:Code,DOk X mE RetP (Dy X.E rt ret pan c) c (xK c)
 | .skip=>vV (n:=0) ⟨λ{q an s wr R K r} h {m ok a w} Rl hE=>wp_skip ⟨.nm,s,wr,h,rfl,OJ.here Rl o5⟩⟩| .label l=>vV (n:=0) ⟨λ{q an s wr R K r} h {m ok a w} Rl hE=>wp_label ⟨.nm,s,wr,h,rfl,OJ.here Rl o5⟩⟩| .exit id=>vV (n:=0) ⟨λ{q an s wr R K r} h {m ok a w} Rl hE=>wp_exit ⟨.ex id,s,wr,h,rfl,OJ.here Rl o5⟩⟩| .ret=>vV (n:=0) ⟨λ{q an s wr R K r} h {m ok a w} Rl hE=>by obtain⟨x,hk,hp⟩:=hret (K:=λx=>K (.rt (ret x)) [] []) h;exact wp_ret ⟨.rt (ret x),[],[],hk,.inl rfl,hp Rl hE⟩⟩
 | .region id ops draw=>vV (n:=1) ⟨λ{q an s wr R K r} h {m ok a w} Rl hE=>by
  rcases Zt H h with⟨c,s',ws,hk,hR⟩|⟨s',w',hk,⟨t,rfl,hfr⟩,hR⟩
  case inl=>
   unfold b8i at hk;obtain⟨x,s3,tr,he,hk⟩:=jV hk;cases hd:OX tr.1 ws
   .simp[hd]at hk
   simp only[hd,cond_true]at hk;have hd:=yj hd;refine hR (Rl.chmono (dU _ _)) λhz S3 m' ok' a' w2 R' k1 k2 k3=>?_;obtain⟨T',g1,_⟩:=tZ he S3 (λz hzr=>k3 z (hd z hzr));exact⟨.rt x,[],[],hk,.inr ⟨_,rfl⟩,hpan hz g1 R' (λk l h=>k1 _ _ (hE _ _ h))⟩
  refine hR (Rl.chmono (dU _ _)) λm' ok' a' w2 R' k1 k2=>⟨.nm,s',_,hk,rfl,m',ok',?_,k1,λk h=>Qo.2 (.inr h),λk h=>hfr k λx hx hkx=>h (Qo.2 (.inl ⟨x,hx,hkx⟩))⟩;have e:CB*(q+1)=CB*q+CB:=by rw[Nat.mul_add,bD]
  rw[e];exact R'.climb (dU _ _)⟩
 | .seq x y=>by
  have hx:=zQ H hret hpan x;have hy:=zQ H hret hpan y;have:=vV (X:=X) (mE:=mE) (RetP:=RetP) (c:=.seq x y) (n:=xK x+xK y) (core:=λq a s w R K=>Dy X.E rt ret pan x q a.l s w R λfl s' w' =>match fl with
   | .nm=>Dy X.E rt ret pan y (q+xK x) a.r s' w' R K| .ex id=>K (.ex id) s' w'
   | .rt r=>K (.rt r) s' w') (DOk.mk λ{q an s wr R K r} h {m ok a w} Rl hE=>by
    refine wp_seq (wp_mono (hx.run h Rl hE) ?_);rintro e a' w' ⟨fl,s',wr',hk,hfl⟩;cases fl with
    |nm=>obtain⟨rfl,m',ok',R1,k1,k2,k3⟩:=hfl;refine wp_mono (hy.run hk R1 (λk l h=>k1 _ _ (hE _ _ h))) ?_;rintro e a2 w2 ⟨fl,s2,wr2,hk2,hfl2⟩;exact⟨fl,s2,wr2,hk2,hfl2.trans k1 k2 k3 o5⟩
    |ex id=>obtain⟨rfl,hs⟩:=hfl;exact⟨.ex id,s',wr',hk,rfl,hs.up o5⟩
    |rt x=>
     obtain⟨hl,hs⟩:=hfl;rcases hl with rfl|⟨ch,rfl⟩
     .exact⟨.rt x,s',wr',hk,.inl rfl,hs⟩
     .exact⟨.rt x,s',wr',hk,.inr ⟨_,rfl⟩,hs⟩)
  rw[show xK (.seq x y)=xK x+xK y+1 by simp only[xK];omega];exact this
 | .block id x=>by
  have hx:=zQ H hret hpan x;have:=vV (X:=X) (mE:=mE) (RetP:=RetP) (c:=.block id x) (n:=xK x) (core:=λq a s w R K=>Dy X.E rt ret pan x q a.l s w R λfl s' w' =>match fl with
   | .nm=>K .nm s' w'| .ex j=>bif Nat.beq j id then K .nm s' w' else K (.ex j) s' w'
   | .rt r=>K (.rt r) s' w') (DOk.mk λ{q an s wr R K r} h {m ok a w} Rl hE=>by
    refine wp_block (wp_mono (hx.run h Rl hE) ?_);rintro e a' w' ⟨fl,s',wr',hk,hfl⟩;cases fl with
    |nm=>obtain⟨rfl,hs⟩:=hfl;exact⟨.nm,s',wr',hk,rfl,hs⟩
    |ex j=>
     obtain⟨rfl,hs⟩:=hfl;simp only at hk;cases hb:Nat.beq j id
     .simp only[hb,cond_false]at hk;have hne:j≠id:=λe=>by subst e;simp at hb
      simp only[Exit.inBlock,hne,if_false];exact⟨.ex j,s',wr',hk,rfl,hs⟩
     .simp only[hb,cond_true]at hk;have:=eU hb;subst this;simp only[Exit.inBlock,if_true];exact⟨.nm,s',wr',hk,rfl,hs⟩
    |rt x=>
     obtain⟨hl,hs⟩:=hfl;rcases hl with rfl|⟨ch,rfl⟩
     .exact⟨.rt x,s',wr',hk,.inl rfl,hs⟩
     .exact⟨.rt x,s',wr',hk,.inr ⟨_,rfl⟩,hs⟩)
  rw[show xK (.block id x)=xK x+1 by simp only[xK];omega];exact this
 | .cond c x y=>by
  have hx:=zQ H hret hpan x;have hy:=zQ H hret hpan y;have:=vV (X:=X) (mE:=mE) (RetP:=RetP) (c:=.cond c x y) (n:=xK x+xK y) (core:=λq a s w R K=>(vK c λv=>Cmd.ret v:Cmd V).runK s ([],[]) λv s' _=>match v with
   | .b t=>l7 t (Dy X.E rt ret pan x q a.l s' w R K) (Dy X.E rt ret pan y (q+xK x) a.r s' w R K)
   |_=>none) (DOk.mk λ{q an s wr R K r} h {m ok a w} Rl hE=>by
    obtain⟨v,s',tr,he,hk⟩:=jV h;obtain⟨hv,hs⟩:=pJ (dh Rl (K:=λv=>Cmd.ret v) (x:=c) (Q:=λv S' =>lQ ⟨w.heap,ok,m⟩ v (a.eval c)/\S' =aV s) λv hv=>⟨hv,rfl⟩) he;cases v<;>try (simp at hk;done)
    case b t=>
     have R1:Rel X (CB*q) (CB*q) (aV s') m ok a w:=by rw[hs];exact Rl
     refine wp_cond_split (QV hv) (λht=>?_) (λht=>?_)
     .subst ht;refine wp_mono (hx.run (show Dy X.E rt ret pan x q an.l s' wr R K=some r from hk) R1 hE) ?_;rintro e a2 w2 ⟨fl,s2,wr2,hk2,hfl2⟩;exact⟨fl,s2,wr2,hk2,hfl2.trans (λ_ _ h=>h) (λ_ h=>h) (λk _=>by rw[hs]) o5⟩
     .subst ht;refine wp_mono (hy.run (show Dy X.E rt ret pan y (q+xK x) an.r s' wr R K=some r from hk) (R1.upq o5) hE) ?_;rintro e a2 w2 ⟨fl,s2,wr2,hk2,hfl2⟩;exact⟨fl,s2,wr2,hk2,hfl2.trans (λ_ _ h=>h) (λ_ h=>h) (λk _=>by rw[hs]) o5⟩)
  rw[show xK (.cond c x y)=xK x+xK y+1 by simp only[xK];omega];exact this
 | .loop x=>by have hx:=zQ H hret hpan x;have:=vV (a2q hx);rw[show xK (.loop x)=2+xK x+1 by simp only[xK];omega];exact this| .goto l=>⟨λh=>by simp[Dy]at h⟩| .scope x=>⟨λh=>by simp[Dy]at h⟩| .rangeFunc ..=>⟨λh=>by simp[Dy]at h⟩| .refuse ..=>⟨λh=>by simp[Dy]at h⟩
end
end Go.GP
namespace Go.GP
structure EnvOk (P:Program) (E:Env):Prop where
 nt:64*E.nt<=999936
 tt:∀t i,dX E.tt t=some i->TiOk P t i
 fs:∀p∈E.fs,a5x P E.gl p
 eqs:∀t sh,dX E.eqs t=some sh->LM P t sh
 ms:∀p∈E.ms,Ep P p.1.1 p.1.2 p.2.1 p.2.2
 fn:∀p∈E.fs,∃fn,P.funcs[a5M p.1]? =some fn/\fn.body.isSome=true/\(fn.name== "runtime.NumGoroutine")=false
 pl:∀p∈E.pl,PlP P p.1 p.2.1 p.2.2
theorem Jq{C:Cx} :∀{a:List V} {xs:c6H},gZ C a xs->a.length=xs.length
 |[],_,h=>by simp only[gZ]at h;simp[h]|c::a,_,⟨v,r,e,h1,h2⟩=>by subst e;simp[Jq h2]
def QY(tmps:Array Value):ResultVar->Sem Value
 | .tmp t=>pure (tmps.getD t undef)| .cell a t=>do loadVar t (←asAddr (tmps.getD a undef))
def a6G(h:Array Obj)(tm:Nat->Value):c6I->c6H->c6I->Prop
 |[],os,B=>os=[]/\B=[]|n::ns,os,B=>(∃b arr T os' B',tm n= .pointer (some ⟨b,0,none⟩)/\h[b]? =some (.cells arr T (0,0))/\os= .agg arr::os' /\B=b::B' /\a6G h tm ns os' B')\/
  (∃t b arr T os' B',tm n= .iface t (.pointer (some ⟨b,0,none⟩))/\h[b]? =some (.cells arr T (0,0))/\os= .agg arr::os' /\B=b::B' /\a6G h tm ns os' B')\/
  (∃l os',Loc.view l none (tm n)/\os=tm n::os' /\a6G h tm ns os' B)
def Uk(h:Array Obj)(ok:Nat->Ty->Prop):List MG->c6H->Prop
 |[],vs=>vs=[]|m::ms,vs=>∃v r cs x O,vs=v::r/\Zw m.1 v cs/\mM h ok m.2 none x cs O/\Uk h ok ms r
theorem LU{h:Array Obj}{ok:Nat->Ty->Prop} :∀{ms:List MG} {x:U0 ms} {vs:c6H} {O:c6I},mg h ok ms x vs O->Uk h ok ms vs
 |[],_,_,_,e=>e.1|[m],x,_,_,⟨v,cs,e,hg,hr⟩=>⟨v,[],cs,x,_,e,hg,hr,rfl⟩|m::m' ::r,x,_,_,⟨v,cs,vs',O1,O2,e,eo,hg,h1,h2⟩=>⟨v,vs',cs,x.1,O1,e,hg,h1,LU h2⟩
section
variable {X:Fx} {cl ch:Nat} {m:Mp} {a:Act} {w:World}
theorem Lh{α:Type}{Q:α->Sm->Prop}(H:FxOk X){S:Sm}{ok:Nat->Ty->Prop}(R:Rel X cl ch S m ok a w):∀(l:List ResultVar) {K:List V->Cmd α}
  (hK:∀vs rvs,gZ ⟨w.heap,ok,m⟩ vs rvs->rvs.length=l.length->(l.mapM (QY a.tmps)).run X.P w= .ok rvs w->(K vs).post S Q),(QX X.E l K).post S Q
 |[],K,hK=>hK [] [] rfl rfl D5
 | .tmp t::l,K,hK=>by unfold QX;refine bP λhb=>X7 ?_;refine Lh H R l λvs rvs hr hl hrun=>?_;refine hK _ (a.tmps.getD t undef::rvs) ⟨_,_,rfl,R.slot t (GG hb),hr⟩ (by simp[hl]) ?_;simp only[List.mapM_cons,J5,QY,Y9,L6,hrun]
 | .cell p t::l,K,hK=>by unfold QX;refine bP λhb=>X7 ?_;refine BZ H R (R.slot p (GG hb)) λv u ad hv hx hload=>?_;refine Lh H R l λvs rvs hr hl hrun=>?_;refine hK _ (u::rvs) ⟨_,_,rfl,hv,hr⟩ (by simp[hl]) ?_;simp only[List.mapM_cons,J5,QY,hx,asAddr,Y9,L6,hload,hrun]
theorem Gh{α:Type}{Q:α->Sm->Prop} :∀(ns:c6I) {S:Sm} {ok:Nat->Ty->Prop} {T:c6I} {K:List V->Cmd α} (R:Rel X cl ch S m ok a w) (hT:Tk X S m ok w T)
  (hK:∀S' ws os B,Rel X cl ch S' m ok a w->Tk X S' m ok w (T++B)->a6G w.heap (λn=>a.tmps.getD n Go.undef) ns os B->gZ ⟨w.heap,ok,m⟩ ws os->(K ws).post S' Q),(QP ns K).post S Q
 |[],S,ok,T,K,R,hT,hK=>hK S [] [] [] R (by simpa using hT) ⟨rfl,rfl⟩ rfl|n::ns,S,ok,T,K,R,hT,hK=>by
  unfold QP;refine Y6 λhb=>X7 ?_;have hsl:=R.slot n (by rw[Z5]at hb;exact hb);split<;>try trivial
  .rename_i bx hSn;rw[hSn]at hsl;obtain⟨blk,hm,hv⟩:=hsl;refine X7 ?_;split<;>try trivial
   rename_i cs hS;obtain⟨blk',arr,Ty,hm',hh,hl⟩:=R.own_cells hS;simp only at hm;rw[hm]at hm';cases hm';refine gG ?_;have hT1:Tk X (upd S (X9+bx) .dead) m ok w (T++[blk]):=hT.kill R bx (λb hb=>by simp at hb;subst hb;simp[U2,hS,hm]) D5;refine Gh ns (R.kill bx) hT1 λS' ws os B R' T' ho hw=>?_;exact hK S' _ (.agg arr::os) (blk::B) R' (by simpa using T') (.inl ⟨blk,arr,Ty,os,B,hv,hh,rfl,rfl,ho⟩) ⟨_,_,rfl,⟨arr,rfl,hl⟩,hw⟩
  .rename_i t u hSn;rw[hSn]at hsl;obtain⟨z,hz,_,hsl⟩:=hsl;split<;>try trivial
   rename_i bx;obtain⟨blk,hm,hv⟩:=hsl;refine X7 ?_;split<;>try trivial
   rename_i cs hS;obtain⟨blk',arr,Ty,hm',hh,hl⟩:=R.own_cells hS;simp only at hm;rw[hm]at hm';cases hm';refine gG ?_;have hT1:Tk X (upd S (X9+bx) .dead) m ok w (T++[blk]):=hT.kill R bx (λb hb=>by simp at hb;subst hb;simp[U2,hS,hm]) D5;refine Gh ns (R.kill bx) hT1 λS' ws os B R' T' ho hw=>?_;exact hK S' _ (.agg arr::os) (blk::B) R' (by simpa using T') (.inr (.inl ⟨t,blk,arr,Ty,os,B,hv▸hz,hh,rfl,rfl,ho⟩)) ⟨_,_,rfl,⟨arr,rfl,hl⟩,hw⟩
  .rename_i bx hSn;rw[hSn]at hsl;obtain⟨l,hm,hv⟩:=hsl;refine Gh ns R hT λS' ws os B R' T' ho hw=>?_;exact hK S' _ (a.tmps.getD n Go.undef::os) B R' T' (.inr (.inr ⟨l,os,hv,rfl,ho⟩)) ⟨_,_,rfl,⟨l,hm,hv⟩,hw⟩
end
theorem OG{l:Loc}{v:Value}(h:l.view none v):(∃a n c,v= .slice a n c)\/∃b,v= .map (some b):=by
 cases l with
 |nil=>exact .inl ⟨_,_,_,h⟩|st b=>cases h|mp b=>exact .inr ⟨_,h⟩|arr blk off len cap sz=>exact .inl ⟨_,_,_,h⟩
theorem XX{h h0:Array Obj}{ok0:Nat->Ty->Prop}{tm:Nat->Value} :∀(ms:List MG) (k:Nat) {vals:c6H} {os:c6H} {B:c6I},Xc ms=true->
  Uk h0 ok0 ms vals->(∀i v,k+i∈iF ms k->vals[i]? =some v->tm (k+i)=v)->a6G h tm (iF ms k) os B->tX h ms vals os B:=by
 have tail:∀{m:List MG} {k:Nat} {v:Value} {r:c6H},(∀i u,k+i∈iF m (k+1)->(v::r)[i]? =some u->tm (k+i)=u)->∀i u,(k+1)+i∈iF m (k+1)->r[i]? =some u->tm ((k+1)+i)=u:=by intro m k v r h i u hi hu;have e:k+(i+1)=k+1+i:=o5;have:=h (i+1) u (by rw[e];exact hi) (by simpa using hu);rwa[e]at this
 have tail2:∀{m:List MG} {k:Nat} {v:Value} {r:c6H},(∀i u,k+i∈k::iF m (k+1)->(v::r)[i]? =some u->tm (k+i)=u)->(tm k=v)/\∀i u,(k+1)+i∈iF m (k+1)->r[i]? =some u->tm ((k+1)+i)=u:=λh=>
  ⟨by have:=h 0 _ D5 rfl;simpa using this,tail (λi u hi hu=>h i u (U5 _ hi) hu)⟩
 intro ms;induction ms with
 |nil=>intro k vals os B hsb hs ht ho;simp only[Uk]at hs;subst hs;exact ho|cons m ms ih=>
  intro k vals os B hsb hs ht ho;obtain⟨v,r,cs,x,O,rfl,hg,hr,hs⟩:=hs;obtain⟨g,m⟩:=m;cases m
  case box md=>
   unfold iF at ht ho;obtain⟨htv,ht⟩:=tail2 ht;obtain⟨blk,arr,T,O',hc,_⟩:=hr;have hv:v= .pointer (some ⟨blk,0,none⟩)\/∃ar,v= .agg ar:=by
    cases g
    .left;have hg:cs=[v]:=hg;rw[hg]at hc;simpa using hc
    .right;obtain⟨ar,e,_⟩:=hg;exact⟨ar,e⟩
   rcases ho with⟨b,arr,T,os',B',e,hh,e1,e2,ho'⟩|⟨t,b,arr,T,os',B',e,_⟩|⟨l,os',e,_⟩
   .exact⟨b,arr,T,os',B',htv.symm.trans e,hh,e1,e2,ih (k+1) hsb hs ht ho'⟩
   .rw[htv]at e;rcases hv with rfl|⟨_,rfl⟩<;>cases e
   .rcases OG e with⟨_,_,_,e⟩|⟨_,e⟩<;>rw[htv]at e<;>rcases hv with rfl|⟨_,rfl⟩<;>cases e
  case ownb u=>
   unfold iF at ht ho;obtain⟨htv,ht⟩:=tail2 ht;obtain⟨l,v',hc,hvv,_⟩:=hr;have hv:((∃a n c,v= .slice a n c)\/∃b,v= .map (some b))\/∃ar,v= .agg ar:=by
    cases g
    .left;have hg:cs=[v]:=hg;rw[hg]at hc;simp only[I7,and_true]at hc;subst hc;exact OG hvv
    .right;obtain⟨ar,e,_⟩:=hg;exact⟨ar,e⟩
   rcases ho with⟨b,arr,T,os',B',e,_⟩|⟨t,b,arr,T,os',B',e,_⟩|⟨l,os',e,rfl,ho'⟩
   .rw[htv]at e;rcases hv with(⟨_,_,_,rfl⟩|⟨_,rfl⟩)|⟨_,rfl⟩<;>cases e
   .rw[htv]at e;rcases hv with(⟨_,_,_,rfl⟩|⟨_,rfl⟩)|⟨_,rfl⟩<;>cases e
   .rw[htv];exact⟨os',rfl,ih (k+1) hsb hs ht ho'⟩
  case ifc t md=>
   cases md
   case box md=>
    unfold iF at ht ho;obtain⟨htv,ht⟩:=tail2 ht;obtain⟨u,hc,blk,arr,T,O',hu,_⟩:=hr;have hv:v= .iface t u\/∃ar,v= .agg ar:=by
     cases g
     .left;have hg:cs=[v]:=hg;rw[hg]at hc;simpa using hc
     .right;obtain⟨ar,e,_⟩:=hg;exact⟨ar,e⟩
    rcases ho with⟨b,arr,T,os',B',e,_⟩|⟨t,b,arr,T,os',B',e,hh,e1,e2,ho'⟩|⟨l,os',e,_⟩
    .rw[htv]at e;rcases hv with rfl|⟨_,rfl⟩<;>cases e
    .exact⟨t,b,arr,T,os',B',htv.symm.trans e,hh,e1,e2,ih (k+1) hsb hs ht ho'⟩
    .rcases OG e with⟨_,_,_,e⟩|⟨_,e⟩<;>rw[htv]at e<;>rcases hv with rfl|⟨_,rfl⟩<;>cases e
   all_goals
    unfold iF at ht ho;exact ih (k+1) hsb hs (tail ht) ho
  case sbx=>cases hsb
  case sit=>cases hsb
  all_goals
   unfold iF at ht ho;exact ih (k+1) hsb hs (tail ht) ho
theorem a1m:∀{a b:c6I},a1l a b=true->∀n∈a,n∈b
 |[],_,_,_,h=>by cases h|a::r,b,h,n,hn=>by
  unfold a1l at h;cases hb:DV a b<;>rw[hb]at h
  .cases h
  .rcases D8.1 hn with rfl|hn
   .exact XU hb
   .exact a1m h n hn
theorem SE:∀{ms:List MG} {k n:Nat},n∈iF ms k->k<=n/\n<k+ms.length
 |[],k,n,h=>by cases h|(g,m)::ms,k,n,h=>by
  have key:n∈k::iF ms (k+1)->k<=n/\n<k+(ms.length+1):=λh=>by
   rcases D8.1 h with rfl|h
   .omega
   .have:=SE h;omega
  cases m
  case box md=>exact key h
  case ownb u=>exact key h
  case ifc t md=>
   cases md
   case box md=>exact key h
   all_goals exact key (U5 _ h)
  all_goals exact key (U5 _ h)
variable {P:Program}{fn:Func}
theorem a0S{w:World}{tmps:Array Value}{rvs:c6H}(h:(fn.results.toList.mapM (QY tmps)).run P w= .ok rvs w):
  ∃v,(results fn tmps).run P w= .ok v w/\OH rvs.length v rvs:=by
 have hm:(fn.results.mapM (QY tmps)).run P w= .ok rvs.toArray w:=by rw[Array.mapM_eq_mapM_toList];simp[h]
 have e:results fn tmps=(do let vs ←fn.results.mapM (QY tmps);pure (if h:vs.size=1 then vs[0]else .tuple vs):Sem Value):=by unfold results;congr 1
 rw[e,J5,hm];clear h hm e;rcases rvs with _|⟨x,_|⟨y,r⟩⟩
 .exact⟨.tuple #[],rfl,rfl,rfl⟩
 .exact⟨x,rfl,rfl,rfl⟩
 .exact⟨.tuple (x::y::r).toArray,D5,rfl,rfl⟩
section
variable {X:Fx} {cl ch:Nat} {m:Mp} {ok:Nat->Ty->Prop} {a:Act} {w:World}
theorem Xz{Q:Unit->Sm->Prop}{xall:c6H}(hall:∀k p,xall[k]? =some p->a.tmps.getD k Go.undef=p):∀(ms:List MG) (n:Nat) {xs:c6H} {S:Sm} {K:Cmd Unit}
  (R:Rel X cl ch S m ok a w) (hxs:∀i v,xs[i]? =some v->a.tmps.getD (n+i) Go.undef=v) (hl:ms.length=xs.length) (hd:h_ w.heap xall ms xs)
  (hK:∀S',Rel X cl ch S' m ok a w->K.post S' Q),(UN ms n K).post S Q:=by
 intro ms;induction ms with
 |nil=>intro n xs S K R hxs hl hd hK;exact hK S R|cons md ms ih=>
  intro n xs S K R hxs hl hd hK;obtain⟨g,md⟩:=md;cases xs with
  |nil=>cases hl|cons x xs=>
   have hxs' :∀i v,xs[i]? =some v->a.tmps.getD (n+1+i) Go.undef=v:=λi v h=>by have:=hxs (i+1) v (by simpa using h);rwa[show n+(i+1)=n+1+i by omega]at this
   have hl' :ms.length=xs.length:=by simpa using hl
   cases md
   case dv k off sz fo=>obtain⟨⟨p,hp,hpa⟩,hd⟩:=hd;unfold UN;refine Y6 λhb=>X7 ?_;simp only[D6]at hb;have hk:=GG hb.1;have hn:=GG hb.2;have hsl:=R.slot k hk;rw[hall k p hp]at hsl;refine Oj R hsl λr y hr hy=>gG ?_;have hx:=hxs 0 x rfl;rw[aH]at hx;have:y=x:=hy.det hpa;subst this;exact ih (n+1) (R.slotV hn (by rw[hx];exact hr)) hxs' hl' hd hK
   all_goals
    unfold UN;exact ih (n+1) R hxs' hl' hd hK
end
variable {rt:Ret}{c:Code}{an:Ann}
theorem WC{X:Fx}(H:FxOk X){ρ:Type}{ret:rt.den->ρ}{pan:Int->Cmd ρ}(hres:fn.results.toList=rt.rs.map (·.1)){q:Nat}{s:St}{mE:Mp}{ok1:Nat->Ty->Prop}{y:ρ}
  (hk:Dy X.E rt ret pan c q an s [] ρ (λfl s' _=>a7k X.E rt ret fl s')=some y)
  {act:Act} {w1:World} (Rq:Rel X (CB*q) (CB*q) (aV s) mE ok1 act w1) {ps:List MG} {vals:c6H} {h00:Array Obj} {ok00:Nat->Ty->Prop} (hsame:rt.outs.map (·.1)=iF ps 0) (hsub:∀n∈rt.outs.map (·.1),n∈X.E.kp) (hnosb:Xc ps=true)
  (hshp:Uk h00 ok00 ps vals) (htm:∀i v,0+i∈iF ps 0->vals[i]? =some v->X.tm0.getD (0+i) Go.undef=v) {Rr:Ending->World->Prop}
  (hN:∀r0 v w' ok' O' rs os B,y=ret r0->Frame' X.w0 w' X.O->(∀b t,X.ok0 b t->ok' b t)->(∀b t,ok' b t->b<w'.heap.size/\(X.ok0 b t\/X.w0.heap.size<=b\/b∈X.O))->
   (O' ++B).Nodup->(∀b∈O' ++B,(∀t,¬ok' b t)/\b<w'.heap.size/\(X.w0.heap.size<=b\/b∈X.O))->
   OH (rt.rs.map (·.2)).length v rs->tX w'.heap ps vals os B->mg w'.heap ok' (rt.rs.map (·.2)++rt.outs.map (·.2)) r0 (rs++os) O' ->Rr (.returned v) w')
  (hP:∀{c:Int} {S S' :Sm} {tr:Tr} {cl ch:Nat} {m:Mp} {ok:Nat->Ty->Prop} {a' :Act} {w' :World},c≠0->(pan c).eval S ([],[])=some (y,S',tr)->Rel X cl ch S m ok a' w' ->(∀k l,mE k=some l->m k=some l)->
   Leaves X.P fn a'.tmps Rr a'.defers (.panicking (nX X.P c)) w'):
  c.wp X.P (bodyPostD X.P fn Rr) act w1:=by
 let RetN:rt.den->Act->World->Prop:=λr0 a' w' =>(∀d∈a'.defers,Un X.P d)/\∃v,(results fn a'.tmps).run X.P w' = .ok v w' /\
  ∃ok' O' rs os B,Frame' X.w0 w' X.O/\(∀b t,X.ok0 b t->ok' b t)/\(∀b t,ok' b t->b<w'.heap.size/\(X.ok0 b t\/X.w0.heap.size<=b\/b∈X.O))/\
   (O' ++B).Nodup/\(∀b∈O' ++B,(∀t,¬ok' b t)/\b<w'.heap.size/\(X.w0.heap.size<=b\/b∈X.O))/\
   OH (rt.rs.map (·.2)).length v rs/\tX w'.heap ps vals os B/\mg w'.heap ok' (rt.rs.map (·.2)++rt.outs.map (·.2)) r0 (rs++os) O'
 let RetP:ρ->Exit->Act->World->Prop:=λz e a' w' =>(e= .ret->∃r0,z=ret r0/\RetN r0 a' w')/\
  (∀ch,e= .panic ch->∃(c:Int) (S S' :Sm) (tr:Tr) (cl ch' :Nat) (m:Mp) (ok:Nat->Ty->Prop),ch=nX X.P c/\c≠0/\(pan c).eval S ([],[])=some (z,S',tr)/\Rel X cl ch' S m ok a' w' /\(∀k l,mE k=some l->m k=some l))
 have hretN:∀{s:St} {R:Type} {K:rt.den->Option R} {r:R},(a9b X.E rt).runK s ([],[]) (λx _ _=>K x)=some r->
   ∃x,K x=some r/\∀{cl ch:Nat} {m:Mp} {ok:Nat->Ty->Prop} {a:Act} {w:World},Rel X cl ch (aV s) m ok a w->RetN x a w:=by
  intro s R K r h;obtain⟨x,s',tr,he,hk⟩:=jV h;refine⟨x,hk,λ{cl ch m ok1 a1 w1} R1=>?_⟩;refine pJ (Q:=λx _=>RetN x a1 w1) ?_ he;unfold a9b;refine Lh H R1 _ λvs1 rvs hv1 hl1 hrun=>Gh (T:=[]) _ R1 Tk.nil λS2 ws os B R2 T2 hout hws=>?_;refine xm _ R2 T2 λS2 m2 R2 T2 km2=>?_;refine M_ _ R2 T2 (Zy km2 (Jp hv1 hws)) λS3 ok3 y O3 R3 T3 k3 s3 hy=>?_;simp only[J4]at T3;have hp:(B++O3).Perm (O3++B):=jE;rw[←hres]at hrun;obtain⟨v,hv,hrv⟩:=a0S hrun;refine⟨R3.nodef,v,hv,ok3,O3,rvs,os,B,R3.frame,R3.okIn,λb t hb=>⟨R3.okLt b t hb,R3.okOut b t hb⟩,hp.nodup_iff.1 T3.nodup,λb hb=>?_,?_,XX ps 0 hnosb hshp (λi v hi hv=>?_) (by rw[hsame]at hout;exact hout),hy⟩
  .obtain⟨f1,f2,f3,_⟩:=T3.free b (hp.mem_iff.2 hb);exact⟨f1,f2,f3⟩
  .refine⟨by rw[hl1];simp,hrv.2⟩
  .rw[R1.kept (0+i) (hsub _ (by rw[hsame];exact hi))];exact htm i v hi hv
 have hret:a1y X rt ret mE RetP:=by intro s R K r h;obtain⟨x,hk,hx⟩:=hretN h;exact⟨x,hk,λR1 _=>⟨λ_=>⟨x,rfl,hx R1⟩,λch e=>by cases e⟩⟩
 have hpan:a1x X pan mE RetP:=λ{c S S' tr x} hc he {cl ch m ok a w} R1 km=>⟨λe=>(by cases e),λch' e=>by cases e;exact⟨c,S,S',tr,cl,ch,m,ok,rfl,hc,he,R1,km⟩⟩
 have fin:∀{r0:rt.den} {a' :Act} {w' :World},y=ret r0->RetN r0 a' w' ->Leaves X.P fn a'.tmps Rr a'.defers .returning w' :=λhy h=>by obtain⟨h1,v,h2,ok',O',rs,os,B,g1,g2,g3,g4,g5,g6,g7,g8⟩:=h;exact Sj ⟨v,h2,hN _ v _ ok' O' rs os B hy g1 g2 g3 g4 g5 g6 g7 g8⟩ _ h1
 have hwp:=(zQ H hret hpan c).run hk Rq (λ_ _ h=>h);refine wp_mono hwp ?_;rintro e a' w' ⟨fl,s',wr',hk2,hfl⟩;cases fl with
 |ex id=>cases hk2|rt z=>
  have hk2:some z=some y:=hk2;cases hk2;obtain⟨hl,h1,h2⟩:=hfl;rcases hl with rfl|⟨ch,rfl⟩
  .obtain⟨r0,hy,hn⟩:=h1 rfl;exact fin hy hn
  .obtain⟨c,S,S',tr,cl,ch',m,ok,rfl,hc,he,R1,km⟩:=h2 ch rfl;exact hP hc he R1 km
 |nm=>obtain⟨rfl,m',ok',R',k1,_,_⟩:=hfl;obtain⟨r0,hy,hp⟩:=hretN (K:=λr=>some (ret r)) hk2;simp only[G8]at hy;exact fin hy.symm (hp R')
variable {E:Env}{f:FuncId}{ps:List MG}
theorem Uz{ρ:Type}{ret:rt.den->ρ}{pan:Int->Cmd ρ}{df:Option (List Deferred)}(hdf:∀l,df=some l->[]=l)
  (hdf2:∀l,df=some l->∀p∈E.pl,Nat.beq p.2.2 0=false) (hf:P.funcs[f]? =some fn) (hb:fn.body=some c) (hnt:fn.ntmps=E.nt)
  (hres:fn.results.toList=rt.rs.map (·.1)) (hE:EnvOk P E) {w:World} {ok:Nat->Ty->Prop} {O:c6I} {vals:c6H} {x:U0 ps} {y:ρ}
  (hlt:∀b t,ok b t->b<w.heap.size) (hnd:O.Nodup) (hO:∀b∈O,(∀t,¬ok b t)/\b<w.heap.size) (hgl:∀g u,dX E.gl g=some u->IE ⟨w.heap,ok,nom⟩ g u.1 u.2)
  (hrel:mg w.heap ok ps x vals O) (hdv:h_ w.heap vals ps vals)
  (hle00:(Nat.ble ps.length E.nt&&Bg (rt.outs.map (·.1)) (iF ps 0)&&a1l (rt.outs.map (·.1)) E.kp&&Xc ps)=true)
  (hden:((EH ps x 0 λvs n=>bif Nat.ble n CB then CY (List.range vs.length) vs (UN ps 0 (.ret ()))else .fail).runK [] ([],[]) λ_ s _=>
   Dy E rt ret pan c 1 an s [] ρ (λfl s' _=>a7k E rt ret fl s'))=some y) {Rr:Ending->World->Prop}
  (hN:∀r0 v w' ok' O' rs os B,y=ret r0->Frame' w w' O->(∀b t,ok b t->ok' b t)->(∀b t,ok' b t->b<w'.heap.size/\(ok b t\/w.heap.size<=b\/b∈O))->
   (O' ++B).Nodup->(∀b∈O' ++B,(∀t,¬ok' b t)/\b<w'.heap.size/\(w.heap.size<=b\/b∈O))->
   OH (rt.rs.map (·.2)).length v rs->tX w'.heap ps vals os B->mg w'.heap ok' (rt.rs.map (·.2)++rt.outs.map (·.2)) r0 (rs++os) O' ->Rr (.returned v) w')
  (hP:∀{c:Int} {S S' :Sm} {tr:Tr} {a' :Act} {w' :World},c≠0->(pan c).eval S ([],[])=some (y,S',tr)->Frame' w w' O->(∀l,df=some l->a'.defers=l)->
   Leaves P fn a'.tmps Rr a'.defers (.panicking (nX P c)) w'):Calls P f vals.toArray w Rr:=by
 let X:Fx:=⟨P,E,w,O,ok,vals.toArray++Array.replicate (E.nt -vals.length) undef,df⟩;have H:FxOk X:=⟨hE.nt,hE.tt,hE.fs,hE.eqs,hE.ms,hE.fn,hE.pl,hdf2⟩;refine calls_of_wp_defers hf hb ?_;simp only[aK];rw[hnt];generalize hact:({ tmps:=vals.toArray++Array.replicate (E.nt -vals.length) undef,defers:=[] } :Act)=act;have hvl:vals.length=ps.length:=Hf hrel;simp only[D6]at hle00;obtain⟨⟨⟨hle0,hsame⟩,hsub⟩,hnosb⟩:=hle00;have hsame:=Iy hsame;have hsub:=a1m hsub;have hle1:=S9 hle0;obtain⟨u,s,tr,he,hk⟩:=jV hden;have hsize:act.tmps.size=E.nt:=by subst hact;simp;omega
 have hslots:∀n,n<vals.length->act.tmps.getD n undef=vals.getD n undef:=λn hn=>by subst hact;simp only[O5];rw[gW (by simpa using hn)];simp[KF]
 have R0:Rel X 0 0 (aV []) nom ok act w:={ size:=hsize,nodef:=(by subst hact;intro d hd;cases hd),dfs:=(by subst hact;exact hdf),slot:=λn _=>trivial,box:=λn=>trivial,inj:=λn n' b h=>(by simp[aV,U2]at h),nd:=λn=>(by simp[aV,U2]),sep:=λn b h=>(by simp[aV,U2]at h),okLt:=hlt,okIn:=λb t h=>h,okOut:=λb t h=> .inl h,frame:=Frame'.refl w O,fresh:=λ_ _ _=>rfl,strict:=λ_ _=>rfl,gl:=hgl,kept:=λn _=>by subst hact;rfl };have T0:Tk X (aV []) nom ok w (O++[]):=⟨by simpa using hnd,λb hb=>by simp only[G7]at hb;obtain⟨h1,h2⟩:=hO b hb;exact⟨h1,h2,.inr hb,λn e=>by simp[aV,U2]at e⟩⟩
 have key:=pJ (EI (T:=[]) ps (Q:=λ_ S' =>∃m' vs,Rel X 0 CB S' m' ok act w/\gZ ⟨w.heap,ok,m'⟩ vs vals) R0 (D7 0) T0 hrel
  (K:=λvs n=>bif Nat.ble n CB then CY (List.range vs.length) vs (UN ps 0 (.ret ()))else .fail) λS1 m1 vs n1 ch1 R1 c1 T1 k1 s1 l1 e1=>bP λhb=>by
   have hn1:=S9 hb;have hvs:=Jq l1;have hr:vals=(List.range vs.length).map λn=>act.tmps.getD n Go.undef:=by
    apply jg
    .simp[hvs]
    .intro i h1 h2;simp only[rH,pq];rw[hslots i h1,KF,lF h1];rfl
   have hall:∀k p,vals[k]? =some p->act.tmps.getD k Go.undef=p:=λk p hk=>by rw[hslots k (bg.1 hk).1,KF,hk];rfl
   refine Eb _ (R1.chmono (ch' :=CB) o5) (by rw[←hr];exact l1) λS' R' =>?_;refine Xz hall ps 0 R' (λi v hi=>by rw[bY];exact hall i v hi) hvl.symm hdv λS2 R2=>⟨m1,vs,R2,l1⟩) he
 obtain⟨mE,vs,RE,hvs⟩:=key;have Rq:Rel X (CB*1) (CB*1) (aV s) mE ok act w:=(RE.climb (cO _)).chmono (by rw[bD];exact D7 _);refine WC H hres hk Rq hsame hsub hnosb (LU hrel) (λi v hi hv=>?_) hN (λ{c S S' tr cl ch m ok' a' w'} hc he R1 _=>hP hc he R1.frame R1.dfs);have hlt2:=(SE hi).2;have h2:=hslots (0+i) (by rw[hvl];omega);rw[←hact]at h2;refine h2.trans ?_;rw[KF,bY,hv];rfl
theorem NR{F:U0 ps->Option rt.den}(hf:P.funcs[f]? =some fn)(hb:fn.body=some c)(hnt:fn.ntmps=E.nt)
  (hres:fn.results.toList=rt.rs.map (·.1)) (hE:EnvOk P E) (hF:∀x r,F x=some r->a5G E ps rt c an x=some r):
  dD P E.gl f ⟨ps,rt.rs.map (·.2),rt.outs.map (·.2),F⟩:=by
 intro w ok O vals x r hlt hnd hO hgl hrel hdv hfn;have hden:=hF x r hfn;clear hfn hF;unfold a5G at hden;cases hle00:(Nat.ble ps.length E.nt&&Bg (rt.outs.map (·.1)) (iF ps 0)&&a1l (rt.outs.map (·.1)) E.kp&&Xc ps)
 .simp only[hle00,cond_false]at hden;cases hden
 simp only[hle00,cond_true]at hden;refine Uz (df:=none) (λl h=>by cases h) (λl h=>by cases h) hf hb hnt hres hE hlt hnd hO hgl hrel hdv hle00 (an:=an) (y:=r) (ret:=λr=>r) (pan:=λ_=> .fail) hden ?_ ?_
 .intro r0 v w' ok' O' rs os B hy g1 g2 g3 g4 g5 g6 g7 g8;subst hy;exact⟨v,ok',O',rs,os,B,rfl,g1,g2,g3,g4,g5,g6,g7,g8⟩
 .intro c S S' tr a' w' _ he;cases he
theorem QI:∀(l:List MG) (c:Int) (x:U0 l),T_ l (UH l c x)=c
 |[],_,_=>rfl|_::_,_,_=>rfl
theorem b1d:∀(l:List MG) (c:Int) (x:U0 l),tlT l (UH l c x)=x
 |[],_,_=>rfl|_::_,_,_=>rfl
def Oh:List (Nat×Nat×Nat)->Bool
 |[]=>true|p::r=>bif Nat.beq p.2.2 0 then false else Oh r
theorem Gg:∀{l:List (Nat×Nat×Nat)},Oh l=true->∀p∈l,Nat.beq p.2.2 0=false
 |[],_,p,hp=>by cases hp|a::l,h,p,hp=>by
  unfold Oh at h;cases hb:Nat.beq a.2.2 0<;>rw[hb]at h
  .rcases D8.1 hp with rfl|hp
   .exact hb
   .exact Gg h p hp
  .cases h
theorem a1V{F:U0 ps->Option (U0 (cd::(rt.rs.map (·.2)++rt.outs.map (·.2))))}(hf:P.funcs[f]? =some fn)(hb:fn.body=some c)(hnt:fn.ntmps=E.nt)
  (hres:fn.results.toList=rt.rs.map (·.1)) (hE:EnvOk P E) (hni:Oh E.pl=true) (hF:∀x r,F x=some r->b4g E ps rt c an x=some r):
  yK P E.gl f (FSpec.mk ps (cd::(rt.rs.map (·.2):List MG)) (rt.outs.map (·.2):List MG) (λx=>(F x:Option (U0 ((cd::(rt.rs.map (·.2):List MG))++(rt.outs.map (·.2):List MG)))))):=by
 refine⟨_,rfl,?_⟩;intro w ok O vals x r hlt hnd hO hgl hrel hdv hfn;have hden:=hF x r hfn;clear hfn hF;unfold b4g at hden;cases hle00:(Nat.ble ps.length E.nt&&Bg (rt.outs.map (·.1)) (iF ps 0)&&a1l (rt.outs.map (·.1)) E.kp&&Xc ps)
 .simp only[hle00,cond_false]at hden;cases hden
 simp only[hle00,cond_true]at hden;refine Uz (df:=some []) (λl h=>by cases h;rfl) (λl _=>Gg hni) hf hb hnt hres hE hlt hnd hO hgl hrel hdv hle00 (ret:=UH (rt.rs.map (·.2)++rt.outs.map (·.2)) 0) (pan:=λc=> .ret (UH (rt.rs.map (·.2)++rt.outs.map (·.2)) c (a3E (rt.rs.map (·.2)++rt.outs.map (·.2))))) hden ?_ ?_
 .intro r0 v w' ok' O' rs os B hy g1 g2 g3 g4 g5 g6 g7 g8;subst hy;exact .inl ⟨QI _ _ _,v,ok',O',rs,os,B,rfl,g1,g2,g3,g4,g5,g6,g7,by rw[b1d];exact g8⟩
 .intro c S S' tr a' w' hc he fr hd;simp only[Cmd.eval,G8,gK]at he;obtain⟨rfl,_,_⟩:=he;rw[hd [] rfl];refine .inr ⟨by rw[QI];exact hc,?_,fr⟩;rw[QI]
def zV:V->Value->Bool
 | .undef,v=>v.oneCell'| .b x,.bool y=>x==y| .i k n,.int k' n' =>decide (k=k')&&decide (n=n')| .s l,.string s=>decide (l=s.data.toList)| .nl,.slice none 0 0=>true| .sl t xs,.map none=>t.isEnt&&xs.isEmpty| .npt,.pointer none=>true|_,_=>false
def zL:List V->c6H->Bool
 |[],[]=>true|c::cs,v::vs=>zV c v&&zL cs vs|_,_=>false
theorem b3d{C:Cx}{c:V}{v:Value}(h:zV c v=true):wU C c v/\v.oneCell' =true:=by
 unfold zV at h;split at h
 .exact⟨trivial,h⟩
 .simp at h;subst h;exact⟨rfl,rfl⟩
 .simp at h;obtain⟨rfl,rfl⟩:=h;exact⟨rfl,rfl⟩
 .rename_i l s;have:=of_decide_eq_true h;subst this;exact⟨rfl,rfl⟩
 .exact⟨rfl,rfl⟩
 .rename_i t xs;simp only[D6,List.isEmpty_iff]at h;obtain⟨h1,rfl⟩:=h;exact⟨(a8Z h1).2 ⟨none,rfl,λ_=>rfl,λ_ h=>nomatch h⟩,rfl⟩
 .exact⟨rfl,rfl⟩
 .cases h
theorem a5q{C:Cx} :∀{cs:List V} {vs:c6H},zL cs vs=true->gB C cs vs
 |[],[],_=>rfl|[],_::_,h=>by simp[zL]at h|_::_,[],h=>by simp[zL]at h|c::cs,v::vs,h=>by unfold zL at h;simp only[D6]at h;obtain⟨h1,h2⟩:=b3d (C:=C) h.1;exact⟨v,vs,rfl,h1,h2,a5q h.2⟩
def Qa:(t:Ty)->c6H->Option c6H
 | .bool,.bool b::r=>bif b then none else some r| .int k,.int k' n::r=>bif decide (k=k')&&decide (n=0)then some r else none| .str,.string s::r=>bif decide (s.data.toList=[])then some r else none| .sl t,.slice none 0 0::r=>bif t.isEnt then none else some r| .sl t,.map none::r=>bif t.isEnt then some r else none
 | .prod a b,vs=>match Qa a vs with|some r=>Qa b r|none=>none
 | .unit,vs=>some vs|_,_=>none
theorem QW:∀{t:Ty} {vs r:c6H},Qa t vs=some r->∃cs,vs=cs++r/\rep #[] (λ_ _=>False) t t.zero cs
 | .bool,vs,r,h=>by
  cases vs with
  |nil=>cases h|cons v vs=>
   cases v<;>try (cases h;done)
   case bool b=>
    cases b
    .simp only[Qa,cond_false,G8]at h;subst h;exact⟨[.bool false],rfl,rfl⟩
    .simp[Qa]at h
 | .int k,vs,r,h=>by
  cases vs with
  |nil=>cases h|cons v vs=>
   cases v<;>try (cases h;done)
   case int k' n=>
    unfold Qa at h;cases hc:(decide (k=k')&&decide (n=0))
    .simp[hc]at h
    .simp only[hc,cond_true,G8]at h;simp only[D6,decide_eq_true_eq]at hc;obtain⟨rfl,rfl⟩:=hc;subst h;exact⟨[.int k 0],rfl,rfl⟩
 | .str,vs,r,h=>by
  cases vs with
  |nil=>cases h|cons v vs=>
   cases v<;>try (cases h;done)
   case string s=>
    unfold Qa at h;cases hc:decide (s.data.toList=[])
    .simp only[hc,cond_false]at h;cases h
    .simp only[hc,cond_true,G8]at h;subst h;have he:=of_decide_eq_true hc;refine⟨[.string s],rfl,?_⟩;show[Value.string s]=[Value.string ⟨(Ty.zero .str).toArray⟩];congr 2;obtain⟨⟨l⟩⟩:=s;simp only at he;subst he;rfl
 | .sl t,vs,r,h=>by
  cases vs with
  |nil=>cases h|cons v vs=>
   cases v<;>try (cases h;done)
   case slice a n c=>
    cases a<;>try (cases h;done)
    cases n<;>try (cases h;done)
    cases c<;>try (cases h;done)
    cases ht:t.isEnt<;>simp only[Qa,ht,cond_true,cond_false,G8]at h
    .subst h;exact⟨[.slice none 0 0],rfl,.inl ⟨ht,none,0,rfl,D7 _,λi x hi=>by simp[Ty.zero]at hi⟩⟩
    .cases h
   case map mv=>
    cases mv<;>try (cases h;done)
    cases ht:t.isEnt<;>simp only[Qa,ht,cond_true,cond_false,G8]at h
    .cases h
    .subst h;exact⟨[.map none],rfl,.inr ⟨ht,none,rfl,λ_=>rfl,λ_ h=>nomatch h⟩⟩
 | .ent ..,vs,r,h=>by
  cases vs with
  |nil=>cases h|cons v vs=>cases v<;>cases h
 | .unit,vs,r,h=>by
  have:vs=r:=by cases vs<;>(simp only[Qa,G8]at h;exact h)
  subst this;exact⟨[],rfl,rfl⟩
 | .prod a b,vs,r,h=>by
  have h' :(match Qa a vs with|some r=>Qa b r|none=>none)=some r:=by cases vs<;>exact h
  cases ha:Qa a vs with
  |none=>simp[ha]at h'|some r1=>simp only[ha]at h';obtain⟨c,rfl,h1⟩:=QW ha;obtain⟨d,rfl,h2⟩:=QW h';exact⟨c++d,D5,c,d,rfl,h1,h2⟩
def a5H:List (Nat×Nat)->List Field->Bool
 |[],[]=>true|(t,o)::r,f::fs=>Nat.beq f.type t&&Nat.beq f.offset o&&a5H r fs|_,_=>false
theorem XA:∀{a:List (Nat×Nat)} {b:List Field},a5H a b=true->b.map (λf=>(f.type,f.offset))=a
 |[],[],_=>rfl|[],_::_,h=>by simp[a5H]at h|_::_,[],h=>by simp[a5H]at h|(t,o)::r,f::fs,h=>by unfold a5H at h;simp only[D6]at h;have h1:=eU h.1.1;have h2:=eU h.1.2;simp[XA h.2,←h1,←h2]
def b0Z(P:Program)(t:TypeId)(td:TD):Bool:=
 match P.underlying t with
 |none=>false
 |some d=>match td,d with
  | .bool,.bool=>true| .int k,.int k' =>decide (k=k')| .str,.string=>true| .sl e,.slice e' =>Nat.beq e e'| .ptr e,.pointer e' =>Nat.beq e e'| .struct fs,.struct fields=>a5H fs fields.toList| .arr n e,.array n' e' =>Nat.beq n n' &&Nat.beq e e'| .map k e,.map k' e' =>Nat.beq k k' &&Nat.beq e e'| .other,.struct _=>false| .other,.array _ _=>false| .other,_=>true|_,_=>false
theorem a3C{t:TypeId}{td:TD}(h:b0Z P t td=true):b1a P t td:=by
 unfold b0Z at h;split at h
 .cases h
 .rename_i d hd;split at h<;>try (cases h;done)
  .exact hd
  .have:=of_decide_eq_true h;subst this;exact hd
  .exact hd
  .have:=eU h;subst this;exact hd
  .have:=eU h;subst this;exact hd
  .rename_i fs fields;exact⟨fields,hd,XA h⟩
  .simp only[D6]at h;have h1:=eU h.1;have h2:=eU h.2;subst h1;subst h2;exact hd
  .simp only[D6]at h;have h1:=eU h.1;have h2:=eU h.2;subst h1;subst h2;exact hd
  .rename_i h1 h2;refine⟨d,hd,?_⟩;cases d<;>first|trivial|exact absurd rfl (h1 _)|exact absurd rfl (h2 _ _)
def a5r(inf:TypeInfo)(i:TI):Bool:=
 bif Nat.beq i.zero.length i.size then(match inf.zero with|some z=>zL i.zero z.cells.toList|none=>false)else true
def b3Q(inf:TypeInfo)(i:TI):Bool:=
 match i.ty with
 |none=>true|some u=>Nat.beq u.size i.size&&(match inf.zero with|some z=>(match Qa u z.cells.toList with|some []=>true|_=>false)|none=>false)
def b3k(inf:TypeInfo)(i:TI):Bool:=
 match inf.zero with
 |none=>true|some z=>bif jb i.td then(match z with| .agg _=>true|_=>false)else z.oneCell'
def b1b(P:Program)(t:TypeId)(i:TI):Bool:=
 match P.info? t with
 |none=>false|some inf=>Nat.beq inf.size i.size&&Nat.beq inf.bytes i.bytes&&a5r inf i&&b3Q inf i&&b0Z P t i.td&&(jb i.td || Nat.beq i.size 1)&&b3k inf i
theorem a3D{t:TypeId}{i:TI}(h:b1b P t i=true):TiOk P t i:=by
 unfold b1b at h;split at h
 .cases h
 .rename_i inf hi;simp only[D6,lG]at h;obtain⟨⟨⟨⟨⟨⟨h1,h2⟩,h3⟩,h4⟩,h5⟩,h6⟩,h8⟩:=h;refine⟨⟨inf,hi,eU h1,eU h2,λhl=>?_,λu hu=>?_⟩,a3C h5,λha=>?_,λinf' z hinf hz=>?_⟩
  .unfold a5r at h3;rw[hl,show Nat.beq i.size i.size=true from Nat.beq_refl _]at h3;simp only[cond_true]at h3;split at h3
   .rename_i z hz;exact⟨z,hz,a5q h3⟩
   .cases h3
  .unfold b3Q at h4;simp only[hu,D6]at h4;refine⟨eU h4.1,?_⟩;have h7:=h4.2;split at h7
   .rename_i z hz;split at h7
    .rename_i hr;obtain⟨cs,e,hrep⟩:=QW hr;rw[G7]at e;exact⟨z,hz,by rw[e];exact hrep⟩
    .cases h7
   .cases h7
  .rcases h6 with h6|h6
   .rw[ha]at h6;cases h6
   .exact eU h6
  .rw[hi]at hinf;cases hinf;unfold b3k at h8;rw[hz]at h8;refine⟨λha=>?_,λha=>?_⟩<;>simp only[ha,cond_true,cond_false]at h8
   .split at h8
    .exact⟨_,rfl⟩
    .cases h8
   .exact h8
def a1s(P:Program):List (Nat×TI)->Bool
 |[]=>true|(t,i)::r=>b1b P t i&&a1s P r
theorem WI{P:Program} :∀{tt:List (Nat×TI)},a1s P tt=true->∀t i,dX tt t=some i->TiOk P t i
 |[],_,t,i,h=>by simp[dX]at h|(k,v)::r,hc,t,i,h=>by
  unfold a1s at hc;simp only[D6]at hc;unfold dX at h;cases hb:Nat.beq k t
  .simp only[hb,cond_false]at h;exact WI hc.2 t i h
  .simp only[hb,cond_true,G8]at h;have:=eU hb;subst this;subst h;exact a3D hc.1
def RU(P:Program):List (Nat×FSpec)->Bool
 |[]=>true|(f,_)::r=>(match P.funcs[a5M f]? with|some fn=>fn.body.isSome&&!(fn.name== "runtime.NumGoroutine")|none=>false)&&RU P r
theorem Vf{P:Program} :∀{l:List (Nat×FSpec)},RU P l=true->∀p∈l,∃fn,P.funcs[a5M p.1]? =some fn/\fn.body.isSome=true/\(fn.name== "runtime.NumGoroutine")=false
 |[],_,p,h=>by cases h|(k,v)::r,hc,p,h=>by
  unfold RU at hc;simp only[D6]at hc;rcases D8.1 h with rfl|h
  .have h1:=hc.1;split at h1
   .rename_i fn hf;simp only[D6,bT]at h1;exact⟨fn,hf,h1.1,h1.2⟩
   .cases h1
  .exact Vf hc.2 p h
end Go.GP
namespace Go.GP
def a1v(P:Program)(gl:List (Nat×(t:Ty)×List t.den)):List (Nat×FSpec)->Prop
 |[]=>True|p::r=>a5x P gl p/\a1v P gl r
theorem Xm{P:Program}{gl:List (Nat×(t:Ty)×List t.den)} :∀{l:List (Nat×FSpec)},a1v P gl l->∀p∈l,a5x P gl p
 |[],_,p,h=>by cases h|(k,v)::r,hc,p,h=>by
  rcases D8.1 h with rfl|h
  .exact hc.1
  .exact Xm hc.2 p h
def Ug(P:Program):List ((Nat×String)×Nat×Option Nat)->Prop
 |[]=>True|(k,r)::l=>Ep P k.1 k.2 r.1 r.2/\Ug P l
theorem Uh{P:Program} :∀{l:List ((Nat×String)×Nat×Option Nat)},Ug P l->∀p∈l,Ep P p.1.1 p.1.2 p.2.1 p.2.2
 |[],_,p,h=>by cases h|(k,v)::r,hc,p,h=>by
  rcases D8.1 h with rfl|h
  .exact hc.1
  .exact Uh hc.2 p h
def Ui(P:Program):List (Nat×Nat×Nat)->Prop
 |[]=>True|(f,off,sz)::l=>PlP P f off sz/\Ui P l
theorem Uj{P:Program} :∀{l:List (Nat×Nat×Nat)},Ui P l->∀p∈l,PlP P p.1 p.2.1 p.2.2
 |[],_,p,h=>by cases h|(f,off,sz)::l,hc,p,h=>by
  rcases D8.1 h with rfl|h
  .exact hc.1
  .exact Uj hc.2 p h
theorem Dh{P:Program}{E:Env}(hnt:Nat.ble (64*E.nt) 999936=true)(htt:a1s P E.tt=true)(heq:∀t sh,dX E.eqs t=some sh->LM P t sh)(hfn:RU P E.fs=true)(hms:Ug P E.ms)(hfs:a1v P E.gl E.fs)(hpl:Ui P E.pl):EnvOk P E:=
 ⟨S9 hnt,WI htt,Xm hfs,heq,Uh hms,Vf hfn,Uj hpl⟩
end Go.GP
namespace Go.GP
def IU(rec:TypeId->List Ty->Bool)(cells:TypeId->Nat):Nat->List Field->List Ty->Bool
 |_,[],sh=>sh.isEmpty|off,f::r,sh=>(f.name != "_")&&Nat.beq f.offset off&&Nat.ble (cells f.type) sh.length&&rec f.type (sh.take (cells f.type))&&IU rec cells (off+cells f.type) r (sh.drop (cells f.type))
def zl(P:Program):Nat->TypeId->List Ty->Bool
 |0,_,_=>false
 |n+1,t,sh=>match P.underlying t with
  |some .bool=>(match sh with|[.bool]=>true|_=>false)|some (.int k)=>(match sh with|[.int k']=>decide (k=k')|_=>false)|some .string=>(match sh with|[.str]=>true|_=>false)|some (.struct fs)=> !P.stoodInHeld t&&(P.info? t).isSome&&Nat.beq (P.cellsOf t) sh.length&&IU (zl P n) P.cellsOf 0 fs.toList sh|_=>false
theorem lK.length:∀{sh:List Ty} {vs:c6H},lK sh vs->vs.length=sh.length
 |[],_,h=>by simp only[lK]at h;subst h;rfl| .bool::ts,_,⟨_,_,rfl,h⟩=>by simp[lK.length h]| .int _::ts,_,⟨_,_,rfl,h⟩=>by simp[lK.length h]| .str::ts,_,⟨_,_,rfl,h⟩=>by simp[lK.length h]| .sl _::_,_,h=>h.elim| .prod _ _::_,_,h=>h.elim| .unit::_,_,h=>h.elim
theorem lK.take_drop:∀{sh:List Ty} {vs:c6H} (n:Nat),lK sh vs->lK (sh.take n) (vs.take n)/\lK (sh.drop n) (vs.drop n)
 |sh,vs,0,h=>⟨by simp[lK],h⟩|[],_,n+1,h=>by simp only[lK]at h;subst h;exact⟨rfl,rfl⟩| .bool::ts,_,n+1,⟨b,r,rfl,h⟩=>by have:=lK.take_drop n h;exact⟨⟨b,_,rfl,this.1⟩,this.2⟩| .int _::ts,_,n+1,⟨b,r,rfl,h⟩=>by have:=lK.take_drop n h;exact⟨⟨b,_,rfl,this.1⟩,this.2⟩| .str::ts,_,n+1,⟨b,r,rfl,h⟩=>by have:=lK.take_drop n h;exact⟨⟨b,_,rfl,this.1⟩,this.2⟩| .sl _::_,_,_+1,h=>h.elim| .prod _ _::_,_,_+1,h=>h.elim| .unit::_,_,_+1,h=>h.elim
theorem Iz{C:Cx} :∀{sh:List Ty} {cs:List V} {vs:c6H},Bi sh cs=true->gB C cs vs->lK sh vs
 |[],[],vs,_,h=>h|[],_::_,_,h,_=>by simp[Bi]at h|t::ts,[],_,h,_=>by cases t<;>simp[Bi]at h|t::ts,c::cs,_,h,⟨v,r,rfl,h1,_,h3⟩=>by
  cases t<;>cases c<;>simp only[Bi,D6,decide_eq_true_eq]at h<;>try (cases h;done)
  case bool.b x=>have h1:v= .bool x:=h1;subst h1;exact⟨_,_,rfl,Iz h h3⟩
  case int.i k k' n=>have h1:v= .int k' n:=h1;obtain⟨rfl,h⟩:=h;subst h1;exact⟨_,_,rfl,Iz h h3⟩
  case str.s l=>have h1:v= .string ⟨l.toArray⟩:=h1;subst h1;exact⟨_,_,rfl,Iz h h3⟩
theorem YN{a b:V}{r q:List V}{e:Bool}(h:Ap (a::r) (b::q)=some e):∃e1 e2,eq1 a b=some e1/\Ap r q=some e2/\e=(e1&&e2):=by
 unfold Ap at h;split at h
 .cases h
 .rename_i e1 h1;split at h
  .cases h;exact⟨_,true,h1,rfl,D5⟩
  .split at h
   .rename_i e2 h2;cases h;exact⟨_,_,h1,h2,rfl⟩
   .cases h
theorem OZ{C:Cx} :∀{cs ds:List V} {xs ys:c6H} {e:Bool},gB C cs xs->gB C ds ys->Ap cs ds=some e->(e=true↔xs=ys)
 |[],[],xs,ys,e,h1,h2,h=>by
  simp only[gB]at h1 h2;subst h1;subst h2;have:e=true:=by simpa[Ap]using h.symm
  simp[this]
 |[],_::_,_,_,_,_,_,h=>by simp[Ap]at h|_::_,[],_,_,_,_,_,h=>by simp[Ap]at h|a::r,b::q,xs,ys,e,hx,hy,h=>by
  obtain⟨v,vs,rfl,hv,_,hvs⟩:=hx;obtain⟨u,us,rfl,hu,_,hus⟩:=hy;obtain⟨e1,e2,k1,k2,rfl⟩:=YN h;have ih:=OZ hvs hus k2;have hd:e1=true↔v=u:=by
   cases a<;>cases b<;>simp only[eq1]at k1<;>try (cases k1;done)
   case b.b x y=>have hv:v= .bool x:=hv;have hu:u= .bool y:=hu;subst hv;subst hu;cases k1;simp[Gz]
   case i.i j x k y=>
    have hv:v= .int j x:=hv;have hu:u= .int k y:=hu;subst hv;subst hu;by_cases hk:j=k
    .subst hk;simp only[decide_true,cond_true,G8]at k1;subst k1;simp[C9]
    .simp[hk]at k1
   case s.s x y=>have hv:v= .string ⟨x.toArray⟩:=hv;have hu:u= .string ⟨y.toArray⟩:=hu;subst hv;subst hu;cases k1;simp[seq]
  simp only[D6,I7,hd,ih]
def VOf(P:Program)(t:TypeId)(xs:c6H)(v:Value):Prop:=match P.underlying t with
 |some (.struct _)=>v= .agg xs.toArray|_=>xs=[v]
variable {P:Program}{t:TypeId}
theorem a1N{i:TypeInfo}(h:P.info? t=some i):P.cellsOf t=i.size:=by simp[Program.cellsOf,h]
variable {n:Nat}{sh:List Ty}
theorem VJ(hc:zl P n t sh=true)(hcs:P.cellsOf t=sh.length){cs:Array Value}{off:Nat}(hl:off+sh.length<=cs.size)(w:World):
  ∃v,(part t cs off).run P w= .ok v w/\VOf P t ((cs.toList.drop off).take sh.length) v:=by
 cases n with
 |zero=>cases hc|succ n=>
  unfold zl at hc;split at hc
  all_goals try (cases hc;done)
  .rename_i ht;split at hc<;>try (cases hc;done)
   simp only[F5,aB]at hl ⊢;refine⟨cs[off]'o5,?_,?_⟩
   .have h1:=Em (P:=P) (t:=t) (d:=.bool) ht w;simp only[part,J5,h1,L6,jb,iw,if_false,O0 (show off<cs.size by omega),Y9]
   .simp only[VOf,ht];apply jg
    .simp;omega
    .intro i h1 h2;simp at h1 h2;simp[show i=0 by omega]
  .rename_i k ht;split at hc<;>try (cases hc;done)
   simp only[F5,aB]at hl ⊢;refine⟨cs[off]'o5,?_,?_⟩
   .have h1:=Em (P:=P) (t:=t) (d:=.int k) ht w;simp only[part,J5,h1,L6,jb,iw,if_false,O0 (show off<cs.size by omega),Y9]
   .simp only[VOf,ht];apply jg
    .simp;omega
    .intro i h1 h2;simp at h1 h2;simp[show i=0 by omega]
  .rename_i ht;split at hc<;>try (cases hc;done)
   simp only[F5,aB]at hl ⊢;refine⟨cs[off]'o5,?_,?_⟩
   .have h1:=Em (P:=P) (t:=t) (d:=.str) ht w;simp only[part,J5,h1,L6,jb,iw,if_false,O0 (show off<cs.size by omega),Y9]
   .simp only[VOf,ht];apply jg
    .simp;omega
    .intro i h1 h2;simp at h1 h2;simp[show i=0 by omega]
  .rename_i fs ht;simp only[D6]at hc;obtain⟨⟨⟨_,h2⟩,_⟩,_⟩:=hc;obtain⟨inf,hinf⟩:=Option.isSome_iff_exists.1 h2;have hsz:=a1N hinf;refine⟨.agg (cs.extract off (off+inf.size)),?_,?_⟩
   .have h1:=Em (P:=P) (t:=t) (d:=.struct (fs.toList.map λf=>(f.type,f.offset))) ⟨fs,ht,rfl⟩ w;have h3:(sizeOf t).run P w= .ok inf.size w:=by
     simp[sizeOf,typeInfo,hinf]
    simp only[part,J5,h1,L6,jb,if_true,h3,Y9]
   .simp only[VOf,ht];congr 1;apply jM;rw[←hsz,hcs];simp[nR,Array.toList_extract]
theorem QC{P:Program} :∀(n:Nat) (t:TypeId) (sh:List Ty),zl P n t sh=true->∀(d:Nat),n<=d->∀(xs ys:c6H) (v u:Value),lK sh xs->lK sh ys->VOf P t xs v->VOf P t ys u->∀w:World,
  ∃r,(Op.equalIn d t v u).run P w= .ok r w/\(r=true↔xs=ys)
 |0,_,_,h,_,_,_,_,_,_,_,_,_,_,_=>by cases h|n+1,t,sh,h,d,hd,xs,ys,v,u,hx,hy,hv,hu,w=>by
  obtain⟨d,rfl⟩:∃k,d=k+1:=⟨d -1,o5⟩;unfold zl at h;split at h
  all_goals try (cases h;done)
  .rename_i ht;split at h<;>try (cases h;done)
   obtain⟨a,r1,rfl,h1⟩:=hx;obtain⟨b,r2,rfl,h2⟩:=hy;simp only[lK]at h1 h2;subst h1;subst h2;simp only[VOf,ht]at hv hu;obtain rfl:=(U8 hv).1;obtain rfl:=(U8 hu).1;exact⟨a==b,run_equalIn_bool w d t a b ht,D5⟩
  .rename_i k ht;split at h<;>try (cases h;done)
   have:=of_decide_eq_true h;subst this;obtain⟨a,r1,rfl,h1⟩:=hx;obtain⟨b,r2,rfl,h2⟩:=hy;simp only[lK]at h1 h2;subst h1;subst h2;simp only[VOf,ht]at hv hu;obtain rfl:=(U8 hv).1;obtain rfl:=(U8 hu).1;exact⟨a==b,run_equalIn_int w d t k k a b ht,D5⟩
  .rename_i ht;split at h<;>try (cases h;done)
   obtain⟨a,r1,rfl,h1⟩:=hx;obtain⟨b,r2,rfl,h2⟩:=hy;simp only[lK]at h1 h2;subst h1;subst h2;simp only[VOf,ht]at hv hu;obtain rfl:=(U8 hv).1;obtain rfl:=(U8 hu).1;refine⟨a.toList==b.toList,run_equalIn_string w d t a b ht,?_⟩;constructor
   .intro h;have h:=eq_of_beq h;rw[ByteArray.toList_eq,ByteArray.toList_eq]at h;obtain⟨⟨x⟩⟩:=a;obtain⟨⟨y⟩⟩:=b;simp only at h;rw[h]
   .intro h;injection h with h;injection h with h;rw[h];simp
  .rename_i fs ht;simp only[D6,bT]at h;obtain⟨⟨⟨h1,h2⟩,h3⟩,h4⟩:=h;have hlen:=eU h3;simp only[VOf,ht]at hv hu;subst hv;subst hu;have hfo:P.fieldsOf t=fs:=by simp[Program.fieldsOf,ht]
   rw[run_equalIn_struct w d t _ _ (by rw[hfo];exact ht) h1,hfo];have hxl:=hx.length;have hyl:=hy.length;have key:∀(l:List Field) (off:Nat) (s:List Ty),IU (zl P n) P.cellsOf off l s=true->s=sh.drop off->off<=sh.length->∃r,(Op.eqFields d xs.toArray ys.toArray l).run P w= .ok r w/\(r=true↔xs.drop off=ys.drop off):=by
    intro l;induction l with
    |nil=>
     intro off s hs he ho;unfold IU at hs;have:s=[]:=by simpa using hs
     have hoff:off=sh.length:=by have:=congrArg List.length (he.symm.trans this);simp at this;omega
     refine⟨true,rfl,?_⟩;rw[bG o5,bG o5];simp
    |cons f r ih=>
     intro off s hs he ho;unfold IU at hs;simp only[D6]at hs;obtain⟨⟨⟨⟨g1,g2⟩,g3⟩,g4⟩,g5⟩:=hs;have g2:=eU g2;have g3:=S9 g3;subst he;simp only[aG]at g3;have hsl:((sh.drop off).take (P.cellsOf f.type)).length=P.cellsOf f.type:=by simp;omega
     obtain⟨v1,e1,o1⟩:=VJ g4 hsl.symm (cs:=xs.toArray) (off:=off) (by rw[hsl];simp;omega) w;obtain⟨u1,e2,o2⟩:=VJ g4 hsl.symm (cs:=ys.toArray) (off:=off) (by rw[hsl];simp;omega) w;rw[hsl]at o1 o2;obtain⟨b1,e3,q1⟩:=QC n f.type _ g4 d o5 _ _ v1 u1 (((hx.take_drop off).2).take_drop _).1 (((hy.take_drop off).2).take_drop _).1 o1 o2 w;obtain⟨b2,e4,q2⟩:=ih (off+P.cellsOf f.type) _ g5 (by rw[af]) o5;have hne:f.name≠ "_":=by simpa using g1
     have split:(xs.drop off=ys.drop off)↔((xs.drop off).take (P.cellsOf f.type)=(ys.drop off).take (P.cellsOf f.type)/\xs.drop (off+P.cellsOf f.type)=ys.drop (off+P.cellsOf f.type)):=by
      constructor
      .intro h;rw[h];exact⟨rfl,by rw[←af,←af,h]⟩
      .rintro⟨p1,p2⟩;rw[←Z4 (P.cellsOf f.type) (xs.drop off),←Z4 (P.cellsOf f.type) (ys.drop off),p1,af,af,p2]
     simp only[Op.eqFields,if_pos hne,J5,g2,e1,e2,e3,L6];cases b1 with
     |false=>
      refine⟨false,D5,?_⟩;have:¬((xs.drop off).take (P.cellsOf f.type)=(ys.drop off).take (P.cellsOf f.type)):=λh=>by have:=q1.2 h;cases this
      simp only[iw,false_iff];intro h;exact this (split.1 h).1
     |true=>refine⟨b2,by simpa using e4,?_⟩;rw[q2,split];exact⟨λh=>⟨q1.1 rfl,h⟩,λh=>h.2⟩
   have:=key fs.toList 0 sh h4 D5 o5;simpa using this
theorem Xy{P:Program}(em:Bool):∀(n:Nat) (t:TypeId) (sh:List Ty),zl P n t sh=true->∀(d:Nat),n<=d->∀(xs:c6H) (v:Value),lK sh xs->VOf P t xs v->∀w:World,
  (Instr.checkKey em d t v).run P w= .ok () w
 |0,_,_,h,_,_,_,_,_,_,_=>by cases h|n+1,t,sh,h,d,hd,xs,v,hx,hv,w=>by
  obtain⟨d,rfl⟩:∃k,d=k+1:=⟨d -1,o5⟩;unfold zl at h;split at h
  all_goals try (cases h;done)
  .rename_i ht;split at h<;>try (cases h;done)
   obtain⟨a,r1,rfl,h1⟩:=hx;simp only[lK]at h1;subst h1;simp only[VOf,ht]at hv;obtain rfl:=(U8 hv).1;simp[Instr.checkKey,run_underlying ht]
  .rename_i k ht;split at h<;>try (cases h;done)
   have:=of_decide_eq_true h;subst this;obtain⟨a,r1,rfl,h1⟩:=hx;simp only[lK]at h1;subst h1;simp only[VOf,ht]at hv;obtain rfl:=(U8 hv).1;simp[Instr.checkKey,run_underlying ht]
  .rename_i ht;split at h<;>try (cases h;done)
   obtain⟨a,r1,rfl,h1⟩:=hx;simp only[lK]at h1;subst h1;simp only[VOf,ht]at hv;obtain rfl:=(U8 hv).1;simp[Instr.checkKey,run_underlying ht]
  .rename_i fs ht;simp only[D6,bT]at h;obtain⟨⟨⟨h1,h2⟩,h3⟩,h4⟩:=h;have hlen:=eU h3;simp only[VOf,ht]at hv;subst hv;have hxl:=hx.length;have key:∀(l:List Field) (off:Nat) (s:List Ty),IU (zl P n) P.cellsOf off l s=true->s=sh.drop off->off<=sh.length->
     (forIn l PUnit.unit (λ(f:Field) (_:PUnit)=>(do
      if f.name≠ "_" then Instr.checkKey em d f.type (←part f.type xs.toArray f.offset)
      pure (ForInStep.yield PUnit.unit):Sem (ForInStep PUnit)))).run P w= .ok PUnit.unit w:=by
    intro l;induction l with
    |nil=>intro off s hs he ho;rfl|cons f r ih=>
     intro off s hs he ho;unfold IU at hs;simp only[D6]at hs;obtain⟨⟨⟨⟨g1,g2⟩,g3⟩,g4⟩,g5⟩:=hs;have g2:=eU g2;have g3:=S9 g3;subst he;simp only[aG]at g3;have hsl:((sh.drop off).take (P.cellsOf f.type)).length=P.cellsOf f.type:=by simp;omega
     obtain⟨v1,e1,o1⟩:=VJ g4 hsl.symm (cs:=xs.toArray) (off:=off) (by rw[hsl];simp;omega) w;rw[hsl]at o1;have e3:=Xy em n f.type _ g4 d o5 _ v1 (((hx.take_drop off).2).take_drop _).1 o1 w;have e4:=ih (off+P.cellsOf f.type) _ g5 (by rw[af]) o5;have hne:f.name≠ "_":=by simpa using g1
     simp only[List.forIn_cons,J5,hne,ne_eq,not_false_eq_true,if_true,g2,e1,e3,L6,Y9];exact e4
   have:=key fs.toList 0 sh h4 D5 o5;simp only[Instr.checkKey,J5,run_underlying ht,L6];simp at this;simp[this]
theorem Z_(hn:n<=10000)(h:zl P n t sh=true)(hs:(match P.underlying t with|some (.struct _)=>true|_=>false)=true):m_ P t sh:=by
 have hv:∀zs:Array Value,VOf P t zs.toList (.agg zs):=λzs=>by
  unfold VOf;split
  .simp
  .rename_i hh;exfalso;split at hs
   .rename_i fs hf;exact hh fs hf
   .cases hs
 refine⟨?_,λw xs hx=>⟨λem=>Xy em n t sh h 10000 hn _ _ hx (hv xs) w,λys hy=>QC n t sh h 10000 hn _ _ _ _ hx hy (hv xs) (hv ys) w⟩⟩;split at hs
 .rename_i fs hf;exact⟨fs,hf⟩
 .cases hs
theorem a2a(hn:n<=10000)(h:zl P n t sh=true)(hs:(match P.underlying t with|some (.struct _)=>true|_=>false)=true)(hg:P.eqGuardType P.depth t=false):LM P t sh:=by
 refine⟨?_,Z_ hn h hs⟩;intro w C cs ds xs ys e op x y s1 s2 h1 h2 he hop;have hv:∀zs:Array Value,VOf P t zs.toList (.agg zs):=λzs=>by
  unfold VOf;split
  .simp
  .rename_i hh;exfalso;split at hs
   .rename_i fs hf;exact hh fs hf
   .cases hs
 obtain⟨r,hr,hq⟩:=QC n t sh h 10000 hn _ _ _ _ (Iz s1 h1) (Iz s2 h2) (hv xs) (hv ys) w;have hre:r=e:=by have:=OZ h1 h2 he;cases r<;>cases e<;>simp_all
 subst hre;rcases hop with rfl|rfl
 .rw[J5,run_eqGuard_agg w .eql t x y xs ys hg];simp only[L6,run_eql_struct,hr,if_pos]
 .rw[J5,run_eqGuard_agg w .neq t x y xs ys hg];simp[run_neq_struct,hr]
def a2b(P:Program):List (Nat×List Ty)->Bool
 |[]=>true|(t,sh)::r=>zl P 20 t sh&&(match P.underlying t with|some (.struct _)=>true|_=>false)&&!P.eqGuardType P.depth t&&a2b P r
theorem K_{P:Program} :∀{l:List (Nat×List Ty)},a2b P l=true->∀t sh,dX l t=some sh->LM P t sh
 |[],_,t,sh,h=>by simp[dX]at h|(k,v)::r,hc,t,sh,h=>by
  unfold a2b at hc;simp only[D6,bT]at hc;unfold dX at h;cases hb:Nat.beq k t
  .simp only[hb,cond_false]at h;exact K_ hc.2 t sh h
  .simp only[hb,cond_true,G8]at h;have:=eU hb;subst this;subst h;exact a2a o5 hc.1.1.1 hc.1.1.2 hc.1.2
end Go.GP
namespace Go.GP
open Go.ChangeShapes Go.WideShapes Go.RowKit
def wf:(t:Ty)->t.den->Prop
 | .bool,_=>True| .int k,n=>(Lit.int k n).wf=true| .str,l=>l.length<=reachBytes| .sl t,xs=>xs.length<=reachBytes/\∀x∈xs,wf t x| .prod a b,x=>wf a x.1/\wf b x.2| .unit,_=>True| .any _,_=>True| .ent _ _ a b,x=>wf a x.1/\wf b x.2
def Eh(rec:TypeId->Ty->Bool)(cells:TypeId->Nat):Nat->List Field->Ty->Bool
 |off,fs,u=>match fs with
  |[]=>false
  |f::r=>match r with
   |[]=>Nat.beq f.offset off&&rec f.type u&&Nat.beq (cells f.type) u.size
   |g::r' =>match u with
    | .prod a b=>Nat.beq f.offset off&&rec f.type a&&Nat.beq (cells f.type) a.size&&Eh rec cells (off+a.size) (g::r') b|_=>false
termination_by _ fs _=>fs.length
def a_(P:Program):Nat->TypeId->Ty->Bool
 |0,_,_=>false
 |n+1,t,u=>match P.underlying t with
  |some .bool=>(match u with| .bool=>true|_=>false)|some (.int k)=>(match u with| .int k' =>decide (k=k')|_=>false)|some .string=>(match u with| .str=>true|_=>false)|some (.slice e)=>(match u with| .sl v=>a_ P n e v&&Nat.beq (P.cellsOf e) v.size&&Nat.blt 0 v.size&&Nat.blt 0 (P.bytesOf e)&&!v.isEnt|_=>false)|some (.struct fs)=>Eh (a_ P n) P.cellsOf 0 fs.toList u&&Nat.beq (P.cellsOf t) u.size|_=>false
theorem Px{α:Type}{Q:Nat->α->Prop} :∀(n:Nat),(∀i,i<n->∃x,Q i x)->∃xs:List α,xs.length=n/\∀i x,xs[i]? =some x->Q i x
 |0,_=>⟨[],rfl,λi x h=>by simp at h⟩|n+1,h=>by
  obtain⟨xs,hl,hx⟩:=Px n λi hi=>h i o5;obtain⟨y,hy⟩:=h n o5;refine⟨xs++[y],by simp[hl],λi x hi=>?_⟩;by_cases hin:i<n
  .rw[V7 o5]at hi;exact hx i x hi
  .rw[H9 o5]at hi;have:i -xs.length=0:=by
    rcases pF (i -xs.length) 1 with h1|h1
    .omega
    .rw[aA (by simpa using h1)]at hi;cases hi
   rw[this]at hi;simp at hi;subst hi;have e:i=n:=o5;subst e;exact hy
variable {n:Nat}
theorem UE{w:World}{a:Addr}{es:c6H}(hn:0<n)(h:w.cells? 0 a n=some es):
  a.spot=none/\a.block<w.heap.size/\bQ w.heap a.block a.off n=some es:=by
 obtain⟨blk,off,spot⟩:=a;simp only[World.cells?,cO,if_true]at h;have hlen:es.length=n:=by simpa using Lib.mapM_length h
 have hat:∀i,i<n->∃b,es[i]? =some b/\w.cell? (Addr.add ⟨blk,off,spot⟩ i)=some b:=λi hi=>Lib.mapM_at h i i (by simp[hi]);obtain⟨b0,_,h0⟩:=hat 0 hn;simp only[Addr.add,if_true,World.cell?]at h0;cases hb:w.heap[blk]? with
 |none=>simp[hb]at h0|some o=>
  cases o<;>simp only[hb]at h0<;>try (cases h0;done)
  rename_i c T f;have hs:spot=none:=by
   cases spot with
   |none=>rfl|some _=>simp at h0
  subst hs;have hat' :∀i,i<n->es[i]? =c[off+i]?/\off+i<c.size:=λi hi=>by
   obtain⟨b,h1,h2⟩:=hat i hi;have h3:c[off+i]? =some b:=by
    by_cases hi0:i=0
    .subst hi0;simpa[Addr.add,World.cell?,hb]using h2
    .simpa[Addr.add,World.cell?,hb,hi0]using h2
   exact⟨h1.trans h3.symm,(G9.1 h3).1⟩
  refine⟨rfl,(G9.1 hb).1,?_⟩;have hle:off+n<=c.size:=by have:=(hat' (n -1) o5).2;omega
  rw[jA hb _ _ hle];congr 1;apply bU;intro i;by_cases hi:i<n
  .rw[(hat' i hi).1,aU hi,O9];simp
  .rw[aA E5,aA o5]
section
variable {H:Type} {enc:TypeId×Value->H} {P:Program} {w:World} {sp:Nat->Bool} {held:Bool} {ok:Nat->Ty->Prop}
theorem LJ{e:TypeId} :∀{l:List (DataW H)} {d:DataW H},d∈l->∀b∈d.weights P e,b∈DataW.weightsAll P e l
 |x::l,d,h,b,hb=>by
  simp only[DataW.weightsAll,J6];rcases D8.1 h with rfl|h
  .exact .inl hb
  .exact .inr (LJ h b hb)
theorem Va{n:Nat}(IH:∀t u,a_ P n t u=true->∀dZ cs d ps,DataW.trod enc P w 0 sp held dZ t cs=some (d,ps)->(∀b∈d.weights P t,b<=reachBytes)->∃x,rep w.heap ok u x cs/\wf u x){cs:c6H}{m:Nat} :
  ∀(fs:List Field) (off:Nat) (u:Ty),Eh (a_ P n) P.cellsOf off fs u=true->∀(xs:List (DataW H×List MemPlace)),xs.length=fs.length->
   (∀(i:Nat) (f:Field),fs[i]? =some f->DataW.trod enc P w 0 sp held m f.type ((cs.drop f.offset).take (P.cellsOf f.type))=xs[i]?)->(∀b∈DataW.weightsEach P (fs.map (·.type)) (xs.map (·.1)),b<=reachBytes)->
   ∃x,rep w.heap ok u x ((cs.drop off).take u.size)/\wf u x
 |[],off,u,h,_,_,_,_=>by unfold Eh at h;cases h|[f],off,u,h,xs,hl,hx,hw=>by
  unfold Eh at h;simp only[D6]at h;have h1:=eU h.1.1;have h3:=eU h.2;match xs,hl with
  |[y],_=>have h4:=hx 0 f rfl;rw[h1,h3]at h4;refine IH _ _ h.1.2 _ _ y.1 y.2 (by simpa using h4) λb hb=>hw b ?_;simp[DataW.weightsEach,hb]
 |f::g::r,off,u,h,xs,hl,hx,hw=>by
  unfold Eh at h;cases u<;>try (cases h;done)
  rename_i a b;simp only[D6]at h;obtain⟨⟨⟨h1,h2⟩,h3⟩,h4⟩:=h;have h1:=eU h1;have h3:=eU h3;match xs,hl with
  |y::ys,hl=>
   have h5:=hx 0 f rfl;rw[h1,h3]at h5;obtain⟨p,hp,wp⟩:=IH _ _ h2 _ _ y.1 y.2 (by simpa using h5) λc hc=>hw c (by simp[DataW.weightsEach,hc]);obtain⟨q,hq,wq⟩:=Va IH (g::r) (off+a.size) b h4 ys (by simpa using hl) (λi f' hf=>by have:=hx (i+1) f' (by simpa using hf);simpa using this) λc hc=>hw c (by simp only[dG,DataW.weightsEach,J6];simp only[dG]at hc;exact .inr hc)
   refine⟨(p,q),⟨_,_,?_,hp,hq⟩,wp,wq⟩;show(cs.drop off).take (a.size+b.size)=_;rw[List.take_add,af]
theorem Le(hok:∀b t,b<w.heap.size->ok b t):∀(n:Nat) (t:TypeId) (u:Ty),a_ P n t u=true->∀(dZ:Nat) (cs:c6H) (d:DataW H) (ps:List MemPlace),DataW.trod enc P w 0 sp held dZ t cs=some (d,ps)->
  (∀b∈d.weights P t,b<=reachBytes)->∃x,rep w.heap ok u x cs/\wf u x
 |0,_,_,h,_,_,_,_,_,_=>by cases h|n+1,t,u,h,dZ,cs,d,ps,hd,hw=>by
  unfold a_ at h;split at h
  .rename_i ht;cases u<;>try (cases h;done)
   obtain⟨b,rfl,hx⟩:=DataW.trod_bool ht hd;exact⟨b,rfl,trivial⟩
  .rename_i k ht;cases u<;>try (cases h;done)
   rename_i k';have:=of_decide_eq_true h;subst this;obtain⟨b,rfl,hx,hwf⟩:=DataW.trod_int ht hd;exact⟨b,rfl,hwf⟩
  .rename_i ht;cases u<;>try (cases h;done)
   obtain⟨s,rfl,hx,hs⟩:=DataW.trod_string ht hd;simp only[gK]at hx;obtain⟨rfl,rfl⟩:=hx;refine⟨s.data.toList,rfl,hw _ ?_⟩;simp[DataW.weights]
  .rename_i e ht;cases u<;>try (cases h;done)
   rename_i v;simp only[D6,bT]at h;obtain⟨⟨⟨⟨h1,h2⟩,h3⟩,h4⟩,hE0⟩:=h;have h2:=eU h2;rw[Z5]at h3 h4;rcases DataW.trod_slice ht hd with⟨rfl,hx⟩|⟨a,len,cap,elems,rest,m,rfl,rfl,hx,hb,hl,hm,hlen,hel,_,_⟩
   .exact⟨[],.inl ⟨hE0,none,0,rfl,D7 _,λi x hi=>by simp at hi⟩,D5,λx hx=>by simp at hx⟩
   .simp only[gK]at hx;obtain⟨rfl,rfl⟩:=hx;have hW:DataW.weights P t (.slice (elems.map (·.1)) (rest.map (·.1)):DataW H)=((elems.map (·.1)).length+(rest.map (·.1)).length)*P.bytesOf e::(DataW.weightsAll P e (elems.map (·.1))++DataW.weightsAll P e (rest.map (·.1))):=by
     simp only[DataW.weights,ht]
    rw[hW]at hw;have hsz:=hw _ (iC ..);simp only[L8]at hsz;have hlr:len<=reachBytes:=by have h6:(elems.length+rest.length)*1<=(elems.length+rest.length)*P.bytesOf e:=Nat.mul_le_mul_left _ h4;omega
    have each:∀i,i<len->∃x,wf v x/\a.spot=none/\a.block<w.heap.size/\∃es,bQ w.heap a.block (a.off+i*v.size) v.size=some es/\rep w.heap ok v x es:=by
     intro i hi;have h5:=hel i hi;rw[h2]at h5;rw[lF o5]at h5;obtain⟨es,hc,hd2⟩:=Option.bind_eq_some_iff.1 h5;obtain⟨x,hx,wx⟩:=Le hok n e v h1 m es _ _ hd2 λb hb=>hw b (by refine U5 _ (Y4 _ (LJ (d:=(elems[i]'o5).1) (ji.2 ⟨_,Y2 o5,rfl⟩) b hb)))
     obtain⟨s1,s2,s3⟩:=UE h3 hc;by_cases hz:i*v.size=0
     .simp only[Addr.add,hz,if_true]at s1 s2 s3;exact⟨x,wx,s1,s2,es,by simpa[hz]using s3,hx⟩
     .simp only[Addr.add,hz,if_false]at s1 s2 s3;obtain⟨es0,hc0,_⟩:=Option.bind_eq_some_iff.1 (show((w.cells? 0 (a.add (0*P.cellsOf e)) (P.cellsOf e)).bind (DataW.trod enc P w 0 sp held m e))=some (elems[0]'o5) by rw[hel 0 o5,lF o5]);rw[h2]at hc0;have s0:=(UE h3 hc0).1;simp only[Nat.zero_mul,Addr.add,if_true]at s0;exact⟨x,wx,s0,s2,es,s3,hx⟩
    obtain⟨xs,hxl,hxs⟩:=Px len each;refine⟨xs,.inl ⟨hE0,some a,cap,by simp[hxl],o5,λi x hi=>?_⟩,o5,λx hx=>?_⟩
    .obtain⟨_,s1,s2,es,s3,s4⟩:=hxs i x hi;refine⟨a.block,a.off,es,?_,hok _ _ s2,s3,s4⟩;obtain⟨b,o,s⟩:=a;simp only at s1;subst s1;rfl
    .obtain⟨i,hi,rfl⟩:=List.mem_iff_getElem.1 hx;exact(hxs i _ (lF hi)).1
  .rename_i fs ht;simp only[D6]at h;have h2:=eU h.2;obtain⟨xs,m,rfl,hx,hl,hlen,hf⟩:=DataW.trod_struct ht hd;simp only[gK]at hx;obtain⟨rfl,rfl⟩:=hx;have hW:DataW.weights P t (.agg (xs.map (·.1)):DataW H)=DataW.weightsEach P (fs.toList.map (·.type)) (xs.map (·.1)):=by simp only[DataW.weights,ht]
   rw[hW]at hw;have:=Va (cs:=cs) (m:=m) (λt u hu dZ cs d ps hd hw=>Le hok n t u hu dZ cs d ps hd hw) fs.toList 0 u h.1 xs (by simpa using hlen) (λi f hi=>hf i f (by simpa using hi)) hw;rwa[kw,W9 o5]at this
  .cases h
end
def a6K(P:Program)(t:TypeId):Bool:=match P.underlying t with|some (.struct _)=>true|_=>false
variable {P:Program}
theorem b2t{W:World}{base n:Nat}{t:TypeId}{u:Ty}{v:Value}(h:a_ P n t u=true)(hv:Value.okWide P W .any base t v):Zw (a6K P t) v v.cells.toList:=by
 cases n with
 |zero=>cases h|succ n=>
  unfold a_ at h;unfold a6K;split at h
  .rename_i ht;simp only[Value.okWide,ht,Cell.okWide,Cell.ok]at hv ⊢;cases v<;>first|rfl|exact absurd hv D5
  .rename_i ht;simp only[Value.okWide,ht,Cell.okWide,Cell.ok]at hv ⊢;cases v<;>first|rfl|exact absurd hv D5
  .rename_i ht;simp only[Value.okWide,ht,Cell.okWide,Cell.ok]at hv ⊢;cases v<;>first|rfl|exact absurd hv D5
  .rename_i ht;simp only[Value.okWide,ht,Cell.okWide,Cell.ok]at hv ⊢;cases v<;>first|rfl|exact absurd hv D5
  .rename_i ht;simp only[Value.okWide,ht]at hv ⊢;obtain⟨cs,rfl,_,_⟩:=hv;exact⟨cs,rfl,rfl⟩
  .cases h
def qF(P:Program)(n:Nat):List TypeId->List MG->Bool
 |[],[]=>true|t::ts,(g,.dat u)::ms=>a_ P n t u&&(a6K P t==g)&&P.readableRec t&&Nat.blt t P.types.size&&qF P n ts ms|_,_=>false
def wfM:(m:M)->m.den->Prop
 | .dat t,x=>wf t x|_,_=>True
def a1u:(ms:List MG)->U0 ms->Prop
 |[],_=>True|[m],x=>wfM m.2 x|m::m' ::r,x=>wfM m.2 x.1/\a1u (m' ::r) x.2
section
variable {H:Type} {enc:TypeId×Value->H} {P:Program} {W:World} {base n:Nat} {ok:Nat->Ty->Prop}
theorem Yh(hok:∀b t,b<W.heap.size->ok b t):∀{ts:List TypeId} {ms:List MG} {vs:c6H} {ds:List (DataW H)} {ps:List MemPlace},qF P n ts ms=true->DataW.TrodAll enc P W 0 (λ_=>true) true ts vs ds ps->
  (∀(j:Nat) t v,ts[j]? =some t->vs[j]? =some v->Value.okWide P W .any base t v)->(∀b∈DataW.weightsEach P ts ds,b<=reachBytes)->∃x,mg W.heap ok ms x vs []/\a1u ms x
 |[],[],vs,ds,ps,h,hd,hv,hw=>by obtain⟨rfl,rfl,rfl⟩:=trodAll_nil hd;exact⟨(),⟨rfl,rfl⟩,trivial⟩
 |[],_::_,_,_,_,h,_,_,_=>by simp[qF]at h|_::_,[],_,_,_,h,_,_,_=>by simp[qF]at h|t::ts,(g,m)::ms,vs,ds,ps,h,hd,hv,hw=>by
  cases m<;>simp only[qF,D6]at h<;>try (cases h;done)
  rename_i u;obtain⟨⟨⟨⟨h1,h2⟩,_⟩,_⟩,h3⟩:=h;have h2:=eq_of_beq h2;subst h2;obtain⟨v,vs',d,ds',p,q,rfl,rfl,rfl,⟨dZ,h4⟩,h5⟩:=trodAll_cons hd;have hw' :∀b∈d.weights P t++DataW.weightsEach P ts ds',b<=reachBytes:=by simpa only[DataW.weightsEach]using hw
  obtain⟨x,hx,wx⟩:=Le (ok:=ok) hok n t u h1 _ _ _ _ h4 λb hb=>hw' b (Y4 _ hb);have hg:=b2t h1 (hv 0 t v rfl rfl);obtain⟨y,hy,wy⟩:=Yh hok h3 h5 (λj t v hj hk=>hv (j+1) t v (by simpa using hj) (by simpa using hk)) λb hb=>hw' b (bW _ hb);cases ms with
  |nil=>
   cases ts with
   |cons _ _=>simp[qF]at h3|nil=>obtain⟨rfl,rfl,rfl⟩:=trodAll_nil h5;exact⟨x,⟨v,_,rfl,hg,hx,rfl⟩,wx⟩
  |cons m' ms=>exact⟨(x,y),⟨v,_,vs',[],[],rfl,rfl,hg,⟨hx,rfl⟩,hy⟩,wx,wy⟩
theorem NJ(hl:laidOutB P=true){W' :World}(hb:Below W.heap.size W W'){sp:Nat->Bool} :∀{ts:List TypeId} {ms:List MG} {vs:c6H} {ds:List (DataW H)} {ps:List MemPlace},qF P n ts ms=true->
  DataW.TrodAll enc P W 0 (λ_=>true) true ts vs ds ps->(∀x∈ps,x.block<W.heap.size)->(∀x∈ps,sp x.block=true)->DataW.TrodAll enc P W' 0 sp true ts vs ds ps
 |[],ms,vs,ds,ps,h,hd,_,_=>by obtain⟨rfl,rfl,rfl⟩:=trodAll_nil hd;rfl
 |_::_,[],_,_,_,h,_,_,_=>by simp[qF]at h|t::ts,(g,m)::ms,vs,ds,ps,h,hd,hlt,hsp=>by
  cases m<;>simp only[qF,D6]at h<;>try (cases h;done)
  obtain⟨⟨⟨⟨h1,h2⟩,h6⟩,h7⟩,h3⟩:=h;rw[Z5]at h7;obtain⟨v,vs',d,ds',p,q,rfl,rfl,rfl,h4,h5⟩:=trodAll_cons hd;exact⟨p,q,WideElems.Trod_stays hl h6 h7 h4 (λx hx=>hb.same (hlt x (Y4 _ hx))) (λx hx=>hsp x (Y4 _ hx)),
   NJ hl hb h3 h5 (λx hx=>hlt x (bW _ hx)) (λx hx=>hsp x (bW _ hx)),rfl⟩
end
theorem R_{W:World}{name:String}{g:Nat}{k:IntKind}{zs:c6G}(hg:P.globalNamed name=some g)(hz:0<zs.length)(h:Lib.TabIs P W name k zs):
  IE ⟨W.heap,λb _=>b<W.heap.size,nom⟩ g (.int k) zs:=by
 have hc:∀i z,zs[i]? =some z->W.cell? ⟨g,i,none⟩=some (.int k z):=λi z hi=>by have:=World.var?_cell hg h i;rw[this];simp[hi]
 have key:∀i z,zs[i]? =some z->g<W.heap.size/\bQ W.heap g i 1=some [.int k z]:=λi z hi=>by
  have h1:=hc i z hi;have h2:W.cells? 0 ⟨g,i,none⟩ 1=some [.int k z]:=by simp[World.cells?,jF,Addr.add,h1]
  obtain⟨_,s2,s3⟩:=UE o5 h2;exact⟨s2,s3⟩
 refine⟨(key 0 zs[0] (lF hz)).1,?_,λi z hi=>⟨_,?_,rfl⟩⟩
 .unfold Lib.TabIs World.var? at h;simp only[hg,nC]at h;split at h
  .rename_i cs T f hb;simp only[G8]at h;subst h;exact⟨_,T,f,hb,by simp[Ty.size]⟩
  .cases h
 .have:=(key i z hi).2;simpa[Ty.size]using this
theorem a1n{w:World}{ok:Nat->Ty->Prop}{m:Mp}{name:String}{g:Nat}{k:IntKind}{zs:c6G}(hg:P.globalNamed name=some g)(h:IE ⟨w.heap,ok,m⟩ g (.int k) zs):Lib.TabIs P w name k zs:=by
 obtain⟨_,⟨c,T,f,hb,hl⟩,hz⟩:=h;unfold Lib.TabIs World.var?;simp only[hg,nC,hb,G8];simp only[Ty.size,bD]at hl;apply Array.ext
 .simp[hl]
 .intro i h1 h2;have hi:i<zs.length:=by simpa using h2
  obtain⟨es,he,hr⟩:=hz i zs[i] (lF hi);rw[jA hb _ _ (by simp[Ty.size];omega)]at he;simp only[Ty.size,bD,G8]at he;have h3:es=[.int k zs[i]]:=hr;rw[h3]at he;have h4:=congrArg (λl=>l[0]?) he;simp only[aU (show 0<1 by omega),O9,aH,iW]at h4;rw[X4,O0 h1]at h4;simpa using h4
theorem b2l{h:Array Obj}{all:c6H} :∀{ms:List MG} {ts:List TypeId} {vs:c6H},qF P n ts ms=true->h_ h all ms vs:=by
 intro ms;induction ms with
 |nil=>intro ts vs _;trivial|cons md ms ih=>
  intro ts vs hp;obtain⟨g,md⟩:=md;cases ts with
  |nil=>cases hp|cons t ts=>
   cases md<;>simp only[qF,D6]at hp<;>try (cases hp;done)
   cases vs with
   |nil=>trivial|cons v vs=>exact ih hp.2
theorem YX{H:Type}{enc:TypeId×Value->H}{gl:List (Nat×(t:Ty)×List t.den)}{f:FuncId}{fn:Func}{s:ChangeSpec}{ms:List MG}{F:U0 ms->c6J}{tb:TypeId}
  (hlaid:laidOutB P=true) (hF:dD P gl f ⟨ms,[(false,.dat .bool)],[],F⟩) (law:∀x,a1u ms x->F x=some true) (hpars:qF P 30 fn.params.toList ms=true) (hres:fn.resultTypes=#[tb]) (hbool:P.underlying tb=some .bool)
  (hvars:s.vars=[]) (hsfn:∀ds:List (DataW H),ds.length=ms.length->s.fn H ds= { results:=[.lit (.bool true)],args:=ds })
  {W:World} {base:Nat} {args:Array Value} {ds gs:List (DataW H)} {before:List MemPlace} {apart fresh handsOn again:Bool}
  (hgl:∀g u,dX gl g=some u->IE ⟨W.heap,λb _=>b<W.heap.size,nom⟩ g u.1 u.2)
  (hval:∀(j:Nat) t v,fn.params[j]? =some t->args[j]? =some v->Value.okWide P W .any base t v)
  (hW:DataW.Whole enc P fn.params.toList s.vars apart W args.toList ds gs before)
  (hz:(DataW.weightsEach P (fn.params.toList++s.plain.varTypes P) (ds++gs)).all (·<=reachBytes)=true):
  Calls P f args W λe W' =>∃v,e= .returned v/\s.post enc P fn apart fresh handsOn again W args v W' :=by
 have hW' :=hW;obtain⟨p,q,hA,hV,rfl,hfz,hnd⟩:=hW;rw[hvars]at hV;obtain⟨rfl,rfl⟩:=trodVars_none hV;have hlen:ds.length=ms.length:=by
  have:∀{ts:List TypeId} {ms:List MG} {vs:c6H} {ds:List (DataW H)} {ps:List MemPlace},qF P 30 ts ms=true->DataW.TrodAll enc P W 0 (λ_=>true) true ts vs ds ps->ds.length=ms.length:=by
   intro ts;induction ts with
   |nil=>
    intro ms vs ds ps h hd;obtain⟨rfl,rfl,rfl⟩:=trodAll_nil hd;cases ms with
    |nil=>rfl|cons _ _=>simp[qF]at h
   |cons t ts ih=>
    intro ms vs ds ps h hd;obtain⟨v,vs',d,ds',p,q,rfl,rfl,rfl,h4,h5⟩:=trodAll_cons hd;cases ms with
    |nil=>simp[qF]at h|cons m ms=>
     obtain⟨g,m⟩:=m;cases m<;>simp only[qF,D6]at h<;>try (cases h;done)
     simp[ih h.2 h5]
  exact this hpars hA
 have hvt:s.plain.varTypes P=[]:=by simp[ChangeSpec.plain,DataSpec.varTypes,hvars]
 rw[hvt]at hz;simp only[G7,kN,decide_eq_true_eq]at hz;obtain⟨x,hx,wx⟩:=Yh (ok:=λb _=>b<W.heap.size) (λb t hb=>hb) hpars hA (λj t v hj hv=>hval j t v (by simpa using hj) (by simpa using hv)) hz;have hc:=hF W (λb _=>b<W.heap.size) [] args.toList x true (λb t hb=>hb) bu (λb hb=>by cases hb) hgl hx (b2l hpars) (law x wx);simp only[Array.toArray_toList]at hc;refine hc.mono λe W' ⟨v,ok',O',rs,os,B,he,hfr,_,_,_,_,hrv,hos,hrel⟩=>?_;subst he;have hnoos:os=[]:=by
  have:∀{ms:List MG} {vs:c6H} {ts:List TypeId},qF P 30 ts ms=true->tX W'.heap ms vs os B->os=[]:=by
   intro ms;induction ms with
   |nil=>
    intro vs ts h ho;cases vs with
    |nil=>exact ho.1|cons _ _=>exact absurd ho (by simp[tX])
   |cons m ms ih=>
    intro vs ts h ho;obtain⟨g,m⟩:=m;cases ts with
    |nil=>simp[qF]at h|cons t ts=>
     cases m<;>simp only[qF,D6]at h<;>try (cases h;done)
     cases vs with
     |nil=>exact absurd ho (by simp[tX])|cons v vs=>exact ih h.2 ho
  exact this hpars hos
 subst hnoos;obtain⟨v1,cs,hvs,hg,⟨hrep,_⟩⟩:=hrel;simp only[G7]at hvs;subst hvs;have hv1:v1= .bool true:=by have h1:cs=[v1]:=hg;have h2:cs=[.bool true]:=hrep;rw[h1]at h2;exact(U8 h2).1
 subst hv1;have hv:v= .bool true:=hrv.2;subst hv;have hbel:Below W.heap.size W W' :=⟨hfr.os,hfr.tape,hfr.output,hfr.size,λk hk=>hfr.block k hk D5⟩;simp only[G7]at hW' hfz;have hlt:∀x∈p,x.block<W.heap.size:=λx hx=>by simpa using hW'.lt x hx
 have hres1:∀(b:Nat) (sp:Nat->Bool) (hd:Bool),DataW.TrodAll enc P W' b sp hd fn.resultTypes.toList ((Value.bool true).resultList fn.resultTypes.size) (s.fn H (ds++[])).results []:=λb sp hd=>by rw[G7,hsfn ds hlen,hres];exact trodAll_cons_mk (shut_bool hbool _) trodAll_mk0
 have hargs1:∀sp:Nat->Bool,(∀x∈p,sp x.block=true)->DataW.TrodAll enc P W' 0 sp true fn.params.toList args.toList (s.fn H (ds++[])).args p:=λsp hs=>by rw[G7,hsfn ds hlen];exact NJ hlaid hbel hpars hA hlt hs
 have hvars1:∀sp:Nat->Bool,DataW.TrodVars enc P W' sp s.vars (s.fn H (ds++[])).vars []:=λsp=>by rw[G7,hsfn ds hlen,hvars];rfl
 refine⟨_,rfl,ds,[],p,[],p,[],hW',hres1 _ _ _,hargs1 _ (λx hx=>by simpa using hlt x hx),hvars1 _,World.keptBut_mono (λx hx=>⟨hx,.inr (.inl hx)⟩) (hbel.frame (·∈p)),λ_=>⟨ok_one hres rfl (okWide_bool_mk hbool _),_,_,([]++p)++[],⟨[]++p,[],trodAll_append (hargs1 _ (λ_ _=>rfl)) (hres1 _ _ _),hvars1 _,rfl,?_,?_⟩,?_⟩⟩
 .intro b off hp;simp only[J4,G7]at hp;rw[hbel.frozen (hlt _ hp)];exact hfz b off hp
 .intro ha;obtain⟨_,_,_,_,_,_,hn⟩:=hW';simpa using hn ha
 .intro x hx _;simpa using hx
end Go.GP
namespace Go.GP
open Go.RowKit
theorem a1F(w:World)(k:Nat)(os:Array Obj):Below w.heap.size w (Sort.grow (w.drewN k) os):=
 ⟨rfl,rfl,rfl,by simp[Sort.grow,World.drewN],λi hi=>by show((w.drewN k).heap++os)[i]? =_;rw[gW (by exact hi)];rfl⟩
theorem ER{P:Program}{w w' :World}(hb:Below w.heap.size w w'){ok:Nat->Ty->Prop}(hlt:∀b t,ok b t->b<w.heap.size){ps:List MG}{vals:c6H}(hps:tX w'.heap ps vals [] []){t:Ty}{x:t.den}{v:Value}(hr:rep w'.heap ok t x [v]):
  ∃v' ok' O' rs os B,(Ending.returned v)= .returned v' /\Frame' w w' []/\(∀b t,ok b t->ok' b t)/\(∀b t,ok' b t->b<w'.heap.size/\(ok b t\/w.heap.size<=b\/b∈([]:c6I)))/\
   (O' ++B).Nodup/\(∀b∈O' ++B,(∀t,¬ok' b t)/\b<w'.heap.size/\(w.heap.size<=b\/b∈([]:c6I)))/\
   OH 1 v' rs/\tX w'.heap ps vals os B/\mg w'.heap ok' ([(false,.dat t)]++[]) x (rs++os) O' :=
 ⟨v,ok,[],[v],[],[],rfl,⟨hb.os,hb.tape,hb.output,hb.size,λb h _=>hb.block b h⟩,λb t h=>h,λb t h=>⟨dC (hlt b t h) hb.size,.inl h⟩,D5,D5,⟨rfl,rfl⟩,hps,⟨v,[v],rfl,rfl,hr,rfl⟩⟩
def Hm(n:Int):Option c6F:=if -9223372036854775808<=n/\n<=9223372036854775807 then some (Lib.itoa n)else none
def uX(s:c6F)(c:Int):Option c6F:=if 0<=c/\c<=9223372036854775807/\s.length*c.toNat<=140737488355328 then some (Lib.repeatL s c.toNat)else none
variable {P:Program}
theorem a2o{f g:Nat}{gl:List (Nat×(t:Ty)×List t.den)}
  (hC:∀(n:Int) (h0:-9223372036854775808<=n) (h1:n<=9223372036854775807) (w:World) (htab:Lib.TabIs P w "internal/strconv.uint64pow10" .u64 Lib.pow10Tab),
   Calls P f #[.int .i64 n] w λe w' =>e= .returned (.string ⟨(Lib.itoa n).toArray⟩)/\∃k os,w' =Sort.grow (w.drewN k) os)
  (hg:P.globalNamed "internal/strconv.uint64pow10"=some g) (hgl:dX gl g=some ⟨.int .u64,Lib.pow10Tab⟩):
  dD P gl f ⟨[(false,.dat (.int .i64))],[(false,.dat .str)],[],λx=>Hm x⟩:=by
 intro w ok O vals x r hlt _ _ hgls hrel hdv hfn;obtain⟨v,cs,rfl,h1,h2,rfl⟩:=hrel;have h1:cs=[v]:=h1;subst h1;have h2:[v]=[.int .i64 x]:=h2;obtain rfl:=(U8 h2).1;simp only[Hm]at hfn;split at hfn
 .rename_i hx;cases hfn;refine(hC x hx.1 hx.2 w (a1n hg (hgls _ _ hgl))).mono λe w' ⟨he,k,os,hw⟩=>?_;subst he;subst hw;exact ER (P:=P) (t:=.str) (x:=Lib.itoa x) (ps:=[(false,.dat (.int .i64))]) (vals:=[.int .i64 x]) (a1F w k os) hlt ⟨rfl,rfl⟩ rfl
 .cases hfn
theorem ZF{f:Nat}{gl:List (Nat×(t:Ty)×List t.den)}
  (hC:∀(s:ByteArray) (c:Nat) (w:World) (hc:c<=9223372036854775807) (hlen:s.size*c<=140737488355328),
   Calls P f #[.string s,.int .i64 c] w λe w' =>e= .returned (.string ⟨(Lib.repeatL s.data.toList c).toArray⟩)/\Below w.heap.size w w'):
  dD P gl f ⟨[(false,.dat .str),(false,.dat (.int .i64))],[(false,.dat .str)],[],λx=>uX x.1 x.2⟩:=by
 intro w ok O vals x r hlt _ _ _ hrel hdv hfn;obtain⟨v,cs,vs',O1,O2,rfl,rfl,h1,⟨h2,rfl⟩,v2,cs2,rfl,h3,h4,rfl⟩:=hrel;have h1:cs=[v]:=h1;subst h1;have h3:cs2=[v2]:=h3;subst h3;have h2:[v]=[.string ⟨x.1.toArray⟩]:=h2;have h4:[v2]=[.int .i64 x.2]:=h4;obtain rfl:=(U8 h2).1;obtain rfl:=(U8 h4).1;simp only[uX]at hfn;split at hfn
 .rename_i hx;cases hfn;obtain⟨a,c⟩:=x;simp only at hx ⊢;obtain⟨n,rfl⟩:∃n:Nat,c=n:=⟨c.toNat,(og hx.1).symm⟩;have hh:=hC ⟨a.toArray⟩ n w (by have:=hx.2.1;omega) (by have h5:=hx.2.2;rw[F7]at h5;simpa[ByteArray.size]using h5);refine Calls.mono hh λe w' ⟨he,hb⟩=>?_;subst he;exact ER (P:=P) (t:=.str) (x:=Lib.repeatL a (n:Int).toNat) (ps:=[(false,.dat .str),(false,.dat (.int .i64))]) (vals:=[.string ⟨a.toArray⟩,.int .i64 n]) hb hlt ⟨rfl,rfl⟩ (by simp[rep])
 .cases hfn
end Go.GP
namespace Go.GP
def b3f(Q:Nat->((t:Ty)×List t.den)->Prop):List (Nat×(t:Ty)×List t.den)->Prop
 |[]=>True|(g,u)::r=>Q g u/\b3f Q r
theorem Um{Q:Nat->((t:Ty)×List t.den)->Prop} :∀{l:List (Nat×(t:Ty)×List t.den)},b3f Q l->∀g u,dX l g=some u->Q g u
 |[],_,g,u,h=>by simp[dX]at h|(k,v)::r,hc,g,u,h=>by
  unfold dX at h;cases hb:Nat.beq k g
  .simp only[hb,cond_false]at h;exact Um hc.2 g u h
  .simp only[hb,cond_true,G8]at h;have:=eU hb;subst this;subst h;exact hc.1
end Go.GP
namespace Go.GP
open Go.RowKit Go.Sort
def a3e(x:Int):c6G->c6G
 |[]=>[x]|y::l=>bif U7 x y then x::y::l else y::a3e x l
def KD:c6G->c6G
 |[]=>[]|x::l=>a3e x (KD l)
def ddp(p:Int):c6G->c6G
 |[]=>[]|y::l=>bif C9 y p then ddp p l else y::ddp y l
def dd:c6G->c6G
 |[]=>[]|x::l=>x::ddp x l
theorem Rn(x:Int):∀l,(a3e x l).Perm (x::l)
 |[]=> .refl _|y::l=>by
  unfold a3e;cases U7 x y
  .exact(List.Perm.cons y (Rn x l)).trans (List.Perm.swap x y l)
  .exact .refl _
theorem IZ:∀l,(KD l).Perm l
 |[]=> .refl _|x::l=>(Rn x (KD l)).trans ((IZ l).cons x)
theorem Tf(x:Int):∀{l:c6G},l.Pairwise (·<=·)->(a3e x l).Pairwise (·<=·)
 |[],_=>by simp[a3e]|y::l,h=>by
  have h' :=X5.1 h;unfold a3e;cases hxy:U7 x y
  .have hxy' :y<x:=by simpa[U7]using hxy
   refine X5.2 ⟨λz hz=>?_,Tf x h'.2⟩;rcases D8.1 ((Rn x l).mem_iff.1 hz)with rfl|hz
   .omega
   .exact h'.1 z hz
  .have hxy' :x<=y:=by simpa[U7]using hxy
   refine X5.2 ⟨λz hz=>?_,h⟩;rcases D8.1 hz with rfl|hz
   .exact hxy'
   .exact Int.le_trans hxy' (h'.1 z hz)
theorem Ja:∀l,(KD l).Pairwise (·<=·)
 |[]=>List.Pairwise.nil|x::l=>Tf x (Ja l)
theorem TG(l:c6G):(l.mergeSort λx y=>decide (x<=y))=KD l:=by refine List.Perm.eq_of_pairwise (le:=(·<=·)) (λa b _ _ h1 h2=>Int.le_antisymm h1 h2) ?_ (Ja l) ((List.mergeSort_perm l _).trans (IZ l).symm);have:=List.pairwise_mergeSort (le:=λx y:Int=>decide (x<=y)) (λa b c h1 h2=>by simp at*;omega) (λa b=>by simp;omega) l;simpa using this
theorem UJ(y:Int):∀(l:c6G) (p:Int),ddp p (l++[y])=ddp p l++(bif C9 y ((p::l).getLast D5)then[]else[y])
 |[],p=>rfl|z::l,p=>by
  have hg:(p::z::l).getLast D5=(z::l).getLast D5:=List.getLast_cons _;rw[hg];simp only[U3,ddp];by_cases h:z=p
  .subst h;simp only[C9,decide_true,cond_true];exact UJ y l z
  .have h' :C9 z p=false:=by simp[C9,h]
   rw[h'];simp only[cond_false];rw[UJ y l z];rfl
theorem Qv(l:c6G)(y:Int)(m:Nat)(hm:m<=l.length):Lib.compactUpTo (l++[y]).toArray m=Lib.compactUpTo l.toArray m:=by
 unfold Lib.compactUpTo;have e:∀j,j<m->(l++[y]).toArray[j]! =l.toArray[j]!:=λj hj=>by rw[getElem!_pos _ j E5,getElem!_pos _ j E5];simp[oJ (show j<l.length by omega)]
 have hf:(List.range m).filter (Lib.keeps (l++[y]).toArray)=(List.range m).filter (Lib.keeps l.toArray):=by apply List.filter_congr;intro j hj;have hj' :=fH.1 hj;unfold Lib.keeps;rw[e j hj',e (j -1) o5]
 rw[hf];apply je;intro j hj;exact e j (fH.1 (oK.1 hj).1)
theorem YI(x y:Int)(l:c6G):Lib.compact (x::l++[y])=Lib.compact (x::l)++(bif C9 y ((x::l).getLast D5)then[]else[y]):=by
 have hlen:(x::l++[y]).length=(x::l).length+1:=D5;have h1:Lib.compact (x::l++[y])=Lib.compactUpTo (x::l++[y]).toArray (x::l).length++(if Lib.keeps (x::l++[y]).toArray (x::l).length=true then[(x::l++[y]).toArray[(x::l).length]!]else[]):=by
  unfold Lib.compact;rw[hlen];unfold Lib.compactUpTo;rw[jF,List.filter_append,gu];congr 1;by_cases hk:Lib.keeps (x::l++[y]).toArray (x::l).length=true
  .simp only[kP,hk,if_true,List.filter_nil,dG,lV]
  .simp only[kP,hk,List.filter_nil,lV];simp
 rw[h1,Qv (x::l) y _ (D7 _)];have e1:(x::l++[y]).toArray[(x::l).length]! =y:=by rw[getElem!_pos _ _ D5];simp
 have e2:(x::l++[y]).toArray[(x::l).length -1]! =(x::l).getLast D5:=by rw[getElem!_pos _ _ E5];rw[List.getLast_eq_getElem];simp only[List.getElem_toArray];rw[oJ]
 have hk:Lib.keeps (x::l++[y]).toArray (x::l).length=decide (y≠(x::l).getLast D5):=by unfold Lib.keeps;rw[e1,e2];simp
 rw[hk,e1];unfold Lib.compact;by_cases h:y=(x::l).getLast D5<;>simp[C9,h]
theorem a1g{motive:c6G->Prop}(h0:motive [])(h1:∀l y,motive l->motive (l++[y])):∀n (l:c6G),l.length=n->motive l
 |0,l,h=>by rw[bf.1 h];exact h0|n+1,l,h=>by
  have hne:l≠[]:=by intro e;subst e;cases h
  rw[←rM hne];exact h1 _ _ (a1g h0 h1 n _ E5)
theorem a1Q(l:c6G):Lib.compact l=dd l:=by
 cases l with
 |nil=>rfl|cons x l=>
  show _=x::ddp x l;refine a1g (motive:=λl=>Lib.compact (x::l)=x::ddp x l) ?_ (λl y ih=>?_) l.length l rfl
  .simp[Lib.compact,Lib.compactUpTo,Lib.keeps,jF,ddp]
  .have:=YI x y l;rw[U3]at this;rw[this,ih,UJ];rfl
def Eo(xs:c6G):Option c6G:=bif Nat.blt xs.length 4611686018427387904 then some (KD xs)else none
def sO(xs:c6G):Option c6G:=bif Nat.blt xs.length 4611686018427387904 then some (dd xs)else none
def yO(s t:c6F):c6J:=match t with
 |[c]=>some (decide (0<=Lib.indexByte s c))|_=>none
def zN(a b:Int):Option (Int×Int):=if 0<=a/\a<18446744073709551616/\0<=b/\b<18446744073709551616 then some (a*b / 18446744073709551616,a*b % 18446744073709551616)else none
variable {w:World}{ok:Nat->Ty->Prop}
theorem Pn{m:Mp}{xs:c6G}{blk off len cap sz:Nat}(h:arrOk ⟨w.heap,ok,m⟩ (.int .i64) xs (.arr blk off len cap sz)):Holds (Value.int .i64) w blk off xs.toArray:=by
 obtain⟨_,rfl,rfl,hc,c,T,f,hb,hz,hs,hx⟩:=h;have hz:f=(0,0):=hz.elim id (λh=>nomatch h.1);subst hz;intro j hj;have hj' :j<xs.length:=by simpa using hj
 obtain⟨es,he,hr⟩:=hx j xs[j] (lF hj');have hr:es=[.int .i64 xs[j]]:=hr;subst hr;have hb' :w.heap[blk]? =some (.cells c T (0,0)):=hb;have he' :bQ w.heap blk (off+j*1) 1=some [.int .i64 xs[j]]:=he;rw[bD]at he';refine⟨?_,?_⟩
 .have:=rZ (w:=w) he' (j:=0) (v:=.int .i64 xs[j]) rfl;rw[aH]at this;rw[this,getElem!_pos xs.toArray j hj];simp
 .simp[World.frozen?,hb']
variable {blk:Nat}{off:Nat}{n:Nat}{c:Array Value}{T:TypeId}
theorem a6n{fr:Nat×Nat}(hb:w.heap[blk]? =some (.cells c T fr))(d:Array Int):
  (putRow (Value.int .i64) (Sort.ahead w n) blk off d).heap[blk]? =some (.cells (putCells (Value.int .i64) off d c) T fr):=by
 show(w.heap.modify blk (onCells (putCells (Value.int .i64) off d)))[blk]? =_;rw[qX,if_pos rfl,hb];rfl
theorem a2D{blk off n b:Nat}(h:b≠blk)(d:Array Int):(putRow (Value.int .i64) (Sort.ahead w n) blk off d).heap[b]? =w.heap[b]?:=by show(w.heap.modify blk (onCells (putCells (Value.int .i64) off d)))[b]? =_;rw[qX,if_neg (λe=>h e.symm)]
theorem a3V{h:Array Obj}{m:Mp}{blk off cap:Nat}{d:Array Int}{ys:c6G}(hb:h[blk]? =some (.cells (putCells (Value.int .i64) off d c) T (0,0)))
  (hfit:off+cap<=c.size) (hd:d.size<=cap) (hl:ys.length<=d.size) (hy:∀(i:Nat) (y:Int),ys[i]? =some y->d[i]? =some y):arrOk ⟨h,ok,m⟩ (.int .i64) ys (.arr blk off ys.length cap 1):=by
 refine⟨rfl,rfl,rfl,o5,_,T,_,hb,.inl rfl,by simp[putCells,Ty.size];omega,λi y hi=>⟨[.int .i64 y],?_,rfl⟩⟩;have hi' :=(bg.1 hi).1;have hdi:=hy i y hi;obtain⟨hdi',hdy⟩:=G9.1 hdi;show bQ h blk (off+i*1) 1=_;rw[bD,jA hb _ _ (by simp[putCells];omega)];have hk:off+i<c.size:=o5;have:(putCells (Value.int .i64) off d c).toList[off+i]? =some (.int .i64 y):=by unfold putCells;rw[X4,Array.getElem?_mapIdx,O0 hk];simp only[eX];rw[if_pos o5,Nat.add_sub_cancel_left,getElem!_pos d i hdi',hdy]
 obtain⟨h1,h2⟩:=bg.1 this;rw[bC h1,h2];rfl
theorem a4X{P:Program}{d:Array Int}{os:Array Obj}(hlt:∀b t,ok b t->b<w.heap.size)(hfree:(∀t,¬ok blk t)/\blk<w.heap.size)
  (hb:w.heap[blk]? =some (.cells c T (0,0))) {w' :World} (hw:w' =Sort.grow (putRow (Value.int .i64) (Sort.ahead w n) blk off d) os):
  w'.heap[blk]? =some (.cells (putCells (Value.int .i64) off d c) T (0,0))/\Frame' w w' [blk]/\(∀b t,ok b t->b<w'.heap.size/\(ok b t\/w.heap.size<=b\/b∈[blk]))/\blk<w'.heap.size:=by
 subst hw;have hsz:(putRow (Value.int .i64) (Sort.ahead w n) blk off d).heap.size=w.heap.size:=by simp[Sort.ahead]
 have hge:w.heap.size<=(Sort.grow (putRow (Value.int .i64) (Sort.ahead w n) blk off d) os).heap.size:=by simp[Sort.grow,Sort.ahead]
 have hold:∀b,b<w.heap.size->(Sort.grow (putRow (Value.int .i64) (Sort.ahead w n) blk off d) os).heap[b]? =(putRow (Value.int .i64) (Sort.ahead w n) blk off d).heap[b]?:=λb hb=>by show((putRow (Value.int .i64) (Sort.ahead w n) blk off d).heap++os)[b]? =_;rw[gW (by rw[hsz];exact hb)]
 refine⟨by rw[hold blk hfree.2];exact a6n hb d,⟨rfl,rfl,rfl,hge,λb h1 h2=>?_⟩,λb t h=>⟨dC (hlt b t h) hge,.inl h⟩,dC hfree.2 hge⟩;rw[hold b h1];exact a2D (λe=>h2 (by simp[e])) d
variable {P:Program}{f:Nat}
theorem a3v{gl:List (Nat×(t:Ty)×List t.den)}
  (hC:∀(blk off cap:Nat) (zs:c6G) (w:World) (hH:Holds (Value.int .i64) w blk off zs.toArray) (hblk:blk<w.heap.size) (hsz:zs.length<4611686018427387904),
   Calls P f #[.slice (some ⟨blk,off,none⟩) zs.length cap] w λe w' =>e= .returned (.tuple #[])/\∃n os,w' =Sort.grow (putRow (Value.int .i64) (Sort.ahead w n) blk off (zs.mergeSort λx y=>decide (x<=y)).toArray) os)
  (hN:∀(p:Option Addr) (cap:Nat) (w:World),Calls P f #[.slice p 0 cap] w λe w' =>e= .returned (.tuple #[])/\w' =w):
  dD P gl f ⟨[(false,.ownb (.int .i64))],[],[(false,.own (.int .i64))],λx=>Eo x⟩:=by
 intro w ok O vals x r hlt hnd hO _ hrel hdv hfn;obtain⟨v,cs,rfl,h1,l,v',hcs,hv,ha,rfl⟩:=hrel;have h1:cs=[v]:=h1;rw[h1]at hcs;simp only[I7,and_true]at hcs;subst hcs;simp only[Eo]at hfn;cases hx0:Nat.blt x.length 4611686018427387904<;>rw[hx0]at hfn
 .cases hfn
 rw[Z5]at hx0;have hx:=hx0;rw[←TG]at hfn;cases hfn;cases l with
 |st b=>cases ha|mp b=>cases ha.1|nil=>
  have ha:x=[]:=ha.1;subst ha;have hv:v= .slice none 0 0:=hv;subst hv;refine(hN none 0 w).mono λe w' ⟨he,hw⟩=>?_;subst he;subst hw;exact⟨_,ok,[],[],[.slice none 0 0],[],rfl,Frame'.refl _ _,λ_ _ h=>h,λb t h=>⟨hlt b t h,.inl h⟩,D5,D5,⟨rfl,rfl⟩,⟨[],rfl,rfl,rfl⟩,
   ⟨_,_,rfl,rfl,xP.2 ⟨.nil,_,rfl,rfl,(by simp[arrOk,Ty.isEnt]),rfl⟩⟩⟩
 |arr blk off len cap sz=>
  have hH:=Pn ha;obtain⟨_,rfl,rfl,hc,c,T,f,hb,hz,hs,hx'⟩:=ha;have hz:f=(0,0):=hz.elim id (λh=>nomatch h.1);subst hz;have hv:v= .slice (some ⟨blk,off,none⟩) x.length cap:=hv;subst hv;have hfree:=hO blk (by simp[Loc.blks]);refine(hC blk off cap x w hH hfree.2 hx).mono λe w' ⟨he,n,os,hw⟩=>?_;subst he;obtain⟨g1,g2,g3,g4⟩:=a4X (P:=P) hlt hfree hb hw;have hlen:(x.mergeSort λx y=>decide (x<=y)).length=x.length:=List.length_mergeSort ..;have hfit:off+cap<=c.size:=by simpa[Ty.size]using hs
  have harr:=a3V (ok:=ok) (m:=nom) (cap:=cap) (ys:=x.mergeSort λx y=>decide (x<=y)) g1 hfit (by simp[hlen];exact hc) D5 (λi y hi=>by simpa using hi);rw[hlen]at harr;refine⟨_,ok,[blk],[],[.slice (some ⟨blk,off,none⟩) x.length cap],[],rfl,g2,λ_ _ h=>h,g3,D5,λb hb=>?_,⟨rfl,rfl⟩,⟨[],rfl,rfl,rfl⟩,⟨_,_,rfl,rfl,xP.2 ⟨.arr blk off x.length cap 1,_,rfl,rfl,harr,rfl⟩⟩⟩;have:b=blk:=by simpa using hb
  subst this;exact⟨hfree.1,g4,.inr (by simp[Loc.blks])⟩
theorem a1R(zs:c6G):(Lib.compact zs).length<=zs.length:=by unfold Lib.compact Lib.compactUpTo;rw[L8];exact V5 (iy _ _) D5
theorem WV{gl:List (Nat×(t:Ty)×List t.den)}
  (hC:∀(blk off cap:Nat) (zs:c6G) (w:World) (hH:Holds (Value.int .i64) w blk off zs.toArray) (hsz:zs.length<=9223372036854775807) (hcap:zs.length<=cap),
   Calls P f #[.slice (some ⟨blk,off,none⟩) zs.length cap] w λe w' =>e= .returned (.slice (some ⟨blk,off,none⟩) (Lib.compact zs).length cap)/\∃q,w' =putRow (Value.int .i64) (Sort.ahead w q) blk off (Lib.compact zs++List.replicate (zs.length -(Lib.compact zs).length) 0).toArray)
  (hN:∀(a:Option Addr) (cap:Nat) (w:World),Calls P f #[.slice a 0 cap] w λe w' =>e= .returned (.slice a 0 cap)/\w' =w):
  dD P gl f ⟨[(false,.own (.int .i64))],[(false,.own (.int .i64))],[],λx=>sO x⟩:=by
 intro w ok O vals x r hlt hnd hO _ hrel hdv hfn;obtain⟨v,cs,rfl,h1,hrm⟩:=hrel;obtain⟨l,v',hcs,hv,ha,rfl⟩:=xP.1 hrm;have h1:cs=[v]:=h1;rw[h1]at hcs;simp only[I7,and_true]at hcs;subst hcs;simp only[sO]at hfn;cases hx0:Nat.blt x.length 4611686018427387904<;>rw[hx0]at hfn
 .cases hfn
 rw[Z5]at hx0;have hx:=hx0;rw[←a1Q]at hfn;cases hfn;cases l with
 |st b=>cases ha|mp b=>cases ha.1|nil=>
  have ha:x=[]:=ha.1;subst ha;have hv:v= .slice none 0 0:=hv;subst hv;refine(hN none 0 w).mono λe w' ⟨he,hw⟩=>?_;subst he;subst hw;exact⟨_,ok,[],[.slice none 0 0],[],[],rfl,Frame'.refl _ _,λ_ _ h=>h,λb t h=>⟨hlt b t h,.inl h⟩,D5,D5,⟨rfl,rfl⟩,⟨rfl,rfl⟩,
   ⟨_,_,rfl,rfl,xP.2 ⟨.nil,_,rfl,rfl,⟨rfl,rfl⟩,rfl⟩⟩⟩
 |arr blk off len cap sz=>
  have hH:=Pn ha;obtain⟨_,rfl,rfl,hc,c,T,f,hb,hz,hs,hx'⟩:=ha;have hz:f=(0,0):=hz.elim id (λh=>nomatch h.1);subst hz;have hv:v= .slice (some ⟨blk,off,none⟩) x.length cap:=hv;subst hv;have hfree:=hO blk (by simp[Loc.blks]);refine(hC blk off cap x w hH o5 hc).mono λe w' ⟨he,n,hw⟩=>?_;subst he;have hle:=a1R x;obtain⟨g1,g2,g3,g4⟩:=a4X (P:=P) (n:=n) (off:=off) (d:=(Lib.compact x++List.replicate (x.length -(Lib.compact x).length) 0).toArray) (os:=#[]) (w' :=w') hlt hfree hb (by rw[grow_empty];exact hw);have hfit:off+cap<=c.size:=by simpa[Ty.size]using hs
  have harr:=a3V (ok:=ok) (m:=nom) (cap:=cap) (ys:=Lib.compact x) g1 hfit E5 D5 (λi y hi=>by have:=(bg.1 hi).1;rw[List.getElem?_toArray,V7 this];exact hi)
  refine⟨_,ok,[blk],[.slice (some ⟨blk,off,none⟩) (Lib.compact x).length cap],[],[],rfl,g2,λ_ _ h=>h,g3,D5,λb hb=>?_,⟨rfl,rfl⟩,⟨rfl,rfl⟩,⟨_,_,rfl,rfl,xP.2 ⟨.arr blk off (Lib.compact x).length cap 1,_,rfl,rfl,harr,rfl⟩⟩⟩;have:b=blk:=by simpa using hb
  subst this;exact⟨hfree.1,g4,.inr (by simp[Loc.blks])⟩
theorem Tz{gl:List (Nat×(t:Ty)×List t.den)}
  (hC:∀(s:ByteArray) (c:UInt8) (w:World),Calls P f #[.string s,.string ⟨#[c]⟩] w λe w' =>e= .returned (.bool (decide (0<=Lib.indexByte s.data.toList c)))/\w' =w):
  dD P gl f ⟨[(false,.dat .str),(false,.dat .str)],[(false,.dat .bool)],[],λx=>yO x.1 x.2⟩:=by
 intro w ok O vals x r hlt _ _ _ hrel hdv hfn;obtain⟨v,cs,vs',O1,O2,rfl,rfl,h1,⟨h2,rfl⟩,v2,cs2,rfl,h3,h4,rfl⟩:=hrel;have h1:cs=[v]:=h1;subst h1;have h3:cs2=[v2]:=h3;subst h3;have h2:[v]=[.string ⟨x.1.toArray⟩]:=h2;have h4:[v2]=[.string ⟨x.2.toArray⟩]:=h4;obtain rfl:=(U8 h2).1;obtain rfl:=(U8 h4).1;simp only[yO]at hfn;split at hfn
 .rename_i c hx;cases hfn;rw[hx];refine(hC ⟨x.1.toArray⟩ c w).mono λe w' ⟨he,hw⟩=>?_;subst he;subst hw;exact ER (P:=P) (t:=.bool) (x:=decide (0<=Lib.indexByte x.1 c)) (ps:=[(false,.dat .str),(false,.dat .str)]) (vals:=[_,_]) ⟨rfl,rfl,rfl,D7 _,λ_ _=>rfl⟩ hlt ⟨rfl,rfl⟩ rfl
 .cases hfn
theorem a0k{gl:List (Nat×(t:Ty)×List t.den)}
  (hC:∀(x y:Nat) (hx:x<18446744073709551616) (hy:y<18446744073709551616) (w:World),
   Calls P f #[.int .u64 x,.int .u64 y] w λe w' =>e= .returned (.tuple #[.int .u64 ((x*y / 18446744073709551616:Nat):Int),.int .u64 ((x*y % 18446744073709551616:Nat):Int)])/\w' =w):
  dD P gl f ⟨[(false,.dat (.int .u64)),(false,.dat (.int .u64))],[(false,.dat (.int .u64)),(false,.dat (.int .u64))],[],λx=>zN x.1 x.2⟩:=by
 intro w ok O vals x r hlt _ _ _ hrel hdv hfn;obtain⟨v,cs,vs',O1,O2,rfl,rfl,h1,⟨h2,rfl⟩,v2,cs2,rfl,h3,h4,rfl⟩:=hrel;have h1:cs=[v]:=h1;subst h1;have h3:cs2=[v2]:=h3;subst h3;have h2:[v]=[.int .u64 x.1]:=h2;have h4:[v2]=[.int .u64 x.2]:=h4;obtain rfl:=(U8 h2).1;obtain rfl:=(U8 h4).1;simp only[zN]at hfn;split at hfn
 .rename_i hx;cases hfn;obtain⟨a,b⟩:=x;obtain⟨p,rfl⟩:=Int.eq_ofNat_of_zero_le hx.1;obtain⟨q,rfl⟩:=Int.eq_ofNat_of_zero_le hx.2.2.1;refine(hC p q (by have:=hx.2.1;simp only at this;omega) (by have:=hx.2.2.2;simp only at this;omega) w).mono λe w' ⟨he,hw⟩=>?_;subst he;subst hw;refine⟨_,ok,[],[_,_],[],[],rfl,⟨rfl,rfl,rfl,D7 _,λ_ _ _=>rfl⟩,λ_ _ h=>h,λb t h=>⟨hlt b t h,.inl h⟩,D5,D5,⟨rfl,rfl⟩,⟨rfl,rfl⟩,?_⟩;exact⟨_,_,_,[],[],rfl,rfl,rfl,⟨rfl,rfl⟩,_,_,rfl,rfl,rfl,rfl⟩
 .cases hfn
def oP{α:Type}(xs:List α):Option (List α):=eG [] xs
theorem FD{E:Env}{f:FuncId}{fn:Func}{c:Code}{t:Ty}(hf:P.funcs[f]? =some fn)(hb:fn.body=some c)(hnt:fn.ntmps=E.nt)(hres:fn.results.toList=[.tmp 2])(hE:EnvOk P E)
  (h0:∀b,a5G E [(false,.cell (some (some b)))] ⟨[(.tmp 2,(false,.own t))],[]⟩ c .leaf ()=some [])
  (h2:∀xs,a5G E [(false,.dat (.sl t))] ⟨[(.tmp 2,(false,.own t))],[]⟩ c .leaf xs=l7 (C9 (A7 xs) 0) none (l9 (eG [] xs) λz=>some z))
  (ht:t.isEnt=false:=by rfl):
  dD P E.gl f ⟨[(false,.dat (.sl t))],[(false,.own t)],[],λxs=>oP xs⟩:=by
 intro w ok O vals x r hlt hnd hO hgl hrel hdv hfn;obtain⟨v,cs,rfl,h1,hr,rfl⟩:=hrel;have h1:cs=[v]:=h1;subst h1;cases x with
 |nil=>
  obtain⟨a,cap,e,_,_⟩:=(zM ht).1 hr;have e:v= .slice a 0 cap:=(U8 e).1;have hr:r=[]:=by
   have:some ([]:List t.den)=some r:=by simpa[oP,eG]using hfn
   exact(Y1 this).symm
  subst hr;exact NR (ps:=[(false,.cell (some (some a.isNone)))]) (rt:=⟨[(.tmp 2,(false,.own t))],[]⟩) (F:=λ_=>some []) hf hb hnt hres hE (λx r h=>by cases h;exact h0 a.isNone) w ok [] [v] () [] hlt hnd hO hgl
   ⟨v,[v],rfl,rfl,v,rfl,by subst e;rfl,(λh=>nomatch h),(λb h=>by cases h;exact⟨a,cap,e,rfl⟩),rfl⟩ trivial rfl
 |cons z zs=>
  exact NR (ps:=[(false,.dat (.sl t))]) (rt:=⟨[(.tmp 2,(false,.own t))],[]⟩) (F:=λxs=>l7 (C9 (A7 xs) 0) none (l9 (eG [] xs) λz=>some z)) hf hb hnt hres hE (λx r h=>(h2 x).trans h) w ok [] [v] (z::zs) r hlt hnd hO hgl
   ⟨v,[v],rfl,rfl,hr,rfl⟩ trivial (by
    have h3:C9 (A7 (z::zs)) 0=false:=by simp only[C9,A7,F5];exact decide_eq_false o5
    have h4:eG [] (z::zs)=some r:=hfn;show l7 (C9 (A7 (z::zs)) 0) none (l9 (eG [] (z::zs)) λz=>some z)=some r;rw[h3,h4];rfl)
theorem a0j{t f e:Nat}{n:String}{inf:TypeInfo}{m:Method}(ht:P.info? t=some inf)(hm:inf.methods.find? (·.name==n)=some m)(hp:m.path.toList=[])
  (hf:m.func=some (f,false)) (hu:P.underlying t=some (.pointer e)):Ep P t n f (some e):=by
 intro v w ad h;subst h;have h1:∀d,(method (d+1) t (.pointer (some ad)) n).run P w=((loadVar e ad).run P w).andThen λu w' => .ok (f,u) w' :=by
  intro d;unfold method;have hti:(typeInfo t).run P w= .ok inf w:=by simp[typeInfo,ht]
  rw[J5,hti];simp only[Result.andThen,hm,hp,hf];rw[J5];simp only[follow,Y9,Result.andThen];have hr:∀wr,(receiverAt t (.val (.pointer (some ad))) false wr).run P w=(loadVar e ad).run P w:=by
   intro wr;unfold receiverAt;rw[J5,run_underlying hu];have hw:∀s,Builtin.ssaWrapNilChk_ #[t] t #[.pointer (some ad),strVal "",strVal s]=pure (.pointer (some ad)):=λs=>rfl;cases wr with
   |none=>simp[Result.andThen,Place.get,asAddr]|some s=>simp[Result.andThen,Place.get,asAddr,hw]
  rw[J5,hr];rfl
 exact h1 _
def a4F(P:Program)(t:Nat)(n:String)(f e:Nat):Bool:=match P.info? t with
 |some inf=>match inf.methods.find? (·.name==n)with
  |some m=>match m.path.toList,m.func,P.underlying t with
   |[],some (f',false),some (.pointer e')=>Nat.beq f' f&&Nat.beq e' e|_,_,_=>false
  |none=>false
 |none=>false
theorem Og{t f e:Nat}{n:String}(h:a4F P t n f e=true):Ep P t n f (some e):=by
 unfold a4F at h;split at h
 .rename_i inf hi;split at h
  .rename_i m hm;split at h
   .rename_i h1 h2 h3;simp only[D6]at h;have e1:=eU h.1;have e2:=eU h.2;subst e1;subst e2;exact a0j hi hm h1 h2 h3
   .cases h
  .cases h
 .cases h
end Go.GP
namespace Go.GP
open Go.Shelf Go.RowKit Go.Proofs
structure OthB (w w' :World) (ks:c6I):Prop where
 os:w'.os=w.os
 tape:w'.tape=w.tape
 output:w'.output=w.output
 size:w.heap.size<=w'.heap.size
 block:∀k,k<w.heap.size->k∉ks->w'.heap[k]? =w.heap[k]?
theorem OthB.trans{a b c:World}{ks:c6I}(h:OthB a b ks)(k:OthB b c ks):OthB a c ks:=
 ⟨k.os.trans h.os,k.tape.trans h.tape,k.output.trans h.output,V5 h.size k.size,λi hi hn=>(k.block i (dC hi h.size) hn).trans (h.block i hi hn)⟩
variable {xs:c6F}{l:Loc}
theorem VZ{h:Array Obj}{te:Nat}(hr:uN h te xs l):∀b∈l.blks,b<h.size:=by
 intro b hb;cases l with
 |nil=>simp[Loc.blks]at hb|st b=>cases hr|mp b=>cases hr|arr g off len cap sz=>simp[Loc.blks]at hb;subst hb;obtain⟨_,_,_,_,_,cur,fz,h6,_⟩:=hr;exact(G9.1 h6).1
variable {w:World}
theorem a1G{P:Program}{t u ty e:TypeId}{i:TypeInfo}(ht:P.underlying t=some (.slice e))(hu:P.underlying u=some .string)(hi:P.info? e=some i)(hz:i.zero=some (.int .u8 0))
  (hsize:i.size=1) (hby:i.bytes=1) {v:Value} {l:Loc} {xs ys:c6F} (hv:l.view none v) (hr:uN w.heap e xs l) (hmax:xs.length+ys.length<=140737488355328):
  ∃v' w' l',(Builtin.append_ #[t,u] ty #[v,.string ⟨ys.toArray⟩]).run P w= .ok v' w' /\l'.view none v' /\uN w'.heap e (xs++ys) l' /\(∀b∈l'.blks,b∈l.blks\/w.heap.size<=b)/\OthB w w' l.blks:=by
 have hys:(⟨ys.toArray⟩:ByteArray).size=ys.length:=by simp[ByteArray.size]
 have hsc:Lib.strCells ⟨ys.toArray⟩=ys.map λc=>Value.int .u8 (c.toNat:Int):=rfl;have hback:∀{B:Nat} {h:Array Obj} {w' :World} {v' :Value} {zs:c6F} {n:Nat},n=zs.length->w'.ownsRowF B e 1 v' n (zs.map λc=>Value.int .u8 (c.toNat:Int))->∃l',l'.view none v' /\uN w'.heap e zs l' /\∀b∈l'.blks,B<=b:=by
  intro B h w' v' zs n hn ho;rcases ho.2 with⟨rfl,h0⟩|⟨g,cap,cur,fz,rfl,hB,hg,hfz,hc,hcm,hcs,htk⟩
  .exact⟨.nil,rfl,(bf.1 (hn▸h0)),λb hb=>by simp[Loc.blks]at hb⟩
  .exact⟨.arr g 0 n cap 1,rfl,⟨rfl,rfl,hn,hc,hcm,cur,fz,hg,o5,o5,by rw[bD]at htk;exact htk⟩,λb hb=>by simp[Loc.blks]at hb;subst hb;exact hB⟩
 cases l with
 |st b=>cases hr|mp b=>cases hr|nil=>have hr:xs=[]:=hr;subst hr;have hv:v= .slice none 0 0:=hv;subst hv;obtain⟨v',w',h1,h2,h3,h4⟩:=Lib.run_append_own_stringF (P:=P) w w.heap.size t u ty e i ht hu hi hz hsize hby (.slice none 0 0) 0 [] ⟨rfl,.inl ⟨rfl,rfl⟩⟩ ⟨ys.toArray⟩ (by rw[hys];simp at hmax;unfold maxLen;omega) (by rw[hys];simpa using hmax) (D7 _);rw[hsc,J4,hys,bY]at h2;obtain⟨l',g1,g2,g3⟩:=hback (h:=w'.heap) rfl h2;exact⟨v',w',l',h1,g1,by simpa using g2,λb hb=> .inr (g3 b hb),⟨h3.os,h3.tape,h3.output,h3.size,λk hk _=>h3.block k hk (by simp[Value.ownBlock])⟩⟩
 |arr g off len cap sz=>
  obtain⟨rfl,rfl,rfl,hc,hcm,cur,fz,hg,hfz,hcs,htk⟩:=hr;have hv:v= .slice (some ⟨g,0,none⟩) xs.length cap:=hv;subst hv;by_cases hroom:xs.length+ys.length<=cap
  .have hrun:=Lib.run_append_room_stringF (P:=P) w t u ty e i ht hu hi hsize g xs.length cap cur fz hg hfz ⟨ys.toArray⟩ (by rw[hys];exact hroom) (by rw[hys];omega);rw[hys,hsc]at hrun;refine⟨_,_,.arr g 0 (xs.length+ys.length) cap 1,hrun,rfl,⟨rfl,rfl,D5,hroom,hcm,_,fz,setRow_heap w g cur _ e _ hg,o5,?_,?_⟩,λb hb=> .inl hb,⟨rfl,rfl,rfl,D5,λk _ hk=>setRow_other w g k _ (λe=>hk (by simp[Loc.blks,e]))⟩⟩
   .simp only[aK,I8,aX,aG,X8,L8];omega
   .rw[htk,E8,←E8,←gu];rw[show xs.length+ys.length=((xs++ys).map λc=>Value.int .u8 (c.toNat:Int)).length by simp];exact ed
  .have holds:∀(j:Nat) (u:Value),(xs.map λc=>Value.int .u8 (c.toNat:Int))[j]? =some u->w.cell? ((⟨g,0,none⟩:Addr).add j)=some u:=λj u hj=>by
    have ho:w.ownsRowF 0 e 1 (.slice (some ⟨g,0,none⟩) xs.length cap) xs.length (xs.map λc=>Value.int .u8 (c.toNat:Int)):=⟨D5,.inr ⟨g,cap,cur,fz,rfl,cO _,hg,o5,hc,hcm,o5,by rw[bD];exact htk⟩⟩;exact ho.cells (g:=g) rfl j u hj
   have hrun:=Lib.run_append_grow_string (P:=P) w t u ty e i (.int .u8 0) ht hu hi hz ⟨g,0,none⟩ xs.length cap (xs.map λc=>Value.int .u8 (c.toNat:Int)) (by rw[hsize];simp) holds ⟨ys.toArray⟩ (by rw[hys];omega) (by rw[hys];omega) (by rw[hby,hys];exact growslice_fits o5 o5);rw[hys,hsc]at hrun;have hge:=grownCap_ge w (xs.length+ys.length) cap e;have hcm2:grownCap w (xs.length+ys.length) cap e<=maxLen:=grownCap_le_maxLen w (xs.length+ys.length) cap e (by unfold maxLen;omega);refine⟨_,_,.arr w.heap.size 0 (xs.length+ys.length) _ 1,hrun,rfl,⟨rfl,rfl,D5,hge,hcm2,_,(0,0),heap_alloc_new w.drew _,cO _,?_,?_⟩,λb hb=> .inr (by simp[Loc.blks]at hb;omega),⟨rfl,rfl,rfl,D5,λk hk _=>heap_alloc_old w.drew _ hk⟩⟩
   .have hz1:(Value.int IntKind.u8 0).cells.size=1:=rfl;simp only[qx,aK,size_zeroCells,hz1,L8];omega
   .simp only[nZ,E8];rw[←E8,←gu];rw[show xs.length+ys.length=((xs++ys).map λc=>Value.int .u8 (c.toNat:Int)).length by simp];exact ed
theorem a1I{P:Program}{ops:Array Oper}{rest:List Oper}{o:Oper}{a:Act}{Q:Exit->Act->World->Prop}{w:World}(hgd:o.guard=none)(sl x:Operand)(t u:TypeId)
  (ho:o.op= .call { callee:=.builtin .append,args:=#[sl,x],argTypes:=#[t,u] }) {e:TypeId} {i:TypeInfo} (ht:P.underlying t=some (.slice e)) (hu:P.underlying u=some .string) (hi:P.info? e=some i) (hz:i.zero=some (.int .u8 0))
  (hsize:i.size=1) (hby:i.bytes=1) {v:Value} {l:Loc} {xs ys:c6F} (hs:a.eval sl=v) (hx:a.eval x= .string ⟨ys.toArray⟩) (hv:l.view none v) (hr:uN w.heap e xs l) (hmax:xs.length+ys.length<=140737488355328)
  (h:∀v' w' l',l'.view none v' ->uN w'.heap e (xs++ys) l' ->(∀b∈l'.blks,b∈l.blks\/w.heap.size<=b)->OthB w w' l.blks->wpList P ops Q rest (a.put o.dst v') w'):wpList P ops Q (o::rest) a w:=by
 refine wpList_plain hgd λK hK=>?_;obtain⟨v',w',l',h1,h2,h3,h4,h5⟩:=a1G (ty:=o.type) ht hu hi hz hsize hby hv hr hmax;unfold Oper.wp execOp;simp only[ho,resolve,invoke,builtin,J5,Y9,L6,List.map_toArray,dG,lV,hs,hx,h1];exact hK _ _ (h v' w' l' h2 h3 h4 h5)
variable {P:Program} {ρ:Ren}
set_option maxHeartbeats 2000000 in
set_option maxRecDepth 100000 in
set_option maxHeartbeats 2000000 in
set_option maxRecDepth 100000 in
theorem b1q(L:Lays.n170 P ρ){b:Nat}{a v:Value}(hb:w.heap[b]? =some (.cells #[a,v] (ρ.t 72) (0,0)))(hv:l.view none v)(hr:uN w.heap (ρ.t 5) xs l):
  Calls P (ρ.f 170) #[.pointer (some ⟨b,0,none⟩)] w λe w' =>e= .returned (.int .i64 xs.length)/\w' =w:=by
 obtain⟨ao,cap,rfl⟩:∃ao cap,v= .slice ao xs.length cap:=by
  cases l with
  |nil=>have h:xs=[]:=hr;subst h;exact⟨_,_,hv⟩|st _=>cases hr|mp _=>cases hr|arr g off len cap sz=>obtain⟨_,_,rfl,_⟩:=hr;exact⟨_,_,hv⟩
 have c1:w.cell? ⟨b,1,none⟩=some (.slice ao xs.length cap):=by rw[Lib.cell_of_heap hb];rfl
 have mixed:=L.mixed;have t72:=L.t72;have a72:=L.a72;have z72:=L.z72;have v72:=L.v72;have u72:=run_underlying L.t72;have t70:=L.t70;have a70:=L.a70;have z70:=L.z70;have v70:=L.v70;have u70:=run_underlying L.t70;have t37:=L.t37;have a37:=L.a37;have z37:=L.z37;have v37:=L.v37;have u37:=run_underlying L.t37;have t3:=L.t3;have a3:=L.a3;have z3:=L.z3;have v3:=L.v3;have u3:=run_underlying L.t3
 go_enter L.f170,Body.n170_ntmps ρ
 go_wp2
 go_ret
 exact⟨rfl,rfl⟩
set_option maxHeartbeats 2000000 in
set_option maxRecDepth 100000 in
theorem a1H(L:Lays.n169 P ρ)(X:Builder.Extra P ρ){b:Nat}{p v:Value}(hb:w.heap[b]? =some (.cells #[p,v] (ρ.t 72) (0,0)))
  (hv:l.view none v) (hr:uN w.heap (ρ.t 5) xs l) (hlen:xs.length<=140737488355328) (hnb:b∉l.blks):
  Calls P (ρ.f 169) #[.pointer (some ⟨b,0,none⟩)] w λe w' =>e= .returned (.string ⟨xs.toArray⟩)/\w'.heap[b]? =some (.cells #[p,v] (ρ.t 72) (0,0))/\uN w'.heap (ρ.t 5) xs l/\OthB w w' l.blks:=by
 have mixed:=L.mixed;have t72:=L.t72;have a72:=L.a72;have z72:=L.z72;have v72:=L.v72;have u72:=run_underlying L.t72;have t70:=L.t70;have a70:=L.a70;have z70:=L.z70;have v70:=L.v70;have u70:=run_underlying L.t70;have t37:=L.t37;have a37:=L.a37;have z37:=L.z37;have v37:=L.v37;have u37:=run_underlying L.t37;have t127:=L.t127;have a127:=L.a127;have z127:=L.z127;have v127:=L.v127;have u127:=run_underlying L.t127;have t3:=L.t3;have a3:=L.a3;have z3:=L.z3;have v3:=L.v3;have u3:=run_underlying L.t3;have t9:=L.t9;have a9:=L.a9;have z9:=L.z9;have v9:=L.v9;have u9:=run_underlying L.t9;have t5:=X.t5;have a5:=X.a5;have z5:=X.z5;have v5:=X.v5;have u5:=run_underlying X.t5;have hlt:b<w.heap.size:=(G9.1 hb).1;have c1:w.drew.cell? ⟨b,1,none⟩=some v:=by have:w.drew.heap[b]? =some (.cells #[p,v] (ρ.t 72) (0,0)):=hb;rw[Lib.cell_of_heap this];rfl
 have hdrew:OthB w w.drew l.blks:=⟨rfl,rfl,rfl,D7 _,λ_ _ _=>rfl⟩;cases l with
 |st _=>cases hr|mp _=>cases hr|nil=>
  have hx:xs=[]:=hr;subst hx;have hv:v= .slice none 0 0:=hv;subst hv;have hUS:=Any.unsafeString_none L X;have hSD:(Builtin.unsafeSliceData_ #[(ρ.t 37)] (ρ.t 127) #[.slice none 0 0]).run P w.drew= .ok (.pointer none) w.drew:=rfl
  go_enter L.f169,Body.n169_ntmps ρ
  go_wp2
  go_region_o
  all_goals (go_wp2;go_ret;exact⟨rfl,hb,rfl,hdrew⟩)
 |arr g off len cap sz=>
  have hr0:=hr;obtain⟨rfl,rfl,rfl,hc,hcm,cur,fz,hg,hfz,hcs,htk⟩:=hr;have hv:v= .slice (some ⟨g,0,none⟩) xs.length cap:=hv;subst hv;have hgd:w.drew.heap[g]? =some (.cells cur (ρ.t 5) fz):=hg;by_cases hx0:xs=[]
  .subst hx0;have hUS:=Any.unsafeString_none L X;by_cases hc0:cap=0
   .subst hc0;have hSD:(Builtin.unsafeSliceData_ #[(ρ.t 37)] (ρ.t 127) #[.slice (some ⟨g,0,none⟩) 0 0]).run P w.drew= .ok (.pointer (some ⟨w.drew.heap.size,0,none⟩)) (w.drew.alloc (.view ⟨g,0,none⟩ (ρ.t 5))):=
     Lib.run_unsafeSliceData_zero w.drew _ _ (ρ.t 5) L.t127 ⟨g,0,none⟩ 0 ((ρ.t 5),cur.size) (by simp[World.shape?,hgd])
    have hal:(w.drew.alloc (.view ⟨g,0,none⟩ (ρ.t 5))).heap[b]? =some (.cells #[p,.slice (some ⟨g,0,none⟩) 0 0] (ρ.t 72) (0,0)):=(heap_alloc_old w.drew _ hlt).trans hb;have c2:(w.drew.alloc (.view ⟨g,0,none⟩ (ρ.t 5))).cell? ⟨b,1,none⟩=some (.slice (some ⟨g,0,none⟩) 0 0):=by rw[Lib.cell_of_heap hal];rfl
    have c3:(w.alloc (.view ⟨g,0,none⟩ (ρ.t 5))).drew.cell? ⟨b,1,none⟩=some (.slice (some ⟨g,0,none⟩) 0 0):=c2;have c0:w.cell? ⟨b,1,none⟩=some (.slice (some ⟨g,0,none⟩) 0 0):=c1;have hglt:g<w.heap.size:=(G9.1 hg).1;have fin:∀w',w' =w.drew.alloc (.view ⟨g,0,none⟩ (ρ.t 5))->w'.heap[b]? =some (.cells #[p,.slice (some ⟨g,0,none⟩) 0 0] (ρ.t 72) (0,0))/\uN w'.heap (ρ.t 5) [] (.arr g 0 0 0 1)/\OthB w w' [g]:=λw' e=>by subst e;exact⟨hal,xQ (λk hk=>by simp[Loc.blks]at hk;subst hk;exact heap_alloc_old w.drew _ hglt) hr0,⟨rfl,rfl,rfl,D5,λk hk _=>heap_alloc_old w.drew _ hk⟩⟩
    go_enter L.f169,Body.n169_ntmps ρ
    go_wp2
    go_region_o
    all_goals (go_wp2;go_ret;exact⟨rfl,fin _ rfl⟩)
   .have hSD:(Builtin.unsafeSliceData_ #[(ρ.t 37)] (ρ.t 127) #[.slice (some ⟨g,0,none⟩) 0 cap]).run P w.drew= .ok (.pointer (some ⟨g,0,none⟩)) w.drew:=
     Lib.run_unsafeSliceData_row _ _ _ _ _ _ hc0
    clear hc0
    go_enter L.f169,Body.n169_ntmps ρ
    go_wp2
    go_region_o
    all_goals (go_wp2;go_ret;exact⟨rfl,hb,hr0,hdrew⟩)
  .have hl0:xs.length≠0:=by simpa using hx0
   have hSD:(Builtin.unsafeSliceData_ #[(ρ.t 37)] (ρ.t 127) #[.slice (some ⟨g,0,none⟩) xs.length cap]).run P w.drew= .ok (.pointer (some ⟨g,0,none⟩)) w.drew:=
    Lib.run_unsafeSliceData_row _ _ _ _ _ _ o5
   have hown:w.ownsRowF 0 (ρ.t 5) 1 (.slice (some ⟨g,0,none⟩) xs.length cap) xs.length (xs.map λc=>Value.int .u8 (c.toNat:Int)):=⟨D5,.inr ⟨g,cap,cur,fz,rfl,cO _,hg,o5,hc,hcm,o5,by rw[bD];exact htk⟩⟩;have hUS:(Builtin.unsafeString_ #[(ρ.t 127),(ρ.t 3)] (ρ.t 9) #[.pointer (some ⟨g,0,none⟩),.int .i64 xs.length]).run P w.drew= .ok (.string ⟨xs.toArray⟩) (w.drew.freeze ⟨g,0,none⟩ xs.length):=by refine Lib.run_unsafeString_row w.drew (ρ.t 127) (ρ.t 3) (ρ.t 9) (ρ.t 5) L.t127 X.cellsByte g cur.size (by simp[World.shape?,hgd]) xs hx0 o5 (by unfold maxLen at hcm;omega) ?_;intro j x hx;exact hown.cells (g:=g) rfl j (.int .u8 x.toNat) (by simp[hx])
   have hA:Lib.BuilderAtF (ρ.t 72) (ρ.t 5) 0 b p (Lib.byteCells xs) w.drew:=⟨cO _,_,hb,by rw[Lib.byteCells_length];exact hown,λe=>hnb (by simp[Loc.blks];simpa[Value.ownBlock]using e.symm)⟩;have hF:=hA.froze (g:=g) (cap:=cap) (by rw[Lib.byteCells_length];exact c1);rw[Lib.byteCells_length]at hF;have hgb:b≠g:=λe=>hnb (by simp[Loc.blks,e]);have fin:∀w',w' =w.drew.freeze ⟨g,0,none⟩ xs.length->w'.heap[b]? =some (.cells #[p,.slice (some ⟨g,0,none⟩) xs.length cap] (ρ.t 72) (0,0))/\uN w'.heap (ρ.t 5) xs (.arr g 0 xs.length cap 1)/\OthB w w' [g]:=λw' e=>by
    subst e;obtain⟨_,v2,hb2,ho2,_⟩:=hF;have ho:∀k,k≠g->(w.drew.freeze ⟨g,0,none⟩ xs.length).heap[k]? =w.heap[k]?:=λk hk=>by
     unfold World.freeze;split
     .rfl
     .simp only[qX];rw[if_neg (λe=>hk e.symm)];rfl
    have hbb:=ho b hgb;rw[hb2,hb]at hbb;simp only[G8,Obj.cells.injEq,and_true,Array.mk.injEq,I7,true_and]at hbb;have hv2:v2= .slice (some ⟨g,0,none⟩) xs.length cap:=by simpa using hbb
    subst hv2;refine⟨hb2,?_,⟨by unfold World.freeze;split<;>rfl,by unfold World.freeze;split<;>rfl,by unfold World.freeze;split<;>rfl,?_,λk _ hk=>ho k (by simpa using hk)⟩⟩
    .rw[Lib.byteCells_length]at ho2;rcases ho2.2 with⟨h,_⟩|⟨g',cap',cur',fz',e,_,h1,h2,h3,h4,h5,h6⟩
     .cases h
     .simp only[qC,G8,iM,and_true]at e;obtain⟨rfl,_,rfl⟩:=e;exact⟨rfl,rfl,rfl,h3,h4,cur',fz',h1,o5,o5,by rw[bD]at h6;exact h6⟩
    .unfold World.freeze;split<;>simp
   go_enter L.f169,Body.n169_ntmps ρ
   go_wp2
   go_region_o
   all_goals (go_wp2;go_ret;exact⟨rfl,fin _ rfl⟩)
def zD(x ys:c6F):Option (Int×Unit×c6F):=if x.length+ys.length<=1073741824 then some (ys.length,(),x++ys)else none
def Hl(x:c6F):Option (Int×c6F):=some (x.length,x)
def xf(x:c6F):Option (c6F×c6F):=if x.length<=1073741824 then some (x,x)else none
theorem a1K{gl:List (Nat×(t:Ty)×List t.den)}(L:Lays.n170 P ρ):
  dD P gl (ρ.f 170) ⟨[(false,.sbx (ρ.t 72) (ρ.t 5))],[(false,.dat (.int .i64))],[(false,.sbx (ρ.t 72) (ρ.t 5))],λx=>Hl x⟩:=by
 intro w ok O vals xs r hok hO hO2 hgl hrel hdv hF;have hF:some ((xs.length:Int),xs)=some r:=hF;cases hF;obtain⟨v0,cs0,rfl,hg,h1⟩:=hrel;have hg:cs0=[v0]:=hg;subst hg;obtain⟨b,a,v,l,e,hb,ha,hv,hr,rfl⟩:=h1;simp only[I7,and_true]at e;subst e;refine(b1q L hb hv hr).mono ?_;rintro e w' ⟨rfl,rfl⟩;refine⟨_,ok,b::l.blks,[.int .i64 xs.length],[.pointer (some ⟨b,0,none⟩)],[],rfl,Frame'.refl _ _,λ_ _ h=>h,λk t hk=>⟨hok k t hk,.inl hk⟩,by simpa using hO,λk hk=>?_,⟨rfl,rfl⟩,⟨_,rfl,rfl,rfl⟩,?_⟩
 .rw[G7]at hk;exact⟨(hO2 k hk).1,(hO2 k hk).2,.inr hk⟩
 .refine⟨.int .i64 xs.length,[.int .i64 xs.length],[.pointer (some ⟨b,0,none⟩)],[],b::l.blks,rfl,rfl,rfl,⟨rfl,rfl⟩,?_⟩;exact⟨_,_,rfl,rfl,⟨b,a,v,l,rfl,hb,ha,hv,hr,rfl⟩⟩
theorem WQ{gl:List (Nat×(t:Ty)×List t.den)}(L:Lays.n169 P ρ)(X:Builder.Extra P ρ):
  dD P gl (ρ.f 169) ⟨[(false,.sbx (ρ.t 72) (ρ.t 5))],[(false,.dat .str)],[(false,.sbx (ρ.t 72) (ρ.t 5))],λx=>xf x⟩:=by
 intro w ok O vals xs r hok hO hO2 hgl hrel hdv hF;have hF:xf xs=some r:=hF;unfold xf at hF;split at hF
 case isFalse=>cases hF
 rename_i hmax;cases hF;obtain⟨v0,cs0,rfl,hg,h1⟩:=hrel;have hg:cs0=[v0]:=hg;subst hg;obtain⟨b,a,v,l,e,hb,ha,hv,hr,rfl⟩:=h1;simp only[I7,and_true]at e;subst e;have hnd:(b::l.blks).Nodup:=by simpa using hO
 refine(a1H L X hb hv hr o5 (X0.1 hnd).1).mono ?_;rintro e w' ⟨rfl,hb',hr',ho⟩;refine⟨_,ok,b::l.blks,[.string ⟨xs.toArray⟩],[.pointer (some ⟨b,0,none⟩)],[],rfl,⟨ho.os,ho.tape,ho.output,ho.size,λk hk hn=>ho.block k hk (λh=>hn (by simp[h]))⟩,λ_ _ h=>h,λk t hk=>⟨dC (hok k t hk) ho.size,.inl hk⟩,by simpa using hO,λk hk=>?_,⟨rfl,rfl⟩,⟨_,rfl,rfl,rfl⟩,?_⟩
 .rw[G7]at hk;exact⟨(hO2 k hk).1,dC (hO2 k hk).2 ho.size,.inr hk⟩
 .refine⟨.string ⟨xs.toArray⟩,[.string ⟨xs.toArray⟩],[.pointer (some ⟨b,0,none⟩)],[],b::l.blks,rfl,rfl,rfl,⟨rfl,rfl⟩,?_⟩;exact⟨_,_,rfl,rfl,⟨b,a,v,l,rfl,hb',ha,hv,hr',rfl⟩⟩
end Go.GP
namespace Go.GP
open Go.ChangeShapes Go.WideShapes Go.RowKit
def yP(s p:c6F):c6J:=some (Lib.hasPrefix s p)
def Gy(s:c6F)(c:Int):c6K:=some (Lib.indexByte s c.toNat.toUInt8)
def NP(s:c6F):Bool:=s.all λb=>Nat.blt b.toNat 128
def xX(s c:c6F):c6K:=bif Nat.blt s.length 4294967281&&Nat.blt c.length 4294967281&&NP s&&NP c then some (Lib.indexAny s c)else none
theorem b0R{h:Array Obj}{ok:Nat->Ty->Prop}{vals:c6H}{O:c6I}{x:c6F×c6F}(hrel:mg h ok [(false,.dat .str),(false,.dat .str)] x vals O):vals=[.string ⟨x.1.toArray⟩,.string ⟨x.2.toArray⟩]/\O=[]:=by obtain⟨v,cs,vs',O1,O2,rfl,rfl,h1,⟨h2,rfl⟩,v2,cs2,rfl,h3,h4,rfl⟩:=hrel;have h1:cs=[v]:=h1;subst h1;have h3:cs2=[v2]:=h3;subst h3;have h2:[v]=[.string ⟨x.1.toArray⟩]:=h2;have h4:[v2]=[.string ⟨x.2.toArray⟩]:=h4;obtain rfl:=(U8 h2).1;obtain rfl:=(U8 h4).1;exact⟨rfl,rfl⟩
variable {P:Program}{f:Nat}
theorem TB{gl:List (Nat×(t:Ty)×List t.den)}
  (hC:∀(s p:ByteArray) (w:World),Calls P f #[.string s,.string p] w λe w' =>e= .returned (.bool (Lib.hasPrefix s.data.toList p.data.toList))/\w' =w):
  dD P gl f ⟨[(false,.dat .str),(false,.dat .str)],[(false,.dat .bool)],[],λx=>yP x.1 x.2⟩:=by
 intro w ok O vals x r hlt _ _ _ hrel hdv hfn;obtain⟨rfl,rfl⟩:=b0R hrel;cases hfn;refine(hC ⟨x.1.toArray⟩ ⟨x.2.toArray⟩ w).mono λe w' ⟨he,hw⟩=>?_;subst he;subst hw;exact ER (P:=P) (t:=.bool) (x:=Lib.hasPrefix x.1 x.2) (ps:=[(false,.dat .str),(false,.dat .str)]) (vals:=[_,_]) ⟨rfl,rfl,rfl,D7 _,λ_ _=>rfl⟩ hlt ⟨rfl,rfl⟩ rfl
theorem TE{gl:List (Nat×(t:Ty)×List t.den)}
  (hC:∀(s:ByteArray) (c:Int) (w:World),Calls P f #[.string s,.int .u8 c] w λe w' =>e= .returned (.int .i64 (Lib.indexByte s.data.toList c.toNat.toUInt8))/\w' =w):
  dD P gl f ⟨[(false,.dat .str),(false,.dat (.int .u8))],[(false,.dat (.int .i64))],[],λx=>Gy x.1 x.2⟩:=by
 intro w ok O vals x r hlt _ _ _ hrel hdv hfn;obtain⟨v,cs,vs',O1,O2,rfl,rfl,h1,⟨h2,rfl⟩,v2,cs2,rfl,h3,h4,rfl⟩:=hrel;have h1:cs=[v]:=h1;subst h1;have h3:cs2=[v2]:=h3;subst h3;have h2:[v]=[.string ⟨x.1.toArray⟩]:=h2;have h4:[v2]=[.int .u8 x.2]:=h4;obtain rfl:=(U8 h2).1;obtain rfl:=(U8 h4).1;cases hfn;refine(hC ⟨x.1.toArray⟩ x.2 w).mono λe w' ⟨he,hw⟩=>?_;subst he;subst hw;exact ER (P:=P) (t:=.int .i64) (x:=Lib.indexByte x.1 x.2.toNat.toUInt8) (ps:=[(false,.dat .str),(false,.dat (.int .u8))]) (vals:=[_,_]) ⟨rfl,rfl,rfl,D7 _,λ_ _=>rfl⟩ hlt ⟨rfl,rfl⟩ rfl
theorem RH{s:c6F}(h:NP s=true):∀(j:Nat) b,s[j]? =some b->b.toNat<128:=λj b hb=>by have:=kN.1 h b (yu hb);rwa[Z5]at this
theorem Vp{gl:List (Nat×(t:Ty)×List t.den)}
  (hC:∀(s c:ByteArray) (w:World),s.size<4294967281->c.size<4294967281->(∀(j:Nat) b,s.data.toList[j]? =some b->b.toNat<128)->(∀(j:Nat) b,c.data.toList[j]? =some b->b.toNat<128)->
   Calls P f #[.string s,.string c] w λe w' =>e= .returned (.int .i64 (Lib.indexAny s.data.toList c.data.toList))/\Below w.heap.size w w'):
  dD P gl f ⟨[(false,.dat .str),(false,.dat .str)],[(false,.dat (.int .i64))],[],λx=>xX x.1 x.2⟩:=by
 intro w ok O vals x r hlt _ _ _ hrel hdv hfn;obtain⟨rfl,rfl⟩:=b0R hrel;simp only[xX]at hfn;cases hc:(Nat.blt x.1.length 4294967281&&Nat.blt x.2.length 4294967281&&NP x.1&&NP x.2)
 .rw[hc]at hfn;cases hfn
 .rw[hc]at hfn;cases hfn;simp only[D6,Z5]at hc;obtain⟨⟨⟨h1,h2⟩,h3⟩,h4⟩:=hc;refine(hC ⟨x.1.toArray⟩ ⟨x.2.toArray⟩ w (by simpa[ByteArray.size]using h1) (by simpa[ByteArray.size]using h2) (RH h3) (RH h4)).mono λe w' ⟨he,hw⟩=>?_;subst he;exact ER (P:=P) (t:=.int .i64) (x:=Lib.indexAny x.1 x.2) (ps:=[(false,.dat .str),(false,.dat .str)]) (vals:=[_,_]) hw hlt ⟨rfl,rfl⟩ rfl
end Go.GP
namespace Go.GP
open Go.Shelf Go.RowKit Go.Proofs
structure Lw (P:Program) (ρ:Ren):Prop where
 mixed:P.follows Departure.mixedOrders=true
 f166:P.funcs[ρ.f 166]? =some (Body.n166 ρ)
 t72:P.underlying (ρ.t 72)=some (.struct #[{ name:= "addr",type:=ρ.t 70,offset:=0,embedded:=false,tag:= "",pkgPath:= "strings",byteOffset:=0 },{ name:= "buf",type:=ρ.t 37,offset:=1,embedded:=false,tag:= "",pkgPath:= "strings",byteOffset:=8 }])
 a72:∀w:World,(isAgg (ρ.t 72)).run P w= .ok true w
 z72:∀w:World,(sizeOf (ρ.t 72)).run P w= .ok 2 w
 v72:∀w:World,(zeroValue (ρ.t 72)).run P w= .ok (.agg #[.pointer none,.slice none 0 0]) w
 t70:P.underlying (ρ.t 70)=some (.pointer (ρ.t 72))
 a70:∀w:World,(isAgg (ρ.t 70)).run P w= .ok false w
 z70:∀w:World,(sizeOf (ρ.t 70)).run P w= .ok 1 w
 v70:∀w:World,(zeroValue (ρ.t 70)).run P w= .ok (.pointer none) w
 t37:P.underlying (ρ.t 37)=some (.slice (ρ.t 5))
 a37:∀w:World,(isAgg (ρ.t 37)).run P w= .ok false w
 z37:∀w:World,(sizeOf (ρ.t 37)).run P w= .ok 1 w
 v37:∀w:World,(zeroValue (ρ.t 37)).run P w= .ok (.slice none 0 0) w
 t3:P.underlying (ρ.t 3)=some (.int .i64)
 a3:∀w:World,(isAgg (ρ.t 3)).run P w= .ok false w
 z3:∀w:World,(sizeOf (ρ.t 3)).run P w= .ok 1 w
 v3:∀w:World,(zeroValue (ρ.t 3)).run P w= .ok (.int .i64 0) w
 t9:P.underlying (ρ.t 9)=some (.string)
 a9:∀w:World,(isAgg (ρ.t 9)).run P w= .ok false w
 z9:∀w:World,(sizeOf (ρ.t 9)).run P w= .ok 1 w
 v9:∀w:World,(zeroValue (ρ.t 9)).run P w= .ok (.string ⟨#[]⟩) w
 t4:P.underlying (ρ.t 4)=some (.bool)
 a4:∀w:World,(isAgg (ρ.t 4)).run P w= .ok false w
 z4:∀w:World,(sizeOf (ρ.t 4)).run P w= .ok 1 w
 v4:∀w:World,(zeroValue (ρ.t 4)).run P w= .ok (.bool false) w
 t164:P.underlying (ρ.t 164)=some (.unsafePointer)
 a164:∀w:World,(isAgg (ρ.t 164)).run P w= .ok false w
 z164:∀w:World,(sizeOf (ρ.t 164)).run P w= .ok 1 w
 v164:∀w:World,(zeroValue (ρ.t 164)).run P w= .ok (.pointer none) w
 e240:∀args w,(callFunc (ρ.f 240) args).run P w= .ok (.enter (ρ.f 240) args) w
 used:∀(b:Nat) (w:World),w.cell? ⟨b,0,none⟩=some (.pointer (some ⟨b,0,none⟩))->Calls P (ρ.f 240) #[.pointer (some ⟨b,0,none⟩)] w λe w' =>e= .returned (.tuple #[])/\w' =w
 fresh:∀(b:Nat) (w:World),w.cell? ⟨b,0,none⟩=some (.pointer none)->w.shape? b=some (ρ.t 72,2)->w.frozen? ⟨b,0,none⟩=false->Calls P (ρ.f 240) #[.pointer (some ⟨b,0,none⟩)] w λe w' =>e= .returned (.tuple #[])/\w' =w.setCell ⟨b,0,none⟩ (.pointer (some ⟨b,0,none⟩))
variable {P:Program} {ρ:Ren}
theorem Lw.check(L:Lw P ρ){b:Nat}{w:World}{a v:Value}(hb:w.heap[b]? =some (.cells #[a,v] (ρ.t 72) (0,0)))(ha:a= .pointer none\/a= .pointer (some ⟨b,0,none⟩)):
  Calls P (ρ.f 240) #[.pointer (some ⟨b,0,none⟩)] w λe w' =>e= .returned (.tuple #[])/\w'.heap[b]? =some (.cells #[.pointer (some ⟨b,0,none⟩),v] (ρ.t 72) (0,0))/\w'.heap.size=w.heap.size/\OthB w w' [b]:=by
 have c0:w.cell? ⟨b,0,none⟩=some a:=by rw[Lib.cell_of_heap hb];rfl
 rcases ha with rfl|rfl
 .refine(L.fresh b w c0 (by simp[World.shape?,hb]) (Lib.frozen_of_heap hb 0)).mono ?_;rintro e w' ⟨rfl,rfl⟩;refine⟨rfl,?_,by simp[World.setCell],⟨rfl,rfl,rfl,by simp[World.setCell],λk _ hk=>Below.heap_setCell _ _ _ _ (λe=>hk (by simp[e]))⟩⟩;rw[setCell_eq_setRow w b 0 _ _ _ _ hb];exact setRow_heap w b _ _ _ _ hb
 .refine(L.used b w c0).mono ?_;rintro e w' ⟨rfl,rfl⟩;exact⟨rfl,hb,rfl,⟨rfl,rfl,rfl,D7 _,λ_ _ _=>rfl⟩⟩
set_option maxHeartbeats 2000000 in
set_option maxRecDepth 100000 in
theorem a1J(L:Lw P ρ)(X:Builder.Extra P ρ){b:Nat}{w:World}{a v:Value}{l:Loc}{xs ys:c6F}(hb:w.heap[b]? =some (.cells #[a,v] (ρ.t 72) (0,0)))(ha:a= .pointer none\/a= .pointer (some ⟨b,0,none⟩))
  (hv:l.view none v) (hr:uN w.heap (ρ.t 5) xs l) (hlen:xs.length+ys.length<=140737488355328) (hnb:b∉l.blks):
  Calls P (ρ.f 166) #[.pointer (some ⟨b,0,none⟩),.string ⟨ys.toArray⟩] w λe w' =>e= .returned (.tuple #[.int .i64 ys.length,.nilIface])/\
   ∃v' l',w'.heap[b]? =some (.cells #[.pointer (some ⟨b,0,none⟩),v'] (ρ.t 72) (0,0))/\l'.view none v' /\uN w'.heap (ρ.t 5) (xs++ys) l' /\b∉l'.blks/\(∀k∈l'.blks,k∈l.blks\/w.heap.size<=k)/\OthB w w' (b::l.blks):=by
 obtain⟨i0,hi,hz0,hz1,hz2⟩:=info_parts X.infoByte;have mixed:=L.mixed;have t72:=L.t72;have a72:=L.a72;have z72:=L.z72;have v72:=L.v72;have u72:=run_underlying L.t72;have t70:=L.t70;have a70:=L.a70;have z70:=L.z70;have v70:=L.v70;have u70:=run_underlying L.t70;have t37:=L.t37;have a37:=L.a37;have z37:=L.z37;have v37:=L.v37;have u37:=run_underlying L.t37;have t3:=L.t3;have a3:=L.a3;have z3:=L.z3;have v3:=L.v3;have u3:=run_underlying L.t3;have t9:=L.t9;have a9:=L.a9;have z9:=L.z9;have v9:=L.v9;have u9:=run_underlying L.t9;have t4:=L.t4;have a4:=L.a4;have z4:=L.z4;have v4:=L.v4;have u4:=run_underlying L.t4;have t164:=L.t164;have a164:=L.a164;have z164:=L.z164;have v164:=L.v164;have u164:=run_underlying L.t164;have t5:=X.t5;have a5:=X.a5;have z5:=X.z5;have v5:=X.v5;have u5:=run_underlying X.t5;have e240:=L.e240;have hlt:b<w.heap.size:=(G9.1 hb).1
 go_enter L.f166,Body.n166_ntmps ρ
 go_wp2_with (go_at_fn (ρ.f 240);refine(L.check hb ha).mono ?_)
 rintro e w1 ⟨rfl,hb1,hs1,ho1⟩;have c0:w1.cell? ⟨b,0,none⟩=some (.pointer (some ⟨b,0,none⟩)):=by rw[Lib.cell_of_heap hb1];rfl
 have c1:w1.cell? ⟨b,1,none⟩=some v:=by rw[Lib.cell_of_heap hb1];rfl
 have hr1:uN w1.heap (ρ.t 5) xs l:=xQ (λk hk=>ho1.block k (VZ hr k hk) (λe=>hnb (by simp at e;rw[←e];exact hk))) hr
 go_wp2_with (at_builtin;refine a1I rfl _ _ (ρ.t 37) (ρ.t 9) rfl L.t37 L.t9 hi hz0 hz1 hz2 rfl rfl hv hr1 hlen ?_)
 intro v' w2 l' hv' hr' hbl ho2;have hb2:w2.heap[b]? =some (.cells #[.pointer (some ⟨b,0,none⟩),v] (ρ.t 72) (0,0)):=by rw[ho2.block b o5 hnb];exact hb1
 have d0:w2.cell? ⟨b,0,none⟩=some (.pointer (some ⟨b,0,none⟩)):=by rw[Lib.cell_of_heap hb2];rfl
 have d1:w2.cell? ⟨b,1,none⟩=some v:=by rw[Lib.cell_of_heap hb2];rfl
 have f1:w2.frozen? ⟨b,1,none⟩=false:=Lib.frozen_of_heap hb2 1;have hnb' :b∉l'.blks:=λh=>(hbl b h).elim hnb (λh=>by omega);have hone:=kU hv';obtain⟨ao,n',cap,rfl⟩:∃ao n' cap,v' = .slice ao n' cap:=by
  cases l' with
  |nil=>exact⟨_,_,_,hv'⟩|st _=>cases hr'|mp _=>cases hr'|arr g off len cap sz=>exact⟨_,_,_,hv'⟩
 go_wp2
 go_ret2
 refine⟨by simp[ByteArray.size],_,l',?_,hv',xQ (λk hk=>Below.heap_setCell _ _ _ _ (λe=>hnb' (by have e:k=b:=e;rw[←e];exact hk))) hr',hnb',λk hk=>(hbl k hk).elim .inl (λh=> .inr o5),?_⟩
 .rw[setCell_eq_setRow w2 b 1 _ _ _ _ hb2];exact setRow_heap w2 b _ _ _ _ hb2
 .refine⟨ho2.os.trans ho1.os,ho2.tape.trans ho1.tape,ho2.output.trans ho1.output,?_,λk hk hn=>?_⟩
  .have:=ho2.size;simp[World.setCell];omega
  .simp only[D8,not_or]at hn;rw[Below.heap_setCell _ _ _ _ (λe=>hn.1 e),ho2.block k o5 hn.2,ho1.block k hk (by simpa using hn.1)]
theorem WR{gl:List (Nat×(t:Ty)×List t.den)}(L:Lw P ρ)(X:Builder.Extra P ρ):
  dD P gl (ρ.f 166) ⟨[(false,.sbx (ρ.t 72) (ρ.t 5)),(false,.dat .str)],[(false,.dat (.int .i64)),(false,.cell none)],[(false,.sbx (ρ.t 72) (ρ.t 5))],λx=>zD x.1 x.2⟩:=by
 intro w ok O vals x r hok hO hO2 hgl hrel hdv hF;obtain⟨xs,ys⟩:=x;have hF:zD xs ys=some r:=hF;unfold zD at hF;split at hF
 case isFalse=>cases hF
 rename_i hmax;cases hF;obtain⟨v0,cs0,vs',O1,O2,rfl,rfl,hg,h1,hrest⟩:=hrel;obtain⟨v1,cs1,rfl,hg1,h2,rfl⟩:=hrest;have hg:cs0=[v0]:=hg;have hg1:cs1=[v1]:=hg1;subst hg;subst hg1;have h2:[v1]=[Value.string ⟨ys.toArray⟩]:=h2;simp only[I7,and_true]at h2;subst h2;obtain⟨b,a,v,l,e,hb,ha,hv,hr,rfl⟩:=h1;simp only[I7,and_true]at e;subst e;have hnd:(b::l.blks).Nodup:=by simpa using hO
 have hnb:=(X0.1 hnd).1;refine(a1J L X hb ha hv hr (show xs.length+ys.length<=140737488355328 by omega) hnb).mono ?_;rintro e w' ⟨rfl,v',l',hb',hv',hr',hnb',hbl,ho⟩;have hlt:b<w.heap.size:=(G9.1 hb).1;have hlt' :b<w'.heap.size:=(G9.1 hb').1;have hnd' :(b::l'.blks).Nodup:=X0.2 ⟨hnb',Loc.blks_nodup l'⟩;refine⟨_,ok,b::l'.blks,[.int .i64 ys.length,.nilIface],[.pointer (some ⟨b,0,none⟩)],[],rfl,⟨ho.os,ho.tape,ho.output,ho.size,λk hk hn=>ho.block k hk (by simpa using hn)⟩,λ_ _ h=>h,λk t hk=>⟨dC (hok k t hk) ho.size,.inl hk⟩,by simpa using hnd',?_,⟨rfl,rfl⟩,⟨_,rfl,rfl,rfl⟩,?_⟩
 .intro k hk;rw[G7]at hk;rcases D8.1 hk with rfl|hk
  .exact⟨(hO2 k D5).1,hlt',.inr D5⟩
  .refine⟨λt hkt=>?_,VZ hr' k hk,?_⟩
   .rcases hbl k hk with h|h
    .exact(hO2 k (by simp[h])).1 t hkt
    .have:=hok k t hkt;omega
   .rcases hbl k hk with h|h
    .exact .inr (by simp[h])
    .exact .inl h
 .refine⟨.int .i64 ys.length,[.int .i64 ys.length],[.nilIface,.pointer (some ⟨b,0,none⟩)],[],b::l'.blks,rfl,rfl,rfl,⟨rfl,rfl⟩,?_⟩;refine⟨.nilIface,[.nilIface],[.pointer (some ⟨b,0,none⟩)],[],b::l'.blks,rfl,rfl,rfl,⟨_,rfl,rfl,(λh=>nomatch h),(λ_ h=>nomatch h),rfl⟩,?_⟩;exact⟨_,_,rfl,rfl,⟨b,_,v',l',rfl,hb',.inr rfl,hv',hr',rfl⟩⟩
end Go.GP
namespace Go.GP
open Go.ChangeShapes Go.WideShapes Go.RowKit
def zf(s c:c6F):Option (c6F×c6F×Bool):=if s.length<4294967281 then some (Lib.cut s c)else none
variable {g:Nat}
theorem a7r{h:Array Obj}{ok:Nat->Ty->Prop}{m:Mp}{k:IntKind}{n:Int}{T:TypeId}{f:Nat×Nat}(hok:ok g (.any (some k)))(hh:h[g]? =some (.cells #[.int k n] T f)):
  IE ⟨h,ok,m⟩ g (.any (some k)) [()]:=by
 refine⟨hok,⟨_,_,_,hh,rfl⟩,λi x hi=>?_⟩;cases i with
 |zero=>exact⟨[.int k n],jA hh 0 1 D5,.int k n,rfl,rfl,n,rfl⟩|succ i=>simp at hi
theorem XG{w:World}{ok:Nat->Ty->Prop}{m:Mp}{k:IntKind}(h:IE ⟨w.heap,ok,m⟩ g (.any (some k)) [()]):∃n,w.cell? ⟨g,0,none⟩=some (.int k n):=by
 obtain⟨_,_,h2⟩:=h;obtain⟨es,he,v,rfl,_,n,rfl⟩:=h2 0 () rfl;obtain⟨c,T,f,hb,hn,e⟩:=qO he;refine⟨n,?_⟩;have hn:1<=c.size:=by simpa[Ty.size]using hn
 have h0:c[0]? =some (.int k n):=by have:=congrArg (λl=>l[0]?) e;simp only[Nat.zero_mul,kw,Ty.size,iW,aU (show 0<1 by omega)]at this;rw[X4]at this;exact this.symm
 have hb:w.heap[g]? =some (.cells c T f):=hb;simp only[World.cell?,hb,nC,h0];rfl
theorem a5E{P:Program}{f g:Nat}{gl:List (Nat×(t:Ty)×List t.den)}
  (hC:∀(s sep:ByteArray) (m:Int) (w:World) (hs:s.size<4294967281) (hm:w.cell? ⟨g,0,none⟩=some (.int .i64 m)),
   Calls P f #[.string s,.string sep] w λe w' =>e= .returned (.tuple #[.string ⟨(Lib.cut s.data.toList sep.data.toList).1.toArray⟩,.string ⟨(Lib.cut s.data.toList sep.data.toList).2.1.toArray⟩,.bool (Lib.cut s.data.toList sep.data.toList).2.2])/\∃n,w' =w.drewN n)
  (hgl:dX gl g=some ⟨.any (some .i64),[()]⟩):
  dD P gl f ⟨[(false,.dat .str),(false,.dat .str)],[(false,.dat .str),(false,.dat .str),(false,.dat .bool)],[],λx=>zf x.1 x.2⟩:=by
 intro w ok O vals x r hlt hnd hO hgls hrel hdv hfn;obtain⟨rfl,rfl⟩:=b0R hrel;simp only[zf]at hfn;split at hfn
 .rename_i hl;cases hfn;obtain⟨m,hm⟩:=XG (hgls g _ hgl);refine(hC ⟨x.1.toArray⟩ ⟨x.2.toArray⟩ m w (by simpa[ByteArray.size]using hl) hm).mono λe w' ⟨he,n,hw⟩=>?_;subst he;subst hw;exact⟨_,ok,[],[.string ⟨(Lib.cut x.1 x.2).1.toArray⟩,.string ⟨(Lib.cut x.1 x.2).2.1.toArray⟩,.bool (Lib.cut x.1 x.2).2.2],[],[],rfl,⟨rfl,rfl,rfl,D7 _,λ_ _ _=>rfl⟩,λ_ _ h=>h,λb t h=>⟨hlt b t h,.inl h⟩,
   by simp,D5,⟨rfl,rfl⟩,⟨rfl,rfl⟩,_,_,_,[],[],rfl,rfl,rfl,⟨rfl,rfl⟩,_,_,_,[],[],rfl,rfl,rfl,⟨rfl,rfl⟩,_,_,rfl,rfl,rfl,rfl⟩
 .cases hfn
end Go.GP
namespace Go.GP
open Go.Shelf Go.RowKit Go.Proofs
variable {w:World}
theorem A_{P:Program}{t ty e:TypeId}{i:TypeInfo}(ht:P.underlying t=some (.slice e))(hi:P.info? e=some i)(hz:i.zero=some (.int .u8 0))
  (hsize:i.size=1) (hby:i.bytes=1) {v:Value} {l:Loc} {xs:c6F} {y:UInt8} (hv:l.view none v) (hr:uN w.heap e xs l) (hmax:xs.length+1<=140737488355328)
  {ad:Addr} (hx:w.cell? ad=some (.int .u8 (y.toNat:Int))):
  ∃v' w' l',(Builtin.append_ #[t,t] ty #[v,.slice (some ad) 1 1]).run P w= .ok v' w' /\l'.view none v' /\uN w'.heap e (xs++[y]) l' /\(∀b∈l'.blks,b∈l.blks\/w.heap.size<=b)/\OthB w w' l.blks:=by
 have hnews:∀j u,([Value.int .u8 (y.toNat:Int)])[j]? =some u->w.cell? (ad.add j)=some u:=by
  intro j u hj;match j,hj with
  |0,hj=>simp at hj;subst hj;obtain⟨a,b,c⟩:=ad;simpa[Addr.add]using hx
 have h1:∀u∈[Value.int .u8 (y.toNat:Int)],u.oneCell' =true:=by intro u hu;simp at hu;subst hu;rfl
 cases l with
 |st b=>cases hr|mp b=>cases hr|nil=>
  have hr:xs=[]:=hr;subst hr;have hv:v= .slice none 0 0:=hv;subst hv;obtain⟨v',w',r1,r2,r3,r4⟩:=run_append_ownF (P:=P) w w.heap.size t ty e i (.int .u8 0) 1 1 ht hi hz hsize hby rfl J8 (.slice none 0 0) 0 [] ⟨rfl,.inl ⟨rfl,rfl⟩⟩ ad 1 1 [.int .u8 (y.toNat:Int)] rfl hnews h1 (by unfold maxLen;omega) o5 (D7 _);rcases r2.2 with⟨_,h0⟩|⟨g,cap,cur,fz,rfl,hB,hg,hfz,hc,hcm,hcs,htk⟩
  .omega
  .refine⟨_,w',.arr g 0 1 cap 1,r1,by simp[Loc.view],⟨rfl,rfl,rfl,by simpa using hc,hcm,cur,fz,hg,by simpa using hfz,by simpa using hcs,by simpa using htk⟩,λb hb=> .inr (by simp[Loc.blks]at hb;subst hb;exact hB),⟨r3.os,r3.tape,r3.output,r3.size,λk hk _=>r3.block k hk (by simp[Value.ownBlock])⟩⟩
 |arr g off len cap sz=>
  obtain⟨rfl,rfl,rfl,hc,hcm,cur,fz,hg,hfz,hcs,htk⟩:=hr;have hv:v= .slice (some ⟨g,0,none⟩) xs.length cap:=hv;subst hv;by_cases hroom:xs.length+1<=cap
  .have hrun:=run_append_roomF (P:=P) w t ty e i ht hi g xs.length cap cur fz hg (by rw[hsize];omega) ad 1 1 [.int .u8 (y.toNat:Int)] (by rw[hsize];rfl) hnews h1 hroom (by rw[hsize];simp;omega);rw[hsize,bD]at hrun;refine⟨_,_,.arr g 0 (xs.length+1) cap 1,hrun,rfl,⟨rfl,rfl,D5,hroom,hcm,_,fz,setRow_heap w g cur _ e _ hg,o5,?_,?_⟩,λb hb=> .inl hb,⟨rfl,rfl,rfl,D5,λk _ hk=>setRow_other w g k _ (λe=>hk (by simp[Loc.blks,e]))⟩⟩
   .simp only[aK,I8,aX,aG,X8,F5,aB];omega
   .rw[htk];rw[show xs.length+1=((xs++[y]).map λc=>Value.int .u8 (c.toNat:Int)).length by simp];rw[gu];exact ed
  .have holds:∀(j:Nat) (u:Value),(xs.map λc=>Value.int .u8 (c.toNat:Int))[j]? =some u->w.cell? ((⟨g,0,none⟩:Addr).add j)=some u:=λj u hj=>by
    have ho:w.ownsRowF 0 e 1 (.slice (some ⟨g,0,none⟩) xs.length cap) xs.length (xs.map λc=>Value.int .u8 (c.toNat:Int)):=⟨D5,.inr ⟨g,cap,cur,fz,rfl,cO _,hg,o5,hc,hcm,o5,by rw[bD];exact htk⟩⟩;exact ho.cells (g:=g) rfl j u hj
   have hrun:=run_append_grow (P:=P) w t ty e i (.int .u8 0) ht hi hz ⟨g,0,none⟩ xs.length cap (xs.map λc=>Value.int .u8 (c.toNat:Int)) (by rw[hsize];simp) holds ad 1 1 [.int .u8 (y.toNat:Int)] (by rw[hsize];rfl) hnews o5 o5 (by rw[hby];exact growslice_fits o5 o5);have hge:=grownCap_ge w (xs.length+1) cap e;have hcm2:grownCap w (xs.length+1) cap e<=maxLen:=grownCap_le_maxLen w (xs.length+1) cap e (by unfold maxLen;omega);refine⟨_,_,.arr w.heap.size 0 (xs.length+1) _ 1,hrun,rfl,⟨rfl,rfl,D5,hge,hcm2,_,(0,0),heap_alloc_new w.drew _,cO _,?_,?_⟩,λb hb=> .inr (by simp[Loc.blks]at hb;omega),⟨rfl,rfl,rfl,D5,λk hk _=>heap_alloc_old w.drew _ hk⟩⟩
   .have hz1:(Value.int IntKind.u8 0).cells.size=1:=rfl;simp only[qx,aK,size_zeroCells,hz1,L8,F5,aB];omega
   .simp only[nZ,E8];rw[←E8];rw[show xs.length+1=((xs++[y]).map λc=>Value.int .u8 (c.toNat:Int)).length by simp];rw[show(xs.map λc=>Value.int .u8 (c.toNat:Int))++[.int .u8 (y.toNat:Int)]=(xs++[y]).map λc=>Value.int .u8 (c.toNat:Int) by simp];exact ed
theorem B_{P:Program}{ops:Array Oper}{rest:List Oper}{o:Oper}{a:Act}{Q:Exit->Act->World->Prop}{w:World}(hgd:o.guard=none)(sl x:Operand)(t:TypeId)
  (ho:o.op= .call { callee:=.builtin .append,args:=#[sl,x],argTypes:=#[t,t] }) {e:TypeId} {i:TypeInfo} (ht:P.underlying t=some (.slice e)) (hi:P.info? e=some i) (hz:i.zero=some (.int .u8 0))
  (hsize:i.size=1) (hby:i.bytes=1) {v:Value} {l:Loc} {xs:c6F} {y:UInt8} {ad:Addr} (hs:a.eval sl=v) (hx:a.eval x= .slice (some ad) 1 1) (hv:l.view none v) (hr:uN w.heap e xs l) (hmax:xs.length+1<=140737488355328)
  (hc:w.cell? ad=some (.int .u8 (y.toNat:Int)))
  (h:∀v' w' l',l'.view none v' ->uN w'.heap e (xs++[y]) l' ->(∀b∈l'.blks,b∈l.blks\/w.heap.size<=b)->OthB w w' l.blks->wpList P ops Q rest (a.put o.dst v') w'):wpList P ops Q (o::rest) a w:=by
 refine wpList_plain hgd λK hK=>?_;obtain⟨v',w',l',h1,h2,h3,h4,h5⟩:=A_ (ty:=o.type) ht hi hz hsize hby hv hr hmax hc;unfold Oper.wp execOp;simp only[ho,resolve,invoke,builtin,J5,Y9,L6,List.map_toArray,dG,lV,hs,hx,h1];exact hK _ _ (h v' w' l' h2 h3 h4 h5)
variable {P:Program} {ρ:Ren}
set_option maxHeartbeats 2000000 in
set_option maxRecDepth 100000 in
theorem a5C(L:Lw P ρ)(X:Builder.Extra P ρ)(f167:P.funcs[ρ.f 167]? =some (Body.n167 ρ)){b:Nat}{a v:Value}{l:Loc}{xs:c6F}{y:UInt8}(hb:w.heap[b]? =some (.cells #[a,v] (ρ.t 72) (0,0)))(ha:a= .pointer none\/a= .pointer (some ⟨b,0,none⟩))
  (hv:l.view none v) (hr:uN w.heap (ρ.t 5) xs l) (hlen:xs.length+1<=140737488355328) (hnb:b∉l.blks):
  Calls P (ρ.f 167) #[.pointer (some ⟨b,0,none⟩),.int .u8 (y.toNat:Int)] w λe w' =>e= .returned .nilIface/\
   ∃v' l',w'.heap[b]? =some (.cells #[.pointer (some ⟨b,0,none⟩),v'] (ρ.t 72) (0,0))/\l'.view none v' /\uN w'.heap (ρ.t 5) (xs++[y]) l' /\b∉l'.blks/\(∀k∈l'.blks,k∈l.blks\/w.heap.size<=k)/\OthB w w' (b::l.blks):=by
 obtain⟨i0,hi,hz0,hz1,hz2⟩:=info_parts X.infoByte;have mixed:=L.mixed;have t72:=L.t72;have a72:=L.a72;have z72:=L.z72;have v72:=L.v72;have u72:=run_underlying L.t72;have t70:=L.t70;have a70:=L.a70;have z70:=L.z70;have v70:=L.v70;have u70:=run_underlying L.t70;have t37:=L.t37;have a37:=L.a37;have z37:=L.z37;have v37:=L.v37;have u37:=run_underlying L.t37;have t3:=L.t3;have a3:=L.a3;have z3:=L.z3;have v3:=L.v3;have u3:=run_underlying L.t3;have t9:=L.t9;have a9:=L.a9;have z9:=L.z9;have v9:=L.v9;have u9:=run_underlying L.t9;have t4:=L.t4;have a4:=L.a4;have z4:=L.z4;have v4:=L.v4;have u4:=run_underlying L.t4;have t164:=L.t164;have a164:=L.a164;have z164:=L.z164;have v164:=L.v164;have u164:=run_underlying L.t164;have t5:=X.t5;have a5:=X.a5;have z5:=X.z5;have v5:=X.v5;have u5:=run_underlying X.t5;have e240:=L.e240;have hlt:b<w.heap.size:=(G9.1 hb).1
 go_enter f167,Body.n167_ntmps ρ
 go_wp2_with (go_at_fn (ρ.f 240);refine(L.check hb ha).mono ?_)
 rintro e w1 ⟨rfl,hb1,hs1,ho1⟩;have c0:w1.cell? ⟨b,0,none⟩=some (.pointer (some ⟨b,0,none⟩)):=by rw[Lib.cell_of_heap hb1];rfl
 have c1:w1.cell? ⟨b,1,none⟩=some v:=by rw[Lib.cell_of_heap hb1];rfl
 have hr1:uN w1.heap (ρ.t 5) xs l:=xQ (λk hk=>ho1.block k (VZ hr k hk) (λe=>hnb (by simp at e;rw[←e];exact hk))) hr;have hr2:uN (w1.alloc (.cells #[.int .u8 (y.toNat:Int)] (ρ.t 5))).heap (ρ.t 5) xs l:=xQ (λk hk=>Lib.alloc_old w1 _ k (VZ hr1 k hk)) hr1
 go_wp2_with (at_builtin;refine B_ (y:=y) (ad:=⟨w.heap.size,0,none⟩) rfl _ _ (ρ.t 37) rfl L.t37 hi hz0 hz1 hz2 rfl rfl hv hr2 hlen (by rw[←hs1];simp) ?_)
 intro v' w2 l' hv' hr' hbl ho2;have hlt1:b<w1.heap.size:=o5;have hb2:w2.heap[b]? =some (.cells #[.pointer (some ⟨b,0,none⟩),v] (ρ.t 72) (0,0)):=by rw[ho2.block b E5 hnb,Lib.alloc_old w1 _ b hlt1];exact hb1
 have d0:w2.cell? ⟨b,0,none⟩=some (.pointer (some ⟨b,0,none⟩)):=by rw[Lib.cell_of_heap hb2];rfl
 have d1:w2.cell? ⟨b,1,none⟩=some v:=by rw[Lib.cell_of_heap hb2];rfl
 have f1:w2.frozen? ⟨b,1,none⟩=false:=Lib.frozen_of_heap hb2 1;have hbl' :∀k∈l'.blks,k∈l.blks\/w.heap.size<=k:=λk hk=>by
  rcases hbl k hk with h|h
  .exact .inl h
  .have h2:w.heap.size+1<=k:=by first|exact h|simpa using h|simpa[hs1]using h
   exact .inr o5
 have hnb' :b∉l'.blks:=λh=>(hbl' b h).elim hnb (λh=>by omega);have hone:=kU hv';obtain⟨ao,n',cap,rfl⟩:∃ao n' cap,v' = .slice ao n' cap:=by
  cases l' with
  |nil=>exact⟨_,_,_,hv'⟩|st _=>cases hr'|mp _=>cases hr'|arr g off len cap sz=>exact⟨_,_,_,hv'⟩
 go_wp2
 go_ret
 refine⟨rfl,_,l',?_,hv',xQ (λk hk=>Below.heap_setCell _ _ _ _ (λe=>hnb' (by have e:k=b:=e;rw[←e];exact hk))) hr',hnb',hbl',?_⟩
 .rw[setCell_eq_setRow w2 b 1 _ _ _ _ hb2];exact setRow_heap w2 b _ _ _ _ hb2
 .refine⟨ho2.os.trans ho1.os,ho2.tape.trans ho1.tape,ho2.output.trans ho1.output,?_,λk hk hn=>?_⟩
  .have:=ho2.size;simp[World.setCell]at this ⊢;omega
  .simp only[D8,not_or]at hn;rw[Below.heap_setCell _ _ _ _ (λe=>hn.1 e),ho2.block k E5 hn.2,Lib.alloc_old w1 _ k o5,ho1.block k hk (by simpa using hn.1)]
theorem b7s{n:Int}(n0:0<=n)(n1:n<=255):((n.toNat.toUInt8.toNat:Nat):Int)=n:=by
 have h1:n.toNat<256:=o5;have h2:n.toNat.toUInt8.toNat=n.toNat:=by simp[Nat.toUInt8,UInt8.toNat_ofNat];omega
 rw[h2];omega
def BJ(xs:c6F)(n:Int):Option (Unit×c6F):=bif Nat.ble (xs.length+1) 1073741824&&decide (0<=n)&&decide (n<=255)then some ((),xs++[n.toNat.toUInt8])else none
theorem YB{gl:List (Nat×(t:Ty)×List t.den)}(L:Lw P ρ)(X:Builder.Extra P ρ)(f167:P.funcs[ρ.f 167]? =some (Body.n167 ρ)):
  dD P gl (ρ.f 167) ⟨[(false,.sbx (ρ.t 72) (ρ.t 5)),(false,.dat (.int .u8))],[(false,.cell none)],[(false,.sbx (ρ.t 72) (ρ.t 5))],λx=>BJ x.1 x.2⟩:=by
 intro w ok O vals x r hok hO hO2 hgl hrel hdv hF;obtain⟨xs,n⟩:=x;have hF:BJ xs n=some r:=hF;unfold BJ at hF;cases hc:(Nat.ble (xs.length+1) 1073741824&&decide (0<=n)&&decide (n<=255))<;>rw[hc]at hF
 .cases hF
 simp only[D6,decide_eq_true_eq,Nat.ble_eq]at hc;obtain⟨⟨hmax,n0⟩,n1⟩:=hc;have n0:(0:Int)<=n:=n0;have n1:n<=(255:Int):=n1;cases hF;obtain⟨v0,cs0,vs',O1,O2,rfl,rfl,hg,h1,hrest⟩:=hrel;obtain⟨v1,cs1,rfl,hg1,h2,rfl⟩:=hrest;have hg:cs0=[v0]:=hg;have hg1:cs1=[v1]:=hg1;subst hg;subst hg1;have h2:[v1]=[Value.int .u8 n]:=h2;simp only[I7,and_true]at h2;subst h2;obtain⟨b,a,v,l,e,hb,ha,hv,hr,rfl⟩:=h1;simp only[I7,and_true]at e;subst e;have hnd:(b::l.blks).Nodup:=by simpa using hO
 have hnb:=(X0.1 hnd).1;have hn:((n.toNat.toUInt8.toNat:Nat):Int)=n:=b7s n0 n1;have key:=a5C L X f167 (y:=n.toNat.toUInt8) hb ha hv hr (show xs.length+1<=140737488355328 by omega) hnb;rw[hn]at key;refine key.mono ?_;rintro e w' ⟨rfl,v',l',hb',hv',hr',hnb',hbl,ho⟩;have hlt:b<w.heap.size:=(G9.1 hb).1;have hlt' :b<w'.heap.size:=(G9.1 hb').1;have hnd' :(b::l'.blks).Nodup:=X0.2 ⟨hnb',Loc.blks_nodup l'⟩;refine⟨_,ok,b::l'.blks,[.nilIface],[.pointer (some ⟨b,0,none⟩)],[],rfl,⟨ho.os,ho.tape,ho.output,ho.size,λk hk hn=>ho.block k hk (by simpa using hn)⟩,λ_ _ h=>h,λk t hk=>⟨dC (hok k t hk) ho.size,.inl hk⟩,by simpa using hnd',?_,⟨rfl,rfl⟩,⟨_,rfl,rfl,rfl⟩,?_⟩
 .intro k hk;rw[G7]at hk;rcases D8.1 hk with rfl|hk
  .exact⟨(hO2 k D5).1,hlt',.inr D5⟩
  .refine⟨λt hkt=>?_,VZ hr' k hk,?_⟩
   .rcases hbl k hk with h|h
    .exact(hO2 k (by simp[h])).1 t hkt
    .have:=hok k t hkt;omega
   .rcases hbl k hk with h|h
    .exact .inr (by simp[h])
    .exact .inl h
 .refine⟨.nilIface,[.nilIface],[.pointer (some ⟨b,0,none⟩)],[],b::l'.blks,rfl,rfl,rfl,⟨_,rfl,rfl,(λh=>nomatch h),(λ_ h=>nomatch h),rfl⟩,?_⟩;exact⟨_,_,rfl,rfl,⟨b,_,v',l',rfl,hb',.inr rfl,hv',hr',rfl⟩⟩
def En(s t:c6F):c6K:=match t with
 |[c]=>some ((Lib.countByte s c:Nat):Int)|_=>none
theorem YJ{f:Nat}{gl:List (Nat×(t:Ty)×List t.den)}
  (hC:∀(s:ByteArray) (c:UInt8) (w:World),Calls P f #[.string s,.string ⟨#[c]⟩] w λe w' =>e= .returned (.int .i64 (Lib.countByte s.data.toList c))/\w' =w):
  dD P gl f ⟨[(false,.dat .str),(false,.dat .str)],[(false,.dat (.int .i64))],[],λx=>En x.1 x.2⟩:=by
 intro w ok O vals x r hlt _ _ _ hrel hdv hfn;obtain⟨rfl,rfl⟩:=b0R hrel;simp only[En]at hfn;split at hfn
 .rename_i c hx;cases hfn;rw[hx];refine(hC ⟨x.1.toArray⟩ c w).mono λe w' ⟨he,hw⟩=>?_;subst he;subst hw;exact ER (P:=P) (t:=.int .i64) (x:=((Lib.countByte x.1 c:Nat):Int)) (ps:=[(false,.dat .str),(false,.dat .str)]) (vals:=[_,_]) ⟨rfl,rfl,rfl,D7 _,λ_ _=>rfl⟩ hlt ⟨rfl,rfl⟩ rfl
 .cases hfn
def BK(s c:c6F):Option (List c6F):=if s.length<4294967281/\1<=c.length then some (Lib.split s c)else none
theorem a1i{f g:Nat}{gl:List (Nat×(t:Ty)×List t.den)}{T:TypeId}
  (hC:∀(s sep:ByteArray) (m:Int) (w:World) (hs:s.size<4294967281) (hm:w.cell? ⟨g,0,none⟩=some (.int .i64 m)) (h1:1<=sep.size),
   Calls P f #[.string s,.string sep] w λe w' =>e= .returned (.slice (some ⟨w.heap.size,0,none⟩) (Lib.countB s sep+1) (Lib.countB s sep+1))/\w' =w.alloc (.cells ((Lib.splitB sep 0 (Lib.countB s sep) s).map Value.string).toArray T))
  (hgl:dX gl g=some ⟨.any (some .i64),[()]⟩):
  dD P gl f ⟨[(false,.dat .str),(false,.dat .str)],[(false,.own .str)],[],λx=>BK x.1 x.2⟩:=by
 intro w ok O vals x r hlt hnd hO hgls hrel hdv hfn;obtain⟨rfl,rfl⟩:=b0R hrel;simp only[BK]at hfn;split at hfn
 .rename_i hl;cases hfn;obtain⟨m,hm⟩:=XG (hgls g _ hgl);have h1:1<=(⟨x.2.toArray⟩:ByteArray).size:=by simpa[ByteArray.size]using hl.2
  refine(hC ⟨x.1.toArray⟩ ⟨x.2.toArray⟩ m w (by simpa[ByteArray.size]using hl.1) hm h1).mono λe w' ⟨he,hw⟩=>?_;have hlen:=Lib.splitB_all ⟨x.2.toArray⟩ h1 0 (Lib.countB ⟨x.1.toArray⟩ ⟨x.2.toArray⟩) ⟨x.1.toArray⟩ rfl;have hmap:Lib.split x.1 x.2=(Lib.splitB ⟨x.2.toArray⟩ 0 (Lib.countB ⟨x.1.toArray⟩ ⟨x.2.toArray⟩) ⟨x.1.toArray⟩).map λb=>b.data.toList:=by rw[Lib.splitB_data];rfl
  generalize hS:Lib.splitB ⟨x.2.toArray⟩ 0 (Lib.countB ⟨x.1.toArray⟩ ⟨x.2.toArray⟩) ⟨x.1.toArray⟩=S at*;have hlS:(Lib.split x.1 x.2).length=S.length:=by rw[hmap,L8]
  rw[←hlen]at he;subst he;subst hw;refine⟨_,ok,[w.heap.size],[.slice (some ⟨w.heap.size,0,none⟩) S.length S.length],[],[],rfl,⟨rfl,rfl,rfl,D5,λb hb _=>Lib.alloc_old w _ b hb⟩,λ_ _ h=>h,λb t h=>⟨by have:=hlt b t h;simp;omega,.inl h⟩,
   by simp,λb hb=>?_,⟨rfl,rfl⟩,⟨rfl,rfl⟩,⟨_,_,rfl,rfl,xP.2 ⟨.arr w.heap.size 0 S.length S.length 1,_,rfl,rfl,⟨rfl,rfl,hlS.symm,D7 _,(S.map Value.string).toArray,T,(0,0),heap_alloc_new w _,.inl rfl,D5,λi y hi=>?_⟩,rfl⟩⟩⟩
  .simp only[G7,lH]at hb;subst hb;exact⟨λt ht=>by have:=hlt _ t ht;omega,D5,.inl (D7 _)⟩
  .rw[hmap,bV]at hi;obtain⟨z,hz,rfl⟩:=gQ.1 hi;have hiz:=(bg.1 hz).1;refine⟨[.string z],?_,rfl⟩;have:=jA (h:=(w.alloc (.cells (S.map Value.string).toArray T)).heap) (blk:=w.heap.size) (c:=(S.map Value.string).toArray) (T:=T) (f:=(0,0)) (heap_alloc_new w _) (0+i*1) 1 E5;rw[this];congr 1;apply bU;intro j;cases j with
   |zero=>simp[hz]|succ j=>simp[Y7]
 .cases hfn
end Go.GP
namespace Go.GP
def a1O{ρ:Type}(p1 p2 n1 n2:Nat)(k:Cmd ρ):Cmd ρ:=bif Nat.blt p1 X9&&Nat.blt p2 X9 then .get p1 λ
 | .ptr b1 0=> .get (X9+b1) λ
  | .bcells c1=> .get p2 λ
   | .ptr b2 0=> .get (X9+b2) λ
    | .bcells c2=>bif Nat.beq b1 b2 then .fail else bif Nat.beq c1.length n1&&Nat.beq c2.length n2 then k else .fail|_=> .fail
   |_=> .fail
  |_=> .fail
 |_=> .fail
 else .fail
def sqL:Code->Code| .seq a _=>a|_=> .skip
def sqR:Code->Code| .seq _ b=>b|_=> .skip
def b7Q(E E' :Env)(ps:List MG)(rt:Ret)(c0 c1 c2:Code)(a0 a2:Ann)(p1 p2 n1 n2 n8:Nat)(rec:Int->rt.den)(x:U0 ps):Option rt.den:=
 bif Nat.ble ps.length E.nt&&Bg (rt.outs.map (·.1)) (iF ps 0)&&Bg (rt.outs.map (·.1)) []&&Xc ps then
 (EH ps x 0 λvs n=>bif Nat.ble n CB then CY (List.range vs.length) vs (UN ps 0 (.ret ()))else .fail).runK [] ([],[]) λ_ s _=>
  Dy E rt (λr=>r) (λ_=> .fail) c0 1 a0 s [] rt.den λfl s' _=>match fl with
   | .nm=>(Cmd.set n8 .undef (.ret ())).runK s' ([],[]) λ_ s2 _=>
    Dy E' rt (λr=>r) (λc=>a1O p1 p2 n1 n2 (.ret (rec c))) c2 (1+xK c0+xK c1) a2 s2 [] rt.den λfl s' _=>a7k E' rt (λr=>r) fl s'
   |_=>none
 else none
structure UWorld (b1 b2:Nat) (w w' :World):Prop where
 os:w'.os=w.os
 tape:w'.tape=w.tape
 out:w'.output=w.output
 size:w.heap.size<=w'.heap.size
 block:∀k,k<w.heap.size->k≠b1->k≠b2->w'.heap[k]? =w.heap[k]?
theorem QU{C:Cx} :∀{a:List V} {xs:c6H},gB C a xs->a.length=xs.length
 |[],_,h=>by simp only[gB]at h;simp[h]|c::a,_,⟨v,r,e,h1,h2,h3⟩=>by subst e;simp[QU h3]
theorem D_{X:Fx}{cl ch:Nat}{S:Sm}{m:Mp}{ok:Nat->Ty->Prop}{a:Act}{w:World}{ρ:Type}{p1 p2 n1 n2:Nat}{k:Cmd ρ}{Q:ρ->Sm->Prop}(R:Rel X cl ch S m ok a w)
  (hk:∀b1 b2 arr1 arr2 T1 T2,a.tmps.getD p1 undef= .pointer (some ⟨b1,0,none⟩)->a.tmps.getD p2 undef= .pointer (some ⟨b2,0,none⟩)->w.heap[b1]? =some (.cells arr1 T1 (0,0))->w.heap[b2]? =some (.cells arr2 T2 (0,0))->
   arr1.size=n1->arr2.size=n2->b1≠b2->(X.w0.heap.size<=b1\/b1∈X.O)->(X.w0.heap.size<=b2\/b2∈X.O)->(∀t,¬ok b1 t)->(∀t,¬ok b2 t)->k.post S Q):(a1O p1 p2 n1 n2 k).post S Q:=by
 unfold a1O;refine Y6 λhb=>X7 ?_;simp only[D6,Z5]at hb;have h1:=R.slot p1 hb.1;split<;>try trivial
 rename_i x1 e1;rw[e1]at h1;refine X7 ?_;split<;>try trivial
 rename_i c1 e2;refine X7 ?_;have h2:=R.slot p2 hb.2;split<;>try trivial
 rename_i x2 e3;rw[e3]at h2;refine X7 ?_;split<;>try trivial
 rename_i c2 e4;cases hne:Nat.beq x1 x2
 .simp only[cond_false];refine Y6 λhl=>?_;simp only[D6]at hl;obtain⟨b1,m1,v1⟩:=h1;obtain⟨b2,m2,v2⟩:=h2;obtain⟨k1,a1,T1,q1,g1,l1⟩:=R.own_cells e2;obtain⟨k2,a2,T2,q2,g2,l2⟩:=R.own_cells e4;simp only at m1 m2;have e5:k1=b1:=by have:=q1.symm.trans m1;simpa using this
  have e6:k2=b2:=by have:=q2.symm.trans m2;simpa using this
  subst e5;subst e6;have o1:k1∈U2 m x1 (S (X9+x1)):=by rw[e2];simp[U2,q1]
  have o2:k2∈U2 m x2 (S (X9+x2)):=by rw[e4];simp[U2,q2]
  have hb12:k1≠k2:=λe=>by have:=R.inj x1 x2 k1 o1 (e▸o2);rw[this,show Nat.beq x2 x2=true from Nat.beq_refl x2]at hne;cases hne
  have s1:=R.sep _ _ o1;have s2:=R.sep _ _ o2;have z1:=QU l1;have z2:=QU l2;refine hk k1 k2 a1 a2 T1 T2 v1 v2 g1 g2 ?_ ?_ hb12 s1.2.2 s2.2.2 s1.1 s2.1
  .rw[←eU hl.1,z1];simp
  .rw[←eU hl.2,z2];simp
 .trivial
theorem a6t:∀{a:c6I},Bg a []=true->a=[]
 |[],_=>rfl|_::_,h=>by cases h
variable {P:Program}
theorem a1W{E E' :Env}{f:FuncId}{fn:Func}{c0 c1 c2:Code}{ps:List MG}{rt:Ret}{a0 a2:Ann}{F:U0 ps->Option rt.den}{p1 p2 n1 n2 n8:Nat}{rec:Int->rt.den}{cv:Array Value->Value}{dv:Array Value->Deferred}
  (hf:P.funcs[f]? =some fn) (hb:fn.body=some (.seq c0 (.seq c1 c2))) (hnt:fn.ntmps=E.nt)
  (hres:fn.results.toList=rt.rs.map (·.1)) (hE:EnvOk P E) (hE' :EnvOk P E') (hnt' :E'.nt=E.nt) (hgl' :E'.gl=E.gl) (hni:Oh E.pl=true) (hni' :Oh E'.pl=true) (hkp:E'.kp=[p1,p2]) (h8:PN E n8=true) (h8p:n8≠p1/\n8≠p2)
  (hc1:∀(Q:Exit->Act->World->Prop) (a:Act) (w:World),a.defers=[]->a.tmps.size=E.nt->Q .normal { tmps:=a.tmps.setIfInBounds n8 (cv a.tmps),defers:=[dv a.tmps] } w->c1.wp P Q a w)
  (hdv2:∀tm tm' :Array Value,tm.getD p1 undef=tm'.getD p1 undef->tm.getD p2 undef=tm'.getD p2 undef->dv tm=dv tm') (hid:∀tm,Un P (dv tm)) {vz:Int->c6H}
  (hrec:∀(tm:Array Value) (b1 b2:Nat) (arr1 arr2:Array Value) (T1 T2:TypeId) (c:Int) (w:World),tm.getD p1 undef= .pointer (some ⟨b1,0,none⟩)->tm.getD p2 undef= .pointer (some ⟨b2,0,none⟩)->
   w.heap[b1]? =some (.cells arr1 T1 (0,0))->w.heap[b2]? =some (.cells arr2 T2 (0,0))->arr1.size=n1->arr2.size=n2->b1≠b2->∀R:Ending->World->Prop,(∀w' v,UWorld b1 b2 w w' ->OH (vz c).length v (vz c)->R (.returned v) w')->
   Leaves P fn tm R [dv tm] (.panicking (nX P c)) w)
  (hz:∀(h:Array Obj) (ok:Nat->Ty->Prop) (c:Int),mg h ok (rt.rs.map (·.2)++rt.outs.map (·.2)) (rec c) (vz c) []) (hzl:∀c,(vz c).length=rt.rs.length)
  (hF:∀x r,F x=some r->b7Q E E' ps rt c0 c1 c2 a0 a2 p1 p2 n1 n2 n8 rec x=some r):
  dD P E.gl f ⟨ps,rt.rs.map (·.2),rt.outs.map (·.2),F⟩:=by
 intro w ok O vals x r hlt hnd hO hgl hrel hdv hfn;have hden:=hF x r hfn;clear hfn hF;unfold b7Q at hden;cases hle00:(Nat.ble ps.length E.nt&&Bg (rt.outs.map (·.1)) (iF ps 0)&&Bg (rt.outs.map (·.1)) []&&Xc ps)
 .simp only[hle00,cond_false]at hden;cases hden
 simp only[hle00,cond_true]at hden;let X:Fx:=⟨P,E,w,O,ok,vals.toArray++Array.replicate (E.nt -vals.length) undef,some []⟩;have H:FxOk X:=⟨hE.nt,hE.tt,hE.fs,hE.eqs,hE.ms,hE.fn,hE.pl,λl _=>Gg hni⟩;refine calls_of_wp_defers hf hb ?_;simp only[aK];rw[hnt];generalize hact:({ tmps:=vals.toArray++Array.replicate (E.nt -vals.length) undef,defers:=[] } :Act)=act;have hvl:vals.length=ps.length:=Hf hrel;simp only[D6]at hle00;obtain⟨⟨⟨hle0,hsame⟩,hnil⟩,hnosb⟩:=hle00;have hsame:=Iy hsame;have hnil:=a6t hnil;have hle1:=S9 hle0;obtain⟨u,s,tr,he,hk⟩:=jV hden;have hsize:act.tmps.size=E.nt:=by subst hact;simp;omega
 have hslots:∀n,n<vals.length->act.tmps.getD n undef=vals.getD n undef:=λn hn=>by subst hact;simp only[O5];rw[gW (by simpa using hn)];simp[KF]
 have R0:Rel X 0 0 (aV []) nom ok act w:={ size:=hsize,nodef:=(by subst hact;intro d hd;cases hd),dfs:=(by subst hact;intro l hl;cases hl;rfl),slot:=λn _=>trivial,box:=λn=>trivial,inj:=λn n' b h=>(by simp[aV,U2]at h),nd:=λn=>(by simp[aV,U2]),sep:=λn b h=>(by simp[aV,U2]at h),okLt:=hlt,okIn:=λb t h=>h,okOut:=λb t h=> .inl h,frame:=Frame'.refl w O,fresh:=λ_ _ _=>rfl,strict:=λ_ _=>rfl,gl:=hgl,kept:=λn _=>by subst hact;rfl };have T0:Tk X (aV []) nom ok w (O++[]):=⟨by simpa using hnd,λb hb=>by simp only[G7]at hb;obtain⟨h1,h2⟩:=hO b hb;exact⟨h1,h2,.inr hb,λn e=>by simp[aV,U2]at e⟩⟩
 have key:=pJ (EI (T:=[]) ps (Q:=λ_ S' =>∃m' vs,Rel X 0 CB S' m' ok act w/\gZ ⟨w.heap,ok,m'⟩ vs vals) R0 (D7 0) T0 hrel
  (K:=λvs n=>bif Nat.ble n CB then CY (List.range vs.length) vs (UN ps 0 (.ret ()))else .fail) λS1 m1 vs n1 ch1 R1 c1 T1 k1 s1 l1 e1=>bP λhb=>by
   have hn1:=S9 hb;have hvs:=Jq l1;have hr:vals=(List.range vs.length).map λn=>act.tmps.getD n Go.undef:=by
    apply jg
    .simp[hvs]
    .intro i h1 h2;simp only[rH,pq];rw[hslots i h1,KF,lF h1];rfl
   have hall:∀k p,vals[k]? =some p->act.tmps.getD k Go.undef=p:=λk p hk=>by rw[hslots k (bg.1 hk).1,KF,hk];rfl
   refine Eb _ (R1.chmono (ch' :=CB) o5) (by rw[←hr];exact l1) λS' R' =>?_;refine Xz hall ps 0 R' (λi v hi=>by rw[bY];exact hall i v hi) hvl.symm hdv λS2 R2=>⟨m1,vs,R2,l1⟩) he
 obtain⟨mE,vs,RE,hvs⟩:=key;have Rq:Rel X (CB*1) (CB*1) (aV s) mE ok act w:=(RE.climb (cO _)).chmono (by rw[bD];exact D7 _);have hret:a1y X rt (λr:rt.den=>r) mE (λ_ _ _ _=>True):=by intro s R K r h;obtain⟨x,s',tr,he,hk⟩:=jV h;exact⟨x,hk,λ_ _=>trivial⟩
 have hpan:a1x X (λ_=>(.fail:Cmd rt.den)) mE (λ_ _ _ _=>True):=λ{c S S' tr x} hc he {cl ch m ok a w} R km=>trivial;refine wp_seq ?_;refine wp_mono ((zQ (RetP:=λ_ _ _ _=>True) (mE:=mE) H hret hpan c0).run hk Rq (λ_ _ h=>h)) ?_;rintro e a' w' ⟨fl,s',wr',hk2,hfl⟩;cases fl with
 |ex id=>cases hk2|rt z=>cases hk2|nm=>
 obtain⟨rfl,m',ok',R',k1,_,_⟩:=hfl;obtain⟨_,s2,_,he2,hk3⟩:=jV hk2;show Code.wp P (.seq c1 c2) _ a' w';refine wp_seq ?_;refine hc1 _ a' w' (R'.dfs [] rfl) R'.size ?_;show c2.wp P _ _ w';have e2:aV s2=upd (aV s') n8 .undef:=by simp only[Cmd.eval,G8,gK]at he2;exact he2.2.1.symm
 have R8:=R'.put (v:=.undef) (x:=cv a'.tmps) H.ntB h8 trivial;rw[←e2]at R8;generalize htm:a'.tmps.setIfInBounds n8 (cv a'.tmps)=tm2;have hd12:dv a'.tmps=dv tm2:=hdv2 _ _ (by rw[←htm,Ar h8p.1.symm]) (by rw[←htm,Ar h8p.2.symm]);let X' :Fx:=⟨P,E',w,O,ok,tm2,some [dv tm2]⟩;have H' :FxOk X' :=⟨hE'.nt,hE'.tt,hE'.fs,hE'.eqs,hE'.ms,hE'.fn,hE'.pl,λl _=>Gg hni'⟩;have R2:Rel X' (CB*(1+xK c0)) (CB*(1+xK c0)) (aV s2) m' ok' { tmps:=tm2,defers:=[dv a'.tmps] } w' :={ size:=(by have:=R8.size;simp only[Act.put,htm]at this;exact this.trans hnt'.symm),nodef:=(λd hd=>by simp only[lH]at hd;subst hd;exact hid _),dfs:=(λl hl=>by cases hl;rw[hd12]),slot:=(λn hn=>by have:=R8.slot n hn;simp only[Act.put,htm]at this;exact this),box:=R8.box,inj:=R8.inj,nd:=R8.nd,sep:=R8.sep,okLt:=R8.okLt,okIn:=R8.okIn,okOut:=R8.okOut,frame:=R8.frame,fresh:=R8.fresh,strict:=R8.strict,gl:=(λg u hg=>R8.gl g u (by rw[show X'.E.gl=E'.gl from rfl,hgl']at hg;exact hg)),kept:=λn _=>rfl };refine WC H' hres hk3 (R2.upq (dU _ _)) hsame (by rw[hnil];intro n hn;cases hn) hnosb (LU hrel) (λi v hi hv=>by rw[←hsame,hnil]at hi;cases hi) ?_ ?_
 .intro r0 v w' ok' O' rs os B hy g1 g2 g3 g4 g5 g6 g7 g8;subst hy;exact⟨v,ok',O',rs,os,B,rfl,g1,g2,g3,g4,g5,g6,g7,g8⟩
 .intro c S S' tr cl ch m3 ok3 a3 w3 hc he R3 _;have hdf:a3.defers=[dv tm2]:=R3.dfs _ rfl;have kp1:a3.tmps.getD p1 undef=tm2.getD p1 undef:=R3.kept p1 (by show p1∈E'.kp;rw[hkp];simp);have kp2:a3.tmps.getD p2 undef=tm2.getD p2 undef:=R3.kept p2 (by show p2∈E'.kp;rw[hkp];simp);rw[hdf,←hdv2 _ _ kp1 kp2];have hrc:r=rec c/\Leaves P fn a3.tmps (λe w' =>∃v ok' O' rs os B,e= .returned v/\Frame' w w' O/\(∀b t,ok b t->ok' b t)/\(∀b t,ok' b t->b<w'.heap.size/\(ok b t\/w.heap.size<=b\/b∈O))/\
   (O' ++B).Nodup/\(∀b∈O' ++B,(∀t,¬ok' b t)/\b<w'.heap.size/\(w.heap.size<=b\/b∈O))/\
   OH (rt.rs.map (·.2)).length v rs/\tX w'.heap ps vals os B/\mg w'.heap ok' (rt.rs.map (·.2)++rt.outs.map (·.2)) (rec c) (rs++os) O') [dv a3.tmps] (.panicking (nX P c)) w3:=by
   refine pJ (Q:=λy _=>y=rec c/\_) (D_ R3 λb1 b2 arr1 arr2 T1 T2 v1 v2 g1 g2 z1 z2 hne o1 o2 u1 u2=>?_) he;refine⟨rfl,hrec _ b1 b2 arr1 arr2 T1 T2 c w3 v1 v2 g1 g2 z1 z2 hne _ λw' v U hv=>?_⟩;have fr:=R3.frame;refine⟨v,ok3,[],vz c,[],[],rfl,⟨U.os.trans fr.os,U.tape.trans fr.tape,U.out.trans fr.output,V5 fr.size U.size,λb hb hO=>?_⟩,R3.okIn,λb t hb=>⟨dC (R3.okLt b t hb) U.size,R3.okOut b t hb⟩,bu,λb hb=>(by cases hb),?_,?_,?_⟩
   .have hb:b<w.heap.size:=hb;have hO:b∉O:=hO;rw[U.block b (dC hb fr.size) (λe=>by subst e;exact o1.elim (λh=>by have:w.heap.size<=b:=h;omega) hO) (λe=>by subst e;exact o2.elim (λh=>by have:w.heap.size<=b:=h;omega) hO)];exact fr.block b hb hO
   .rw[L8,←hzl c];exact hv
   .have:iF ps 0=[]:=by rw[←hsame,hnil]
    exact XX (tm:=λ_=>Go.undef) ps 0 hnosb (LU hrel) (λi v hi hv=>by rw[this]at hi;cases hi) (by rw[this];exact⟨rfl,rfl⟩)
   .rw[G7];exact hz _ _ c
  obtain⟨rfl,hl⟩:=hrc;exact hl
def WO:Ty->c6H
 | .bool=>[.bool false]| .int k=>[.int k 0]| .str=>[.string ⟨#[]⟩]| .sl t=>[bif t.isEnt then .map none else .slice none 0 0]| .prod a b=>WO a++WO b|_=>[]
def Zl:Ty->Bool
 | .prod a b=>Zl a&&Zl b| .any _=>false| .ent ..=>false|_=>true
theorem Ov(h:Array Obj)(ok:Nat->Ty->Prop):∀t:Ty,Zl t=true->rep h ok t t.zero (WO t)
 | .bool,_=>rfl| .int k,_=>rfl| .str,_=>rfl| .unit,_=>rfl| .prod a b,e=>by simp only[Zl,D6]at e;exact⟨_,_,rfl,Ov h ok a e.1,Ov h ok b e.2⟩| .sl t,_=>by
  cases ht:t.isEnt
  .refine .inl ⟨ht,none,0,?_,D7 _,λi x hi=>by cases hi⟩;simp only[WO,ht,cond_false];rfl
  .refine .inr ⟨ht,none,?_,λ_=>rfl,λblk e=>by cases e⟩;simp only[WO,ht,cond_true]
 | .any _,e=>by cases e| .ent ..,e=>by cases e
def qM{α:Type}(p:α)(c:Int):Option (Int×α):=some (c,p)
theorem Zk{gl:List (Nat×(t:Ty)×List t.den)}{f:FuncId}{u:Ty}
  (hc:∀(p:Value) (w:World) (c:Int),Calls P f #[p,.int .i64 c] w λe w' =>((c=0/\e= .returned (.tuple #[]))\/(c≠0/\e= .panicked (nX P c)))/\w' =w):
  yK P gl f ⟨[(false,.box (.dat u)),(false,.dat (.int .i64))],[cd],[(true,.dat u)],λx=>qM x.1 x.2⟩:=by
 refine⟨[],rfl,?_⟩;intro w ok O vals x r hlt hnd hO hgl hrel hdv hfn;obtain⟨pv,cs,vs',O1,O2,rfl,rfl,hg,⟨blk,arr,T,O',e1,hh,⟨hrep,eO⟩,e2⟩,iv,cs2,e3,hg2,hr2,e4⟩:=hrel;subst eO;subst e2;subst e4;subst e3;have hg:cs=[pv]:=hg;have hg2:cs2=[iv]:=hg2;have hr2:cs2=[.int .i64 x.2]:=hr2;rw[hg]at e1;rw[hg2]at hr2;simp only[I7,and_true]at e1 hr2;subst e1;subst hr2;have hfn:some (x.2,x.1)=some r:=hfn;cases hfn;refine(hc _ w x.2).mono ?_;rintro e w' ⟨h,rfl⟩;rcases h with⟨h0,rfl⟩|⟨h0,rfl⟩
 .refine .inl ⟨h0,.tuple #[],ok,[],[],[.agg arr],[blk],rfl,Frame'.refl _ _,λ_ _ h=>h,λb t h=>⟨hlt b t h,.inl h⟩,D5,λb hb=>?_,⟨rfl,rfl⟩,⟨blk,arr,T,[],[],rfl,hh,rfl,rfl,rfl,rfl⟩,.agg arr,arr.toList,rfl,⟨arr,rfl,rfl⟩,hrep,rfl⟩;have hb:b=blk:=by simpa using hb
  subst hb;have:=hO b D5;exact⟨this.1,this.2,.inr D5⟩
 .exact .inr ⟨h0,rfl,Frame'.refl _ _⟩
theorem ZI{t:TypeId}{n:Nat}(ha:∀w:World,(isAgg t).run P w= .ok true w)(hz:∀w:World,(sizeOf t).run P w= .ok n w)(w:World){blk off:Nat}{es:c6H}(e:bQ w.heap blk off n=some es):
  (loadVar t ⟨blk,off,none⟩).run P w= .ok (.agg es.toArray) w:=by
 have hl:=lU e;have hc:=run_loadCells_list (P:=P) w ⟨blk,off,none⟩ es (λj v h=>by rw[iI];exact rZ e h);rw[hl]at hc;unfold loadVar;simp[ha,hz,hc]
theorem ZJ{t:TypeId}(ha:∀w:World,(isAgg t).run P w= .ok false w)(w:World){blk off:Nat}{v:Value}(e:bQ w.heap blk off 1=some [v]):
  (loadVar t ⟨blk,off,none⟩).run P w= .ok v w:=by
 have hc:=rZ e (j:=0) (v:=v) rfl;simp only[aH]at hc;unfold loadVar;simp[ha,hc]
end Go.GP
