import Derived.Test.YtfffbbadpgefmaaGreatDoorT6
set_option linter.all false
namespace Go.GP
open Gt
set_option maxRecDepth 100000
abbrev BB:Type:=List Bool×List Bool
def BOk (s m:A8) (b:BB):Prop:=b.1.length=s.2.2.2.1.length∧b.2.length=m.2.2.2.1.length
def dG (s m:A8) (b:BB) (d:Int):BB:=(yP s b.1 d,lm m b.2 (mbS s d))
theorem a1K {s m:A8} {b:BB} (h:BOk s m b) (d:Int):BOk s m (dG s m b d):=⟨(rF s b.1 d).trans h.1,(wG m _ b.2).trans h.2⟩
theorem PL {s m:A8} :∀(L:List Int) {b:BB},BOk s m b→BOk s m (L.foldl (dG s m) b)
 | [],b,h=>h
 | d::L,b,h=>PL L (a1K h d)
def gG (s m:A8) (b:BB) (i:Int):BB:=match lat s.2.2.2.2 i with
 | none=>b
 | some r=>(((Y4 r.2.2.2.2.2.1).2.1.foldl (dG s m) b).1,lm m ((Y4 r.2.2.2.2.2.1).2.1.foldl (dG s m) b).2 (Y4 r.2.2.2.2.2.1).2.2)
theorem a6f {s m:A8} {b:BB} (h:BOk s m b) (i:Int):BOk s m (gG s m b i):=by
 unfold gG
 cases lat s.2.2.2.2 i with
 | none=>exact h
 | some r=>exact⟨(PL _ h).1,(wG m _ _).trans (PL _ h).2⟩
def CE (s m:A8) (d t:Int):BB:=(castL (aN s d t)).foldl (gG s m) (X8 s.2.2.2.1.length,X8 m.2.2.2.1.length)
theorem a6e {s m:A8} :∀(L:List Int) {b:BB},BOk s m b→BOk s m (L.foldl (gG s m) b)
 | [],b,h=>h
 | d::L,b,h=>a6e L (a6f h d)
theorem XW (s m:A8) (d t:Int):BOk s m (CE s m d t):=a6e _ ⟨iC _,iC _⟩
theorem Ru {s:A8} {d t i:Int} (h:i∈castL (aN s d t)):∃r,lat s.2.2.2.2 i=some r∧r∈s.2.2.2.2:=by
 obtain⟨k,hk,rfl⟩:=List.mem_map.1 h
 have:=(CX hk).1
 exact ed (by omega) (by unfold o8;omega)
theorem IX (s:A8) (d t:Int):(castL (aN s d t)).length≤s.2.2.2.2.length:=by rw[yU];exact uX _ _
def a0F (s:A8) (m d:Int) (r:P5⊕E4):Int×E4:=match r with
 | .inr e=>(0,e)
 | .inl env=>P8 s env m d
def a5g (l:L6) (s:A8) (c:U8) (d:Int):Int×E4:=
 a0F s (-1) d (match EI l s c (CE s (G9 l s) d c.1).1 (CE s (G9 l s) d c.1).2 with | .inr e=> .inr e | .inl x=> .inl (qU (ig l s c x.2) x.1.1))
theorem MV (s:A8) (env:P5) (m d:Int):((P8 s env m d).2.1=0∧P8 s env m d=((P8 s env m d).1,0,0,0,0))∨((P8 s env m d).2.1≠0∧P8 s env m d=(0,(P8 s env m d).2)):=by
 unfold P8
 cases hf:U0 (DJ s env m d) (W9 s d env.1).1 []with
 | inr e=>
  right
  have:=gY (DJ s env m d) (fun r=>r.1=0∧r.2.1≠0) (fun b i r h=>?_) _ _ _ hf
  ·exact⟨this.2,Prod.ext this.1 rfl⟩
  ·refine⟨?_,Qi b i r h⟩
   unfold DJ at h
   split at h
   ·cases h
   ·rename_i q _
    cases h1:ieq (o8 q.2.2.2.2.2.1) 0 <;> rw[h1]at h
    case true=>cases h
    cases h2:ieq (qM q.2.2.2.2.2.1 env).2 0 <;> rw[h2]at h <;> cases h
    rfl
 | inl ap=>
  left
  simp only
  cases ilt (Ad (W9 s d env.1).2.1 (W9 s d env.1).2.2 ap) 0 <;> exact⟨rfl,rfl⟩
theorem Ih {l:L6} {k:Int} {c:U8} {d:Int} (hL:SmL l) (hC:SmC c) (hT:∀t∈l.2.1,ku t):
  gZ l k c d=some (if(pV l k c true d).1=0 then(match lat l.2.2 k with | some s=>a5g l s c d | none=>(0,0,0,0,0))else(0,pV l k c true d)):=by
 unfold gZ
 rw[Vb hL k hC,o7]
 by_cases hA:(pV l k c true d).1=0
 case neg=>rw[if_neg hA,E5 hA];rfl
 rw[if_pos hA,F5 hA]
 obtain⟨h,s,hs⟩:=pW hA
 have hM:=xy hL h hs
 have hS:=hL.sc s (V5 hs).2.2.1
 have hs2:=(V5 hs).2.2.2
 have hnr:=hS.nr
 have hrl:=IX s d c.1
 have hcm:=hC.nm
 rw[hs]
 simp only[o9,o5,o7]
 rw[Fv hL h hs,o7,Rt (by omega),o7]
 refine J3 (o' :=some ((s,G9 l s,(CE s (G9 l s) d c.1).1,(CE s (G9 l s) d c.1).2):I4)) ?_ ?_
 ·unfold CE
  refine(ax (castL (aN s d c.1)) (gG s (G9 l s)) (fun b i=>(((s,G9 l s,b.1,b.2),i):I4×Int)) (fun b=>((s,G9 l s,b.1,b.2):I4)) (fun _ b=>BOk s (G9 l s) b) (b:=(X8 s.2.2.2.1.length,X8 (G9 l s).2.2.2.1.length)) (by omega) ⟨iC _,iC _⟩ (fun i a b ha hi hb=>?_) (fun b hb=>?_)).1
  ·obtain⟨r,hr,hrm⟩:=Ru (bZ ha)
   obtain⟨_,q1,_⟩:=hS.ro r hrm
   obtain⟨p1,p2⟩:=zh h hs2 hrm (e:=r.2.2.2.2.2.1) (.inl rfl)
   have a1:=uk r.2.2.2.2.2.1
   have a2:=ul r.2.2.2.2.2.1
   refine⟨?_,a6f hb a⟩
   simp only[G6 ha,o6,D8,ha,o7]
   rw[show I9 (castL (aN s d c.1)) (toN (i:Int))=some a from ha,o7,hr,o7,rD (by omega),o7]
   unfold gG
   rw[hr]
   simp only
   refine J3 (o' :=some ((s,G9 l s,((Y4 r.2.2.2.2.2.1).2.1.foldl (dG s (G9 l s)) b).1,((Y4 r.2.2.2.2.2.1).2.1.foldl (dG s (G9 l s)) b).2):I4)) ?_ ?_
   ·refine(ax (Y4 r.2.2.2.2.2.1).2.1 (dG s (G9 l s)) (fun b i=>(((s,G9 l s,b.1,b.2),i):I4×Int)) (fun b=>((s,G9 l s,b.1,b.2):I4)) (fun _ b=>BOk s (G9 l s) b) (b:=b) (by omega) hb (fun j x b hx hj hb=>?_) (fun b hb=>?_)).1
    ·have hq:=p1 x (bZ hx)
     refine⟨?_,a1K hb x⟩
     simp only[G6 hx,o6,D8,hx,o7]
     rw[show I9 (Y4 r.2.2.2.2.2.1).2.1 (toN (j:Int))=some x from hx,o7,TE hS hM hb.1 hb.2 hq.1 hq.2 (Qx h hs2 x),o7,O5 (by omega)]
     rfl
    ·simp only[G5];rfl
   rw[o7]
   have hb2:=PL (s:=s) (m:=G9 l s) (Y4 r.2.2.2.2.2.1).2.1 hb
   generalize (Y4 r.2.2.2.2.2.1).2.1.foldl (dG s (G9 l s)) b=B at hb2 ⊢
   refine J3 (o' :=some ((s,G9 l s,B.1,lm (G9 l s) B.2 (Y4 r.2.2.2.2.2.1).2.2):I4)) ?_ ?_
   ·refine(ax (Y4 r.2.2.2.2.2.1).2.2 (yP (G9 l s)) (fun w i=>(((s,G9 l s,B.1,w),i):I4×Int)) (fun w=>((s,G9 l s,B.1,w):I4)) (fun _ w=>w.length=(G9 l s).2.2.2.1.length) (b:=B.2) (by omega) hb2.2 (fun j x w hx hj hw=>?_) (fun w hw=>?_)).1
    ·have hq:=p2 x (bZ hx)
     refine⟨?_,(rF _ w x).trans hw⟩
     simp only[G6 hx,o6,D8,hx,o7]
     rw[show I9 (Y4 r.2.2.2.2.2.1).2.2 (toN (j:Int))=some x from hx,o7,Jg hM hw hq.1 hq.2,o7,O5 (by omega)]
    ·simp only[G5];rfl
   rw[o7,O5 (by omega)]
  ·simp only[G5];rfl
 rw[o7]
 have hB:=XW s (G9 l s) d c.1
 unfold a5g
 generalize CE s (G9 l s) d c.1=B at hB ⊢
 rw[DD hS hM hC hT hB.1 hB.2,o7]
 cases hq:EI l s c B.1 B.2 with
 | inr e=>simp only[E5 (Xn hq)];rfl
 | inl x=>
  have hx:x.2.length≤1000:=by
   unfold EI at hq
   cases hm:mS l c (G9 l s) B.2 with
   | inr e=>rw[hm]at hq;cases hq
   | inl b=>
    rw[hm]at hq
    simp only at hq
    cases hz:scS s (ig l s c b) (-1) B.1 with
    | inr r=>rw[hz]at hq;cases hq
    | inl y=>rw[hz]at hq;cases hq;have:=Fp hm;simp only;omega
  simp only[F5 (rfl:(0:Int)=0),o9,o5,a0F]
  rw[NZ hS (rQ (ny hT s c hx) x.1.1),o7]
  rcases MV s (qU (ig l s c x.2) x.1.1) (-1) d with⟨g1,g2⟩ | ⟨g1,g2⟩
  ·rw[F5 g1];exact congrArg some g2.symm
  ·rw[E5 g1];exact congrArg some g2.symm
theorem QU {l:L6} {k:Int} {c:U8} {d:Int} (hL:SmL l) (hC:SmC c) (hT:∀t∈l.2.1,ku t):
  lF l k c d=some (if(pV l k c true d).1=0 then(match lat l.2.2 k with | some s=>a5g l s c d | none=>(0,0,0,0,0))else(0,pV l k c true d)):=by
 unfold lF
 rw[QP hL k hC,o7]
 by_cases hA:(pV l k c true d).1=0
 case neg=>rw[if_neg hA,E5 hA];rfl
 rw[if_pos hA,F5 hA]
 obtain⟨h,s,hs⟩:=pW hA
 have hM:=xy hL h hs
 have hS:=hL.sc s (V5 hs).2.2.1
 have hs2:=(V5 hs).2.2.2
 have hnr:=hS.nr
 have hrl:=IX s d c.1
 have hcm:=hC.nm
 rw[hs]
 simp only[o9,o5,o7]
 rw[pM s hS false,o7,lq h hs,o7,pM (G9 l s) hM false,o7,NR (by omega),o7]
 refine J3 (o' :=some (CE s (G9 l s) d c.1)) ?_ ?_
 ·unfold CE
  refine(ax (castL (aN s d c.1)) (gG s (G9 l s)) (fun b i=>((b.1,b.2,i):List Bool×List Bool×Int)) (fun b=>b) (fun _ b=>BOk s (G9 l s) b) (b:=(X8 s.2.2.2.1.length,X8 (G9 l s).2.2.2.1.length)) (by omega) ⟨iC _,iC _⟩ (fun i a b ha hi hb=>?_) (fun b hb=>?_)).1
  ·obtain⟨r,hr,hrm⟩:=Ru (bZ ha)
   obtain⟨_,q1,_⟩:=hS.ro r hrm
   obtain⟨p1,p2⟩:=zh h hs2 hrm (e:=r.2.2.2.2.2.1) (.inl rfl)
   have a1:=uk r.2.2.2.2.2.1
   have a2:=ul r.2.2.2.2.2.1
   refine⟨?_,a6f hb a⟩
   simp only[G6 ha,o6,D8,ha,o7]
   rw[show I9 (castL (aN s d c.1)) (toN (i:Int))=some a from ha,o7,hr,o7,oW (by omega),o7]
   unfold gG
   rw[hr]
   simp only
   refine J3 (o' :=some ((Y4 r.2.2.2.2.2.1).2.1.foldl (dG s (G9 l s)) b)) ?_ ?_
   ·refine(ax (Y4 r.2.2.2.2.2.1).2.1 (dG s (G9 l s)) (fun b i=>((b.1,b.2,i):List Bool×List Bool×Int)) (fun b=>b) (fun _ b=>BOk s (G9 l s) b) (b:=b) (by omega) hb (fun j x b hx hj hb=>?_) (fun b hb=>?_)).1
    ·have hq:=p1 x (bZ hx)
     refine⟨?_,a1K hb x⟩
     simp only[G6 hx,o6,D8,hx,o7]
     rw[show I9 (Y4 r.2.2.2.2.2.1).2.1 (toN (j:Int))=some x from hx,o7,Ef hS hb.1 hq.1 hq.2,o7,o7,Ba h hs hS hM hb.2 x (Qx h hs2 x),o7,O5 (by omega)]
     rfl
    ·simp only[G5];rfl
   rw[o7]
   have hb2:=PL (s:=s) (m:=G9 l s) (Y4 r.2.2.2.2.2.1).2.1 hb
   generalize (Y4 r.2.2.2.2.2.1).2.1.foldl (dG s (G9 l s)) b=B at hb2 ⊢
   refine J3 (o' :=some (lm (G9 l s) B.2 (Y4 r.2.2.2.2.2.1).2.2)) ?_ ?_
   ·refine(ax (Y4 r.2.2.2.2.2.1).2.2 (yP (G9 l s)) (fun w i=>(w,i)) (fun w=>w) (fun _ w=>w.length=(G9 l s).2.2.2.1.length) (b:=B.2) (by omega) hb2.2 (fun j x w hx hj hw=>?_) (fun w hw=>?_)).1
    ·have hq:=p2 x (bZ hx)
     refine⟨?_,(rF _ w x).trans hw⟩
     simp only[G6 hx,o6,D8,hx,o7]
     rw[show I9 (Y4 r.2.2.2.2.2.1).2.2 (toN (j:Int))=some x from hx,o7,Ef hM hw hq.1 hq.2,o7,O5 (by omega)]
    ·simp only[G5];rfl
   rw[o7,O5 (by omega)]
  ·simp only[G5];rfl
 rw[o7]
 have hB:=XW s (G9 l s) d c.1
 unfold a5g EI
 generalize CE s (G9 l s) d c.1=B at hB ⊢
 rw[zx h hs hC.nm hM hT hB.2,o7]
 cases hq:mS l c (G9 l s) B.2 with
 | inr e=>simp only[E5 (gY _ (fun r=>r.1≠0) Lm _ _ _ hq)];rfl
 | inl b=>
  have hbl:=Fp hq
  simp only[F5 (rfl:(0:Int)=0),o9,o5]
  rw[VO c b h hs hM,o7,Au hS (ny hT s c (by omega)) (-1) hB.1,o7]
  cases hr:scS s (ig l s c b) (-1) B.1 with
  | inr e=>simp only[E5 (xn hr)];rfl
  | inl x=>
   simp only[F5 (rfl:(0:Int)=0),o9,o5,a0F]
   rw[X7]
   exact TV hS (rQ (ny hT s c (by omega)) x.1) (-1) d
theorem Hg {l:L6} (hW:WfL l) (k:Int) (c:U8) (d:Int):lZ l k c d=some true:=by
 unfold lZ
 rw[Gi,o7,ER]
 cases hl:smL l
 ·rfl
 cases hc:smC c
 ·rfl
 obtain⟨hL,hT⟩:=RF hl hW
 obtain⟨r,h1,h2⟩:∃r,gZ l k c d=some r∧lF l k c d=some r:=⟨_,Ih hL (IZ hc) hT,QU hL (IZ hc) hT⟩
 rw[h1,h2]
 simp only[o6,o9,o5,o7,F5]
 rfl
theorem EK:∀x,Di Gt.ps8 x→(Gt.s8.fn x:Option Bool)=some true:=fun x h=>Hg (Zc h.1) x.2.1 x.2.2.1 x.2.2.2
structure Sim (P Q:Int→Prop) (a b:P5):Prop where
 e1:a.1=b.1
 e2:a.2.1=b.2.1
 e3:a.2.2.2.2=b.2.2.2.2
 dl:a.2.2.1.length=b.2.2.1.length
 d:∀x,P x→lat a.2.2.1 x=lat b.2.2.1 x
 ml:a.2.2.2.1.length=b.2.2.2.1.length
 m:∀x,Q x→a.2.2.2.1.map (fun v=>lat v x)=b.2.2.2.1.map (fun v=>lat v x)
def WO (P Q:Int→Prop) (n:Int×Int):Prop:=(n.1=8→P n.2)∧(isM n.1=true→Q n.2)
theorem DL {α β:Type} {a:List α} {b:List β} (h:a.length=b.length):o8 a=o8 b:=congrArg (fun(n:Nat)=>(n:Int)) h
theorem a4d {P Q:Int→Prop} {n:Int×Int} {a b:P5} (h:Sim P Q a b) (hn:WO P Q n):uh n a=uh n b:=by
 obtain⟨d,i,D,M,T,B⟩:=a
 obtain⟨d',i',D',M',T',B'⟩:=b
 obtain⟨e1,e2,e3,dl,hd,ml,hm⟩:=h
 cases e1;cases e2;cases e3
 have hD:=DL dl
 unfold uh
 simp only at hD hd ⊢
 rw[hD]
 cases hk:ieq n.1 8
 ·rfl
 ·rw[hd _ (hn.1 (P6.1 hk))]
theorem XI {P Q:Int→Prop} {n:Int×Int} {a b:P5} (h:Sim P Q a b) (hn:WO P Q n):aA n a=aA n b:=by
 obtain⟨d,i,D,M,T,B⟩:=a
 obtain⟨d',i',D',M',T',B'⟩:=b
 obtain⟨e1,e2,e3,dl,hd,ml,hm⟩:=h
 cases e1;cases e2;cases e3
 have hM:=DL ml
 unfold aA
 simp only at hM hd ⊢
 rw[hM]
 cases hk:ieq n.1 8
 ·rfl
 ·rw[hd _ (hn.1 (P6.1 hk))]
theorem Qd {α γ β ρ:Type} (f:α→γ) (g:β→γ→β⊕ρ):∀(l:List α) (b:β),U0 (fun b a=>g b (f a)) l b=U0 g (l.map f) b
 | [],b=>rfl
 | a::l,b=>by
  rw[List.map_cons]
  unfold U0
  cases g b (f a)with
  | inl b' =>exact Qd f g l b'
  | inr r=>rfl
def c9d (k:Int) (t:Int×Int) (b:Int×Bool) (o:Option V3):(Int×Bool)⊕(V3×Int):=
 match(match o with | none=>(.inr 6:V3⊕Int) | some x=>l7 (ieq x.1 0) (.inr 6) (l7 (Lc x t) (.inl x) (.inr 8)))with
 | .inr c=> .inr ((0,0,0),c)
 | .inl x=>l7 (plB (t.1,0,zY k b.1 x.2.2 b.2)) (.inl (zY k b.1 x.2.2 b.2,false)) (.inr ((0,0,0),3))
theorem a1Z (k N:Int) (t:Int×Int) (ms:List (List V3)) (b:Int×Bool):U0 (Aa k N t) ms b=U0 (c9d k t) (ms.map fun v=>lat v N) b:=Qd (fun v=>lat v N) (c9d k t) ms b
theorem XQ {P Q:Int→Prop} {n:Int×Int} {a b:P5} (h:Sim P Q a b) (hn:Q n.2) (ha:EvOk a) (hb:EvOk b):iW n a=iW n b:=by
 obtain⟨k,N⟩:=n
 have h3:a.2.2.2.2.1=b.2.2.2.2.1:=by rw[h.e3]
 cases hl:lat a.2.2.2.2.1 N with
 | none=>
  have hl2:lat b.2.2.2.2.1 N=none:=by rw[←h3];exact hl
  unfold iW
  simp only
  rw[hl,hl2];rfl
 | some t=>
  have hl2:lat b.2.2.2.2.1 N=some t:=by rw[←h3];exact hl
  have h0:=(V5 hl).1
  rw[FM k N a t hl h0 ha.ms,FM k N b t hl2 h0 hb.ms]
  unfold XO
  rw[a1Z,a1Z,h.m N hn,DL h.ml]
theorem a0H {P Q:Int→Prop} {a b:P5} (h:Sim P Q a b) (n:Int×Int) (x:V3):fV n x a=fV n x b:=by
 obtain⟨d,i,D,M,T,B⟩:=a
 obtain⟨d',i',D',M',T',B'⟩:=b
 obtain⟨e1,e2,e3,dl,hd,ml,hm⟩:=h
 cases e1;cases e2;cases e3
 rfl
theorem KO {P Q:Int→Prop} {n:Int×Int} {a b:P5} (h:Sim P Q a b) (hn:WO P Q n) (ha:EvOk a) (hb:EvOk b) (args:List V3):uz n args a=uz n args b:=by
 unfold uz iV
 simp only[a4d h hn,XI h hn,a0H h]
 cases h1:ile 36 n.1
 ·rfl
 cases h2:ile n.1 39
 ·rfl
 rw[XQ h (hn.2 (by unfold isM;rw[h1];exact h2)) ha hb]
theorem Dz {P Q:Int→Prop} {a b:P5} (h:Sim P Q a b) (ha:EvOk a) (hb:EvOk b):∀(t:XT),(∀n∈t.post,WO P Q n)→evT a t=evT b t
 | .l0 n,hn=>KO h (hn n (by simp[XT.post])) ha hb []
 | .l1 n x,hn=>by
  unfold evT
  rw[Dz h ha hb x (fun m hm=>hn m (by simp[XT.post,hm])),KO h (hn n (by simp[XT.post])) ha hb]
 | .l2 n x y,hn=>by
  unfold evT
  rw[Dz h ha hb x (fun m hm=>hn m (by simp[XT.post,hm])),Dz h ha hb y (fun m hm=>hn m (by simp[XT.post,hm])),KO h (hn n (by simp[XT.post])) ha hb]
 | .l3 n x y z,hn=>by
  unfold evT
  rw[Dz h ha hb x (fun m hm=>hn m (by simp[XT.post,hm])),Dz h ha hb y (fun m hm=>hn m (by simp[XT.post,hm])),Dz h ha hb z (fun m hm=>hn m (by simp[XT.post,hm]))]
theorem a4S {P Q:Int→Prop} {e:List (Int×Int)} (h1:∀x∈(Y4 e).2.1,P x) (h2:∀x∈(Y4 e).2.2,Q x):∀n∈e,WO P Q n:=fun n hn=>by
 refine⟨fun hk=>h1 _ ?_,fun hk=>h2 _ ?_⟩
 ·exact(qY _ _).2 (List.mem_map.2 ⟨n,List.mem_filter.2 ⟨hn,by simp[hk,ieq]⟩,rfl⟩)
 ·exact(qY _ _).2 (List.mem_map.2 ⟨n,List.mem_filter.2 ⟨hn,hk⟩,rfl⟩)
theorem Ua {P Q:Int→Prop} {a b:P5} (h:Sim P Q a b) (ha:EvOk a) (hb:EvOk b) {e:List (Int×Int)} (h1:∀x∈(Y4 e).2.1,P x) (h2:∀x∈(Y4 e).2.2,Q x):qM e a=qM e b:=by
 unfold qM
 cases hs:eY e with
 | inl x=>rfl
 | inr t=>
  simp only
  exact Dz h ha hb t (fun n hn=>a4S h1 h2 n (by rw[(xN hs).1];exact hn))
def SA (s:A8) (P Q:Int→Prop) (d:Int):Prop:=∀r∈s.2.2.2.2,r.2.1=d→∀e,e=r.2.2.2.2.2.1∨e=r.2.2.2.2.2.2.1→(∀x∈(Y4 e).2.1,P x)∧∀x∈(Y4 e).2.2,Q x
theorem MM {s:A8} {d t i:Int} (h:i∈(W9 s d t).1):∃r,lat s.2.2.2.2 i=some r∧r∈s.2.2.2.2∧r.2.1=d:=by
 have h:i∈castL (aN s d t):=h
 obtain⟨k,hk,rfl⟩:=List.mem_map.1 h
 obtain⟨h1,h2⟩:=CX hk
 obtain⟨r,hr,hm⟩:=ed (l:=s.2.2.2.2) (i:=(k:Int)) (by omega) (by unfold o8;omega)
 refine⟨r,hr,hm,?_⟩
 unfold onR at h2
 rw[D8]at hr
 rw[hr]at h2
 simp only at h2
 cases h3:ieq r.2.1 d <;> rw[h3]at h2
 ·cases h2
 ·exact P6.1 h3
theorem Nh {α β ρ:Type} {G H:β→α→β⊕ρ} :∀(l:List α) (b:β),(∀a∈l,∀b,G b a=H b a)→U0 G l b=U0 H l b
 | [],b,h=>rfl
 | a::l,b,h=>by
  unfold U0
  rw[h a (by simp)]
  cases H b a with
  | inl b' =>exact Nh l b' (fun x hx=>h x (by simp[hx]))
  | inr r=>rfl
theorem MX {s:A8} {P Q:Int→Prop} {a b:P5} (h:Sim P Q a b) (ha:EvOk a) (hb:EvOk b) {d:Int} (hr:∀i∈(W9 s d b.1).1,∀r,lat s.2.2.2.2 i=some r→(∀x∈(Y4 r.2.2.2.2.2.1).2.1,P x)∧∀x∈(Y4 r.2.2.2.2.2.1).2.2,Q x) (m:Int):P8 s a m d=P8 s b m d:=by
 unfold P8
 rw[h.e1,Nh (G:=DJ s a m d) (H:=DJ s b m d) (W9 s d b.1).1 [] (fun i hi ap=>?_)]
 obtain⟨r,h1,h2,h3⟩:=MM hi
 obtain⟨p1,p2⟩:=hr i hi r h1
 unfold DJ
 rw[h1]
 simp only
 rw[Ua h ha hb p1 p2]
theorem Zl {s:A8} {P Q:Int→Prop} {a b:P5} (h:Sim P Q a b) (ha:EvOk a) (hb:EvOk b) {d:Int} (hr:SA s P Q d) (m:Int):P8 s a m d=P8 s b m d:=
 MX h ha hb (fun i hi r hl=>by
  obtain⟨q,h1,h2,h3⟩:=MM hi
  rw[h1]at hl;cases hl
  exact hr r h2 h3 _ (.inl rfl)) m
theorem TU {s:A8} {env:P5} {m d:Int} (h0:(P8 s env m d).2.1=0) (h1:(P8 s env m d).1≠-1) (h2:(P8 s env m d).1≠-2):(P8 s env m d).1∈(W9 s d env.1).1:=by
 unfold P8 at h0 h1 h2 ⊢
 cases hf:U0 (DJ s env m d) (W9 s d env.1).1 []with
 | inr e=>rw[hf]at h0;exact absurd h0 (gY (DJ s env m d) (fun r=>r.2.1≠0) (fun b i r h=>Qi b i r h) _ _ _ hf)
 | inl ap=>
  rw[hf]at h1 h2
  simp only at h1 h2 ⊢
  have hb:=Wq (W9 s d env.1).2.1 (W9 s d env.1).2.2 ap
  have hlo:=a3u (W9 s d env.1).2.1 (W9 s d env.1).2.2 ap
  have hl:=(Gn s d env.1).2
  generalize Ad (W9 s d env.1).2.1 (W9 s d env.1).2.2 ap=q at h1 h2 hb hlo ⊢
  by_cases g:q<0
  ·rw[F7 g]at h1 h2
   simp only[o6]at h1 h2
   omega
  rw[E9 (Int.not_lt.1 g)]
  have hi:q.toNat<(W9 s d env.1).1.length:=by omega
  simp only[o5,qh,Y8 hi,Option.getD_some]
  exact List.getElem_mem hi
theorem Xg {s:A8} {P Q:Int→Prop} {a b:P5} (h:Sim P Q a b) (ha:EvOk a) (hb:EvOk b) {d:Int} (hr:SA s P Q d) (m:Int):Bq s a m d=Bq s b m d:=by
 unfold Bq
 rw[Zl h ha hb hr m]
 cases h0:ieq (P8 s b m d).2.1 0
 ·simp only[o5]
 cases h1:ieq (P8 s b m d).1 (-1)
 case true=>simp only[o6]
 cases h2:ieq (P8 s b m d).1 (-2)
 case true=>simp only[o6,o5]
 have hin:=TU (P6.1 h0) (fun e=>by rw[F5 e]at h1;cases h1) (fun e=>by rw[F5 e]at h2;cases h2)
 obtain⟨r,r1,r2,r3⟩:=MM hin
 obtain⟨p1,p2⟩:=hr r r2 r3 _ (.inr rfl)
 rw[r1]
 simp only
 rw[Ua h ha hb p1 p2]
def a3I (s:A8) (O:List Int):Prop:=O.Nodup∧(∀d∈O,0≤d∧d<nD s)∧∀(pre:List Int) (d:Int) (suf:List Int),O=pre++d::suf→∀x∈H9 s d,x∈pre
theorem a1d {O pre suf:List Int} {d e:Int} (h:O++[e]=pre++d::suf):(suf=[]∧pre=O∧d=e)∨∃suf',suf=suf' ++[e]∧O=pre++d::suf' :=by
 rcases List.eq_nil_or_concat suf with rfl | ⟨suf',z,rfl⟩
 ·have h:O++[e]=pre++[d]:=h
  obtain⟨h1,h2⟩:=List.append_inj' h rfl
  cases h2;exact .inl ⟨rfl,h1.symm,rfl⟩
 ·rw[List.concat_eq_append,←List.cons_append,←List.append_assoc]at h
  obtain⟨h1,h2⟩:=List.append_inj' h rfl
  cases h2;exact .inr ⟨suf',by simp,h1⟩
theorem a5p {s:A8} {O:List Int} {d:Nat} (h:a3I s O) (hd:d<s.2.2.2.1.length) (ho:okN s O d=true):a3I s (O++[(d:Int)]):=by
 obtain⟨h1,h2⟩:=ZZ.1 ho
 refine⟨?_,fun x hx=>?_,fun pre e suf he x hx=>?_⟩
 ·exact List.nodup_append.2 ⟨h.1,by simp,fun a ha b hb hab=>by simp at hb;subst hb;exact h1 (hab▸ha)⟩
 ·rcases List.mem_append.1 hx with hx | hx
  ·exact h.2.1 x hx
  ·simp at hx;subst hx;unfold nD o8;omega
 ·rcases a1d he with⟨_,rfl,rfl⟩ | ⟨suf',_,e2⟩
  ·cases hq:iD pre x
   ·have:x∈JF s pre (d:Int):=List.mem_filter.2 ⟨hx,by simp[hq]⟩
    rw[h2]at this;cases this
   ·exact oP.1 hq
  ·exact h.2.2 pre e suf' e2 x hx
theorem a9N {s:A8} {d x:Int} (hx:x∈H9 s d) (hn:x∉U3 s x):(U3 s x).length<(U3 s d).length:=by
 obtain⟨a1,a2,a3,a4⟩:=qK s d
 obtain⟨b1,b2,b3,b4⟩:=qK s x
 have hxd:=a2 x hx
 rcases KD b1 a1 (fun y hy=>b4 (fun z=>z∈U3 s d) (a3 x hxd) (fun z hz=>a3 z hz) y hy)with h | h
 ·rw[←h]at hxd;exact absurd hxd hn
 ·exact h
theorem a7q {s:A8} (hac:∀d,0≤d→d<nD s→d∉U3 s d) (O:List Int):∀(n:Nat) (d:Int),0≤d→d<nD s→d∉O→(U3 s d).length≤n→∃e,0≤e∧e<nD s∧e∉O∧∀x∈H9 s e,x∈O:=by
 intro n
 induction n with
 | zero=>
  intro d h0 h1 h2 hl
  refine⟨d,h0,h1,h2,fun x hx=>?_⟩
  have:=(qK s d).2.1 x hx
  rw[List.length_eq_zero_iff.1 (Nat.le_zero.1 hl)]at this;cases this
 | succ n ih=>
  intro d h0 h1 h2 hl
  by_cases hq:∀x∈H9 s d,x∈O
  ·exact⟨d,h0,h1,h2,hq⟩
  ·obtain⟨x,hx⟩:=Classical.not_forall.1 hq
   obtain⟨hx,hxO⟩:=Classical.not_imp.1 hx
   obtain⟨q0,q1⟩:=nH hx
   have:=a9N hx (hac x q0 q1)
   exact ih x q0 q1 hxO (by omega)
theorem c1f {s:A8} {O:List Int} (hl:O.length<s.2.2.2.1.length):∃d:Int,0≤d∧d<nD s∧d∉O:=by
 refine Classical.byContradiction fun hq=>?_
 have h1:∀x∈castL (List.range s.2.2.2.1.length),x∈Em O:=fun x hx=>by
  obtain⟨j,hj,rfl⟩:=List.mem_map.1 hx
  have:=List.mem_range.1 hj
  exact(qY _ _).2 (Classical.byContradiction fun hn=>hq ⟨(j:Int),by omega,by unfold nD o8;omega,hn⟩)
 have h2:=AB O
 have h3:(castL (List.range s.2.2.2.1.length)).length=s.2.2.2.1.length:=by rw[yU,List.length_range]
 rcases KD (Px List.pairwise_lt_range) (Wu O) h1 with h | h
 ·rw[←h]at h2;omega
 ·omega
theorem UD {s:A8} (hac:∀d,0≤d→d<nD s→d∉U3 s d):∀(k:Nat) (O:List Int),a3I s O→O.length≤s.2.2.2.1.length→s.2.2.2.1.length -O.length≤k→∃O',JU s k O= .inl O' ∧a3I s O' ∧O'.length=s.2.2.2.1.length
 | 0,O,h,hl,hk=>⟨O,rfl,h,by omega⟩
 | k+1,O,h,hl,hk=>by
  unfold JU
  by_cases hq:O.length<s.2.2.2.1.length
  ·rw[if_pos hq]
   cases hn:ED s O with
   | none=>
    obtain⟨d,d0,d1,d2⟩:=c1f hq
    obtain⟨e,e0,e1,e2,e3⟩:=a7q hac O _ d d0 d1 d2 (Nat.le_refl _)
    have hlt:e.toNat<s.2.2.2.1.length:=by unfold nD o8 at e1;omega
    have:=uI hn e.toNat hlt
    have hok:okN s O e.toNat=true:=ZZ.2 (by
     rw[Int.toNat_of_nonneg e0]
     refine⟨e2,List.filter_eq_nil_iff.2 fun x hx=>by simp[oP.2 (e3 x hx)]⟩)
    unfold NF at this
    rw[hok]at this;cases this
   | some d=>
    obtain⟨n1,n2⟩:=QE hn
    exact UD hac k (O++[(d:Int)]) (a5p h n1 n2) (by simp;omega) (by simp;omega)
  ·rw[if_neg hq];exact⟨O,rfl,h,by omega⟩
theorem IK {s:A8} (hs:SmS s) (hac:∀d,0≤d→d<nD s→d∉U3 s d):a3I s (kJ s).1∧∀d,0≤d→d<nD s→d∈(kJ s).1:=by
 have hnd:=hs.nd
 obtain⟨O,h1,h2,h3⟩:=UD hac 100 [] ⟨by simp,by simp,fun pre d suf h=>by simp at h⟩ (by simp) (by simp;omega)
 have e:(kJ s).1=O:=by unfold kJ;rw[h1]
 rw[e]
 refine⟨h2,fun d d0 d1=>?_⟩
 refine Classical.byContradiction fun hn=>?_
 have:=LG (l:=d::O) (n:=s.2.2.2.1.length) (List.nodup_cons.2 ⟨hn,h2.1⟩) (fun x hx=>by
  rcases List.mem_cons.1 hx with rfl | hx
  ·exact⟨d0,d1⟩
  ·exact h2.2.1 x hx)
 simp at this;omega
theorem Jc {l:L6} (h:(aP l).1=0) {i:Nat} {s:A8} (hs:l.2.2[i]? =some s):∀d,0≤d→d<nD s→d∉U3 s d:=by
 intro d d0 d1 hd
 have hp:=(MP h hs).2
 unfold LK at hp
 cases h1:yu l s with
 | some q=>rw[h1]at hp;exact absurd hp (Fb h1)
 | none=>
  rw[h1]at hp
  simp only at hp
  cases h2:P9 s.2.2.2.2.length (CW l s)with
  | some q=>
   rw[h2]at hp
   obtain⟨j,hj,hq⟩:=aW h2
   unfold CW at hq
   cases h3:s.2.2.2.2[j]? with
   | none=>rw[h3]at hq;cases hq
   | some q2=>rw[h3]at hq;exact absurd hp (Cb hq)
  | none=>
   rw[h2]at hp
   simp only at hp
   have key:Ou s d.toNat=some (9,((200+d.toNat:Nat):Int)):=by
    unfold Ou
    rw[show((U3 s d.toNat).any fun x=>ieq (d.toNat:Int) x)=true from ?_];rfl
    rw[Int.toNat_of_nonneg d0]
    exact List.any_eq_true.2 ⟨d,hd,F5 rfl⟩
   cases h3:P9 s.2.2.2.1.length (Ou s)with
   | none=>
    have:=uI h3 d.toNat (by unfold nD o8 at d1;omega)
    rw[key]at this;cases this
   | some q=>
    rw[h3]at hp
    obtain⟨j,hj,hq⟩:=aW h3
    unfold Ou at hq
    cases h4:(U3 s (j:Int)).any fun x=>ieq (j:Int) x <;> rw[h4]at hq
    ·cases hq
    ·cases hq;exact absurd (show(9:Int)=0 from hp) (by decide)
theorem a6y {l:L6} (h:(aP l).1=0) {k:Int} {s:A8} (hs:lat l.2.2 k=some s):∀d,0≤d→d<nD (G9 l s)→d∉U3 (G9 l s) d:=by
 rcases uu h hs with⟨_,_,g⟩ | ⟨_,_,_,g,_⟩
 ·rw[g];intro d d0 d1;exact absurd d1 (by show ¬d<(0:Int);omega)
 ·exact Jc h (V5 g).2.2.2
theorem Ue {α β ρ:Type} (G:β→α→β⊕ρ):∀(l m:List α) (b:β),U0 G (l++m) b=match U0 G l b with | .inl b' =>U0 G m b' | .inr r=> .inr r
 | [],m,b=>rfl
 | a::l,m,b=>by
  rw[List.cons_append]
  simp only[U0]
  cases G b a with
  | inl b' =>exact Ue G l m b'
  | inr r=>rfl
theorem lY {α:Type} {l:List α} {d x:Int} (v:α) (h0:0≤d) (h:x≠d):lat (l.set d.toNat v) x=lat l x:=by
 unfold lat
 split
 ·rw[List.getElem?_set_ne (by omega)]
 ·rfl
theorem zC {α:Type} {l:List α} {d:Int} (v:α) (h0:0≤d) (h:d<o8 l):lat (l.set d.toNat v) d=some v:=by
 unfold lat
 rw[if_pos h0,List.getElem?_set_self (by unfold o8 at h;omega)]
theorem Rx {s:A8} {env:P5} {m:Int} {need:List Bool} {x:Int} :∀(L:List Int) {B X:DB},(∀d∈L,0≤d)→x∉L→U0 (scG s env m need) L B= .inl X→lat X.1 x=lat B.1 x∧lat X.2 x=lat B.2 x
 | [],B,X,_,_,h=>by cases h;exact⟨rfl,rfl⟩
 | d::L,B,X,hL,hx,h=>by
  unfold U0 at h
  cases hg:scG s env m need B d with
  | inr e=>rw[hg]at h;cases h
  | inl B' =>
   rw[hg]at h
   obtain⟨k1,k2⟩:=Rx L (fun y hy=>hL y (by simp[hy])) (fun hm:x∈L=>hx (List.mem_cons_of_mem _ hm)) h
   have hd:x≠d:=fun e=>hx (by simp[e])
   unfold scG at hg
   cases h1:(lat need d).getD false <;> rw[h1]at hg
   ·cases hg;exact⟨k1,k2⟩
   simp only[o6]at hg
   cases h2:Bq s (qU env B.1) m d with
   | inr e=>rw[h2]at hg;cases hg
   | inl v=>
    rw[h2]at hg;cases hg
    rw[k1,k2,lY _ (hL d (by simp)) hd,lY _ (hL d (by simp)) hd];exact⟨rfl,rfl⟩
theorem b1y {s:A8} {env:P5} {m:Int} {need:List Bool} {n:Nat} (L:List Int) {B X:DB} (hB:B.1.length=n∧B.2.length=n) (h:U0 (scG s env m need) L B= .inl X):X.1.length=n∧X.2.length=n:=by
 refine GG (scG s env m need) (fun x=>x.1.length=n∧x.2.length=n) (fun b d b' hb hg=>?_) _ _ _ hB h
 unfold scG at hg
 cases h1:(lat need d).getD false <;> rw[h1]at hg
 ·cases hg;exact hb
 simp only[o6]at hg
 cases hd:Bq s (qU env b.1) m d with
 | inr e=>rw[hd]at hg;cases hg
 | inl v=>rw[hd]at hg;cases hg;simp[hb]
theorem Du {l:L6} (h:(aP l).1=0) {i:Nat} {s:A8} (hs:l.2.2[i]? =some s) (d:Int):SA s (fun x=>x∈H9 s d) (fun x=>0≤x∧x<nD (G9 l s)) d:=by
 intro r hr hd e he
 obtain⟨p1,p2⟩:=zh h hs hr he
 refine⟨fun x hx=>?_,p2⟩
 obtain⟨q,hq,_⟩:=(Oi h hs hr).2
 obtain⟨q0,q1,_⟩:=V5 hq
 have hin:inD (nD s) d=true:=by
  rw[←hd];unfold inD;rw[H5 q0];exact F7 q1
 unfold H9
 rw[hin]
 refine(qY _ _).2 (a6z.2 ⟨r,hr,hd,?_⟩)
 obtain⟨x0,x1⟩:=p1 x hx
 have hxi:inD (nD s) x=true:=by unfold inD;rw[H5 x0];exact F7 x1
 unfold xC
 rcases he with rfl | rfl
 ·exact List.mem_append.2 (.inl (List.mem_filter.2 ⟨hx,hxi⟩))
 ·exact List.mem_append.2 (.inr (List.mem_filter.2 ⟨hx,hxi⟩))
theorem a4n (l:L6) (s:A8) (h:(G9 l s).2.1=-1):G9 l (G9 l s)=rY:=by
 unfold G9 at h ⊢
 rw[h];rfl
theorem Na {l:L6} (h:(aP l).1=0) {k:Int} {s:A8} (hs:lat l.2.2 k=some s) (d:Int):SA (G9 l s) (fun x=>x∈H9 (G9 l s) d) (fun x=>False) d:=by
 rcases uu h hs with⟨_,_,g⟩ | ⟨g1,g2,g3,g,_⟩
 ·rw[g];intro r hr;cases hr
 ·intro r hr hd e he
  have h2:=Du h (V5 g).2.2.2 d r hr hd e he
  refine⟨h2.1,fun x hx=>?_⟩
  have hm:=UT h (V5 hs).2.2.2
  unfold xR at hm
  have hne:ieq s.2.1 (-1)=false:=E5 (by rw[jv]at g1;omega)
  rw[hne,g2,g]at hm
  simp only[o5]at hm
  have hm1:(G9 l s).2.1=-1:=by
   cases hq:ile (((k.toNat:Nat)):Int) s.2.1 <;> rw[hq]at hm
   case true=>cases hm
   cases hq2:ieq (G9 l s).2.1 (-1) <;> rw[hq2]at hm
   ·cases hm
   ·exact P6.1 hq2
  have:=h2.2 x hx
  rw[a4n l s hm1]at this
  exact absurd this.2 (by show ¬x<(0:Int);omega)
theorem ZC {s:A8} {env:P5} {m:Int} {need:List Bool} {X:DB} {Q:Int→Prop} (hE:EvOk env) (ht:a3I s (kJ s).1) (hX:scS s env m need= .inl X) {d:Int} (hd:d∈(kJ s).1) (hn:(lat need d).getD false=true) (hr:SA s (fun x=>x∈H9 s d) Q d):
  ∃v r,lat X.1 d=some v∧lat X.2 d=some r∧Bq s (qU env X.1) m d= .inl (v,r):=by
 obtain⟨pre,suf,he⟩:=List.append_of_mem hd
 have hlen:=Be hX
 unfold scS at hX
 rw[he,Ue]at hX
 cases hB:U0 (scG s env m need) pre (List.replicate s.2.2.2.1.length (0,0,0),List.replicate s.2.2.2.1.length 0)with
 | inr r=>rw[hB]at hX;cases hX
 | inl B=>
  rw[hB]at hX
  simp only at hX
  have hBl:=b1y (n:=s.2.2.2.1.length) pre (by simp) hB
  unfold U0 at hX
  cases hg:scG s env m need B d with
  | inr r=>rw[hg]at hX;cases hX
  | inl B' =>
   rw[hg]at hX
   simp only at hX
   obtain⟨d0,d1⟩:=ht.2.1 d hd
   have hnd:=ht.1
   rw[he]at hnd
   obtain⟨n1,n2,n3⟩:=List.nodup_append.1 hnd
   obtain⟨n4,n5⟩:=List.nodup_cons.1 n2
   have hpos:∀y∈suf,0≤y:=fun y hy=>(ht.2.1 y (by rw[he];simp[hy])).1
   unfold scG at hg
   rw[hn]at hg
   simp only[o6]at hg
   cases hv:Bq s (qU env B.1) m d with
   | inr e=>rw[hv]at hg;cases hg
   | inl v=>
    rw[hv]at hg
    cases hg
    obtain⟨k1,k2⟩:=Rx (x:=d) suf hpos n4 hX
    rw[zC _ d0 (by unfold nD at d1;unfold o8 at d1 ⊢;omega)]at k1 k2
    refine⟨v.1,v.2,k1,k2,?_⟩
    rw[←hv]
    refine Xg (a:=qU env X.1) (b:=qU env B.1) (P:=fun x=>x∈H9 s d) (Q:=Q) ⟨rfl,rfl,rfl,by show X.1.length=B.1.length;omega,fun x hx=>?_,rfl,fun _ _=>rfl⟩ (rQ hE _) (rQ hE _) hr m
    have hxp:=ht.2.2 pre d suf he x hx
    have hxs:x∉suf:=fun hy=>n3 x hxp x (by simp[hy]) rfl
    have hxd:x≠d:=fun hy=>n3 x hxp d (by simp) hy
    have:=(Rx (x:=x) suf hpos hxs hX).1
    rw[lY _ d0 hxd]at this
    exact this
structure SimE (Q:Int→Prop) (a b:P5):Prop where
 e1:a.1=b.1
 e2:a.2.1=b.2.1
 e3:a.2.2.2.2=b.2.2.2.2
 ml:a.2.2.2.1.length=b.2.2.2.1.length
 m:∀x,Q x→a.2.2.2.1.map (fun v=>lat v x)=b.2.2.2.1.map (fun v=>lat v x)
theorem SimE.at {P Q:Int→Prop} {a b:P5} (h:SimE Q a b) {D D' :List V3} (hl:D.length=D'.length) (hd:∀x,P x→lat D x=lat D' x):Sim P Q (qU a D) (qU b D'):=⟨h.e1,h.e2,h.e3,hl,hd,h.ml,h.m⟩
abbrev ND (w:List Bool) (x:Int):Prop:=(lat w x).getD false=true
structure DInv (n:Nat) (need:List Bool) (B B' :DB):Prop where
 l1:B.1.length=n∧B.2.length=n
 l2:B'.1.length=n∧B'.2.length=n
 eq:∀x,ND need x→lat B.1 x=lat B'.1 x∧lat B.2 x=lat B'.2 x
theorem a3A {s:A8} {a b:P5} {m:Int} {need:List Bool} {Q:Int→Prop} (hS:SimE Q a b) (ha:EvOk a) (hb:EvOk b) (hc:∀d,ND need d→∀x∈H9 s d,ND need x) (hr:∀d,ND need d→SA s (fun x=>x∈H9 s d) Q d) {n:Nat} :
  ∀(L:List Int),(∀d∈L,0≤d∧d<(n:Int))→∀(B B' X:DB),DInv n need B B' →U0 (scG s a m (ah n)) L B= .inl X→∃Y,U0 (scG s b m need) L B' = .inl Y∧DInv n need X Y
 | [],_,B,B',X,hB,h=>by cases h;exact⟨B',rfl,hB⟩
 | d::L,hL,B,B',X,hB,h=>by
  obtain⟨d0,d1⟩:=hL d (by simp)
  unfold U0 at h
  cases hg:scG s a m (ah n) B d with
  | inr e=>rw[hg]at h;cases h
  | inl B1=>
   rw[hg]at h
   simp only at h
   have ht:lat (ah n) d=some true:=by
    unfold lat ah
    rw[if_pos d0,List.getElem?_replicate,if_pos (by omega)]
   unfold scG at hg
   rw[ht]at hg
   simp only[Option.getD_some,o6]at hg
   cases hv:Bq s (qU a B.1) m d with
   | inr e=>rw[hv]at hg;cases hg
   | inl v=>
    rw[hv]at hg
    cases hg
    have step:∃B2,scG s b m need B' d= .inl B2∧DInv n need (B.1.set d.toNat v.1,B.2.set d.toNat v.2) B2:=by
     unfold scG
     cases hn:(lat need d).getD false
     ·refine⟨B',rfl,⟨by simp[hB.l1],hB.l2,fun x hx=>?_⟩⟩
      have hxd:x≠d:=fun e=>by rw[e]at hx;unfold ND at hx;rw[hn]at hx;cases hx
      show lat (B.1.set d.toNat v.1) x=_∧lat (B.2.set d.toNat v.2) x=_
      rw[lY _ d0 hxd,lY _ d0 hxd];exact hB.eq x hx
     ·have hs:Bq s (qU b B'.1) m d= .inl v:=by
       rw[←hv]
       refine(Xg (hS.at (by have:=hB.l1.1;have:=hB.l2.1;omega) (fun x hx=>(hB.eq x (hc d hn x hx)).1)) (rQ ha _) (rQ hb _) (hr d hn) m).symm
      simp only[o6]
      rw[hs]
      refine⟨_,rfl,⟨by simp[hB.l1],by simp[hB.l2],fun x hx=>?_⟩⟩
      show lat (B.1.set d.toNat v.1) x=lat (B'.1.set d.toNat v.1) x∧lat (B.2.set d.toNat v.2) x=lat (B'.2.set d.toNat v.2) x
      by_cases hxd:x=d
      ·subst hxd
       have k1:=hB.l1.1;have k2:=hB.l1.2;have k3:=hB.l2.1;have k4:=hB.l2.2
       rw[zC _ d0 (by unfold o8;omega),zC _ d0 (by unfold o8;omega),zC _ d0 (by unfold o8;omega),zC _ d0 (by unfold o8;omega)];exact⟨rfl,rfl⟩
      ·rw[lY _ d0 hxd,lY _ d0 hxd,lY _ d0 hxd,lY _ d0 hxd];exact hB.eq x hx
    obtain⟨B2,h1,h2⟩:=step
    obtain⟨Y,h3,h4⟩:=a3A hS ha hb hc hr L (fun x hx=>hL x (by simp[hx])) _ B2 X h2 h
    refine⟨Y,?_,h4⟩
    unfold U0;rw[h1];exact h3
theorem a8f {s:A8} {a b:P5} {m:Int} {need:List Bool} {Q:Int→Prop} {X:DB} (hS:SimE Q a b) (ha:EvOk a) (hb:EvOk b) (hc:∀d,ND need d→∀x∈H9 s d,ND need x) (hr:∀d,ND need d→SA s (fun x=>x∈H9 s d) Q d) (h:scS s a m (ah s.2.2.2.1.length)= .inl X):
  ∃Y,scS s b m need= .inl Y∧DInv s.2.2.2.1.length need X Y:=
 a3A hS ha hb hc hr (kJ s).1 (fun d hd=>(FD s).1 d hd) _ _ X ⟨by simp,by simp,fun _ _=>⟨rfl,rfl⟩⟩ h
structure MInv (need:List Bool) (b b' :List DB):Prop where
 l:b.length=b'.length
 eq:∀x,ND need x→b.map (fun v=>lat v.1 x)=b'.map (fun v=>lat v.1 x)
theorem b1T {l:L6} {c:U8} {ms:A8} {need:List Bool} (hT:∀t∈l.2.1,ku t) (hc:∀d,ND need d→∀x∈H9 ms d,ND need x) (hr:∀d,SA ms (fun x=>x∈H9 ms d) (fun _=>False) d):
  ∀(L:List (List V3×Nat)) (b b' X:List DB),MInv need b b' →U0 (mG l c ms (ah ms.2.2.2.1.length)) L b= .inl X→∃Y,U0 (mG l c ms need) L b' = .inl Y∧MInv need X Y
 | [],b,b',X,hb,h=>by cases h;exact⟨b',rfl,hb⟩
 | a::L,b,b',X,hb,h=>by
  unfold U0 at h
  cases hg:mG l c ms (ah ms.2.2.2.1.length) b a with
  | inr e=>rw[hg]at h;cases h
  | inl b1=>
   rw[hg]at h
   simp only at h
   unfold mG at hg
   cases hs:scS ms (JI l c a.1) (a.2:Int) (ah ms.2.2.2.1.length)with
   | inr e=>rw[hs]at hg;cases hg
   | inl x=>
    rw[hs]at hg
    cases hg
    obtain⟨y,y1,y2⟩:=a8f (Q:=fun _=>False) (b:=JI l c a.1) ⟨rfl,rfl,rfl,rfl,fun _ _=>rfl⟩ (JJ hT c a.1) (JJ hT c a.1) hc (fun d _=>hr d) hs
    obtain⟨Y,h3,h4⟩:=b1T hT hc hr L (b++[x]) (b' ++[y]) X ⟨by simp[hb.l],fun z hz=>by rw[List.map_append,List.map_append,hb.eq z hz];exact congrArg (fun q=>_++[q]) (y2.eq z hz).1⟩ h
    refine⟨Y,?_,h4⟩
    unfold U0 mG;rw[y1];exact h3
theorem NC (w:List Bool) (x:Int):ND w x↔mk w x=true:=by
 unfold ND mk lat
 split
 ·rw[qh]
 ·simp
theorem ZR {s:A8} {w:List Bool} (hw:w.length=s.2.2.2.1.length) {d:Int} (h0:0≤d) (h1:d<nD s) (x:Int):mk (yP s w d) x=true↔mk w x=true∨x=d∨x∈U3 s d:=by
 unfold yP
 rw[Vz _ _ (fun y hy=>by have:=rJ hy;unfold nD at this;simp only[o8,List.length_set]at this ⊢;omega),QB h0 (by unfold nD at h1;unfold o8 at h1 ⊢;omega)]
 cases hq:ieq x d
 ·have:x≠d:=fun e=>by rw[F5 e]at hq;cases hq
  simp[this]
 ·rw[P6]at hq;simp[hq]
theorem ZQ {m:A8} :∀(L:List Int) {w:List Bool},w.length=m.2.2.2.1.length→(∀x∈L,0≤x∧x<nD m)→∀x,mk (lm m w L) x=true↔mk w x=true∨∃z∈L,x=z∨x∈U3 m z
 | [],w,hw,h,x=>by simp[lm]
 | z::L,w,hw,h,x=>by
  obtain⟨z0,z1⟩:=h z (by simp)
  rw[show lm m w (z::L)=lm m (yP m w z) L from rfl,ZQ L ((rF m w z).trans hw) (fun y hy=>h y (by simp[hy])) x,ZR hw z0 z1]
  constructor
  ·rintro((h1 | h1) | ⟨y,hy,h1⟩)
   ·exact .inl h1
   ·exact .inr ⟨z,by simp,h1⟩
   ·exact .inr ⟨y,by simp[hy],h1⟩
  ·rintro(h1 | ⟨y,hy,h1⟩)
   ·exact .inl (.inl h1)
   ·rcases List.mem_cons.1 hy with rfl | hy
    ·exact .inl (.inr h1)
    ·exact .inr ⟨y,hy,h1⟩
def Dj (s:A8) (w:List Bool):Prop:=∀d,mk w d=true→∀x∈H9 s d,mk w x=true
theorem Hw (s:A8) (n:Nat):Dj s (X8 n):=fun d hd=>by unfold X8 at hd;rw[Lu]at hd;cases hd
theorem PI {s:A8} {w:List Bool} (hw:w.length=s.2.2.2.1.length) (hc:Dj s w) {d:Int} (h0:0≤d) (h1:d<nD s):Dj s (yP s w d):=by
 intro e he x hx
 rw[ZR hw h0 h1]at he ⊢
 obtain⟨_,t1,t2,_⟩:=qK s d
 rcases he with he | rfl | he
 ·exact .inl (hc e he x hx)
 ·exact .inr (.inr (t1 x hx))
 ·exact .inr (.inr (t2 e he x hx))
theorem Ip {m:A8} :∀(L:List Int) {w:List Bool},w.length=m.2.2.2.1.length→Dj m w→(∀x∈L,0≤x∧x<nD m)→Dj m (lm m w L)
 | [],w,hw,hc,h=>hc
 | z::L,w,hw,hc,h=>Ip L ((rF m w z).trans hw) (PI hw hc (h z (by simp)).1 (h z (by simp)).2) (fun y hy=>h y (by simp[hy]))
theorem a1N {l:L6} {k:Int} {s:A8} {c:U8} {nS nM:List Bool} {b:List DB} {X:DB} (hv:(aP l).1=0) (hs:lat l.2.2 k=some s) (hC:SmC c) (hT:∀t∈l.2.1,ku t) (c1:Dj s nS) (c2:Dj (G9 l s) nM)
  (hr:∀d,mk nS d=true→SA s (fun x=>x∈H9 s d) (fun x=>mk nM x=true) d)
  (hM:mS l c (G9 l s) (ah (G9 l s).2.2.2.1.length)= .inl b) (hX:scS s (ig l s c b) (-1) (ah s.2.2.2.1.length)= .inl X):
  ∃b' Y,EI l s c nS nM= .inl (Y,b')∧b'.length=c.2.2.length∧b.length=c.2.2.length∧SimE (fun x=>mk nM x=true) (ig l s c b) (ig l s c b')∧DInv s.2.2.2.1.length nS X Y:=by
 have hcm:=hC.nm
 obtain⟨b',h1,h2⟩:=b1T (need:=nM) hT (fun d hd x hx=>(NC _ _).2 (c2 d ((NC _ _).1 hd) x hx)) (fun d=>Na hv hs d) c.2.2.zipIdx [] [] b ⟨rfl,fun _ _=>rfl⟩ hM
 have hb:b.length=c.2.2.length:=Fp hM
 have hb' :b'.length=c.2.2.length:=by rw[←h2.l];exact hb
 have hE:SimE (fun x=>mk nM x=true) (ig l s c b) (ig l s c b'):=⟨rfl,rfl,rfl,by simp[ig,h2.l],fun x hx=>by
  have:=h2.eq x ((NC _ _).2 hx)
  simp only[ig,List.map_map]
  exact this⟩
 obtain⟨Y,y1,y2⟩:=a8f (need:=nS) hE (ny hT s c (by omega)) (ny hT s c (by omega)) (fun d hd x hx=>(NC _ _).2 (c1 d ((NC _ _).1 hd) x hx)) (fun d hd=>hr d ((NC _ _).1 hd)) hX
 refine⟨b',Y,?_,hb',hb,hE,y2⟩
 unfold EI
 rw[show mS l c (G9 l s) nM= .inl b' from h1]
 simp only
 rw[y1]
structure NI (l:L6) (s:A8) (B:BB):Prop where
 ok:BOk s (G9 l s) B
 c1:Dj s B.1
 c2:Dj (G9 l s) B.2
 hr:∀e,mk B.1 e=true→SA s (fun x=>x∈H9 s e) (fun x=>mk B.2 x=true) e
theorem a5z (l:L6) (s:A8):NI l s (X8 s.2.2.2.1.length,X8 (G9 l s).2.2.2.1.length):=
 ⟨⟨iC _,iC _⟩,Hw _ _,Hw _ _,fun e he=>by unfold X8 at he;rw[Lu]at he;cases he⟩
structure Grows (B C:BB):Prop where
 g1:∀x,mk B.1 x=true→mk C.1 x=true
 g2:∀x,mk B.2 x=true→mk C.2 x=true
theorem Grows.refl (B:BB):Grows B B:=⟨fun _ h=>h,fun _ h=>h⟩
theorem Grows.trans {A B C:BB} (h:Grows A B) (k:Grows B C):Grows A C:=⟨fun x hx=>k.g1 x (h.g1 x hx),fun x hx=>k.g2 x (h.g2 x hx)⟩
theorem b9P {l:L6} {s:A8} {B:BB} (h:NI l s B) {L:List Int} (hL:∀x∈L,0≤x∧x<nD (G9 l s)):NI l s (B.1,lm (G9 l s) B.2 L)∧Grows B (B.1,lm (G9 l s) B.2 L)∧∀x∈L,mk (lm (G9 l s) B.2 L) x=true:=by
 have hm:=ZQ L h.ok.2 hL
 refine⟨⟨⟨h.ok.1,(wG _ _ _).trans h.ok.2⟩,h.c1,Ip L h.ok.2 h.c2 hL,fun e he r hr hd e' he' =>?_⟩,⟨fun _ hx=>hx,fun x hx=>(hm x).2 (.inl hx)⟩,fun x hx=>(hm x).2 (.inr ⟨x,hx,.inl rfl⟩)⟩
 obtain⟨p1,p2⟩:=h.hr e he r hr hd e' he'
 exact⟨p1,fun x hx=>(hm x).2 (.inl (p2 x hx))⟩
theorem a5x {l:L6} (hv:(aP l).1=0) {k:Int} {s:A8} (hs:lat l.2.2 k=some s) {B:BB} (h:NI l s B) {d:Int} (d0:0≤d) (d1:d<nD s):NI l s (dG s (G9 l s) B d)∧Grows B (dG s (G9 l s) B d)∧mk (dG s (G9 l s) B d).1 d=true:=by
 have hs2:=(V5 hs).2.2.2
 have hr:=ZR h.ok.1 d0 d1
 have hin:=Qx hv hs2 d
 have hm:=ZQ (mbS s d) h.ok.2 hin
 refine⟨⟨a1K h.ok d,PI h.ok.1 h.c1 d0 d1,Ip _ h.ok.2 h.c2 hin,fun e he r hr' hd e' he' =>?_⟩,⟨fun x hx=>(hr x).2 (.inl hx),fun x hx=>(hm x).2 (.inl hx)⟩,(hr d).2 (.inr (.inl rfl))⟩
 have he:mk (yP s B.1 d) e=true:=he
 show _∧∀x∈(Y4 e').2.2,mk (lm (G9 l s) B.2 (mbS s d)) x=true
 rcases(hr e).1 he with he | he
 ·obtain⟨p1,p2⟩:=h.hr e he r hr' hd e' he'
  exact⟨p1,fun x hx=>(hm x).2 (.inl (p2 x hx))⟩
 ·obtain⟨p1,p2⟩:=Du hv hs2 e r hr' hd e' he'
  refine⟨p1,fun x hx=>(hm x).2 (.inr ⟨x,?_,.inl rfl⟩)⟩
  unfold mbS
  rw[show inD (nD s) d=true by unfold inD;rw[H5 d0];exact F7 d1]
  refine(qY _ _).2 (a2a.2 ⟨r,hr',oP.2 ((GL d r.2.1 _).2 (by rw[hd];exact he)),?_⟩)
  unfold xx
  rcases he' with rfl | rfl
  ·exact List.mem_append.2 (.inl hx)
  ·exact List.mem_append.2 (.inr hx)
theorem a1w {l:L6} (hv:(aP l).1=0) {k:Int} {s:A8} (hs:lat l.2.2 k=some s):∀(L:List Int) {B:BB},NI l s B→(∀d∈L,0≤d∧d<nD s)→NI l s (L.foldl (dG s (G9 l s)) B)∧Grows B (L.foldl (dG s (G9 l s)) B)∧∀d∈L,mk (L.foldl (dG s (G9 l s)) B).1 d=true
 | [],B,h,_=>⟨h,Grows.refl B,fun _ h=>by cases h⟩
 | d::L,B,h,hL=>by
  obtain⟨a1,a2,a3⟩:=a5x hv hs h (hL d (by simp)).1 (hL d (by simp)).2
  obtain⟨b1,b2,b3⟩:=a1w hv hs L a1 (fun x hx=>hL x (by simp[hx]))
  refine⟨b1,a2.trans b2,fun x hx=>?_⟩
  rcases List.mem_cons.1 hx with rfl | hx
  ·exact b2.g1 _ a3
  ·exact b3 x hx
theorem a5y {l:L6} (hv:(aP l).1=0) {k:Int} {s:A8} (hs:lat l.2.2 k=some s) {B:BB} (h:NI l s B) (i:Int):NI l s (gG s (G9 l s) B i)∧Grows B (gG s (G9 l s) B i)∧∀r,lat s.2.2.2.2 i=some r→(∀x∈(Y4 r.2.2.2.2.2.1).2.1,mk (gG s (G9 l s) B i).1 x=true)∧∀x∈(Y4 r.2.2.2.2.2.1).2.2,mk (gG s (G9 l s) B i).2 x=true:=by
 unfold gG
 cases hr:lat s.2.2.2.2 i with
 | none=>exact⟨h,Grows.refl B,fun _ h=>by cases h⟩
 | some r=>
  obtain⟨p1,p2⟩:=zh hv (V5 hs).2.2.2 (V5 hr).2.2.1 (e:=r.2.2.2.2.2.1) (.inl rfl)
  obtain⟨a1,a2,a3⟩:=a1w hv hs (Y4 r.2.2.2.2.2.1).2.1 h p1
  obtain⟨b1,b2,b3⟩:=b9P a1 p2
  refine⟨b1,a2.trans b2,fun q hq=>?_⟩
  cases hq
  exact⟨fun x hx=>b2.g1 x (a3 x hx),b3⟩
theorem TC {l:L6} (hv:(aP l).1=0) {k:Int} {s:A8} (hs:lat l.2.2 k=some s):∀(L:List Int) {B:BB},NI l s B→NI l s (L.foldl (gG s (G9 l s)) B)∧Grows B (L.foldl (gG s (G9 l s)) B)∧∀i∈L,∀r,lat s.2.2.2.2 i=some r→(∀x∈(Y4 r.2.2.2.2.2.1).2.1,mk (L.foldl (gG s (G9 l s)) B).1 x=true)∧∀x∈(Y4 r.2.2.2.2.2.1).2.2,mk (L.foldl (gG s (G9 l s)) B).2 x=true
 | [],B,h=>⟨h,Grows.refl B,fun _ h=>by cases h⟩
 | d::L,B,h=>by
  obtain⟨a1,a2,a3⟩:=a5y hv hs h d
  obtain⟨b1,b2,b3⟩:=TC hv hs L a1
  refine⟨b1,a2.trans b2,fun x hx r hr=>?_⟩
  rcases List.mem_cons.1 hx with rfl | hx
  ·obtain⟨q1,q2⟩:=a3 r hr
   exact⟨fun y hy=>b2.g1 y (q1 y hy),fun y hy=>b2.g2 y (q2 y hy)⟩
  ·exact b3 x hx r hr
theorem a3Y {l:L6} {k:Int} {s:A8} {c:U8} {b:List DB} {X:DB} {d:Int} (hv:(aP l).1=0) (hs:lat l.2.2 k=some s) (hC:SmC c) (hT:∀t∈l.2.1,ku t) (d0:0≤d) (d1:d<nD s)
  (hM:mS l c (G9 l s) (ah (G9 l s).2.2.2.1.length)= .inl b) (hX:scS s (ig l s c b) (-1) (ah s.2.2.2.1.length)= .inl X):
  a3X l s c d=(X.1.getD d.toNat (0,0,0),X.2.getD d.toNat 0,0,0,0,0):=by
 obtain⟨h1,h2,h3⟩:=a5x hv hs (a5z l s) d0 d1
 obtain⟨b',Y,e,_,_,_,hD⟩:=a1N hv hs hC hT h1.c1 h1.c2 h1.hr hM hX
 unfold a3X
 have e:EI l s c (yP s (X8 s.2.2.2.1.length) d) (lm (G9 l s) (X8 (G9 l s).2.2.2.1.length) (mbS s d))= .inl (Y,b'):=e
 rw[e]
 obtain⟨k1,k2⟩:=hD.eq d ((NC _ _).2 h3)
 have q1:=hD.l1;have q2:=hD.l2
 rw[(oQ (0,0,0) d0 (by unfold nD o8 at d1;omega)).1,(oQ (0,0,0) d0 (by unfold nD o8 at d1;omega)).1]at k1
 rw[(oQ 0 d0 (by unfold nD o8 at d1;omega)).1,(oQ 0 d0 (by unfold nD o8 at d1;omega)).1]at k2
 show(Y.1.getD d.toNat (0,0,0),Y.2.getD d.toNat 0,(0:Int),(0:Int),(0:Int),(0:Int))=_
 rw[Option.some.inj k1,Option.some.inj k2]
theorem Xf {s:A8} {env:P5} {m d:Int} {v:V3} {r:Int} (h:Bq s env m d= .inl (v,r)):P8 s env m d=(r,0,0,0,0)∧r∈(W9 s d env.1).1∧∃q,lat s.2.2.2.2 r=some q∧qM q.2.2.2.2.2.2.1 env=(v,0):=by
 unfold Bq at h
 cases h0:ieq (P8 s env m d).2.1 0 <;> rw[h0]at h
 ·cases h
 cases h1:ieq (P8 s env m d).1 (-1) <;> rw[h1]at h
 case true=>cases h
 cases h2:ieq (P8 s env m d).1 (-2) <;> rw[h2]at h
 case true=>cases h
 simp only[o6,o5]at h
 cases hl:lat s.2.2.2.2 (P8 s env m d).1 with
 | none=>rw[hl]at h;cases h
 | some q=>
  rw[hl]at h
  simp only at h
  cases h4:ieq (qM q.2.2.2.2.2.2.1 env).2 0 <;> rw[h4]at h
  ·cases h
  cases h
  have hin:=TU (P6.1 h0) (fun e=>by rw[F5 e]at h1;cases h1) (fun e=>by rw[F5 e]at h2;cases h2)
  refine⟨?_,hin,q,hl,Prod.ext rfl (P6.1 h4)⟩
  rcases MV s env m d with⟨g1,g2⟩ | ⟨g1,g2⟩
  ·exact g2
  ·exact absurd (P6.1 h0) g1
theorem RY {n:Nat} {d:Int} (d0:0≤d) (d1:d<(n:Int)):(lat (ah n) d).getD false=true:=by
 unfold lat ah
 rw[if_pos d0,List.getElem?_replicate,if_pos (by omega)];rfl
theorem a5h {l:L6} {k:Int} {s:A8} {c:U8} {b:List DB} {X:DB} {d:Int} (hS:SmS s) (hv:(aP l).1=0) (hs:lat l.2.2 k=some s) (hC:SmC c) (hT:∀t∈l.2.1,ku t) (d0:0≤d) (d1:d<nD s)
  (hM:mS l c (G9 l s) (ah (G9 l s).2.2.2.1.length)= .inl b) (hX:scS s (ig l s c b) (-1) (ah s.2.2.2.1.length)= .inl X):
  a5g l s c d=(X.2.getD d.toNat 0,0,0,0,0):=by
 have hcm:=hC.nm
 have hs2:=(V5 hs).2.2.2
 obtain⟨h1,h2,h3⟩:=TC hv hs (castL (aN s d c.1)) (a5z l s)
 obtain⟨b',Y,e,hbl',hbl,hE,hD⟩:=a1N hv hs hC hT h1.c1 h1.c2 h1.hr hM hX
 unfold a5g
 have e:EI l s c (CE s (G9 l s) d c.1).1 (CE s (G9 l s) d c.1).2= .inl (Y,b'):=e
 rw[e]
 obtain⟨ot,oi⟩:=IK hS (Jc hv hs2)
 obtain⟨v,r,k1,k2,k3⟩:=ZC (ny hT s c (by omega)) ot hX (oi d d0 d1) (RY d0 (by unfold nD o8 at d1;omega)) (Du hv hs2 d)
 obtain⟨c1,_⟩:=Xf k3
 have q1:=hD.l1
 rw[(oQ 0 d0 (by unfold nD o8 at d1;omega)).1]at k2
 rw[Option.some.inj k2]
 show P8 s (qU (ig l s c b') Y.1) (-1) d=_
 rw[←c1]
 refine(MX (hE.at (P:=fun x=>mk (CE s (G9 l s) d c.1).1 x=true) (by have:=hD.l2.1;omega) (fun x hx=>(hD.eq x ((NC _ _).2 hx)).1)) (rQ (ny hT s c (by omega)) _) (rQ (ny hT s c (by omega)) _) (fun i hi q hq=>h3 i hi q hq) (-1)).symm
theorem ZK {s:A8} (hS:SmS s) {d r t:Int} (h:r∈castL (aN s d t)):wX s d r t=some true:=by
 have hnr:=hS.nr
 have hl:=IX s d t
 obtain⟨q,hq,_⟩:=Ru h
 obtain⟨r0,r1,_⟩:=V5 hq
 unfold wX
 rw[Rt (by omega),o7]
 refine J3 (lS (castL (aN s d t)) (fun y=>ieq y r) true PUnit.unit (by omega) (fun i a ha=>?_) ?_) ?_
 ·simp only[G6 ha,o6,D8,ha,o7]
  rw[show I9 (castL (aN s d t)) (toN (i:Int))=some a from ha,o7,H5 r0,F7 r1]
  cases ieq a r <;> rfl
 ·rw[G5];rfl
 ·rw[show((castL (aN s d t)).any fun y=>ieq y r)=true from List.any_eq_true.2 ⟨r,h,F5 rfl⟩];rfl
theorem Qg {s:A8} {env:P5} {m:Int} {X:DB} (hS:SmS s) (hE:EvOk env) (hl:X.1.length=s.2.2.2.1.length∧X.2.length=s.2.2.2.1.length) (h:∀d,0≤d→d<nD s→∃v r,lat X.1 d=some v∧lat X.2 d=some r∧Bq s (qU env X.1) m d= .inl (v,r)):
  kH s env X.1 X.2=some true:=by
 have hnd:=hS.nd
 unfold kH
 rw[DL hl.1,DL hl.2,F5 rfl]
 simp only[o9,o5,o7,C9]
 refine J3 (o' :=some (.inl PUnit.unit)) ?_ rfl
 refine(lS s.2.2.2.1 (fun _=>false) false PUnit.unit (by omega) (fun i a ha=>?_) ?_).trans (by rw[show(s.2.2.2.1.any fun _=>false)=false by rw[List.any_eq_false];simp];rfl)
 ·have hi:=(O6.1 ha).1
  obtain⟨v,r,k1,k2,k3⟩:=h (i:Int) (by omega) (by unfold nD o8;omega)
  obtain⟨_,c2,q,c3,c4⟩:=Xf k3
  have ho:=hS.ro q (V5 c3).2.2.1
  have he:=Vl (e:=q.2.2.2.2.2.2.1) (rQ hE X.1) ho.1.2.2.2
  rw[c4]at he
  simp only[G6 ha,o6]
  rw[k2,o7,ZK hS (t:=env.1) c2,o7]
  simp only[o9,o5]
  rw[o7,c3,o7,show wo q.2.2.2.2.2.2.1 (env.1,env.2.1,X.1,env.2.2.2)=some (v,0)from he,o7]
  simp only[F5 (rfl:(0:Int)=0),o9,o5]
  rw[k1,o7]
  simp only[F5]
  rfl
 ·rw[G5];rfl
theorem a3Q {l:L6} {k:Int} {s:A8} {c:U8} (h:(pV l k c false 0).1=0) (hs:lat l.2.2 k=some s) (hm:s.2.1<0):c.2.2=[]:=by
 unfold pV at h
 cases h0:ieq (aP l).1 0 <;> rw[h0]at h
 ·exact absurd (show(1:Int)=0 from h) (by decide)
 rw[hs]at h
 simp only[o6,o5]at h
 cases h1:ieq (BV l k c).2.2 0 <;> rw[h1]at h
 ·simp only[o5]at h;rw[F5 h]at h1;cases h1
 have h1:=P6.1 h1
 unfold BV at h1
 rw[hs]at h1
 simp only at h1
 cases g1:ilt c.1 0 <;> rw[g1]at h1
 case true=>exact absurd (show(3:Int)=0 from h1) (by decide)
 cases g2:ilt 109572 c.1 <;> rw[g2]at h1
 case true=>exact absurd (show(3:Int)=0 from h1) (by decide)
 cases g3:ieq (Dh l.1 s.2.2.1 c.2.1).2 0 <;> rw[g3]at h1
 ·simp only[o5]at h1;rw[F5 h1]at g3;cases g3
 cases g4:ilt (wH l s).2 (o8 c.2.2) <;> rw[g4]at h1
 case true=>exact absurd (show(4:Int)=0 from h1) (by decide)
 have hz:(wH l s).2=0:=by unfold wH;rw[jg (.inl (H7 hm))]
 rw[hz,aV]at g4
 exact List.length_eq_zero_iff.1 (by unfold o8 at g4;omega)
theorem c9c {l:L6} {c:U8} {ms:A8} {need:List Bool} :∀(L:List (List V3×Nat)) (b X:List DB),U0 (mG l c ms need) L b= .inl X→∃Y,X=b++Y∧Y.length=L.length∧∀(i:Nat) (a:List V3×Nat),L[i]? =some a→∃x,Y[i]? =some x∧scS ms (JI l c a.1) (a.2:Int) need= .inl x
 | [],b,X,h=>by cases h;exact⟨[],by simp,rfl,fun i a ha=>by simp at ha⟩
 | a::L,b,X,h=>by
  unfold U0 at h
  cases hg:mG l c ms need b a with
  | inr e=>rw[hg]at h;cases h
  | inl b1=>
   rw[hg]at h
   simp only at h
   obtain⟨Y,e1,e2,e3⟩:=c9c L b1 X h
   unfold mG at hg
   cases hs:scS ms (JI l c a.1) (a.2:Int) need with
   | inr e=>rw[hs]at hg;cases hg
   | inl x=>
    rw[hs]at hg
    cases hg
    refine⟨x::Y,by rw[e1];simp,by simp[e2],fun i q hq=>?_⟩
    cases i with
    | zero=>simp at hq;subst hq;exact⟨x,rfl,hs⟩
    | succ i=>exact e3 i q (by simpa using hq)
theorem EJ {l:L6} (hW:WfL l) (k:Int) (c:U8):kG l k c=some true:=by
 unfold kG
 rw[Gi,o7,ER]
 cases hl:smL l
 ·rfl
 cases hc:smC c
 ·rfl
 obtain⟨hL,hT⟩:=RF hl hW
 have hC:=IZ hc
 have hcm:=hC.nm
 rw[a0u hL hC hT]
 simp only[o6,o9,o5,o7]
 by_cases hA:(pV l k c false 0).1=0
 case neg=>rw[if_neg hA,E5 hA];rfl
 rw[if_pos hA]
 obtain⟨h,s,hs⟩:=pW hA
 obtain⟨s0,s1,sm,s2⟩:=V5 hs
 have hM:=xy hL h hs
 have hS:=hL.sc s sm
 rw[hs]
 dsimp only
 unfold YA
 cases hq:mS l c (G9 l s) (ah (G9 l s).2.2.2.1.length)with
 | inr e=>simp only[E5 (gY _ (fun r=>r.1≠0) Lm _ _ _ hq)];rfl
 | inl b=>
  have hbl:=Fp hq
  have hEb:=ny hT s c (b:=b) (by omega)
  simp only
  cases hr:scS s (ig l s c b) (-1) (ah s.2.2.2.1.length)with
  | inr e=>simp only[E5 (xn hr)];rfl
  | inl X=>
   simp only[F5 (rfl:(0:Int)=0),o9,o5]
   rw[E9 s0,H7 s1,DL hbl,F5 rfl]
   simp only[o9,o5,o7,C9]
   obtain⟨ot,oi⟩:=IK hS (Jc h s2)
   have hfin:kH s (ig l s c b) X.1 X.2=some true:=Qg hS hEb (Be hr) (fun d d0 d1=>ZC hEb ot hr (oi d d0 d1) (RY d0 (by unfold nD o8 at d1;omega)) (Du h s2 d))
   rcases uu h hs with⟨g1,g2,g3⟩ | ⟨g1,g2,g3,g4,g5⟩
   ·have hce:=a3Q hA hs (by rw[BF]at g1;exact g1)
    have hb0:b=[]:=List.length_eq_zero_iff.1 (by rw[hbl,hce];rfl)
    subst hb0
    rw[g1]
    simp only[o5,o7,C9]
    rw[show ig l s c []=(c.1,c.2.1,[],[],[],l.2.1) by unfold ig;rw[g3];rfl]at hfin
    rw[hfin];rfl
   ·rw[g1,o6,F7 (V5 g4).2.1]
    simp only[o7,o6]
    rw[g4,o7]
    have hnm:=hM.nd
    refine J3 (o' :=some (.inl (ig l s c b))) ?_ ?_
    ·refine J3 (o' :=some (((c.1,c.2.1,[],PUnit.unit,(G9 l s).2.2.2.1.map (fun f=>f.2),l.2.1)):Int×List V3×List V3×PUnit×List (Int×Int)×List V8)) ?_ ?_
     ·refine OG (fun L i=>(((c.1,c.2.1,[],PUnit.unit,L,l.2.1),i):(Int×List V3×List V3×PUnit×List (Int×Int)×List V8)×Int)) (fun L=>((c.1,c.2.1,[],PUnit.unit,L,l.2.1):Int×List V3×List V3×PUnit×List (Int×Int)×List V8)) (G9 l s).2.2.2.1 (fun f=>f.2) (by omega) (fun i a L hi hL=>?_) (fun L=>?_)
      ·have:=(O6.1 hi).1
       simp only[G6 hi,o6,D8,hi,o7]
       rw[ay _ (by omega),o7,O5 (by omega)]
      ·rw[G5];rfl
     rw[o7]
     simp only
     obtain⟨mt,mi⟩:=IK hM (a6y h hs)
     obtain⟨Y,e1,e2,e3⟩:=c9c c.2.2.zipIdx [] b hq
     rw[List.nil_append]at e1;subst e1
     refine eP b (fun(L:List (List V3)) (a:DB)=>(.inl (L++[a.1]):List (List V3)⊕Bool)) (fun L i=>(((c.1,c.2.1,[],L,(G9 l s).2.2.2.1.map (fun f=>f.2),l.2.1),i):P5×Int)) (fun L=>((c.1,c.2.1,[],L,(G9 l s).2.2.2.1.map (fun f=>f.2),l.2.1):P5)) (fun i L=>L.length=i) [] (by omega) rfl (fun i a L hi hi' hLl=>?_) (fun L hLl=>?_) (fun _=>?_)
     ·have hi2:=(O6.1 hi).1
      have hv:c.2.2[i]? =some c.2.2[i]:=Y8 (by omega)
      obtain⟨x,x1,x2⟩:=e3 i (c.2.2[i],i) (by rw[List.getElem?_zipIdx,hv];simp)
      rw[hi]at x1;cases x1
      have hEm:=JJ hT c c.2.2[i]
      have hf:kH (G9 l s) (JI l c c.2.2[i]) a.1 a.2=some true:=Qg hM hEm (Be x2) (fun d d0 d1=>ZC hEm mt x2 (mi d d0 d1) (RY d0 (by unfold nD o8 at d1;omega)) (Na h hs d))
      unfold JI at hf
      simp only[G6 hv,o6,D8,hi,hv,o7]
      rw[hf,o7]
      simp only[o9,o5]
      rw[ay _ (by omega),o7,O5 (by omega)]
      exact⟨rfl,fun b' hb' =>by cases hb';simp[hLl]⟩
     ·rw[show(b.length:Int)=(c.2.2.length:Int) by rw[hbl],G5];rfl
     ·have hf:∀(B:List DB) (L:List (List V3)),U0 (fun(L:List (List V3)) (a:DB)=>(.inl (L++[a.1]):List (List V3)⊕Bool)) B L= .inl (L++B.map (·.1)):=by
       intro B
       induction B with
       | nil=>intro L;simp[U0]
       | cons a B ih=>intro L;unfold U0;simp only;rw[ih];simp
      rw[hf];rfl
    ·rw[o7,C9,hfin];rfl
theorem CQ:∀x,Di Gt.ps4 x→(Gt.s4.fn x:Option Bool)=some true:=fun x h=>EJ (Zc h.1) x.2.1 x.2.2
theorem a3M {l:L6} {k:Int} {c:U8} {d:Int} {s:A8} (h:(pV l k c false 0).1=0) (hs:lat l.2.2 k=some s) (d0:0≤d) (d1:d<nD s):(pV l k c true d).1=0:=by
 unfold pV at h ⊢
 cases h0:ieq (aP l).1 0 <;> rw[h0]at h
 ·exact absurd (show(1:Int)=0 from h) (by decide)
 rw[hs]at h ⊢
 simp only[o6,o5]at h ⊢
 rw[E9 d0,show ile (o8 s.2.2.2.1) d=false from H7 d1]
 exact h
theorem c0V {d n:Int} (hn:0<n) (hn2:n≤1000):∃e,kQ d n=some e∧∃q,kQ (x8 .i64 e n) n=some q∧0≤q∧q<n:=by
 have hz:n≠0:=by omega
 refine⟨d.tmod n,by unfold kQ;rw[if_neg hz],(d.tmod n+n).tmod n,?_,?_,?_⟩
 ·have h1:=Int.lt_tmod_of_pos d hn
  have h2:=Int.tmod_lt_of_pos d hn
  rw[N7 (by unfold I64;omega)]
  unfold kQ;rw[if_neg hz]
 ·have h1:=Int.lt_tmod_of_pos d hn
  exact Int.tmod_nonneg n (by omega)
 ·exact Int.tmod_lt_of_pos _ hn
theorem Iz {l:L6} (hW:WfL l) (k:Int) (c:U8) (d:Int):nR l k c d=some true:=by
 unfold nR
 rw[Gi,o7,ER]
 cases hl:smL l
 ·rfl
 cases hc:smC c
 ·rfl
 obtain⟨hL,hT⟩:=RF hl hW
 have hC:=IZ hc
 rw[a0u hL hC hT]
 simp only[o6,o9,o5,o7]
 by_cases hA:(pV l k c false 0).1=0
 case neg=>rw[if_neg hA,E5 hA];rfl
 rw[if_pos hA]
 obtain⟨h,s,hs⟩:=pW hA
 have hS:=hL.sc s (V5 hs).2.2.1
 have hnd:=hS.nd
 rw[hs]
 dsimp only
 unfold YA
 cases hq:mS l c (G9 l s) (ah (G9 l s).2.2.2.1.length)with
 | inr e=>simp only[E5 (gY _ (fun r=>r.1≠0) Lm _ _ _ hq)];rfl
 | inl b=>
  simp only
  cases hr:scS s (ig l s c b) (-1) (ah s.2.2.2.1.length)with
  | inr e=>simp only[E5 (xn hr)];rfl
  | inl X=>
   obtain⟨x1,x2⟩:=Be hr
   simp only[F5 (rfl:(0:Int)=0),o9,o5]
   cases hz:ieq (o8 X.1) 0
   case true=>rfl
   have hn:0<o8 X.1:=by rw[ww]at hz;unfold o8 at hz ⊢;omega
   simp only[o5,o7,C9]
   rw[DL (x2.trans x1.symm),F5 rfl]
   simp only[o9,o5]
   obtain⟨e,e1,q,e2,q0,q1⟩:=c0V (d:=d) hn (by unfold o8;omega)
   have q1' :q<nD s:=by unfold nD o8;unfold o8 at q1;omega
   have hA2:=a3M hA hs q0 q1'
   rw[e1,o7,e2,o7,PW hL hC hT,Ih hL hC hT,if_pos hA2,if_pos hA2,hs]
   simp only[o7]
   rw[a3Y h hs hC hT q0 q1' hq hr,a5h hS h hs hC hT q0 q1' hq hr,(oQ (0,0,0) q0 (by unfold o8 at q1;omega)).1,(oQ 0 q0 (by unfold o8 at q1;omega)).1]
   simp only[o7,F5]
   rfl
theorem FI:∀x,Di Gt.ps9 x→(Gt.s9.fn x:Option Bool)=some true:=fun x h=>Iz (Zc h.1) x.2.1 x.2.2.1 x.2.2.2
end Go.GP
