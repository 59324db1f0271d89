import Derived.Test.YtnpgekhfiogoeaaGreatDoorV0
import Derived.Laws.MakeOwn
import Derived.ArgAppend
import Derived.MapKept
import Derived.WideKeyRuns
import Derived.Lib.AppendStr
import Derived.Laws.IdiomStrings
import Derived.Orders
import Derived.LoopN
import Derived.Laws.StructEq
import Derived.ChangeSame
import Derived.Carry
import Derived.SizedLaws
import Derived.Deep.DeepHandedRow
import Derived.Lib.LaidTab
import Derived.Lib.ItoaNum
import Derived.Lib.ItoaMem
import Derived.Lib.Repeat
import Derived.Sort.Grow
set_option linter.all false
namespace Go.GP
def Bnd(d:Int)(o:Option Value)(n:Int):Prop:=(o=none/\n=d)\/∃k,o=some (.int k n)
theorem CU{P:Program}{w:World}{isS:Bool}{len cap:Nat}{lo hi:Option Value}{x y:Int}(hlo:Bnd 0 lo x)(hhi:Bnd len hi y)(h0:0<=x)(h1:x<=y)(h2:y<=len)(hc:len<=cap):
  (Instr.sliceBounds isS len cap lo hi none).run P w= .ok (x.toNat,y.toNat,cap) w:=by
 have hyc:y<=cap:=o5;have hy0:0<=y:=o5;have e:((y.toNat:Nat):Int)=y:=o5;rcases hlo with⟨rfl,rfl⟩|⟨k,rfl⟩<;>rcases hhi with⟨rfl,rfl⟩|⟨k',rfl⟩
 .simp[Instr.sliceBounds]
 .simp[Instr.sliceBounds,Instr.sliceBound,asIntOf,hy0,hyc]
 .simp[Instr.sliceBounds,Instr.sliceBound,asIntOf,h0,h1]
 .simp[Instr.sliceBounds,Instr.sliceBound,asIntOf,hy0,hyc,h0,e,h1]
theorem Vj{α:Type}{l r:List α}{x y:Int}(h:fO l x y=some r):0<=x/\x<=y/\y<=l.length/\r=(l.take y.toNat).drop x.toNat:=by
 unfold fO at h;split at h
 .rename_i hh;cases h;exact⟨hh.1,hh.2.1,hh.2.2,rfl⟩
 .cases h
theorem Uk(l:List UInt8)(x y:Nat):(⟨l.toArray⟩:ByteArray).extract x y=⟨((l.take y).drop x).toArray⟩:=by apply ByteArray.ext;apply kL;simp[ByteArray.data_extract,nz,gX]
theorem a9c{h:Array Obj}{ok:Nat->Ty->Prop}{t:Ty}(ht:t.isEnt=false){xs:List t.den}{ad:Option Addr}{cap:Nat}{x y:Nat}(hr:lw h ok (.sl t) xs [.slice ad xs.length cap])(h1:x<=y)(h2:y<=xs.length):
  lw h ok (.sl t) ((xs.take y).drop x) [.slice (if cap=x then ad else ad.map (·.add (x*t.size))) (y -x) (cap -x)]:=by
 obtain⟨ad',cap',e,hc,hel⟩:=(xQ ht).1 hr;simp only[G8,pX,and_true,true_and]at e;obtain⟨rfl,rfl⟩:=e;have hl:((xs.take y).drop x).length=y -x:=by simp;omega
 refine(xQ ht).2 ⟨_,cap -x,by rw[hl],by rw[hl];omega,λi z hz=>?_⟩;have hi:i<y -x:=by rw[←hl];exact(ai.1 hz).1
 have hz' :xs[x+i]? =some z:=by
  simp only[U8,V6]at hz;split at hz
  .exact hz
  .cases hz
 obtain⟨blk,off,es,rfl,hb,he,hrp⟩:=hel _ z hz';have hne:cap≠x:=o5;refine⟨blk,off+x*t.size,es,by simp[hne,iG],hb,?_,hrp⟩;rw[←he];congr 1;rw[J3];omega
section
variable {X:Fx} {cl ch:Nat} {S:Sm} {m:Mp} {ok:Nat->Ty->Prop} {a:Act} {w:World} {o:Oper}
theorem vG{C:Cx}{d n:Int}{v:Option V}{u:Option Value}(h:zn d v=some n)(hr:(v=none/\u=none)\/∃c x,v=some c/\u=some x/\lu C c x):Bnd d u n:=by
 rcases hr with⟨rfl,rfl⟩|⟨c,x,rfl,rfl,hr⟩
 .simp[zn]at h;subst h;exact .inl ⟨rfl,rfl⟩
 .cases c<;>simp[zn]at h;subst h;exact .inr ⟨_,by rw[tq hr]⟩
theorem DF(H:FxOk X)(R:Rel X cl ch S m ok a w){t:TypeId}{x:V}{u:Value}{lo hi:Option V}{lv hv:Option Value}(hx:lu ⟨w.heap,ok,m⟩ x u)
  (hlo:(lo=none/\lv=none)\/∃c y,lo=some c/\lv=some y/\lu ⟨w.heap,ok,m⟩ c y) (hhi:(hi=none/\hv=none)\/∃c y,hi=some c/\hv=some y/\lu ⟨w.heap,ok,m⟩ c y)
  {K:V->Cmd Unit} {Q:Unit->Sm->Prop} (hK:∀v z,lu ⟨w.heap,ok,m⟩ v z->(Instr.sliceAt t u lv hv none).run X.P w= .ok z w->(K v).post S Q):(OJ X.E t x lo hi K).post S Q:=by
 unfold OJ;cases x<;>try trivial
 case s l=>
  refine kX H λi hi' =>?_;have htd:=hi'.td;split<;>try trivial
  rename_i p q htd' hp hq;rw[htd']at htd;refine fJ λr hr=>?_;obtain⟨h0,h1,h2,rfl⟩:=Vj hr;have hb:=CU (P:=X.P) (w:=w) (isS:=false) (cap:=l.length) (vG hp hlo) (vG hq hhi) h0 h1 h2 (A7 _);refine hK (.s _) (.string ⟨((l.take q.toNat).drop p.toNat).toArray⟩) rfl ?_;have hus:X.P.underlying t=some .string:=htd;have hs:(⟨l.toArray⟩:ByteArray).size=l.length:=rfl;simp[Instr.sliceAt,run_underlying hus,Instr.slice,Iz hx,hs,hb,Uk]
 case sl v l=>
  dsimp only;split<;>try trivial
  rename_i n sz p q hsz hp hq;obtain⟨e,j,hut,hj,hjs⟩:=ES H hsz;refine bM λhbq=>fJ λr hr=>?_;obtain⟨hE0,hbq'⟩:=AA hbq;obtain⟨h0,h1,h2,rfl⟩:=Vj hr;have hx' :lw w.heap ok (.sl v) l [u]:=hx;obtain⟨ad,cap,hu,hc,_⟩:=(xQ hE0).1 hx';simp only[G8,and_true]at hu;subst hu;have hb:=CU (P:=X.P) (w:=w) (isS:=true) (cap:=cap) (vG hp hlo) (vG hq hhi) h0 h1 h2 hc;refine hK (.sl v _) _ (a9c hE0 (x:=p.toNat) (y:=q.toNat) hx' o5 o5) ?_;simp[Instr.sliceAt,run_underlying hut,Instr.slice,hb,qH hj,hjs,hbq']
 case own bx vw=>
  cases vw with
  |some _=>trivial|none=>
  obtain⟨loc,hm,hview⟩:=hx;refine bP ?_;have key:∀{v:Ty} {xs:List v.den} {n sz:Nat} {p q:Int},arrOk ⟨w.heap,ok,m⟩ v xs loc->ER X.E t=some (false,n,sz)->zn 0 lo=some p->zn (x8 xs) hi=some q->
    (bif szB sz v then Cmd.br (lT p q (x8 xs)) (K (.own bx (some (bH p,bH q)))) .fail else .fail).post S Q:=λ{v xs n sz p q} ha hsz hp hq=>by
   obtain⟨e,j,hut,hj,hjs⟩:=ES H hsz;refine bM λhbq=>⟨λhr=>?_,λ_=>trivial⟩;obtain⟨hE0,hbq'⟩:=AA hbq;have hr' :=of_decide_eq_true (show decide (0<=p/\p<=q/\q<=x8 xs)=true from hr);obtain⟨h0,h1,h2⟩:=hr';have h2' :q<=(xs.length:Int):=h2;cases loc with
   |st b=>cases ha|mp b=>exact absurd ha.1 (by simp[hE0])|nil=>
    obtain⟨ha,_⟩:=ha;subst ha;simp only[Loc.view]at hview;subst hview;have h2'' :q<=((0:Nat):Int):=by simpa using h2'
    have hb:=CU (P:=X.P) (w:=w) (isS:=true) (len:=0) (cap:=0) (vG hp hlo) (by have:=vG hq hhi;simpa[x8]using this) h0 h1 h2'' (A7 _);have ep:p=0:=o5;have eq:q=0:=o5;subst ep;subst eq;refine hK (.own bx (some (bH 0,bH 0))) (.slice none 0 0) ⟨.nil,hm,rfl,rfl,rfl⟩ ?_;simp[Instr.sliceAt,run_underlying hut,Instr.slice,hb,qH hj]
   |arr blk off len cap sz' =>
    obtain⟨_,rfl,rfl,hc,_⟩:=ha;simp only[Loc.view]at hview;subst hview;have hb:=CU (P:=X.P) (w:=w) (isS:=true) (cap:=cap) (vG hp hlo) (vG hq hhi) h0 h1 h2' hc;refine hK (.own bx (some (bH p,bH q))) _ ⟨_,hm,by unfold bH;omega,by unfold bH;omega,rfl⟩ ?_;have e1:(if cap=p.toNat then some (⟨blk,off,none⟩:Addr)else some ⟨blk,off+p.toNat*v.size,none⟩)=some (if cap=p.toNat then⟨blk,off,none⟩else⟨blk,off+p.toNat*v.size,none⟩):=by split<;>rfl
    simp[Instr.sliceAt,run_underlying hut,Instr.slice,hb,qH hj,hjs,hbq',iG,bH,e1];by_cases ecp:cap=p.toNat<;>simp[ecp]
  split<;>try trivial
  .rename_i v xs hS;obtain⟨loc',hm',ha⟩:=R.own_arr hS;simp only at hm;rw[hm]at hm';cases hm';split<;>try trivial
   rename_i n sz p q hsz hp hq;exact key ha hsz hp hq
  .rename_i v xs hS;obtain⟨loc',hm',ha,_⟩:=R.own_frz hS;simp only at hm;rw[hm]at hm';cases hm';split<;>try trivial
   rename_i n sz p q hsz hp hq;exact key ha hsz hp hq
theorem a3j(H:FxOk X)(R:Rel X cl ch S m ok a w){t:TypeId}{x:Operand}{lo hi:Option Operand}{q:Nat}(ho:o.op= .slice t x lo hi none)
  (hA:∀bx,lo=none->hi=none->lu ⟨w.heap,ok,m⟩ (.ptr bx 0) (a.eval x)->(TS X.E (O5 q o.dst) t bx λr=>dZ X.E o.dst r).post S (λ_ S' =>jh X cl ch o a w m ok S')):(bz X.E q o).post S (λ_ S' =>jh X cl ch o a w m ok S'):=by
 unfold bz;simp only[ho];refine ax R λv hv=>lM R _ λbs hbs=>?_;split<;>try trivial
 .split
  .exact hA _ rfl rfl hv
  refine DF H R (lv:=none) (hv:=none) hv (.inl ⟨rfl,rfl⟩) (.inl ⟨rfl,rfl⟩) λr z hr hz=>aN H R hr ?_;simp[execOp,ho,hz]
 .rename_i l c;obtain⟨y,r,he,h1,h2⟩:=hbs;simp only[iU]at h2;subst h2;simp at he;subst he;refine DF H R (lv:=some (a.eval l)) (hv:=none) hv (.inr ⟨_,_,rfl,rfl,h1⟩) (.inl ⟨rfl,rfl⟩) λr z hr hz=>aN H R hr ?_;simp[execOp,ho,hz]
 .rename_i h c;obtain⟨y,r,he,h1,h2⟩:=hbs;simp only[iU]at h2;subst h2;simp at he;subst he;refine DF H R (lv:=none) (hv:=some (a.eval h)) hv (.inl ⟨rfl,rfl⟩) (.inr ⟨_,_,rfl,rfl,h1⟩) λr z hr hz=>aN H R hr ?_;simp[execOp,ho,hz]
 .rename_i l h c d;obtain⟨y,r,he,h1,y',r',he',h2,h3⟩:=hbs;simp only[iU]at h3;subst h3;subst he';simp at he;obtain⟨rfl,rfl⟩:=he;refine DF H R (lv:=some (a.eval l)) (hv:=some (a.eval h)) hv (.inr ⟨_,_,rfl,rfl,h1⟩) (.inr ⟨_,_,rfl,rfl,h2⟩) λr z hr hz=>aN H R hr ?_;simp[execOp,ho,hz]
end
end Go.GP
namespace Go.GP
def dV(h:Array Obj)(ok:Nat->Ty->Prop)(t:Ty)(xs:List t.den)(cs:List Value):Prop:=
 cs.length=xs.length*t.size/\∀i x,xs[i]? =some x->lw h ok t x ((cs.drop (i*t.size)).take t.size)
variable {h:Array Obj}{ok:Nat->Ty->Prop}{t:Ty}
theorem dV.nil :dV h ok t [] []:=⟨D5,λi x hi=>by simp at hi⟩
theorem dV.append{xs ys:List t.den}{cs ds:List Value}(hx:dV h ok t xs cs)(hy:dV h ok t ys ds):dV h ok t (xs++ys) (cs++ds):=by
 refine⟨by simp[hx.1,hy.1,J3],λi x hi=>?_⟩;by_cases hlt:i<xs.length
 .rw[J5 hlt]at hi;have h1:=hx.2 i x hi;have hle:(i+1)*t.size<=cs.length:=by rw[hx.1];exact F5 _ o5
  rw[J3,ah]at hle;rw[kN o5,Z4 G5];exact h1
 .rw[G6 o5]at hi;have h1:=hy.2 _ x hi;have hle:cs.length<=i*t.size:=by rw[hx.1];exact F5 _ o5
  rw[List.drop_append,au hle,H9];have:i*t.size -cs.length=(i -xs.length)*t.size:=by rw[hx.1,Nat.sub_mul]
  rw[this];exact h1
variable {cs:List Value}{x:t.den}
theorem dV.one(hr:lw h ok t x cs):dV h ok t [x] cs:=by
 refine⟨by simp[eY hr],λi y hi=>?_⟩;have:i=0:=by have:=(ai.1 hi).1;simp at this;exact this
 subst this;simp at hi;subst hi;have:(List.drop (0*t.size) cs).take t.size=cs:=by simp[←eY hr]
 rw[this];exact hr
variable {xs:List t.den}
theorem dV.mono{h h' :Array Obj}{ok ok' :Nat->Ty->Prop}(hok:∀b t,ok b t->ok' b t)(hh:∀b t,ok b t->h'[b]? =h[b]?)(hr:dV h ok t xs cs):dV h' ok' t xs cs:=
 ⟨hr.1,λi x hi=>fA hok hh (hr.2 i x hi)⟩
theorem dV.rep_all{h:Array Obj}{ok:Nat->Ty->Prop}{t:Ty}{x:t.den}{cs:List Value}(hr:lw h ok t x cs):∀n,dV h ok t (List.replicate n x) ((List.replicate n cs).flatten)
 |0=>by simpa using dV.nil|n+1=>by have:=(dV.one hr).append (dV.rep_all hr n);simpa[nO]using this
theorem dV.one_cell{h:Array Obj}{ok:Nat->Ty->Prop}{t:Ty} :∀{xs:List t.den} {cs:List Value},dV h ok t xs cs->∀v∈cs,v.oneCell' =true
 |[],cs,hr=>by have:=hr.1;simp at this;simp[this]|x::xs,cs,hr=>by
  intro v hv;have h0:=hr.2 0 x rfl;simp only[Nat.zero_mul,jQ]at h0;have hl:=hr.1;simp only[D9,J3,ah]at hl;have hrest:dV h ok t xs (cs.drop t.size):=by refine⟨by simp;omega,λi y hi=>?_⟩;have:=hr.2 (i+1) y (by simpa using hi);rw[X0];rwa[show t.size+i*t.size=(i+1)*t.size by rw[J3];omega]
  rw[←X6 t.size cs]at hv;rcases F9.1 hv with hv|hv
  .exact wo h0 v hv
  .exact dV.one_cell hrest v hv
variable {blk:Nat}{off:Nat}{cap:Nat}{C:Cx}
theorem dV.arrOk(h0:t.isEnt=false)(hr:dV C.h C.ok t xs cs){c:Array Value}{T:TypeId}{f:Nat×Nat}(hb:C.h[blk]? =some (.cells c T f))(hz:fzo t c.size f)
  (hcap:xs.length<=cap) (hfit:off+cap*t.size<=c.size) (he:(c.toList.drop off).take (xs.length*t.size)=cs):Go.GP.arrOk C t xs (.arr blk off xs.length cap t.size):=by
 refine⟨h0,rfl,rfl,hcap,c,T,f,hb,hz,hfit,λi x hi=>?_⟩;have hlt:=(ai.1 hi).1;have hle:(i+1)*t.size<=xs.length*t.size:=F5 _ o5;rw[J3,ah]at hle;have hle2:xs.length*t.size<=cap*t.size:=F5 _ hcap;refine⟨_,jO hb _ _ o5,?_⟩;have h1:=hr.2 i x hi;rw[←he,gX,fF,X0]at h1;rwa[bC o5]at h1
theorem NG{blk off len cap sz:Nat}(h:arrOk C t xs (.arr blk off len cap sz)):
  ∃c T f,C.h[blk]? =some (.cells c T f)/\fzo t c.size f/\sz=t.size/\len=xs.length/\len<=cap/\off+cap*sz<=c.size/\dV C.h C.ok t xs ((c.toList.drop off).take (len*sz)):=by
 obtain⟨_,rfl,rfl,h3,c,T,f,hb,hz,hf,hx⟩:=h;refine⟨c,T,f,hb,hz,rfl,rfl,h3,hf,?_,λi x hi=>?_⟩
 .have:xs.length*t.size<=cap*t.size:=F5 _ h3;simp;omega
 .obtain⟨es,he,hr⟩:=hx i x hi;obtain⟨c',T',f',hb',hn',rfl⟩:=uf he;rw[hb]at hb';cases hb';have hlt:=(ai.1 hi).1;have hle:(i+1)*t.size<=xs.length*t.size:=F5 _ o5;rw[J3,ah]at hle;rw[gX,fF,X0,bC o5];exact hr
def wH(h:Array Obj)(ok:Nat->Ty->Prop)(m:M)(xs:List m.den)(cs:List Value)(Os:List (List Nat)):Prop:=
 cs.length=xs.length*m.size/\Os.length=xs.length/\∀i x,xs[i]? =some x->∃O,Os[i]? =some O/\qg h ok m none x ((cs.drop (i*m.size)).take m.size) O
theorem wH.nil{m:M} :wH h ok m [] [] []:=⟨D5,rfl,λi x hi=>by simp at hi⟩
theorem wH.append{t:M}{xs ys:List t.den}{cs ds:List Value}{Os Ps:List (List Nat)}(hx:wH h ok t xs cs Os)(hy:wH h ok t ys ds Ps):wH h ok t (xs++ys) (cs++ds) (Os++Ps):=by
 refine⟨by simp[hx.1,hy.1,J3],by simp[hx.2.1,hy.2.1],λi x hi=>?_⟩;by_cases hlt:i<xs.length
 .rw[J5 hlt]at hi;obtain⟨O,hO,h1⟩:=hx.2.2 i x hi;have hle:(i+1)*t.size<=cs.length:=by rw[hx.1];exact F5 _ o5
  rw[J3,ah]at hle;rw[kN o5,Z4 G5];exact⟨O,by rw[J5 (by rw[hx.2.1];exact hlt)];exact hO,h1⟩
 .rw[G6 o5]at hi;obtain⟨O,hO,h1⟩:=hy.2.2 _ x hi;have hle:cs.length<=i*t.size:=by rw[hx.1];exact F5 _ o5
  rw[List.drop_append,au hle,H9];have:i*t.size -cs.length=(i -xs.length)*t.size:=by rw[hx.1,Nat.sub_mul]
  rw[this];exact⟨O,by rw[G6 (by rw[hx.2.1];omega),hx.2.1];exact hO,h1⟩
theorem wH.one{t:M}{x:t.den}{O:List Nat}(hr:qg h ok t none x cs O):wH h ok t [x] cs [O]:=by
 refine⟨by simp[bU hr],rfl,λi y hi=>?_⟩;have:i=0:=by have:=(ai.1 hi).1;simp at this;exact this
 subst this;simp at hi;subst hi;have:(List.drop (0*t.size) cs).take t.size=cs:=by simp[←bU hr]
 rw[this];exact⟨O,rfl,hr⟩
variable {Os:List (List Nat)}
theorem wH.mono{h h' :Array Obj}{ok ok' :Nat->Ty->Prop}{t:M}{xs:List t.den}(hok:∀b t,ok b t->ok' b t)(hh:∀b t,ok b t->h'[b]? =h[b]?)(hO:∀b∈Os.flatten,h'[b]? =h[b]?)(hr:wH h ok t xs cs Os):wH h' ok' t xs cs Os:=
 ⟨hr.1,hr.2.1,λi x hi=>by obtain⟨O,h1,h2⟩:=hr.2.2 i x hi;exact⟨O,h1,kF hok hh (λb hb=>hO b (dJ.2 ⟨O,wJ h1,hb⟩)) h2⟩⟩
theorem wH.rep_all{h:Array Obj}{ok:Nat->Ty->Prop}{t:M}{x:t.den}{cs:List Value}(hr:qg h ok t none x cs []):∀n,wH h ok t (List.replicate n x) ((List.replicate n cs).flatten) (List.replicate n [])
 |0=>by simpa using wH.nil|n+1=>by have:=(wH.one hr).append (wH.rep_all hr n);simpa[nO]using this
theorem wH.one_cell{h:Array Obj}{ok:Nat->Ty->Prop}{t:M} :∀{xs:List t.den} {cs:List Value} {Os:List (List Nat)},wH h ok t xs cs Os->∀v∈cs,v.oneCell' =true
 |[],cs,_,hr=>by have:=hr.1;simp at this;simp[this]|x::xs,cs,Os,hr=>by
  intro v hv;obtain⟨O,hO,h0⟩:=hr.2.2 0 x rfl;simp only[Nat.zero_mul,jQ]at h0;have hl:=hr.1;simp only[D9,J3,ah]at hl;have hl2:=hr.2.1;simp only[D9]at hl2;have hrest:wH h ok t xs (cs.drop t.size) (Os.drop 1):=by refine⟨by simp;omega,by simp;omega,λi y hi=>?_⟩;obtain⟨O',hO',this⟩:=hr.2.2 (i+1) y (by simpa using hi);rw[X0];refine⟨O',by rw[U8,Nat.add_comm];exact hO',?_⟩;rwa[show t.size+i*t.size=(i+1)*t.size by rw[J3];omega]
  rw[←X6 t.size cs]at hv;rcases F9.1 hv with hv|hv
  .exact pM h0 v hv
  .exact wH.one_cell hrest v hv
theorem wH.arrs{t:M}{xs:List t.den}(hr:wH h ok t xs cs Os){c:Array Value}{T:TypeId}(hb:h[blk]? =some (.cells c T (0,0)))
  (hcap:xs.length<=cap) (hfit:off+cap*t.size<=c.size) (he:(c.toList.drop off).take (xs.length*t.size)=cs):AC h t.size (λ_ x es O=>qg h ok t none x es O) xs Os (.arr blk off xs.length cap t.size):=by
 refine⟨rfl,rfl,hcap,hr.2.1,c,T,hb,hfit,λi x hi=>?_⟩;have hlt:=(ai.1 hi).1;have hle:(i+1)*t.size<=xs.length*t.size:=F5 _ o5;rw[J3,ah]at hle;have hle2:xs.length*t.size<=cap*t.size:=F5 _ hcap;obtain⟨O,hO,h1⟩:=hr.2.2 i x hi;refine⟨_,O,hO,jO hb _ _ o5,?_⟩;rw[←he,gX,fF,X0]at h1;rwa[bC o5]at h1
theorem XC{t:M}{xs:List t.den}{blk off len cap sz:Nat}(k:AC h t.size (λ_ x es O=>qg h ok t none x es O) xs Os (.arr blk off len cap sz)):
  ∃c T,h[blk]? =some (.cells c T (0,0))/\sz=t.size/\len=xs.length/\len<=cap/\off+cap*sz<=c.size/\wH h ok t xs ((c.toList.drop off).take (len*sz)) Os:=by
 obtain⟨rfl,rfl,h3,h7,c,T,hb,hf,hx⟩:=k;refine⟨c,T,hb,rfl,rfl,h3,hf,?_,h7,λi x hi=>?_⟩
 .have:xs.length*t.size<=cap*t.size:=F5 _ h3;simp;omega
 .obtain⟨es,O,hO,he,hr⟩:=hx i x hi;obtain⟨c',T',f',hb',hn',rfl⟩:=uf he;rw[hb]at hb';cases hb';have hlt:=(ai.1 hi).1;have hle:(i+1)*t.size<=xs.length*t.size:=F5 _ o5;rw[J3,ah]at hle;rw[gX,fF,X0,bC o5];exact⟨O,hO,hr⟩
theorem a3T{α β:Type}(e:α=β)(e' :List α=List β):cast e' []=[]:=by subst e;rfl
theorem Uh{h:Array Obj}{ok:Nat->Ty->Prop}{C:Cx} :∀(m:M) (he:m.el=true) {zs:List V} {cs r:List Value},lw h ok m.ty m.ty.zero cs->gu C zs (cs++r)->PD m zs=true->qg h ok m none (m.zero he) cs []
 | .dat t,_,_,_,_,hr,_,_=>⟨hr,rfl⟩| .unit,_,_,_,_,hr,_,_=>⟨hr,rfl⟩| .own t,he,zs,cs,r,hr,hz,hn=>by
  have ht:t.isEnt=false:=by simpa[M.el]using he
  obtain⟨a,cap,rfl,_⟩:=(xQ ht).1 hr;unfold PD at hn;split at hn
  .obtain⟨v,r',e,h1,_⟩:=hz;simp only[J9,H9,G8]at e;obtain⟨rfl,rfl⟩:=e;exact⟨_,rfl,rfl,.nil,h1,⟨rfl,ht⟩,rfl⟩
  .cases hn
 | .owns t,he,zs,cs,r,hr,hz,hn=>by
  obtain⟨a,cap,rfl,_⟩:=(xQ (M.ty_ent (m:=t) (by simpa[M.el]using he))).1 hr;unfold PD at hn;split at hn
  .obtain⟨v,r',e,h1,_⟩:=hz;simp only[J9,H9,G8]at e;obtain⟨rfl,rfl⟩:=e;have he' :t.el=true:=by simpa[M.el]using he
   refine yf.2 ⟨he',.nil,_,[],rfl,h1,⟨?_,rfl⟩,rfl⟩;exact a3T (M.denEq t he').symm _
  .cases hn
 | .pair p q,he,zs,cs,r,hr,hz,hn=>by
  obtain⟨c,d,rfl,h1,h2⟩:=hr;have he' :p.el=true/\q.el=true:=by simpa[M.el]using he
  have hp:=eY h1;rw[M.ty_size he'.1]at hp;unfold PD at hn;split at hn
  .rename_i r' hd;obtain⟨_,rfl⟩:=Ry _ _ _ hd;cases hb:PD p zs<;>rw[hb]at hn
   .cases hn
   .have a1:=Uh p he'.1 (r:=d++r) h1 (by simpa using hz) hb;have hz' :=sW p.size hz;rw[show(c++d++r).drop p.size=d++r by rw[←hp,F7,gW]]at hz';have a2:=Uh q he'.2 (r:=r) h2 hz' hn;refine⟨c,d,[],[],rfl,rfl,?_,?_⟩
    .have:=NH (M.denEq p he'.1).symm (M.denEq q he'.2).symm (M.denEq (.pair p q) he).symm (p.ty.zero,q.ty.zero);exact(congrArg (λz:p.den×q.den=>qg h ok p none z.1 c []) this).mpr a1
    .have:=NH (M.denEq p he'.1).symm (M.denEq q he'.2).symm (M.denEq (.pair p q) he).symm (p.ty.zero,q.ty.zero);exact(congrArg (λz:p.den×q.den=>qg h ok q none z.2 d []) this).mpr a2
  .cases hn
 | .box _,he,_,_,_,_,_,_=>by simp[M.el]at he| .ownb _,he,_,_,_,_,_,_=>by simp[M.el]at he| .cell _,he,_,_,_,_,_,_=>by simp[M.el]at he| .fr _,he,_,_,_,_,_,_=>by simp[M.el]at he| .sbx _ _,he,_,_,_,_,_,_=>by simp[M.el]at he| .lp _,he,_,_,_,_,_,_=>by simp[M.el]at he| .dv ..,he,_,_,_,_,_,_=>by simp[M.el]at he| .sit,he,_,_,_,_,_,_=>by simp[M.el]at he| .rp _,he,_,_,_,_,_,_=>by simp[M.el]at he| .fn _ _,he,_,_,_,_,_,_=>by simp[M.el]at he| .ifc _ _,he,_,_,_,_,_,_=>by simp[M.el]at he
theorem Ic(z:Array Value):∀n,(madeCells z (n*z.size)).toList=(List.replicate n z.toList).flatten:=by
 intro n;rcases jk z.size with h0|h0
 .have:z=#[]:=by simpa using h0
  subst this;simp[madeCells]
 induction n with
 |zero=>simp[madeCells]|succ n ih=>
  rw[qM,kG,←ih];simp only[madeCells,mX,Array.toList_range,List.flatten_cons,List.flatten_nil,E5];rw[J3,ah,List.range_add,ed,List.map_map];congr 1;apply mY
  .simp
  .intro i h1 h2;simp at h1 h2;simp[Nat.mod_eq_of_lt h1,Nat.add_mod,h1,getElem!_pos]
theorem BR{E:Env}{t e:Nat}{u:Ty}(h:AL E t=some (e,u)):u.isEnt=false:=by
 unfold AL at h;split at h<;>try (cases h;done)
 split at h<;>try (cases h;done)
 split at h<;>try (cases h;done)
 split at h<;>try (cases h;done)
 rename_i u' _;cases hu:u'.isEnt
 .revert h;generalize (Nat.beq _ _&&Nat.ble _ _)=b;cases b<;>simp[hu];rintro _ rfl;exact hu
 .simp[hu]at h
theorem vK{X:Fx}(H:FxOk X){t e:Nat}{u:Ty}(h:AL X.E t=some (e,u)):
  ∃j z inf,X.P.underlying t=some (.slice e)/\TiOk X.P e j/\X.P.info? e=some inf/\inf.size=u.size/\j.size=u.size/\inf.bytes<=65536/\inf.zero=some z/\lw #[] (λ_ _=>False) u u.zero z.cells.toList:=by
 unfold AL at h;cases hi:dO X.E.tt t with
 |none=>simp[hi]at h|some i=>
  have htd:=(H.tt t i hi).td;simp only[hi]at h;cases hd:i.td<;>simp only[hd]at h<;>try (simp at h;done)
  rename_i e';rw[hd]at htd;cases hj:dO X.E.tt e' with
  |none=>simp[hj]at h|some j=>
   simp only[hj]at h;cases hy:j.ty with
   |none=>simp[hy]at h|some u' =>
    simp only[hy]at h;cases hb:(Nat.beq u'.size j.size&&Nat.ble j.bytes 65536&&!u'.isEnt)
    .simp only[hb,cond_false]at h;cases h
    .simp only[hb,cond_true,F8,jr]at h;obtain⟨rfl,rfl⟩:=h;simp only[A8]at hb;have h1:=iH hb.1.1;have h2:=V8 hb.1.2;obtain⟨inf,a1,a2,a3,a4,a5⟩:=(H.tt e' j hj).info;obtain⟨b1,z,b2,b3⟩:=a5 u' hy;exact⟨j,z,inf,htd,H.tt _ _ hj,a1,o5,o5,o5,b2,b3⟩
variable {q:Nat}{w1:World}{T:List Nat}
section
variable {X:Fx} {cl ch:Nat} {S:Sm} {m:Mp} {ok:Nat->Ty->Prop} {a:Act} {w:World} {o:Oper}
theorem VA(h:lw #[] (λ_ _=>False) t x cs):lw C.h C.ok t x cs:=
 fA (λ_ _ h=>h.elim) (λ_ _ h=>h.elim) h
theorem Cj(H:FxOk X){v vv:V}{Q:Unit->Sm->Prop}
  (hK:∀n,n=O5 q o.dst->CB*q<=n->n+64<=CB*q+CB->S (Z5+n)= .undef->(dZ X.E o.dst vv).post (upd S (Z5+n) v) Q):
  (uY (O5 q o.dst) v (dZ X.E o.dst vv)).post S Q:=by
 refine qU λhn=>?_;cases hd:o.dst with
 |none=>have hin:=rF H (q:=q) none (λt h=>by cases h);rw[hd]at hn;have:=hK (O5 q none) (by rw[hd]) hin.1 hin.2 hn;rwa[hd]at this|some t=>
  cases hb:Vm X.E t with
  |false=>unfold dZ;simp only[hb,cond_false];trivial|true=>have hin:=rF H (q:=q) (some t) (λt' h=>by cases h;exact(zF hb).1);rw[hd]at hn;have:=hK (O5 q (some t)) (by rw[hd]) hin.1 hin.2 hn;rwa[hd]at this
theorem a2X(H:FxOk X){v vv u:V}{Q:Unit->Sm->Prop}
  (hK:∀n,n=O5 q o.dst->CB*q<=n->n+64<=CB*q+CB->S (Z5+n)= .undef->(Cmd.set (Z5+(JY+n)) u (dZ X.E o.dst vv)).post (upd S (Z5+n) v) Q):
  (uY (O5 q o.dst) v (.set (Z5+(JY+O5 q o.dst)) u (dZ X.E o.dst vv))).post S Q:=by
 refine qU λhn=>?_;cases hd:o.dst with
 |none=>have hin:=rF H (q:=q) none (λt h=>by cases h);rw[hd]at hn;have:=hK (O5 q none) (by rw[hd]) hin.1 hin.2 hn;rwa[hd]at this|some t=>
  cases hb:Vm X.E t with
  |false=>refine jf ?_;unfold dZ;simp only[hb,cond_false];trivial|true=>have hin:=rF H (q:=q) (some t) (λt' h=>by cases h;exact(zF hb).1);rw[hd]at hn;have:=hK (O5 q (some t)) (by rw[hd]) hin.1 hin.2 hn;rwa[hd]at this
theorem B_(R:Rel X cl ch S m ok a w)(hos:w1.os=w.os)(htp:w1.tape=w.tape)(hout:w1.output=w.output)(hh:w1.heap=w.heap)
  {u:Ty} (ht:u.isEnt=false) {xs:List u.den} {cs:List Value} {e:TypeId} {c:Array Value} {cap n:Nat} (hr:dV w.heap ok u xs cs)
  (hcap:xs.length<=cap) (hfit:cap*u.size<=c.size) (he:c.toList.take (xs.length*u.size)=cs) (hcl:cl<=n) (hch:n<ch) (hn:S (Z5+n)= .undef) {f:Nat×Nat} (hz:fzo u c.size f):
  Rel X cl ch (upd S (Z5+n) (.barr u xs)) (nK m n (.arr w.heap.size 0 xs.length cap u.size) []) ok a (w1.alloc (.cells c e f)):=by
 have R1:Rel X cl ch S m ok a w1:=R.same hos htp hout hh;have hblk:(w1.alloc (.cells c e f)).heap[w.heap.size]? =some (.cells c e f):=by rw[←hh];exact heap_alloc_new w1 _
 refine R1.new hn hcl hch D5 (by simp[U7,hh]) ⟨_,aF _ _ _ _,?_⟩;refine dV.arrOk (cs:=cs) ht (hr.mono (λ_ _ h=>h) (λb t hb=>?_)) hblk hz hcap o5 (by simpa using he);have:=R.okLt b t hb;show(w1.heap.push (.cells c e f))[b]? =_;rw[hh];exact xm _ _ this
theorem Jh(H:FxOk X)(R:Rel X (CB*q) (CB*q+CB) S m ok a w)(hos:w1.os=w.os)(htp:w1.tape=w.tape)(hout:w1.output=w.output)(hh:w1.heap=w.heap)
  {u:Ty} (ht:u.isEnt=false) {xs:List u.den} {cs:List Value} {e:TypeId} {c:Array Value} {cap:Nat} (hr:dV w.heap ok u xs cs)
  (hcap:xs.length<=cap) (hfit:cap*u.size<=c.size) (he:c.toList.take (xs.length*u.size)=cs) {w0:World} {m0:Mp} {ok0:Nat->Ty->Prop} (hm:∀k l,m0 k=some l->m k=some l) (hok:∀b t,ok0 b t->ok b t)
  {f:Nat×Nat} (hz:fzo u c.size f)
  (run:(execOp a.eval o).run X.P w0= .ok (.value (.slice (some ⟨w.heap.size,0,none⟩) xs.length cap)) (w1.alloc (.cells c e f))):
  (uY (O5 q o.dst) (.barr u xs) (dZ X.E o.dst (.own (O5 q o.dst) none))).post S (λ_ S' =>jh X (CB*q) (CB*q+CB) o a w0 m0 ok0 S'):=by
 refine Cj H λn e1 h1 h2 hn=>?_;rw[←e1];clear e1;generalize CB*q=Z at*;have R' :=B_ R hos htp hout hh ht (e:=e) hr hcap hfit he h1 (by show n<Z+1000000;change n+64<=Z+1000000 at h2;omega) hn hz;refine sF H R' (λk l h=>?_) hok ⟨_,aF _ _ _ _,rfl⟩ run;by_cases ek:k=n
 .subst ek;have:=R.fresh k h1 hn;have h3:=hm _ _ h;rw[this]at h3;cases h3
 .rw[jC _ _ _ ek];exact hm _ _ h
theorem Pz(R:Rel X cl ch S m ok a w)(hT:Tk X S m ok w T)(hos:w1.os=w.os)(htp:w1.tape=w.tape)(hout:w1.output=w.output)(hh:w1.heap=w.heap)
  {md:M} (hel:md.el=true) {xs:List md.den} {cs:List Value} {Os:List (List Nat)} {e:TypeId} {c:Array Value} {cap n:Nat} (hr:wH w.heap ok md xs cs Os) (hnd:Os.flatten.Nodup) (hO:∀b∈Os.flatten,b∈T)
  (hcap:xs.length<=cap) (hfit:cap*md.size<=c.size) (he:c.toList.take (xs.length*md.size)=cs) (hcl:cl<=n) (hch:n<ch) (hn:S (Z5+n)= .undef):
  Rel X cl ch (upd S (Z5+n) (.barrs md xs none)) (nK m n (.arr w.heap.size 0 xs.length cap md.size) Os.flatten) ok a (w1.alloc (.cells c e)):=by
 have R1:Rel X cl ch S m ok a w1:=R.same hos htp hout hh;have T1:Tk X S m ok w1 T:=⟨hT.nodup,λb hb=>by rw[hh];exact hT.free b hb⟩;have hblk:(w1.alloc (.cells c e)).heap[w.heap.size]? =some (.cells c e (0,0)):=by rw[←hh];exact heap_alloc_new w1 _
 have hold:∀b,b<w.heap.size->(w1.alloc (.cells c e)).heap[b]? =w.heap[b]?:=λb hb=>by show(w1.heap.push (.cells c e))[b]? =_;rw[hh];exact xm _ _ hb
 refine R1.newK T1 hn hcl hch D5 (by simp[U7,hh]) hnd hO ⟨hel,_,Os,aF _ _ _ _,?_,D5⟩;exact⟨wH.arrs (cs:=cs) (hr.mono (λ_ _ h=>h) (λb t hb=>hold b (R.okLt b t hb)) (λb hb=>hold b (hT.free b (hO b hb)).2.1)) hblk hcap o5 (by simpa using he),trivial⟩
theorem SN(H:FxOk X)(R:Rel X (CB*q) (CB*q+CB) S m ok a w)(hT:Tk X S m ok w T)(hos:w1.os=w.os)(htp:w1.tape=w.tape)(hout:w1.output=w.output)(hh:w1.heap=w.heap)
  {md:M} (hel:md.el=true) {xs:List md.den} {cs:List Value} {Os:List (List Nat)} {e:TypeId} {c:Array Value} {cap:Nat} (hr:wH w.heap ok md xs cs Os) (hnd:Os.flatten.Nodup) (hO:∀b∈Os.flatten,b∈T)
  (hcap:xs.length<=cap) (hfit:cap*md.size<=c.size) (he:c.toList.take (xs.length*md.size)=cs) {w0:World} {m0:Mp} {ok0:Nat->Ty->Prop} (hm:∀k l,m0 k=some l->m k=some l) (hok:∀b t,ok0 b t->ok b t)
  (run:(execOp a.eval o).run X.P w0= .ok (.value (.slice (some ⟨w.heap.size,0,none⟩) xs.length cap)) (w1.alloc (.cells c e))):
  (uY (O5 q o.dst) (.barrs md xs none) (dZ X.E o.dst (.own (O5 q o.dst) none))).post S (λ_ S' =>jh X (CB*q) (CB*q+CB) o a w0 m0 ok0 S'):=by
 refine Cj H λn e1 h1 h2 hn=>?_;rw[←e1];clear e1;generalize CB*q=Z at*;have R' :=Pz R hT hos htp hout hh (e:=e) hel hr hnd hO hcap hfit he h1 (by show n<Z+1000000;change n+64<=Z+1000000 at h2;omega) hn;refine sF H R' (λk l h=>?_) hok ⟨_,aF _ _ _ _,rfl⟩ run;by_cases ek:k=n
 .subst ek;have:=R.fresh k h1 hn;have h3:=hm _ _ h;rw[this]at h3;cases h3
 .rw[jC _ _ _ ek];exact hm _ _ h
theorem Yr(H:FxOk X)(R:Rel X (CB*q) (CB*q+CB) S m ok a w)(hT:Tk X S m ok w T)(hos:w1.os=w.os)(htp:w1.tape=w.tape)(hout:w1.output=w.output)(hh:w1.heap=w.heap)
  {md:M} (hel:md.el=true) {xs:List md.den} {cs:List Value} {Os:List (List Nat)} {e:TypeId} {c:Array Value} {cap:Nat} (hr:wH w.heap ok md xs cs Os) (hnd:Os.flatten.Nodup) (hO:∀b∈Os.flatten,b∈T)
  (hcap:xs.length<=cap) (hfit:cap*md.size<=c.size) (he:c.toList.take (xs.length*md.size)=cs) {w0:World} {m0:Mp} {ok0:Nat->Ty->Prop} (hm:∀k l,m0 k=some l->m k=some l) (hok:∀b t,ok0 b t->ok b t)
  (run:(execOp a.eval o).run X.P w0= .ok (.value (.slice (some ⟨w.heap.size,0,none⟩) xs.length cap)) (w1.alloc (.cells c e))):
  (uY (O5 q o.dst) (.barrs md xs none) (.set (Z5+(JY+O5 q o.dst)) (.blen (x8 xs) md.size) (dZ X.E o.dst (.own (O5 q o.dst) none)))).post S (λ_ S' =>jh X (CB*q) (CB*q+CB) o a w0 m0 ok0 S'):=by
 refine a2X H λn e1 h1 h2 hn=>?_;refine jf ?_;rw[←e1];clear e1;generalize CB*q=Z at*;have R' :=Pz R hT hos htp hout hh (e:=e) hel hr hnd hO hcap hfit he h1 (by show n<Z+1000000;change n+64<=Z+1000000 at h2;omega) hn;refine sF H (R'.mark (lV _ _ _)) (λk l h=>?_) hok ⟨_,aF _ _ _ _,rfl⟩ run;by_cases ek:k=n
 .subst ek;have:=R.fresh k h1 hn;have h3:=hm _ _ h;rw[this]at h3;cases h3
 .rw[jC _ _ _ ek];exact hm _ _ h
theorem WE(H:FxOk X)(R:Rel X (CB*q) (CB*q+CB) S m ok a w){t:TypeId}{l c:Operand}(ho:o.op= .makeSlice t l c):(bz X.E q o).post S (λ_ S' =>jh X (CB*q) (CB*q+CB) o a w m ok S'):=by
 unfold bz;simp only[ho];split
 .rename_i md hom;split<;>try trivial
  rename_i e u het;obtain⟨j,z,inf,hu,hj,h1,h2,h3,h4,h5,h6⟩:=vK H het;have hz:=eY h6;refine ax R λv hv=>?_;split<;>try trivial
  rename_i k n;refine eH λhc=>?_;simp only[A8]at hc;obtain⟨⟨hs,hsz⟩,hza⟩:=hc;split<;>try trivial
  rename_i hel;obtain⟨hel,rfl⟩:=hel;refine fJ λxs hxs=>?_;have hec:a.eval c=a.eval l:=by
   unfold TP at hs;split at hs
   .have:=iH hs;subst this;rfl
   .cases hs
  unfold Jy at hxs;split at hxs
  .rename_i hh;cases hxs;have e1:=tq hv;have e2:=hec.trans e1;have hms:=M.ty_size hel;have hby:(inf.bytes:Int)*n<=65536*1073741824:=by
    have:inf.bytes*n.toNat<=65536*1073741824:=Nat.mul_le_mul h4 o5;have e:(n.toNat:Int)=n:=o5;rw[←e,←Int.natCast_mul];generalize inf.bytes*n.toNat=p at*;omega
   have hrun:=run_make (P:=X.P) w t e inf z hu h1 h5 k k n n hh.1 (sK _) o5 o5;have hflat:=Ic z.cells n.toNat
   have hzs:z.cells.size=md.ty.size:=by simpa using hz
   have hzero:qg w.heap ok md none (md.zero hel) z.cells.toList []:=by
    unfold a2n at hza;rw[het]at hza;simp only at hza;cases hj2:dO X.E.tt e with
    |none=>rw[hj2]at hza;cases hza|some j2=>
     rw[hj2]at hza;simp only at hza;cases hb:Nat.beq j2.zero.length j2.size<;>rw[hb]at hza
     .cases hza
     .obtain⟨inf2,a1,a2,a3,a4,a5⟩:=(H.tt e j2 hj2).info;rw[h1]at a1;cases a1;obtain⟨z2,b1,b2⟩:=a4 (iH hb);rw[h5]at b1;cases b1;exact Uh md hel (r:=[]) (VA (C:=⟨w.heap,ok,m⟩) h6) (by simpa using b2) hza
   refine Yr H R (T:=[]) Tk.nil rfl rfl rfl rfl (cs:=(List.replicate n.toNat z.cells.toList).flatten) (c:=madeCells z.cells (n.toNat*inf.size)) (cap:=n.toNat) (e:=e) hel (wH.rep_all hzero _) D5 D5 D5 (by simp[size_madeCells,h2,hms]) ?_ (λ_ _ h=>h) (λ_ _ h=>h) (w1:=w) ?_
   .rw[h2,←hzs,hflat];rw[U1 (by simp[List.length_flatten,hzs,hms])]
   .simp[execOp,ho,e1,e2,hrun]
  .cases hxs
 split<;>try trivial
 rename_i e u het;obtain⟨j,z,inf,hu,hj,h1,h2,h3,h4,h5,h6⟩:=vK H het;have hz:=eY h6;have key:∀{k k' :IntKind} {n n' :Int},a.eval l= .int k n->a.eval c= .int k' n' ->0<=n->n<=n' ->n' <=1073741824->
   (uY (O5 q o.dst) (.barr u (List.replicate n.toNat u.zero)) (dZ X.E o.dst (.own (O5 q o.dst) none))).post S (λ_ S' =>jh X (CB*q) (CB*q+CB) o a w m ok S'):=λ{k k' n n'} e1 e2 g0 g1 g2=>by
  have hby:(inf.bytes:Int)*n' <=65536*1073741824:=by have:inf.bytes*n'.toNat<=65536*1073741824:=Nat.mul_le_mul h4 o5;have e:(n'.toNat:Int)=n' :=o5;rw[←e,←Int.natCast_mul];generalize inf.bytes*n'.toNat=p at*;omega
  have hrun:=run_make (P:=X.P) w t e inf z hu h1 h5 k k' n n' g0 g1 o5 o5;have hflat:=Ic z.cells n'.toNat
  have hzs:z.cells.size=u.size:=by simpa using hz
  refine Jh H R rfl rfl rfl rfl (BR het) (cs:=(List.replicate n.toNat z.cells.toList).flatten) (c:=madeCells z.cells (n'.toNat*inf.size)) (cap:=n'.toNat) (e:=e) (dV.rep_all (VA (C:=⟨w.heap,ok,m⟩) h6) _) G5 (by simp[size_madeCells,h2]) ?_ (λ_ _ h=>h) (λ_ _ h=>h) (w1:=w) (.inl rfl) ?_
  .rw[h2,←hzs,hflat];have:n'.toNat=n.toNat+(n'.toNat -n.toNat):=o5;rw[this,←List.replicate_append_replicate,kG,Z4 (by simp[List.length_flatten]),U1 (by simp[List.length_flatten])]
  .simp[execOp,ho,e1,e2,hrun]
 refine ax R λv hv=>?_;split<;>try trivial
 rename_i k n;cases hs:TP l c
 .simp only[cond_false];refine ax R λv' hv' =>?_;split<;>try trivial
  rename_i k' n';refine⟨λhr=>fJ λxs hxs=>?_,λ_=>trivial⟩;have hr' :=of_decide_eq_true (show decide (0<=n/\n<=n' /\n' <=1073741824)=true from hr);unfold Jy at hxs;split at hxs
  .cases hxs;exact key (tq hv) (tq hv') hr'.1 hr'.2.1 hr'.2.2
  .cases hxs
 .simp only[cond_true];refine fJ λxs hxs=>?_;have hec:a.eval c=a.eval l:=by
   unfold TP at hs;split at hs
   .have:=iH hs;subst this;rfl
   .cases hs
  unfold Jy at hxs;split at hxs
  .rename_i hh;cases hxs;exact key (tq hv) (hec.trans (tq hv)) hh.1 (sK _) hh.2
  .cases hxs
end
end Go.GP
namespace Go.GP
theorem Eh:∀(vs:List Value) (k off:Nat) (cs:Array Value),off+k+vs.length<=cs.size->
  (vs.zipIdx k).foldl (λcs (x:Value×Nat)=>cs.setIfInBounds (off+x.2) x.1) cs=(aO (off+k) vs cs.toList).toArray
 |[],k,off,cs,h=>by simp[aO]|v::vs,k,off,cs,h=>by
  simp only[List.zipIdx_cons,aT];rw[Eh vs (k+1) off (cs.setIfInBounds (off+k) v) (by simp only[D9]at h;rw[Array.size_setIfInBounds];omega)];congr 1;simp only[D9]at h;have hsz:cs.toList.length=cs.size:=rfl;apply gm;intro i;rw[rV (by rw[mD,List.length_set];omega),rV (by rw[D9];omega)];simp only[mD,D9,af];by_cases h1:i<off+k
  .rw[if_pos (show i<off+(k+1) by omega),if_pos h1,if_neg (show ¬off+k=i by omega)]
  .rw[if_neg h1];by_cases h2:i=off+k
   .subst h2;rw[if_pos (show off+k<off+(k+1) by omega),if_pos rfl,if_pos (show off+k<cs.toList.length by omega),if_pos (show off+k<off+k+(vs.length+1) by omega)];simp
   .rw[if_neg (show ¬i<off+(k+1) by omega)];by_cases h3:i<off+(k+1)+vs.length
    .rw[if_pos h3,if_pos (show i<off+k+(vs.length+1) by omega)];rw[show i -(off+k)=(i -(off+(k+1)))+1 by omega];simp
    .rw[if_neg h3,if_neg (show ¬i<off+k+(vs.length+1) by omega),if_neg (show ¬off+k=i by omega)]
theorem Xr(v:Value)(off:Nat)(cs:Array Value)(h:off+v.cells.size<=cs.size):
  v.cells.zipIdx.foldl (λcs (c,j)=>cs.setIfInBounds (off+j) c) cs=(aO off v.cells.toList cs.toList).toArray:=by
 have:=Eh v.cells.toList 0 off cs (by simpa using h);rw[Z8]at this;rw[←this,←Array.foldl_toList,Array.toList_zipIdx]
theorem NY{place:Nat->Option (Nat×Nat)}{cs:Array Value}{i off size:Nat}{v:Value}{rest:List (Nat×Value)}(hp:place i=some (off,size))(hs:v.cells.size=size)(hf:off+v.cells.size<=cs.size):
  Instr.fill place cs ((i,v)::rest)=Instr.fill place (aO off v.cells.toList cs.toList).toArray rest:=by
 have h2:¬(v.cells.size≠size\/off+v.cells.size>cs.size):=o5;simp only[Instr.fill,hp];rw[if_neg (by simpa using h2),Xr v off cs hf]
theorem RG{size:Nat} :∀(vs:List Value) (n:Nat) (cs:Array Value),(∀v∈vs,v.cells.size=size)->cs.size=(n+vs.length)*size->
  Instr.fill (λi=>some (i*size,size)) cs ((List.range' n vs.length).zip vs)=some (cs.toList.take (n*size)++vs.flatMap (λv=>v.cells.toList)).toArray
 |[],n,cs,_,h=>by simp only[O7,Z8]at h;have:cs.toList.take (n*size)=cs.toList:=U1 (by rw[←h];exact A7 _);simp[Instr.fill,this]|v::vs,n,cs,hv,h=>by
  have h1:=hv v D5;simp only[D9]at h;have e1:(n+(vs.length+1))*size=n*size+size+vs.length*size:=by rw[J3,J3];omega
  simp only[D9,mZ,iC];rw[NY (off:=n*size) (size:=size) rfl h1 o5];rw[RG vs (n+1) _ (λu hu=>hv u (by simp[hu])) (by have:=uU (p:=n*size) (us:=v.cells.toList) (L:=cs.toList) G5;simp only[aK,this];rw[J3,J3];simp;omega)]
  congr 2;simp only[ae];rw[←F7];congr 1;unfold aO;have hsz:cs.toList.length=cs.size:=rfl;have h1' :v.cells.toList.length=size:=h1;rw[J3,ah,Z4 (by rw[E8,aX,h1'];omega)];rw[U1 (by rw[E8,aX,h1'];omega)]
theorem II{P:Program}{w:World}{t e:TypeId}{inf:TypeInfo}{z:Value}{n sz:Nat}{parts:Array (Nat×Value)}{F:Array Value}(hu:P.underlying t=some (.slice e))(hi:P.info? e=some inf)(hs:inf.size=sz)(hz:inf.zero=some z)
  (hle:n*sz<=16777216) (hf:∀cs:Array Value,cs.size=n*sz->Instr.fill (λi=>some (i*sz,sz)) cs parts.toList=some F):
  (Instr.buildSlice t n parts).run P w= .ok (.slice (some ⟨w.heap.size,0,none⟩) n n) (w.alloc (.cells F e)):=by
 subst hs;have hsz:(sizeOf e).run P w= .ok inf.size w:=by simp[sizeOf,typeInfo,hi]
 have hnle:¬(n*inf.size>2^24):=by show ¬(n*inf.size>16777216);omega
 unfold Instr.buildSlice;simp only[I4,run_underlying hu,I5,hsz,if_neg hnle];generalize n*inf.size=N at*;have fin:∀zero:Array Value,((match Instr.fill (λi=>some (i*inf.size,inf.size)) ((Array.range N).map (zero[·% zero.size]!)) parts.toList with
   |some cells=>(do pure (Value.slice (some (←newRow e cells)) n n):Sem Value)
   |_=>stuck "buildSlice: a part of the wrong size"):Sem Value).run P w= .ok (.slice (some ⟨w.heap.size,0,none⟩) n n) (w.alloc (.cells F e)):=λzero=>by
  rw[hf _ D5];simp[newRow]
 by_cases hn:N=0
 .rw[if_pos hn];simp only[I4,V9,I5];exact fin _
 .rw[if_neg hn];have hzv:(zeroValue e).run P w= .ok z w:=by simp[zeroValue,typeInfo,hi,hz]
  simp only[I4,hzv,V9,I5];exact fin _
variable {t:TypeId}
section
variable {X:Fx} {cl ch:Nat} {S:Sm} {m:Mp} {ok:Nat->Ty->Prop} {a:Act} {w:World} {o:Oper}
theorem Gh{α:Type}{Q:α->Sm->Prop}(u:Ty):∀(is:List Nat) (vs:List V) {us:List Value} (n k:Nat) {K:List u.den->Cmd α} {S:Sm} {ok:Nat->Ty->Prop} (R:Rel X cl ch S m ok a w) (hl:is.length=us.length)
  (hv:iU ⟨w.heap,ok,m⟩ vs us)
  (hK:∀S' ok' xs,Rel X cl ch S' m ok' a w->(∀b t,ok b t->ok' b t)->us.length=k->is=List.range' n us.length->(∀v∈us,v.cells.size=u.size)->xs.length=us.length->dV w.heap ok' u xs (us.flatMap λv=>v.cells.toList)->(K xs).post S' Q),
  (xK u (is.zip vs) n k K).post S Q
 |[],vs,us,n,k,K,S,ok,R,hl,hv,hK=>by
  have:us=[]:=by cases us<;>simp at hl ⊢
  subst this;simp only[pW];cases k with
  |zero=>unfold xK;exact hK S ok [] R (λ_ _ h=>h) rfl rfl D5 rfl dV.nil|succ k=>unfold xK;trivial
 |i::is,vs,us,n,k,K,S,ok,R,hl,hv,hK=>by
  cases us with
  |nil=>simp at hl|cons x us=>
  cases vs with
  |nil=>simp[iU]at hv|cons v vs=>
  obtain⟨x',r,e,h1,h2⟩:=hv;simp only[G8]at e;obtain⟨rfl,rfl⟩:=e;simp only[iC];cases k with
  |zero=>unfold xK;trivial|succ k=>
  unfold xK;refine bM λhi=>tJ h1 λcs hcs=>?_;have hi' :=iH hi;subst hi';refine BH (T:=[]) u R Tk.nil hcs λS1 ok1 y q ws ws' R1 T1 k1 s1 e1 g1 l1=>?_;cases q with
  |cons _ _=>trivial|nil=>
  simp only[gu]at l1;subst l1;simp only[E5]at e1;refine Gh u is vs (i+1) k R1 (by simpa using hl) (IA k1 h2) λS2 ok2 ys R2 k2 c1 c2 c3 c4 c5=>?_;refine hK S2 ok2 (y::ys) R2 (λb t h=>k2 b t (k1 b t h)) (by simp[c1]) ?_ ?_ (by simp[c4]) ?_
  .simp[mZ,c2]
  .intro z hz;rcases C9.1 hz with rfl|hz
   .have:=eY g1;rw[←e1]at this;simpa using this
   .exact c3 z hz
  .have:=(dV.one (fA k2 (λ_ _ _=>rfl) g1)).append c5;simpa[e1]using this
theorem Ed{α:Type}{Q:α->Sm->Prop}(md:M):∀(is:List Nat) (vs:List V) {us:List Value} (n k:Nat) {K:List md.den->Cmd α} {S:Sm} {ok:Nat->Ty->Prop} {T:List Nat} (R:Rel X cl ch S m ok a w) (hT:Tk X S m ok w T) (hl:is.length=us.length)
  (hv:iU ⟨w.heap,ok,m⟩ vs us)
  (hK:∀S' ok' xs Os,Rel X cl ch S' m ok' a w->Tk X S' m ok' w (T++Os.flatten)->(∀b t,ok b t->ok' b t)->us.length=k->is=List.range' n us.length->(∀v∈us,v.cells.size=md.size)->xs.length=us.length->wH w.heap ok' md xs (us.flatMap λv=>v.cells.toList) Os->(K xs).post S' Q),
  (vH md (is.zip vs) n k K).post S Q
 |[],vs,us,n,k,K,S,ok,T,R,hT,hl,hv,hK=>by
  have:us=[]:=by cases us<;>simp at hl ⊢
  subst this;simp only[pW];cases k with
  |zero=>unfold vH;exact hK S ok [] [] R (by simpa using hT) (λ_ _ h=>h) rfl rfl D5 rfl wH.nil|succ k=>unfold vH;trivial
 |i::is,vs,us,n,k,K,S,ok,T,R,hT,hl,hv,hK=>by
  cases us with
  |nil=>simp at hl|cons x us=>
  cases vs with
  |nil=>simp[iU]at hv|cons v vs=>
  obtain⟨x',r,e,h1,h2⟩:=hv;simp only[G8]at e;obtain⟨rfl,rfl⟩:=e;simp only[iC];cases k with
  |zero=>unfold vH;trivial|succ k=>
  unfold vH;refine eH λhi=>tJ h1 λcs hcs=>?_;have hi' :=iH hi;subst hi';refine BV md R hT hcs λS1 ok1 y q ws ws' O R1 T1 k1 s1 e1 g1 l1=>?_;cases q with
  |cons _ _=>trivial|nil=>
  simp only[gu]at l1;subst l1;simp only[E5]at e1;refine Ed md is vs (i+1) k R1 T1 (by simpa using hl) (IA k1 h2) λS2 ok2 ys Os R2 T2 k2 c1 c2 c3 c4 c5=>?_;refine hK S2 ok2 (y::ys) (O::Os) R2 (by simpa[F7]using T2) (λb t h=>k2 b t (k1 b t h)) (by simp[c1]) ?_ ?_ (by simp[c4]) ?_
  .simp[mZ,c2]
  .intro z hz;rcases C9.1 hz with rfl|hz
   .have:=bU g1;rw[←e1]at this;simpa using this
   .exact c3 z hz
  .have:=(wH.one (kF k2 (λ_ _ _=>rfl) (λ_ _=>rfl) g1)).append c5;simpa[e1]using this
theorem UB(H:FxOk X){q:Nat}(R:Rel X (CB*q) (CB*q+CB) S m ok a w){n:Nat}{ps:Array (Nat×Operand)}(ho:o.op= .buildSlice t n ps):(bz X.E q o).post S (λ_ S' =>jh X (CB*q) (CB*q+CB) o a w m ok S'):=by
 unfold bz;simp only[ho];split<;>try trivial
 rename_i e u het;obtain⟨j,z,inf,hu,hj,h1,h2,h3,h4,h5,h6⟩:=vK H het;have hz:=eY h6;refine bM λhle=>lM R _ λvs hvs=>?_;have hle' :n*u.size<=16777216:=V8 hle;split
 rotate_left
 .rename_i md hom;refine eH λhc=>?_;simp only[A8]at hc;have hms:=iH hc.1;refine Ed md _ vs 0 n (T:=[]) R Tk.nil D5 hvs λS' ok' xs Os R' T' k c1 c2 c3 c4 c5=>?_;rw[H9]at T';simp only[P6]at c1 c2;have hparts:(ps.map λ(i,x)=>(i,a.eval x)).toList=(List.range' 0 ((ps.toList.map (·.2)).map a.eval).length).zip ((ps.toList.map (·.2)).map a.eval):=by
   simp only[P6];rw[←c2];simp[List.zip_map',List.zip_map,mX,pV]
  have hxl:xs.length=n:=by rw[c4];simpa using c1
  have hflat:=c5.1;have hcl:((ps.toList.map (·.2)).map a.eval).length=n:=by simpa using c1
  have hfill:∀cs:Array Value,cs.size=n*u.size->Instr.fill (λi=>some (i*u.size,u.size)) cs (ps.map λ(i,x)=>(i,a.eval x)).toList=some ((((ps.toList.map (·.2)).map a.eval).flatMap λv=>v.cells.toList)).toArray:=λcs hcs=>by rw[hparts,RG _ 0 cs (by rw[←hms];exact c3) (by rw[hcl,hcs];simp)];simp
  refine SN (w1:=w) (e:=e) (cap:=xs.length) H R' T' rfl rfl rfl rfl hc.2 c5 T'.nodup (λ_ h=>h) (A7 _) (by rw[←hflat];simp) (c:=((((ps.toList.map (·.2)).map a.eval).flatMap λv=>v.cells.toList)).toArray) (U1 (by rw[hflat];exact A7 _)) (λ_ _ h=>h) k ?_;have hrun:=II (w:=w) (n:=n) hu h1 h2 h5 hle' hfill;simp only[execOp,ho,I4,hrun,I5,V9,hxl]
 refine Gh u _ vs 0 n R D5 hvs λS' ok' xs R' k c1 c2 c3 c4 c5=>?_;have hsz:(sizeOf e).run X.P w= .ok u.size w:=by simp[sizeOf,typeInfo,h1,h2]
 simp only[P6]at c1 c2;have hparts:(ps.map λ(i,x)=>(i,a.eval x)).toList=(List.range' 0 ((ps.toList.map (·.2)).map a.eval).length).zip ((ps.toList.map (·.2)).map a.eval):=by simp only[P6];rw[←c2];simp[List.zip_map',List.zip_map,mX,pV]
 have hxl:xs.length=n:=by rw[c4];simpa using c1
 have hflat:=c5.1;have hcl:((ps.toList.map (·.2)).map a.eval).length=n:=by simpa using c1
 have hfill:∀cs:Array Value,cs.size=n*u.size->Instr.fill (λi=>some (i*u.size,u.size)) cs (ps.map λ(i,x)=>(i,a.eval x)).toList=some ((((ps.toList.map (·.2)).map a.eval).flatMap λv=>v.cells.toList)).toArray:=λcs hcs=>by rw[hparts,RG _ 0 cs c3 (by rw[hcl,hcs];simp)];simp
 refine Jh (w1:=w) (e:=e) (cap:=xs.length) H R' rfl rfl rfl rfl (BR het) c5 (A7 _) (by rw[←hflat];simp) (c:=((((ps.toList.map (·.2)).map a.eval).flatMap λv=>v.cells.toList)).toArray) (U1 (by rw[hflat];exact A7 _)) (λ_ _ h=>h) k (.inl rfl) ?_;have hrun:=II (w:=w) (n:=n) hu h1 h2 h5 hle' hfill;simp only[execOp,ho,I4,hrun,I5,V9,hxl]
theorem QN{E:Env} :∀{fs:List (Nat×Nat)},a0O E fs=true->∀p∈fs,∃i,dO E.tt p.1=some i
 |[],_,p,hp=>by cases hp|(t,o)::r,h,p,hp=>by
  unfold a0O at h;cases hi:dO E.tt t with
  |none=>simp[hi]at h|some i=>
   simp only[hi]at h;rcases C9.1 hp with rfl|hp
   .exact⟨i,hi⟩
   .exact QN h p hp
def MM(P:Program)(fields:Array Field):List (Nat×Nat):=fields.toList.map λf=>(f.offset,((P.info? f.type).map (·.size)).getD 0)
theorem PK{P:Program} :∀(fs:List Field),(∀f∈fs,∃i,P.info? f.type=some i)->
  fs.mapM (λf=>(P.info? f.type).map λi=>(f.offset,i.size))=some (fs.map λf=>(f.offset,((P.info? f.type).map (·.size)).getD 0))
 |[],_=>by simp|f::fs,h=>by obtain⟨i,hi⟩:=h f D5;rw[List.mapM_cons,PK fs (λg hg=>h g (by simp[hg]))];simp[hi]
theorem EH{α:Type}{Q:α->Sm->Prop}(H:FxOk X){t:Nat}{fields:Array Field}(hu:X.P.underlying t=some (.struct fields)):
  ∀(is:List Nat) (vs:List V) {us:List Value} {cs:List V} {arr:Array Value} {K:List V->Cmd α} (hl:is.length=us.length) (hv:iU ⟨w.heap,ok,m⟩ vs us) (hc:gu ⟨w.heap,ok,m⟩ cs arr.toList)
  (hK:∀cs' arr',Instr.fill ((MM X.P fields).toArray[·]?) arr (is.zip us)=some arr' ->gu ⟨w.heap,ok,m⟩ cs' arr'.toList->(K cs').post S Q),(Aw X.E t (is.zip vs) cs K).post S Q
 |[],vs,us,cs,arr,K,hl,hv,hc,hK=>by simp only[pW];unfold Aw;exact hK cs arr (by simp[Instr.fill]) hc|i::is,vs,us,cs,arr,K,hl,hv,hc,hK=>by
  cases us with
  |nil=>simp at hl|cons x us=>
  cases vs with
  |nil=>simp[iU]at hv|cons v vs=>
  obtain⟨x',r,e,h1,h2⟩:=hv;simp only[G8]at e;obtain⟨rfl,rfl⟩:=e;simp only[iC];unfold Aw;split<;>try trivial
  rename_i off n ag hf;obtain⟨fields',fld,j,hu',hfl,hoff,hj,hn,hn0,_⟩:=DV H hf;rw[hu]at hu';cases hu';obtain⟨inf,i1,i2,_⟩:=hj.info;refine tJ h1 λws hws=>bM λhb=>zH off ws cs λhle=>?_;have hb' :=iH hb;have hL:=kw hc;have hLw:=kw hws;have hxs:x.cells.size=n:=by simp at hLw;omega
  have hpl:((MM X.P fields).toArray[i]?)=some (off,n):=by
   have hfl' :fields.toList[i]? =some fld:=by simpa using hfl
   simp[MM,hfl,i1,i2,hoff,hn]
  refine EH H hu is vs (arr:=(aO off x.cells.toList arr.toList).toArray) (by simpa using hl) h2 (by simpa using Ar hws hc) λcs' arr' hfill hrel=>?_;refine hK cs' arr' ?_ hrel;rw[iC,NY (place:=λk=>(MM X.P fields).toArray[k]?) (cs:=arr) hpl hxs (by simp at hL;omega)];exact hfill
theorem JD{α:Type}{Q:α->Sm->Prop}{sz:Nat} :
  ∀(is:List Nat) (vs:List V) {us:List Value} {cs:List V} {arr:Array Value} {K:List V->Cmd α} (hl:is.length=us.length) (hv:iU ⟨w.heap,ok,m⟩ vs us) (hc:gu ⟨w.heap,ok,m⟩ cs arr.toList)
  (hK:∀cs' arr',Instr.fill (λi=>some (i*sz,sz)) arr (is.zip us)=some arr' ->gu ⟨w.heap,ok,m⟩ cs' arr'.toList->(K cs').post S Q),(GR sz (is.zip vs) cs K).post S Q
 |[],vs,us,cs,arr,K,hl,hv,hc,hK=>by simp only[pW];unfold GR;exact hK cs arr (by simp[Instr.fill]) hc|i::is,vs,us,cs,arr,K,hl,hv,hc,hK=>by
  cases us with
  |nil=>simp at hl|cons x us=>
  cases vs with
  |nil=>simp[iU]at hv|cons v vs=>
  obtain⟨x',r,e,h1,h2⟩:=hv;simp only[G8]at e;obtain⟨rfl,rfl⟩:=e;simp only[iC];unfold GR;refine tJ h1 λws hws=>bM λhb=>zH (i*sz) ws cs λhle=>?_;have hb' :=iH hb;have hL:=kw hc;have hLw:=kw hws;have hxs:x.cells.size=sz:=by simp at hLw;omega
  refine JD is vs (arr:=(aO (i*sz) x.cells.toList arr.toList).toArray) (by simpa using hl) h2 (by simpa using Ar hws hc) λcs' arr' hfill hrel=>?_;refine hK cs' arr' ?_ hrel;rw[iC,NY (place:=λk=>some (k*sz,sz)) (cs:=arr) rfl hxs (by simp at hL;omega)];exact hfill
theorem a5g(H:FxOk X)(R:Rel X cl ch S m ok a w){ps:Array (Nat×Operand)}{q:Nat}(ho:o.op= .build t ps):(bz X.E q o).post S (λ_ S' =>jh X cl ch o a w m ok S'):=by
 unfold bz;simp only[ho];refine kX H λi hi=>?_;split<;>try trivial
 case h_2=>
  rename_i n e htd';have htd:=hi.td;rw[htd']at htd;refine kX H λj hj=>bM λhb=>lM R _ λvs hvs=>?_;obtain⟨inf,h1,h2,h3,h4,h5⟩:=hi.info;obtain⟨ine,e1,e2,_⟩:=hj.info;obtain⟨z,hz1,hz2⟩:=h4 (iH hb);refine JD _ vs (us:=(ps.toList.map (·.2)).map a.eval) (arr:=z.cells) D5 hvs (KT hz2) λcs' arr' hfill hrel=>?_;refine aN H R (v:=.agg cs') (x:=.agg arr') ⟨arr',rfl,hrel⟩ ?_;have hparts:(ps.map λ(i,x)=>(i,a.eval x)).toList=(ps.toList.map (·.1)).zip ((ps.toList.map (·.2)).map a.eval):=by simp[List.zip_map',List.zip_map,mX,pV]
  have hbuilt:X.P.built t (ps.map λ(i,x)=>(i,a.eval x)).toList=some arr' :=by unfold Program.built;simp only[h1,show X.P.underlying t=some (.array n e)from htd,hz1,e1];rw[hparts,e2];exact hfill
  have:=run_build (P:=X.P) w t _ arr' hbuilt;simp only[execOp,ho,I4,this,I5,V9]
 rename_i fs htd';have htd:=hi.td;rw[htd']at htd;obtain⟨fields,hu,hfs⟩:=htd;refine bM λhb=>lM R _ λvs hvs=>?_;simp only[A8]at hb;obtain⟨inf,h1,h2,h3,h4,h5⟩:=hi.info;obtain⟨z,hz1,hz2⟩:=h4 (iH hb.2);refine EH H hu _ vs (us:=(ps.toList.map (·.2)).map a.eval) (arr:=z.cells) D5 hvs (KT hz2) λcs' arr' hfill hrel=>?_;refine aN H R (v:=.agg cs') (x:=.agg arr') ⟨arr',rfl,hrel⟩ ?_;have hparts:(ps.map λ(i,x)=>(i,a.eval x)).toList=(ps.toList.map (·.1)).zip ((ps.toList.map (·.2)).map a.eval):=by simp[List.zip_map',List.zip_map,mX,pV]
 have hmap:=PK (P:=X.P) fields.toList (λf hf=>by obtain⟨i',hi'⟩:=QN hb.1 (f.type,f.offset) (by rw[←hfs];exact az.2 ⟨f,hf,rfl⟩);obtain⟨inf',q1,_⟩:=(H.tt _ _ hi').info;exact⟨inf',q1⟩)
 have hbuilt:X.P.built t (ps.map λ(i,x)=>(i,a.eval x)).toList=some arr' :=by unfold Program.built;simp only[h1,hu,hz1,hmap];rw[hparts];exact hfill
 have:=run_build (P:=X.P) w t _ arr' hbuilt;simp only[execOp,ho,I4,this,I5,V9]
end
end Go.GP
namespace Go.GP
def AX(h:Array Obj)(sz:Nat)(v:Value)(n:Nat)(es:List Value):Prop:=
 es.length=n*sz/\((n=0/\∃ad cap,v= .slice ad 0 cap)\/(∃blk off cap,v= .slice (some ⟨blk,off,none⟩) n cap/\0<n/\dE h blk off (n*sz)=some es)\/∃b:ByteArray,v= .string b/\n=b.size/\es=Lib.strCells b)
variable {v:Value}{h:Array Obj}
theorem a9b{ok:Nat->Ty->Prop}{t:Ty}{ys:List t.den}(ht:t.isEnt=false)(hr:lw h ok (.sl t) ys [v]):∃es,AX h t.size v ys.length es/\dV h ok t ys es:=by
 obtain⟨ad,cap,e,hc,hel⟩:=(xQ ht).1 hr;simp only[G8,and_true]at e;subst e;rcases jk ys.length with h0|h0
 .have:ys=[]:=Z7.1 h0;subst this;exact⟨[],⟨D5,.inl ⟨rfl,ad,cap,rfl⟩⟩,dV.nil⟩
 .obtain⟨y,hy⟩:∃y,ys[ys.length -1]? =some y:=by
   refine⟨ys[ys.length -1]'o5,?_⟩;exact mW _
  obtain⟨blk,off,es,rfl,hok,he,hr⟩:=hel _ y hy;obtain⟨c,T,f,hb,hn,_⟩:=uf he;have hle:off+ys.length*t.size<=c.size:=by
   have:ys.length*t.size=(ys.length -1)*t.size+t.size:=by
    conv=>lhs;rw[show ys.length=(ys.length -1)+1 by omega,J3,ah]
   omega
  refine⟨(c.toList.drop off).take (ys.length*t.size),⟨by simp;omega,.inr (.inl ⟨blk,off,cap,rfl,h0,jO hb _ _ hle⟩)⟩,by simp;omega,λi x hi=>?_⟩;obtain⟨blk',off',es',ha',hok',he',hr'⟩:=hel i x hi;simp only[F8,iK,and_true]at ha';obtain⟨rfl,rfl⟩:=ha';obtain⟨c',T',f',hb',hn',rfl⟩:=uf he';rw[hb]at hb';cases hb';have hlt:=(ai.1 hi).1;have hle2:(i+1)*t.size<=ys.length*t.size:=F5 _ o5;rw[J3,ah]at hle2;rw[gX,fF,X0,bC o5];exact hr'
variable {C:Cx}{l:Loc}
theorem Ue{t:Ty}{xs:List t.den}(ht:t.isEnt=false)(ha:arrOk C t xs l)(hv:l.view none v):∃es,AX C.h t.size v xs.length es/\dV C.h C.ok t xs es:=by
 cases l with
 |st b=>cases ha|mp b=>exact absurd ha.1 (by simp[ht])|nil=>obtain⟨ha,_⟩:=ha;subst ha;simp only[Loc.view]at hv;subst hv;exact⟨[],⟨D5,.inl ⟨rfl,none,0,rfl⟩⟩,dV.nil⟩
 |arr blk off len cap sz=>
  obtain⟨c,T,f,hb,hz,rfl,rfl,hc,hf,hr⟩:=NG ha;simp only[Loc.view]at hv;subst hv;have hle:xs.length*t.size<=cap*t.size:=F5 _ hc;refine⟨_,⟨hr.1,?_⟩,hr⟩;rcases jk xs.length with h0|h0
  .exact .inl ⟨h0,_,cap,by rw[h0]⟩
  .exact .inr (.inl ⟨blk,off,cap,rfl,h0,jO hb _ _ o5⟩)
variable {P:Program}{es:List Value}{n:Nat}{sz:Nat}
theorem vg{w w' :World}(h:AX w.heap sz v n es)(hh:w'.heap=w.heap):(Builtin.firstCells sz n v).run P w' = .ok es.toArray w' :=by
 obtain⟨hl,h⟩:=h;rcases h with⟨rfl,ad,cap,rfl⟩|⟨blk,off,cap,rfl,hn,hc⟩|⟨b,rfl,rfl,rfl⟩
 .have:es=[]:=Z7.1 (by simpa using hl);subst this;cases ad with
  |none=>simp[Builtin.firstCells]|some b=>have:=run_loadCells_list (P:=P) w' b [] (λj v h=>by simp at h);simp[Builtin.firstCells];simpa using this
 .refine run_firstCells_some w' sz n _ _ cap es hl λj u hu=>?_;rw[iG];exact uF (w:=w') (by rw[hh];exact hc) hu
 .exact Lib.run_firstCells_string w' sz b
theorem AX.lenOf(hs:AX h sz v n es)(w:World):(Builtin.lenOf v).run P w= .ok n w:=by rcases hs.2 with⟨rfl,ad,cap,rfl⟩|⟨blk,off,cap,rfl,hn,hc⟩|⟨b,rfl,rfl,rfl⟩<;>rfl
section runs
variable {P:Program} {w:World} {t ty e:TypeId} {i:TypeInfo} {z:Value}
theorem JS(ht:P.underlying t=some (.slice e))(hi:P.info? e=some i){blk off len cap n:Nat}{c:Array Value}{T:TypeId}{f:Nat×Nat}(hb:w.heap[blk]? =some (.cells c T f))(hz:f=(0,0)\/f=(c.size,c.size+1))(hv:AX w.heap i.size v n es)
  (h1:∀u∈es,u.oneCell' =true) (hroom:len+n<=cap) (hfit:off+cap*i.size<=c.size):
  (Builtin.append_ #[t,t] ty #[.slice (some ⟨blk,off,none⟩) len cap,v]).run P w= .ok (.slice (some ⟨blk,off,none⟩) (len+n) cap) (w.setRow blk (aO (off+len*i.size) es c.toList).toArray):=by
 have hle:(len+n)*i.size<=cap*i.size:=F5 _ hroom;rw[J3,←hv.1]at hle;have hf:=vg (P:=P) (w' :=w) hv rfl;have hst:=wX (P:=P) blk (off+len*i.size) T es 0 c f w hb hz o5 h1;simp only[Z8]at hst;simp[Builtin.append_,run_underlying ht,sizeOf,typeInfo,hi,hv.lenOf,hroom,hf,iG,hst,aO]
theorem Gx(ht:P.underlying t=some (.slice e))(hi:P.info? e=some i)(hv:AX w.heap i.size v 0 es):
  (Builtin.append_ #[t,t] ty #[.slice none 0 0,v]).run P w= .ok (.slice none 0 0) w:=by
 have hf:=vg (P:=P) (w' :=w) hv rfl;simp[Builtin.append_,run_underlying ht,sizeOf,typeInfo,hi,hv.lenOf,hf]
theorem IG(ht:P.underlying t=some (.slice e))(hi:P.info? e=some i)(hz:i.zero=some z)(hby:i.bytes<=65536){s v:Value}{sAd:Option Addr}{len cap n:Nat}{olds es:List Value}(hse:s= .slice sAd len cap)
  (hs:AX w.heap i.size s len olds) (hv:AX w.heap i.size v n es) (hg:cap<len+n) (hmax:len+n<=1073741824):
  (Builtin.append_ #[t,t] ty #[s,v]).run P w= .ok (.slice (some ⟨w.heap.size,0,none⟩) (len+n) (grownCap w (len+n) cap e))
   (w.drew.alloc (.cells ((olds++es).toArray++Builtin.zeroCells z.cells (grownCap w (len+n) cap e -(len+n))) e)):=by
 subst hse;have hn:¬(len+n<=cap):=o5;have h63' :¬(9223372036854775807<((len:Int)+(n:Int))):=o5;have hb2:(len+n)*i.bytes<=1073741824*65536:=Nat.mul_le_mul hmax hby;have h48' :¬(281474976710656<Builtin.nextslicecap (len+n) cap*i.bytes):=by have:=growslice_fits hg (show(len+n)*i.bytes<=140737488355328 by omega);omega
 have hf:=vg (P:=P) (w' :=w.drew) hv rfl;have hfo:=vg (P:=P) (w' :=w.drew) hs rfl;simp[Builtin.append_,run_underlying ht,sizeOf,typeInfo,zeroValue,hi,hz,hv.lenOf,hn,h63',h48',Question.forced,hf,hfo,newRow,grownCap];generalize Builtin.zeroCells _ _=Z;congr 2;apply kL;simp
end runs
variable {q:Nat}{t:TypeId}{α:Type}{u:Ty}{e:TypeId}{z:Value}{Q:α->Sm->Prop}{inf:TypeInfo}{x:Operand}{y:V}
section
variable {X:Fx} {cl ch:Nat} {S:Sm} {m:Mp} {ok:Nat->Ty->Prop} {a:Act} {w:World} {o:Oper}
theorem JV(R:Rel X cl ch S m ok a w)(ht:u.isEnt=false){vy:Value}{K:List u.den->Cmd α}(hy:lu ⟨w.heap,ok,m⟩ y vy)
  (hK:∀ys es,AX w.heap u.size vy ys.length es->dV w.heap ok u ys es->(K ys).post S Q):(YG u y K).post S Q:=by
 unfold YG;split<;>try trivial
 .have hy' :vy= .slice none 0 0:=hy;subst hy';simp only[ht,cond_false];exact hK [] [] ⟨D5,.inl ⟨rfl,none,0,rfl⟩⟩ dV.nil
 .obtain⟨ad,c,rfl,_⟩:=(show ∃a c,vy=Value.slice a 0 c/\a.isNone=_ from hy);simp only[ht,cond_false];exact hK [] [] ⟨D5,.inl ⟨rfl,ad,c,rfl⟩⟩ dV.nil
 .rename_i t' xs;refine fM λe=>?_;subst e;obtain⟨es,h1,h2⟩:=a9b ht (show lw w.heap ok (.sl t') xs [vy]from hy);exact hK xs es h1 h2
 .rename_i bx vw;obtain⟨l,hm,hv⟩:=hy;refine bP ?_;split<;>try trivial
  .rename_i t' xs hS;obtain⟨l',hm',ha⟩:=R.own_arr hS;simp only at hm;rw[hm]at hm';cases hm';refine fM λe=>?_;subst e;obtain⟨a1,a2,_⟩:=EL ha hv;obtain⟨es,h1,h2⟩:=Ue ht a1 a2;exact hK _ es h1 h2
  .rename_i t' xs hS;obtain⟨l',hm',ha,_⟩:=R.own_frz hS;simp only at hm;rw[hm]at hm';cases hm';refine fM λe=>?_;subst e;obtain⟨a1,a2,_⟩:=EL ha hv;obtain⟨es,h1,h2⟩:=Ue ht a1 a2;exact hK _ es h1 h2
theorem Ph{T:List Nat}(R:Rel X cl ch S m ok a w)(hT:Tk X S m ok w T){md:M}{vy:Value}{K:List md.den->List V->Cmd α}(hy:lu ⟨w.heap,ok,m⟩ y vy)
  (hK:∀S' ok' ys r O,Rel X cl ch S' m ok' a w->Tk X S' m ok' w (T++O)->(∀b t,ok b t->ok' b t)->aW S S' ->qg w.heap ok' (.owns md) none ys [vy] O->(K ys r).post S' Q):
  (exM yL (.owns md) [y] K).post S Q:=by
 have key:uM ⟨w.heap,ok,m⟩ y vy->vy.oneCell' =true->(exM yL (.owns md) [y] K).post S Q:=λh1 h2=>by
  refine BV (.owns md) R hT (vs:=[vy]) ⟨vy,[],rfl,h1,h2,rfl⟩ λS' ok' ys r us us' O R' T' k s e hr l=>?_;have:us=[vy]:=by obtain⟨v,e',_⟩:=hr;subst e';simp at e;simp[e.1]
  subst this;exact hK S' ok' ys r O R' T' k s hr
 cases y<;>try (unfold exM;trivial)
 .exact key hy (by have h:vy= .slice none 0 0:=hy;subst h;rfl)
 .refine key hy ?_;obtain⟨l,_,hv⟩:=hy;exact oI hv
theorem VH{ok:Nat->Ty->Prop}{md:M}{xs:List md.den}{Os:List (List Nat)}(ha:AC h md.size (λ_ x es O=>qg h ok md none x es O) xs Os l)(hv:l.view none v):∃es,AX h md.size v xs.length es/\wH h ok md xs es Os:=by
 cases l with
 |st b=>cases ha|mp b=>cases ha|nil=>obtain⟨rfl,rfl⟩:=ha;simp only[Loc.view]at hv;subst hv;exact⟨[],⟨D5,.inl ⟨rfl,none,0,rfl⟩⟩,wH.nil⟩
 |arr blk off len cap sz=>
  obtain⟨c,T,hb,rfl,rfl,hc,hf,hr⟩:=XC ha;simp only[Loc.view]at hv;subst hv;have hle:xs.length*md.size<=cap*md.size:=F5 _ hc;refine⟨_,⟨hr.1,?_⟩,hr⟩;rcases jk xs.length with h0|h0
  .exact .inl ⟨h0,_,cap,by rw[h0]⟩
  .exact .inr (.inl ⟨blk,off,cap,rfl,h0,jO hb _ _ o5⟩)
theorem Oc{xs ys zs:List α}(h:dB xs ys=some zs):xs.length+ys.length<=1073741824/\zs=xs++ys:=by
 unfold dB at h;split at h
 .cases h;exact⟨by assumption,rfl⟩
 .cases h
theorem IV(z:Array Value)(n:Nat):(Builtin.zeroCells z n).size=n*z.size:=by simp[Builtin.zeroCells]
theorem JA(H:FxOk X)(R:Rel X (CB*q) (CB*q+CB) S m ok a w)(ht:u.isEnt=false){j:TI}(hu:X.P.underlying t=some (.slice e))(h1:X.P.info? e=some inf)(h2:inf.size=u.size)(h4:inf.bytes<=65536)
  (h5:inf.zero=some z) (hz:z.cells.size=u.size) {xs ys:List u.den} {s v:Value} {sAd:Option Addr} {cap:Nat} {olds es:List Value} (hse:s= .slice sAd xs.length cap)
  (hs:AX w.heap u.size s xs.length olds) (hv:AX w.heap u.size v ys.length es) (r1:dV w.heap ok u xs olds) (r2:dV w.heap ok u ys es) (hg:cap<xs.length+ys.length) (hmax:xs.length+ys.length<=1073741824)
  (run:∀r w',(Builtin.append_ #[t,t] o.type #[s,v]).run X.P w= .ok r w' ->(execOp a.eval o).run X.P w= .ok (.value r) w'):
  (uY (O5 q o.dst) (.barr u (xs++ys)) (dZ X.E o.dst (.own (O5 q o.dst) none))).post S (λ_ S' =>jh X (CB*q) (CB*q+CB) o a w m ok S'):=by
 have hrun:=IG (P:=X.P) (w:=w) (t:=t) (ty:=o.type) hu h1 h5 h4 (s:=s) (v:=v) hse (by rw[h2];exact hs) (by rw[h2];exact hv) hg hmax;have hge:=grownCap_ge w (xs.length+ys.length) cap e;have r:=r1.append r2;rw[←E8]at hrun hge;refine Jh H R (w1:=w.drew) rfl rfl rfl rfl ht r hge ?_ ?_ (λ_ _ h=>h) (λ_ _ h=>h) (.inl rfl) (run _ _ hrun)
 .have hl:=r.1;simp only[Array.size_append,aK,hl,IV,hz,←J3];exact F5 _ o5
 .have hl:=r.1;simp only[Array.toList_append];rw[Z4 (by rw[hl];exact A7 _),←hl];exact bT
theorem JB(H:FxOk X)(R:Rel X (CB*q) (CB*q+CB) S m ok a w)(ht:u.isEnt=false)(hu:X.P.underlying t=some (.slice e))(h1:X.P.info? e=some inf)(h2:inf.size=u.size)(h4:inf.bytes<=65536)
  (h5:inf.zero=some z) (hz:z.cells.size=u.size) {ys:List u.den} {s v:Value} {es:List Value} (hse:s= .slice none 0 0)
  (hv:AX w.heap u.size v ys.length es) (r2:dV w.heap ok u ys es) (hmax:ys.length<=1073741824)
  (run:∀r w',(Builtin.append_ #[t,t] o.type #[s,v]).run X.P w= .ok r w' ->(execOp a.eval o).run X.P w= .ok (.value r) w'):
  (uY (O5 q o.dst) (.barr u ys) (dZ X.E o.dst (.own (O5 q o.dst) none))).post S (λ_ S' =>jh X (CB*q) (CB*q+CB) o a w m ok S'):=by
 rcases jk ys.length with h0|h0
 .have hy:ys=[]:=Z7.1 h0;subst hy;have hrun:=Gx (P:=X.P) (w:=w) (t:=t) (ty:=o.type) hu h1 (v:=v) (by rw[h2];exact hv);rw[←hse]at hrun;refine Cj H λn e1 g1 g2 hn=>?_;rw[←e1];clear e1;generalize CB*q=Z at*;have R' :Rel X Z (Z+CB) (upd S (Z5+n) (.barr u [])) (nK m n .nil []) ok a w:=by
   refine R.lay hn g1 (by show n<Z+1000000;change n+64<=Z+1000000 at g2;omega) D5 rfl rfl rfl (A7 _) (λ_ _ _=>rfl) (by simp[U7]) (λb hb=>by simp[U7]at hb) ⟨.nil,aF _ _ _ _,rfl,ht⟩
  refine sF H R' (λk l h=>?_) (λ_ _ h=>h) ⟨.nil,aF _ _ _ _,hse⟩ (run _ _ hrun);by_cases ek:k=n
  .subst ek;have:=R.fresh k g1 hn;rw[this]at h;cases h
  .rw[jC _ _ _ ek];exact h
 .have:=JA (j:=⟨0,0,.bool,none,[]⟩) H R ht hu h1 h2 h4 h5 hz (xs:=[]) (ys:=ys) (s:=s) (v:=v) (sAd:=none) (cap:=0) (olds:=[]) (es:=es) hse ⟨D5,.inl ⟨rfl,none,0,hse⟩⟩ hv dV.nil r2 (by simpa using h0) (by simpa using hmax) run;simpa using this
theorem ZH(H:FxOk X)(R:Rel X (CB*q) (CB*q+CB) S m ok a w){md:M}{j:TI}(hu:X.P.underlying t=some (.slice e))(h1:X.P.info? e=some inf)(h2:inf.size=md.size)(h4:inf.bytes<=65536)
  (h5:inf.zero=some z) (hz:z.cells.size=md.size) {x y:V} {s v:Value} (hx:lu ⟨w.heap,ok,m⟩ x s) (hy:lu ⟨w.heap,ok,m⟩ y v)
  (run:∀r w',(Builtin.append_ #[t,t] o.type #[s,v]).run X.P w= .ok r w' ->(execOp a.eval o).run X.P w= .ok (.value r) w'):
  (exM yL (.owns md) [y] λys _=>exM yL (.owns md) [x] λxs _=>Cmd.opt (dB xs ys) λzs=>uY (O5 q o.dst) (.barrs md zs none) (dZ X.E o.dst (.own (O5 q o.dst) none))).post S (λ_ S' =>jh X (CB*q) (CB*q+CB) o a w m ok S'):=by
 refine Ph (T:=[]) R Tk.nil hy λS1 ok1 ys _ O1 R1 T1 k1 s1 g1=>?_;refine Ph R1 T1 (Jn k1 hx) λS2 ok2 xs _ O2 R2 T2 k2 s2 g2=>?_;have k12:∀b t,ok b t->ok2 b t:=λb t h=>k2 b t (k1 b t h);have g1:=kF k2 (λ_ _ _=>rfl) (λ_ _=>rfl) g1;obtain⟨hel,ly,vy,Oy,ey,hvy,hay,rfl⟩:=yf.1 g1;obtain⟨_,lx,vx,Ox,ex,hvx,hax,rfl⟩:=yf.1 g2;simp only[G8,and_true]at ey ex;subst ey;subst ex;refine fJ λzs hzs=>?_;obtain⟨hmax,rfl⟩:=Oc hzs;obtain⟨es,hv,ry⟩:=VH hay hvy;obtain⟨olds,hs,rx⟩:=VH hax hvx;have hnd2:=T2.nodup;have rr:=rx.append ry;have hT3:∀b∈(Ox++Oy).flatten,b∈[]++(ly.blks++Oy.flatten)++(lx.blks++Ox.flatten):=λb hb=>by
  simp only[kG,F9]at hb ⊢;rcases hb with hb|hb
  .exact .inr (.inr hb)
  .exact .inl (.inr (.inr hb))
 have hnd3:(Ox++Oy).flatten.Nodup:=by rw[kG];have h:=Y4.1 hnd2;simp only[H9]at h;refine Y4.2 ⟨(Y4.1 h.2.1).2.1,(Y4.1 h.1).2.1,λp hp r hr e=>h.2.2 r (by simp[hr]) p (by simp[hp]) e.symm⟩
 have fresh:∀{sAd:Option Addr} {cap:Nat},s= .slice sAd xs.length cap->cap<xs.length+ys.length->(uY (O5 q o.dst) (.barrs md (xs++ys) none) (dZ X.E o.dst (.own (O5 q o.dst) none))).post S2 (λ_ S' =>jh X (CB*q) (CB*q+CB) o a w m ok S'):=λ{sAd cap} hse hg=>by
  have hrun:=IG (P:=X.P) (w:=w) (t:=t) (ty:=o.type) hu h1 h5 h4 (s:=s) (v:=v) hse (by rw[h2];exact hs) (by rw[h2];exact hv) hg hmax;have hge:=grownCap_ge w (xs.length+ys.length) cap e;rw[←E8]at hrun hge;refine SN H R2 T2 (w1:=w.drew) rfl rfl rfl rfl hel rr hnd3 hT3 hge ?_ ?_ (λ_ _ h=>h) k12 (run _ _ hrun)
  .have hl:=rr.1;simp only[Array.size_append,aK,hl,IV,hz,←J3];exact F5 _ o5
  .have hl:=rr.1;simp only[Array.toList_append];rw[Z4 (by rw[hl];exact A7 _),←hl];exact bT
 cases lx with
 |st b=>cases hax|mp b=>cases hax|nil=>
  obtain⟨rfl,rfl⟩:=hax;simp only[Loc.view]at hvx;rcases jk ys.length with h0|h0
  .have hy0:ys=[]:=Z7.1 h0;subst hy0;have hO0:Oy=[]:=Z7.1 ry.2.1;subst hO0;have hrun:=Gx (P:=X.P) (w:=w) (t:=t) (ty:=o.type) hu h1 (v:=v) (by rw[h2];exact hv);rw[←hvx]at hrun;refine Cj H λn e1 g1 g2 hn=>?_;rw[←e1];clear e1;generalize CB*q=Z at*;have R' :Rel X Z (Z+CB) (upd S2 (Z5+n) (.barrs md ([]++[]) none)) (nK m n .nil []) ok2 a w:=by
    refine R2.lay hn g1 (by show n<Z+1000000;change n+64<=Z+1000000 at g2;omega) D5 rfl rfl rfl (A7 _) (λ_ _ _=>rfl) (by simp[U7]) (λb hb=>by simp[U7]at hb) ⟨hel,.nil,[],aF _ _ _ _,⟨⟨rfl,rfl⟩,trivial⟩,D5⟩
   refine sF H R' (λk l h=>?_) k12 ⟨.nil,aF _ _ _ _,hvx⟩ (run _ _ hrun);by_cases ek:k=n
   .subst ek;have:=R2.fresh k g1 hn;rw[this]at h;cases h
   .rw[jC _ _ _ ek];exact h
  .exact fresh (sAd:=none) (cap:=0) hvx (by simpa using h0)
 |arr blk off len cap sz=>
  obtain⟨c,T,hb,rfl,rfl,hcap,hfit,r1⟩:=XC hax;simp only[Loc.view]at hvx;by_cases hroom:xs.length+ys.length<=cap
  .have hrun:=JS (P:=X.P) (w:=w) (t:=t) (ty:=o.type) (off:=off) (cap:=cap) hu h1 hb (.inl rfl) (v:=v) (n:=ys.length) (es:=es) (by rw[h2];exact hv) ry.one_cell hroom (by rw[h2];exact hfit);rw[←hvx]at hrun;obtain⟨q1,q2,q3,q4⟩:=T2.free blk (by simp[Loc.blks]);have hle:(xs.length+ys.length)*md.size<=cap*md.size:=F5 _ hroom;rw[J3]at hle;have hesl:=hv.1;have hcl:c.toList.length=c.size:=rfl;have hsp:(aO (off+xs.length*md.size) es c.toList).length=c.size:=by rw[uU o5];rfl
   have hblk:∀b∈(Ox++Oy).flatten,b≠blk:=λb hbm e=>by
    subst e;rw[kG]at hbm;have h:=Y4.1 hnd2;simp only[H9]at h;rcases F9.1 hbm with hbm|hbm
    .exact(Y4.1 h.2.1).2.2 b (by simp[Loc.blks]) b hbm rfl
    .exact h.2.2 b (by simp[hbm]) b (by simp[Loc.blks]) rfl
   refine Cj H λn e1 g1 g2 hn=>?_;rw[←e1];clear e1;generalize CB*q=Z at*;have hoth:∀b,b≠blk->(w.setRow blk (aO (off+xs.length*md.size) es c.toList).toArray).heap[b]? =w.heap[b]?:=λb hb=>setRow_other w blk b _ hb;have hown1:U7 (nK m n (.arr blk off (xs.length+ys.length) cap md.size) (Ox++Oy).flatten) n (.barrs md (xs++ys) none)=blk::(Ox++Oy).flatten:=by simp[U7]
   have R' :Rel X Z (Z+CB) (upd S2 (Z5+n) (.barrs md (xs++ys) none)) (nK m n (.arr blk off (xs.length+ys.length) cap md.size) (Ox++Oy).flatten) ok2 a (w.setRow blk (aO (off+xs.length*md.size) es c.toList).toArray):=by
    refine R2.lay hn g1 (by show n<Z+1000000;change n+64<=Z+1000000 at g2;omega) D5 rfl rfl rfl D5 (λb _ hne=>hoth b (λe=>hne (by rw[hown1,e];simp))) (by rw[hown1];exact eG.2 ⟨λh=>hblk blk h rfl,hnd3⟩) (λb hbb=>?_) ⟨hel,_,Ox++Oy,aF _ _ _ _,?_,D5⟩
    .rw[hown1]at hbb;obtain⟨q1,q2,q3,q4⟩:=T2.free b (by
      rcases C9.1 hbb with rfl|h
      .simp[Loc.blks]
      .exact hT3 b h)
     exact⟨q1,by simpa using q2,q3,q4⟩
    .refine⟨?_,trivial⟩;have:=wH.arrs (h:=(w.setRow blk (aO (off+xs.length*md.size) es c.toList).toArray).heap) (ok:=ok2) (cs:=((c.toList.drop off).take (xs.length*md.size))++es) (cap:=cap) (off:=off) ((r1.append ry).mono (λ_ _ h=>h) (λb t hb=>hoth b (λe=>q1 t (e▸hb))) (λb hb=>hoth b (hblk b hb))) (setRow_heap w blk c _ T (0,0) hb) (by rw[E8];exact hroom) (by rw[aK,hsp];exact hfit) ?_
     .rw[E8]at this;exact this
     .simp only[E8,J3];rw[Jt (n:=xs.length*md.size+ys.length*md.size) o5 o5];unfold aO;have hd:((c.toList.drop off).take (xs.length*md.size+ys.length*md.size)).drop (xs.length*md.size+es.length)=[]:=au (by rw[aX,aC];omega);rw[fF,bC (kE _ _),hd,E5]
   refine sF H R' (λk l h=>?_) k12 ⟨_,aF _ _ _ _,rfl⟩ (run _ _ (by rw[h2]at hrun;exact hrun));by_cases ek:k=n
   .subst ek;have:=R2.fresh k g1 hn;rw[this]at h;cases h
   .rw[jC _ _ _ ek];exact h
  .exact fresh hvx o5
theorem TN{w:World}{t t' ty e:TypeId}{i:TypeInfo}(ht:P.underlying t=some (.slice e))(hs:P.underlying t' =some .string)(hi:P.info? e=some i){s:Value}{b:ByteArray} :
  (Builtin.append_ #[t,t'] ty #[s,.string b]).run P w=(Builtin.append_ #[t,t] ty #[s,.string b]).run P w:=by
 cases s<;>simp[Builtin.append_,run_underlying ht,run_underlying hs,sizeOf,typeInfo,hi]
theorem QP(H:FxOk X)(R:Rel X (CB*q) (CB*q+CB) S m ok a w){p:Operand}{x:V}{j:TI}(ht:u.isEnt=false)(hu:X.P.underlying t=some (.slice e))(h1:X.P.info? e=some inf)(h2:inf.size=u.size)(h4:inf.bytes<=65536)
  (h5:inf.zero=some z) (hz:z.cells.size=u.size) (hx:lu ⟨w.heap,ok,m⟩ x (a.eval p)) {ys:List u.den} {v:Value} {es:List Value} (hv:AX w.heap u.size v ys.length es) (r2:dV w.heap ok u ys es)
  (run:∀r w',(Builtin.append_ #[t,t] o.type #[a.eval p,v]).run X.P w= .ok r w' ->(execOp a.eval o).run X.P w= .ok (.value r) w'):
  (Qo (O5 q o.dst) u x ys λv=>dZ X.E o.dst v).post S (λ_ S' =>jh X (CB*q) (CB*q+CB) o a w m ok S'):=by
 unfold Qo;split<;>try trivial
 ·
  refine fJ λzs hzs=>?_;obtain⟨hmax,rfl⟩:=Oc hzs;have hx' :a.eval p= .slice none 0 0:=hx;simp only[H9];exact JB H R ht hu h1 h2 h4 h5 hz hx' hv r2 (by simpa using hmax) run
 .rename_i bx vw;obtain⟨loc,hm,hview⟩:=hx;refine bP ?_;split<;>try trivial
  rename_i u' xs hS;refine fM λeu=>?_;subst eu;refine fJ λzs hzs=>jf ?_;obtain⟨hmax,rfl⟩:=Oc hzs;obtain⟨loc',hm',ha⟩:=R.own_arr hS;simp only at hm;rw[hm]at hm';cases hm';have R1:=R.kill bx;obtain⟨a1,a2,a3⟩:=EL ha hview;generalize hl2:Gf loc vw=l2 at*;generalize jD vw xs=xs' at*;cases l2 with
  |st b=>cases a1|mp b=>exact absurd a1.1 (by simp[ht])|nil=>obtain⟨a1,_⟩:=a1;subst a1;simp only[Loc.view]at a2;simp only[H9];exact JB H R1 ht hu h1 h2 h4 h5 hz a2 hv r2 (by simpa using hmax) run
  |arr blk off len cap sz=>
   obtain⟨c,T,f,hb,hfz,rfl,rfl,hcap,hfit,r1⟩:=NG a1;simp only[Loc.view]at a2;simp only at hb r1;by_cases hroom:xs'.length+ys.length<=cap
   ·
    have hrun:=JS (P:=X.P) (w:=w) (t:=t) (ty:=o.type) (off:=off) (cap:=cap) hu h1 hb hfz.of (v:=v) (n:=ys.length) (es:=es) (by rw[h2];exact hv) r2.one_cell hroom (by rw[h2];exact hfit);rw[←a2]at hrun;have hown:U7 m bx (S (Z5+bx))=[blk]:=by
     cases loc with
     |nil=>simp[Loc.blks]at a3|st _=>cases ha|mp b=>exact absurd ha.1 (by simp[ht])|arr b2 _ _ _ _=>simp[Loc.blks]at a3;simp[U7,hS,hm,a3]
    obtain⟨s1,s2,s3⟩:=R.sep bx blk (by rw[hown];simp);have hle:(xs'.length+ys.length)*u'.size<=cap*u'.size:=F5 _ hroom;rw[J3]at hle;have hel:=hv.1;have hcl:c.toList.length=c.size:=rfl;have hsp:(aO (off+xs'.length*u'.size) es c.toList).length=c.size:=by rw[uU o5];rfl
    refine Cj H λn e1 g1 g2 hn=>?_;rw[←e1];clear e1;generalize CB*q=Z at*;have hkeep:∀b t,ok b t->(w.setRow blk (aO (off+xs'.length*u'.size) es c.toList).toArray).heap[b]? =w.heap[b]?:=λb t hb=>setRow_other w blk b _ (λe=>s1 t (e▸hb));have R' :Rel X Z (Z+CB) (upd (upd S (Z5+bx) .dead) (Z5+n) (.barr u' (xs' ++ys))) (nK m n (.arr blk off (xs'.length+ys.length) cap u'.size) []) ok a (w.setRow blk (aO (off+xs'.length*u'.size) es c.toList).toArray):=by
     refine R1.lay hn g1 (by show n<Z+1000000;change n+64<=Z+1000000 at g2;omega) D5 rfl rfl rfl D5 (λb _ hne=>?_) (by simp[U7]) (λb hbb=>?_) ⟨_,aF _ _ _ _,?_⟩
     .refine setRow_other w blk b _ (λe=>hne ?_);subst e;simp[U7]
     .simp[U7]at hbb;subst hbb;refine⟨s1,by simpa using s2,s3,λk e=>?_⟩;obtain⟨k1,k2⟩:=xZ rfl e;exact k1 (R.inj k bx b k2 (by rw[hown];simp))
     .rw[←E8];refine dV.arrOk ht (cs:=((c.toList.drop off).take (xs'.length*u'.size))++es) ((r1.append r2).mono (λ_ _ h=>h) hkeep) (setRow_heap w blk c _ T f hb) (by rw[aK,hsp];exact hfz) (by rw[E8];exact hroom) (by rw[aK,hsp];exact hfit) ?_;simp only[E8,J3];rw[Jt (n:=xs'.length*u'.size+ys.length*u'.size) o5 o5];unfold aO;have hd:((c.toList.drop off).take (xs'.length*u'.size+ys.length*u'.size)).drop (xs'.length*u'.size+es.length)=[]:=au (by rw[aX,aC];omega);rw[fF,bC (kE _ _),hd,E5]
    refine sF H R' (λk l h=>?_) (λ_ _ h=>h) ⟨_,aF _ _ _ _,rfl⟩ (run _ _ (by rw[h2]at hrun;exact hrun))
    .by_cases ek:k=n
     .subst ek;have:=R1.fresh k g1 hn;rw[this]at h;cases h
     .rw[jC _ _ _ ek];exact h
   .obtain⟨olds,q1,q2⟩:=Ue (C:=⟨w.heap,ok,m⟩) ht a1 a2;exact JA (j:=j) H R1 ht hu h1 h2 h4 h5 hz a2 q1 hv q2 r2 o5 hmax run
theorem a3e(H:FxOk X)(R:Rel X (CB*q) (CB*q+CB) S m ok a w){c:Call}(ho:o.op= .call c)(hc:c.callee= .builtin .append):(bz X.E q o).post S (λ_ S' =>jh X (CB*q) (CB*q+CB) o a w m ok S'):=by
 obtain⟨cal,args,ats⟩:=c;simp only at hc;subst hc;unfold bz;simp only[ho];refine lM R _ λvs hvs=>?_;split<;>try trivial
 rename_i t t' x y hat
 obtain⟨u1,r,he,hx,u2,r',he',hy,hr⟩:=hvs;simp only[iU]at hr;subst hr;rw[he']at he;obtain⟨p,p',rfl,rfl,rfl⟩:=Sr he;cases htt:Nat.beq t t'
 ·
  simp only[cond_false];split<;>try trivial
  rename_i l;refine kX H λi hi=>?_;have hd:=hi.td;split<;>try trivial
  rename_i htd;rw[htd]at hd;unfold a0S;split<;>try trivial
  rename_i e het;obtain⟨j,z,inf,hu,hj,h1,h2,h3,h4,h5,h6⟩:=vK H het;have hz:z.cells.size=(Ty.int IntKind.u8).size:=by have:=eY h6;simpa using this
  split<;>try trivial
  have hats:ats=#[t,t']:=by
   obtain⟨l⟩:=ats;simp only at hat
   rw[hat]
  have hs:a.eval p' = .string ⟨l.toArray⟩:=hy;refine QP (j:=j) H R (BR het) hu h1 h2 h4 h5 hz hx (v:=.string ⟨l.toArray⟩) (es:=Lib.strCells ⟨l.toArray⟩) ?_ ?_ ?_
  .refine⟨?_,.inr (.inr ⟨_,rfl,?_,rfl⟩)⟩
   .rw[Lib.strCells_length];simp[Uy,Ty.size,ByteArray.size]
   .simp[Uy,ByteArray.size]
  .refine⟨by rw[Lib.strCells_length];simp[Uy,Ty.size,ByteArray.size],λi x hi=>?_⟩;show(((Lib.strCells ⟨l.toArray⟩).drop (i*1)).take 1)=[.int .u8 x];have hl:l[i]?.map (λc=>(c.toNat:Int))=some x:=by simpa[Uy,iL]using hi
   obtain⟨c,hc,rfl⟩:=gG.1 hl;have h7:(Lib.strCells ⟨l.toArray⟩)[i]? =some (.int .u8 c.toNat):=by simp[Lib.strCells,hc]
   obtain⟨g1,g2⟩:=ai.1 h7;rw[dG,bY g1,g2];rfl
  .intro r w' h;rw[←TN hu hd h1]at h;simp[execOp,ho,resolve,invoke,builtin,hats,hs,h]
 simp only[cond_true];have htt' :=iH htt;subst htt';have hats:ats=#[t,t]:=by
  obtain⟨l⟩:=ats;simp only at hat
  rw[hat]
 have run:∀(s v:Value),a.eval p=s->a.eval p' =v->∀r w',(Builtin.append_ #[t,t] o.type #[s,v]).run X.P w= .ok r w' ->(execOp a.eval o).run X.P w= .ok (.value r) w' :=λs v e1 e2 r w' h=>by subst e1;subst e2;simp[execOp,ho,resolve,invoke,builtin,hats,h]
 unfold a0R;split
 .trivial
 rename_i e u het;obtain⟨j,z,inf,hu,hj,h1,h2,h3,h4,h5,h6⟩:=vK H het;have hz:z.cells.size=u.size:=by have:=eY h6;simpa using this
 split
 rotate_left
 .rename_i md hom;refine eH λhms=>?_;have hms:=iH hms;exact ZH (j:=j) H R hu h1 (by rw[h2,hms]) h4 h5 (by rw[hz,hms]) hx hy (run _ _ rfl rfl)
 have ht:=BR het;refine JV R ht hy λys es hv r2=>?_;exact QP (j:=j) H R ht hu h1 h2 h4 h5 hz hx hv r2 (run _ _ rfl rfl)
theorem TZ{α:Type}{Q:α->Sm->Prop}{S:Sm}{C:Cx}{u:Ty}(hf:u.flat=true):∀(n:Nat) {cs:List V} {vs:List Value} {K:List u.den->Cmd α},gu C cs vs->
  (∀xs,xs.length=n->dV C.h C.ok u xs vs->(K xs).post S Q)->(Zv u n cs K).post S Q
 |0,cs,vs,K,hL,hK=>by
  unfold Zv;cases cs with
  |nil=>simp only[gu]at hL;subst hL;exact hK [] rfl dV.nil|cons _ _=>trivial
 |n+1,cs,vs,K,hL,hK=>by unfold Zv;refine DI u hf hL λx r us us' e hr hL' =>?_;refine TZ hf n hL' λxs hl hxs=>?_;subst e;exact hK (x::xs) (by simp[hl]) ((dV.one (hr C.h C.ok)).append hxs)
theorem a5l(H:FxOk X)(R:Rel X (CB*q) (CB*q+CB) S m ok a w){lo hi:Option Operand}(ho:o.op= .slice t x lo hi none):(bz X.E q o).post S (λ_ S' =>jh X (CB*q) (CB*q+CB) o a w m ok S'):=by
 refine a3j H R ho λbx hlo hhi hx=>?_;subst hlo;subst hhi;obtain⟨blk,hm,hx⟩:=hx;unfold TS;refine kX H λi hi=>?_;have htd:=hi.td;split<;>try trivial
 rename_i n e hd;rw[hd]at htd;have hut:X.P.underlying t=some (.array n e):=htd;refine kX H λj hj=>?_;split<;>try trivial
 rename_i u hju;refine eH λhf=>bP ?_;split<;>try trivial
 rename_i cs hS;obtain⟨blk',arr,T,hm',hh,hl⟩:=R.own_cells hS;simp only at hm;rw[hm]at hm';cases hm';refine TZ (C:=⟨w.heap,ok,m⟩) hf n hl λxs hlen hr=>jf ?_;have hjz:u.size=j.size:=by obtain⟨inf,_,_,_,_,hty⟩:=hj.info;exact(hty u hju).1
 have ht:u.isEnt=false:=by cases u<;>first|rfl|(cases hf;done)
 have hown:U7 m bx (S (Z5+bx))=[blk]:=by simp[U7,hS,hm]
 obtain⟨s1,s2,s3⟩:=R.sep bx blk (by rw[hown];simp);have R1:=R.kill bx;refine Cj H λnn e1 g1 g2 hn=>?_;rw[←e1];clear e1;generalize CB*q=Z at*;have hsz:arr.toList.length=xs.length*u.size:=hr.1;have R' :Rel X Z (Z+CB) (upd (upd S (Z5+bx) .dead) (Z5+nn) (.barr u xs)) (nK m nn (.arr blk 0 xs.length xs.length u.size) []) ok a w:=by
  refine R1.lay hn g1 (by show nn<Z+1000000;change nn+64<=Z+1000000 at g2;omega) D5 rfl rfl rfl (A7 _) (λ_ _ _=>rfl) (by simp[U7]) (λb hbb=>?_) ⟨_,aF _ _ _ _,?_⟩
  .simp[U7]at hbb;subst hbb;refine⟨s1,s2,s3,λk e=>?_⟩;obtain⟨k1,k2⟩:=xZ rfl e;exact k1 (R.inj k bx b k2 (by rw[hown];simp))
  .refine dV.arrOk ht (C:=⟨w.heap,ok,nK m nn (.arr blk 0 xs.length xs.length u.size) []⟩) (cs:=arr.toList) hr hh (.inl rfl) (A7 _) (by rw[←hsz];simp) ?_;simp only[jQ];exact U1 (by rw[hsz];exact A7 _)
 refine sF H R' (λk l h=>?_) (λ_ _ h=>h) (x:=.slice (some ⟨blk,0,none⟩) n n) ⟨_,aF _ _ _ _,by rw[hlen];rfl⟩ ?_
 .by_cases ek:k=nn
  .subst ek;have:=R1.fresh k g1 hn;rw[this]at h;cases h
  .rw[jC _ _ _ ek];exact h
 .have hb:=CU (P:=X.P) (w:=w) (isS:=false) (len:=n) (cap:=n) (lo:=none) (hi:=none) (x:=0) (y:=n) (.inl ⟨rfl,rfl⟩) (.inl ⟨rfl,rfl⟩) o5 o5 o5 (A7 _);simp[execOp,ho,hx,Instr.sliceAt,run_underlying hut,Instr.sureAddr,hb,qH hj,iG]
theorem CV{w:World}{sz n k:Nat}(h:AX w.heap sz v n es)(hk:k<=n)(hs:∀b,v≠.string b):(Builtin.firstCells sz k v).run P w= .ok (es.take (k*sz)).toArray w:=by
 obtain⟨hl,h⟩:=h;rcases h with⟨rfl,ad,cap,rfl⟩|⟨blk,off,cap,rfl,hn,hc⟩|⟨b,rfl,_,_⟩
 .have hk0:k=0:=o5;subst hk0;have:es=[]:=Z7.1 (by simpa using hl);subst this;cases ad with
  |none=>simp[Builtin.firstCells]|some b=>have:=run_loadCells_list (P:=P) w b [] (λj v h=>by simp at h);simp[Builtin.firstCells];simpa using this
 .have hle:k*sz<=n*sz:=F5 _ hk;refine run_firstCells_some w sz k _ _ cap (es.take (k*sz)) (by rw[aX,hl,bC hle]) λj u hu=>?_;rw[iG];have hu' :es[j]? =some u:=by
   rw[V6]at hu;split at hu
   .exact hu
   .cases hu
  exact uF (w:=w) hc hu'
 .exact absurd rfl (hs b)
theorem a8T{b:ByteArray}(h:lu C y (.string b))(u:Ty)(K:List u.den->Cmd α):YG u y K= .fail:=by
 cases y<;>try rfl
 case nl=>cases (show Value.string b= .slice none 0 0 from h)
 case ne z=>obtain⟨_,_,e,_⟩:=(show ∃a c,Value.string b= .slice a 0 c/\a.isNone=z from h);cases e
 case sl t xs=>
  rcases(show lw C.h C.ok (.sl t) xs [.string b]from h)with⟨_,a,cap,e,_⟩|⟨_,mv,e,_⟩
  .cases (U0 e).1
  .cases (U0 e).1
 case own bx vw=>
  obtain⟨loc,_,hv⟩:=(show ∃loc,C.m bx=some loc/\loc.view vw (.string b)from h);cases loc<;>rcases vw with _|⟨lo,hi⟩<;>simp only[Loc.view]at hv
  .cases hv
  .cases hv.2.2
  .cases hv
  .cases hv.2.2
  .cases hv
theorem a8J(H:FxOk X)(R:Rel X (CB*q) (CB*q+CB) S m ok a w){c:Call}(ho:o.op= .call c)(hc:c.callee= .builtin .copy):(bz X.E q o).post S (λ_ S' =>jh X (CB*q) (CB*q+CB) o a w m ok S'):=by
 obtain⟨cal,args,ats⟩:=c;simp only at hc;subst hc;unfold bz;simp only[ho];refine lM R _ λvs hvs=>?_;split<;>try trivial
 rename_i t t' x y hat
 obtain⟨u1,r,he,hx,u2,r',he',hy,hr⟩:=hvs;simp only[iU]at hr;subst hr;rw[he']at he;obtain⟨p,p',rfl,rfl,rfl⟩:=Sr he;refine eH λhtt=>?_;have htt' :=iH htt;subst htt';have hats:ats=#[t,t]:=by
  obtain⟨l⟩:=ats;simp only at hat
  rw[hat]
 unfold a9Q;split
 .trivial
 rename_i e u het;obtain⟨j,z,inf,hu,hj,h1,h2,h3,h4,h5,h6⟩:=vK H het;split<;>try trivial
 have ht:=BR het;by_cases hns:∃b,a.eval p' = .string b
 .obtain⟨b,hb⟩:=hns;rw[hb]at hy;rw[a8T hy];trivial
 have hns:∀b,a.eval p' ≠.string b:=λb e=>hns ⟨b,e⟩;refine JV R ht hy λys es hv r2=>?_;split<;>try trivial
 rename_i bx;obtain⟨loc,hm,hview⟩:=hx;refine bP ?_;split<;>try trivial
 rename_i u' xs hS;refine fM λeu=>?_;subst eu;refine jf ?_;obtain⟨loc',hm',ha⟩:=R.own_arr hS;simp only at hm;rw[hm]at hm';cases hm';have him:zk (x8 xs) (x8 ys)=((Nat.min ys.length xs.length:Nat):Int):=by unfold zk x8;split<;>simp only[Nat.min_def]<;>split<;>omega
 rw[him];cases loc with
 |st b=>cases ha|mp b=>exact absurd ha.1 (by simp[ht])|nil=>
  obtain⟨ha,_⟩:=ha;subst ha;have hx' :a.eval p= .slice none 0 0:=hview;have hf:=CV (P:=X.P) (k:=0) (by rw[←h2]at hv;exact hv) (aU _) hns;have R' :Rel X (CB*q) (CB*q+CB) (upd S (Z5+bx) (.barr u' (LU [] ys))) m ok a w:=
   R.mod (by rw[hS];simp[U7,hm]) D5 rfl rfl rfl rfl (λ_ _=>rfl) ⟨_,hm,by simp[LU],ht⟩
  refine sF H R' (λ_ _ h=>h) (λ_ _ h=>h) (x:=.int .i64 ((Nat.min ys.length 0:Nat):Int)) rfl ?_;simp[execOp,ho,resolve,invoke,builtin,hats,hx',Builtin.copy_,run_underlying hu,hv.lenOf,sizeOf,typeInfo,h1,hf,goInt]
 |arr blk off len cap sz=>
  obtain⟨c,T,f,hb,hfz,rfl,rfl,hcap,hfit,r1⟩:=NG ha;have hx' :a.eval p= .slice (some ⟨blk,off,none⟩) xs.length cap:=hview;simp only at hb r1;generalize hk:Nat.min ys.length xs.length=k;have hk1:k<=ys.length:=by rw[←hk];exact Nat.min_le_left _ _
  have hk2:k<=xs.length:=by rw[←hk];exact Nat.min_le_right _ _
  have hf:=CV (P:=X.P) (k:=k) (by rw[←h2]at hv;exact hv) hk1 hns;have hes:es.length=ys.length*u'.size:=hv.1;have hle1:k*u'.size<=ys.length*u'.size:=F5 _ hk1;have hle2:k*u'.size<=xs.length*u'.size:=F5 _ hk2;have hle3:xs.length*u'.size<=cap*u'.size:=F5 _ hcap;have htl:(es.take (k*u'.size)).length=k*u'.size:=by simp;omega
  have hcl:c.toList.length=c.size:=rfl;have hst:=wX (P:=X.P) blk off T (es.take (k*u'.size)) 0 c f w hb hfz.of (by rw[htl];omega) (λu hu=>r2.one_cell u (mM hu));simp only[Z8]at hst;have hsp:(aO off (es.take (k*u'.size)) c.toList).length=c.size:=by rw[uU (by rw[htl];omega)];rfl
  have hown:U7 m bx (S (Z5+bx))=[blk]:=by simp[U7,hS,hm]
  have hkeep:∀b t,ok b t->(w.setRow blk (aO off (es.take (k*u'.size)) c.toList).toArray).heap[b]? =w.heap[b]?:=λb t hb=>setRow_other w blk b _ (λe=>(R.sep bx blk (by rw[hown];simp)).1 t (e▸hb));have hlc:(LU xs ys).length=xs.length:=by unfold LU;simp;omega
  have hlce:LU xs ys=ys.take k++xs.drop k:=by
   unfold LU;rcases Nat.le_total ys.length xs.length with h|h
   .have:k=ys.length:=by rw[←hk];exact bC h
    rw[this,U1 (A7 _),U1 h]
   .have:k=xs.length:=by rw[←hk];exact Nat.min_eq_right h
    rw[this,au h,au (A7 _)]
  have R' :Rel X (CB*q) (CB*q+CB) (upd S (Z5+bx) (.barr u' (LU xs ys))) m ok a (w.setRow blk (aO off (es.take (k*u'.size)) c.toList).toArray):=by
   refine R.mod (by rw[hown];simp[U7,hm]) D5 rfl rfl rfl D5 (λb hb=>setRow_other w blk b _ (by rw[hown]at hb;simpa using hb)) ⟨_,hm,?_⟩;have:=dV.arrOk (C:=⟨(w.setRow blk (aO off (es.take (k*u'.size)) c.toList).toArray).heap,ok,m⟩) (xs:=LU xs ys) (cs:=((aO off (es.take (k*u'.size)) c.toList).drop off).take (xs.length*u'.size)) (blk:=blk) (off:=off) (cap:=cap) ht ?_ (setRow_heap w blk c _ T f hb) (by rw[aK,hsp];exact hfz) (by rw[hlc];exact hcap) (by rw[aK,hsp];exact hfit) (by rw[hlc])
   .rw[hlc]at this;exact this
   .refine dV.mono (h:=w.heap) (ok:=ok) (λ_ _ h=>h) hkeep ?_;have e1:=Jt (b:=off) (off:=0) (n:=xs.length*u'.size) (us:=es.take (k*u'.size)) (L:=c.toList) (by rw[hcl];omega) (by rw[htl];omega);rw[Z8]at e1;rw[e1,hlce];unfold aO;rw[List.take_zero,H9,dH,htl];refine dV.append ?_ ?_
    .refine⟨by rw[htl,aX,bC hk1],λi x hi=>?_⟩;have hik:i<k:=by have:=(ai.1 hi).1;simp at this;omega
     have hi' :ys[i]? =some x:=by rw[V6,if_pos hik]at hi;exact hi
     have h7:=r2.2 i x hi';have hle:(i+1)*u'.size<=k*u'.size:=F5 _ o5;rw[J3,ah]at hle;rw[gX,fF,bC o5];exact h7
    .refine⟨by have:=r1.1;simp only[aC,this,Nat.sub_mul],λi x hi=>?_⟩;rw[U8]at hi;have h7:=r1.2 (k+i) x hi;rw[J3]at h7;rw[X0];exact h7
  refine sF H R' (λ_ _ h=>h) (λ_ _ h=>h) (x:=.int .i64 (k:Int)) rfl ?_;rw[h2]at hf;have hrun:(Builtin.copy_ #[t,t] o.type #[.slice (some ⟨blk,off,none⟩) xs.length cap,a.eval p']).run X.P w= .ok (.int .i64 (k:Int)) (w.setRow blk (aO off (es.take (k*u'.size)) c.toList).toArray):=by simp only[Builtin.copy_,List.getElem?_toArray,fU,pF,I4,run_underlying hu,I5,hv.lenOf,hk,qH hj,h3,V9,hf,List.toList_toArray,hst,goInt,aO]
  simp[execOp,ho,resolve,invoke,builtin,hats,hx',hrun]
theorem J_(H:FxOk X)(R:Rel X (CB*q) (CB*q+CB) S m ok a w){src t:TypeId}(ho:o.op= .convert src t x):
  (bz X.E q o).post S (λ_ S' =>jh X (CB*q) (CB*q+CB) o a w m ok S'):=by
 refine YB H R ho λl hl hsrc=>?_;unfold a3U;split<;>try trivial
 rename_i e het;obtain⟨j,z,inf,hu,hj,h1,h2,h3,h4,h5,h6⟩:=vK H het;refine kX H λk hk=>?_;have hkd:=hk.td;split<;>try trivial
 rename_i hke;rw[hke]at hkd;have hrun:=run_bytes_of_string (P:=X.P) w src t e ⟨l.toArray⟩ hsrc hu hkd;have hsz:(⟨l.toArray⟩:ByteArray).size=l.length:=by simp[ByteArray.size]
 have hge:=grownCap_ge w (⟨l.toArray⟩:ByteArray).size 0 e;generalize hcap:grownCap w (⟨l.toArray⟩:ByteArray).size 0 e=cap at*;have hbs:(bytesRow ⟨l.toArray⟩ cap).size=cap:=by simp[bytesRow];omega
 have hll:(Uy l).length=l.length:=by simp[Uy]
 refine Jh H R (w1:=w.drew) (u:=.int .u8) (e:=e) (cap:=cap) (c:=bytesRow ⟨l.toArray⟩ cap) (cs:=Lib.strCells ⟨l.toArray⟩) (f:=((bytesRow ⟨l.toArray⟩ cap).size,(bytesRow ⟨l.toArray⟩ cap).size+1)) rfl rfl rfl rfl rfl ?_ ?_ ?_ ?_ (λ_ _ h=>h) (λ_ _ h=>h) (.inr ⟨rfl,rfl⟩) ?_
 .refine⟨by rw[Lib.strCells_length];simp[Uy,Ty.size,ByteArray.size],λi x hi=>?_⟩;show(((Lib.strCells ⟨l.toArray⟩).drop (i*1)).take 1)=[.int .u8 x];have hl:l[i]?.map (λc=>(c.toNat:Int))=some x:=by simpa[Uy,iL]using hi
  obtain⟨c,hc,rfl⟩:=gG.1 hl;have h7:(Lib.strCells ⟨l.toArray⟩)[i]? =some (.int .u8 c.toNat):=by simp[Lib.strCells,hc]
  obtain⟨g1,g2⟩:=ai.1 h7;rw[dG,bY g1,g2];rfl
 .omega
 .rw[hbs];simp[Ty.size]
 .rw[hll];have:(bytesRow ⟨l.toArray⟩ cap).toList=Lib.strCells ⟨l.toArray⟩++List.replicate (cap -l.length) (.int .u8 0):=by
   simp[bytesRow,Lib.strCells,hsz]
  rw[this,Z4 (by rw[Lib.strCells_length,hsz];simp[Ty.size])];exact U1 (by rw[Lib.strCells_length,hsz];simp[Ty.size])
 .simp only[execOp,ho,hl];rw[I4,hrun,hll,←hsz];rfl
end
def sS{α β:Type}(eq:α->α->Bool):List (α×β)->α->Option Nat
 |[],_=>none|p::r,k=>bif eq k p.1 then some 0 else(sS eq r k).map (·+1)
theorem KN{α β:Type}{eq:α->α->Bool} :∀{xs:List (α×β)} {k:α} {i:Nat},sS eq xs k=some i->∃p,xs[i]? =some p/\eq k p.1=true
 |[],_,_,h=>by cases h|p::r,k,i,h=>by
  unfold sS at h;cases he:eq k p.1<;>rw[he]at h
  .simp only[cond_false,gG]at h;obtain⟨j,h1,rfl⟩:=h;obtain⟨q,h2,h3⟩:=KN h1;exact⟨q,by simpa using h2,h3⟩
  .cases h;exact⟨p,rfl,he⟩
theorem SE{α β:Type}(eq:α->α->Bool):∀(xs:List (α×β)) (k:α) (z:β),a1w eq xs k z=(match sS eq xs k with|some i=>(match xs[i]? with|some p=>p.2|none=>z)|none=>z)
 |[],_,_=>rfl|p::r,k,z=>by
  unfold a1w sS;cases he:eq k p.1
  .simp only[cond_false];rw[SE eq r k z];cases sS eq r k<;>simp
  .rfl
variable {β:Type}
theorem a2T(eq:α->α->Bool):∀(xs:List (α×β)) (k:α) (z:β),a8w eq xs k z=(match sS eq xs k with|some i=>(match xs[i]? with|some p=>p.2|none=>z)|none=>z):=
 SE eq
theorem SG{α β:Type}(eq:α->α->Bool):∀(xs:List (α×β)) (k:α),a1x eq xs k=(sS eq xs k).isSome
 |[],_=>rfl|p::r,k=>by
  unfold a1x sS;cases he:eq k p.1
  .simp only[cond_false];rw[SG eq r k];cases sS eq r k<;>simp
  .rfl
theorem a2U(eq:α->α->Bool):∀(xs:List (α×β)) (k:α),a8x eq xs k=(sS eq xs k).isSome:=
 SG eq
theorem SL{α β:Type}(eq:α->α->Bool):∀(xs:List (α×β)) (k:α) (x:β),a1B eq xs k x=(match sS eq xs k with|some i=>xs.set i (k,x)|none=>xs++[(k,x)])
 |[],_,_=>rfl|p::r,k,x=>by
  unfold a1B sS;cases he:eq k p.1
  .simp only[cond_false];rw[SL eq r k x];cases sS eq r k<;>simp
  .rfl
theorem Vl(eq:α->α->Bool):∀(xs:List (α×β)) (k:α) (x:β),a2V eq xs k x=(match sS eq xs k with|some i=>xs.set i (k,x)|none=>xs++[(k,x)]):=
 SL eq
theorem Qu:∀{k:Ty} (hf:k.flat=true) (a b:k.den),keq k a b=true↔a=b
 | .bool,_,a,b=>by cases a<;>cases b<;>simp[keq,QS]| .int _,_,a,b=>by simp[keq,D6]| .str,_,a,b=>by simp[keq,seq]| .unit,_,a,b=>⟨λ_=>rfl,λ_=>rfl⟩| .prod p q,hf,a,b=>by simp only[Ty.flat,A8]at hf;simp only[keq,kZ,A8,Qu hf.1,Qu hf.2];exact⟨λh=>xn h.1 h.2,λh=>by subst h;exact⟨rfl,rfl⟩⟩| .sl _,hf,_,_=>by cases hf| .ent ..,hf,_,_=>by cases hf
theorem QF{h h' :Array Obj}{ok ok' :Nat->Ty->Prop} :∀{t:Ty} (hf:t.flat=true) {x:t.den} {c d:List Value},lw h ok t x c->lw h' ok' t x d->c=d
 | .bool,_,_,_,_,h1,h2=>by simp only[lw]at h1 h2;rw[h1,h2]| .int _,_,_,_,_,h1,h2=>by simp only[lw]at h1 h2;rw[h1,h2]| .str,_,_,_,_,h1,h2=>by simp only[lw]at h1 h2;rw[h1,h2]| .unit,_,_,_,_,h1,h2=>by simp only[lw]at h1 h2;rw[h1,h2]| .prod p q,hf,_,_,_,h1,h2=>by simp only[Ty.flat,A8]at hf;obtain⟨a,b,rfl,a1,a2⟩:=h1;obtain⟨a',b',rfl,b1,b2⟩:=h2;rw[QF hf.1 a1 b1,QF hf.2 a2 b2]
 | .sl _,hf,_,_,_,_,_=>by cases hf| .ent ..,hf,_,_,_,_,_=>by cases hf
theorem WT{h h' :Array Obj}{ok ok' :Nat->Ty->Prop} :∀{t:Ty} (hf:t.flat=true) {x y:t.den} {c:List Value},lw h ok t x c->lw h' ok' t y c->x=y
 | .bool,_,_,_,_,h1,h2=>by simp only[lw]at h1 h2;rw[h1]at h2;simpa using h2| .int _,_,_,_,_,h1,h2=>by simp only[lw]at h1 h2;rw[h1]at h2;simpa using h2
 | .str,_,_,_,_,h1,h2=>by simp only[lw]at h1 h2;rw[h1]at h2;injection h2 with h2 _;injection h2 with h2;injection h2 with h2;have:=congrArg Array.toList h2;simpa using this
 | .unit,_,_,_,_,_,_=>rfl| .prod p q,hf,_,_,_,h1,h2=>by simp only[Ty.flat,A8]at hf;obtain⟨a,b,rfl,a1,a2⟩:=h1;obtain⟨a',b',e,b1,b2⟩:=h2;obtain⟨rfl,rfl⟩:=List.append_inj e ((eY a1).trans (eY b1).symm);exact xn (WT hf.1 a1 b1) (WT hf.2 a2 b2)
 | .sl _,hf,_,_,_,_,_=>by cases hf| .ent ..,hf,_,_,_,_,_=>by cases hf
theorem OA{h:Array Obj}{ok:Nat->Ty->Prop} :∀{k:Ty} (hf:k.flat=true) {x:k.den} {c:List Value},lw h ok k x c->∀{sh:List Ty} {d:List Value},jM sh d->jM (k.leaves++sh) (c++d)
 | .bool,_,x,_,h1,_,_,hd=>by simp only[lw]at h1;subst h1;exact⟨_,_,rfl,hd⟩| .int _,_,x,_,h1,_,_,hd=>by simp only[lw]at h1;subst h1;exact⟨_,_,rfl,hd⟩| .str,_,x,_,h1,_,_,hd=>by simp only[lw]at h1;subst h1;exact⟨_,_,rfl,hd⟩| .unit,_,x,_,h1,_,_,hd=>by simp only[lw]at h1;subst h1;exact hd| .prod p q,hf,_,_,h1,_,_,hd=>by simp only[Ty.flat,A8]at hf;obtain⟨a,b,rfl,a1,a2⟩:=h1;simp only[Ty.leaves,F7];exact OA hf.1 a1 (OA hf.2 a2 hd)
 | .sl _,hf,_,_,_,_,_,_=>by cases hf| .ent ..,hf,_,_,_,_,_,_=>by cases hf
theorem VD:∀{a b:List Ty},OE a b=true->a=b
 |[],[],_=>rfl|[],_::_,h=>by cases h|_::_,[],h=>by cases h|a::r,b::q,h=>by
  unfold OE at h;cases hb:Ty.beq a b<;>rw[hb]at h
  .cases h
  .rw[Ty.beq_eq hb,VD (show OE r q=true from h)]
def Af(ag:Bool)(k:Ty)(x:k.den)(kv:Value):Prop:=gok ag kv/\lw #[] (λ_ _=>False) k x (sH ag kv)
variable {ag:Bool}
theorem o_{u v:Value}(hu:gok ag u)(hv:gok ag v)(h:sH ag u=sH ag v):u=v:=by
 cases ag
 .simpa[sH]using h
 .obtain⟨a,rfl⟩:=hu;obtain⟨b,rfl⟩:=hv;have:a.toList=b.toList:=h;rw[Array.toList_inj.1 this]
variable {k:Ty}
theorem Af.det(hf:k.flat=true){x:k.den}{u v:Value}(h1:Af ag k x u)(h2:Af ag k x v):u=v:=
 o_ h1.1 h2.1 (QF hf h1.2 h2.2)
theorem JU:∀(v:Value),(∃b,v= .bool b)\/(∃k n,v= .int k n)\/(∃s,v= .string s)->∀n,Instr.sameBits n v v=true:=by rintro v (⟨b,rfl⟩|⟨k,n,rfl⟩|⟨s,rfl⟩) m<;>simp[Instr.sameBits,MapKept.bytes_beq]
theorem Oz{h:Array Obj}{ok:Nat->Ty->Prop} :∀{k:Ty} (hf:k.flat=true) {x:k.den} {c:List Value},lw h ok k x c->∀v∈c,(∃b,v= .bool b)\/(∃k n,v= .int k n)\/(∃s,v= .string s)
 | .bool,_,x,_,h1,v,hv=>by simp only[lw]at h1;subst h1;simp at hv;exact .inl ⟨_,hv⟩| .int _,_,x,_,h1,v,hv=>by simp only[lw]at h1;subst h1;simp at hv;exact .inr (.inl ⟨_,_,hv⟩)| .str,_,x,_,h1,v,hv=>by simp only[lw]at h1;subst h1;simp at hv;exact .inr (.inr ⟨_,hv⟩)| .unit,_,x,_,h1,v,hv=>by simp only[lw]at h1;subst h1;cases hv| .prod p q,hf,_,_,h1,v,hv=>by
  simp only[Ty.flat,A8]at hf;obtain⟨a,b,rfl,a1,a2⟩:=h1;rcases F9.1 hv with hv|hv
  .exact Oz hf.1 a1 v hv
  .exact Oz hf.2 a2 v hv
 | .sl _,hf,_,_,_,_,_=>by cases hf| .ent ..,hf,_,_,_,_,_=>by cases hf
theorem Af.stays{w:World}(hf:k.flat=true){x:k.den}(h:Af ag k x v):(Instr.keyThatStays v v).run P w= .ok v w:=by
 have hs:Instr.sameBits 10000 v v=true:=by
  have hc:=Oz hf h.2;cases ag
  .exact JU v (hc v (by simp[sH])) _
  .obtain⟨arr,rfl⟩:=h.1;show Instr.sameBits (9999+1) (.agg arr) (.agg arr)=true;simp only[Instr.sameBits,beq_self_eq_true,uk,kC];intro p hp;obtain⟨i,hi,e⟩:=aY hp;rw[List.getElem_zip]at e;rw[←e];exact JU _ (hc _ (Y1 _)) _
 simp[Instr.keyThatStays,hs]
variable {M:MT}
section
variable {X:Fx} {cl ch:Nat} {S:Sm} {m:Mp} {ok:Nat->Ty->Prop} {a:Act} {w:World} {T:List Nat} {o:Oper}
theorem Yg(H:FxOk X){ke:Nat}{i:TI}(hi:TiOk X.P ke i)(hk:Ye X.E ke i.td k=true)(hf:k.flat=true){x:k.den}{u:Value}(hu:Af (bK i.td) k x u)(w:World):
  (∀em,(Instr.checkKey em 10000 ke u).run X.P w= .ok () w)/\
  ∀{β:Type} (es:List MapEntry) (xs:List (k.den×β)),es.length=xs.length->(∀(j:Nat) (p:k.den×β),xs[j]? =some p->∃e:MapEntry,es[j]? =some e/\Af (bK i.td) k p.1 e.key)->
   (Instr.findKey ke u es).run X.P w= .ok ((sS (keq k) xs x).bind λj=>(es[j]?).map λe=>(j,e.val)) w:=by
 have htd:=hi.td;have scal:∀d,X.P.underlying ke=some d->bK i.td=false->(∀y v,Af (bK i.td) k y v->Instr.sameNow d u v=some (keq k x y))->
   ∀{β:Type} (es:List MapEntry) (xs:List (k.den×β)),es.length=xs.length->(∀(j:Nat) (p:k.den×β),xs[j]? =some p->∃e:MapEntry,es[j]? =some e/\Af (bK i.td) k p.1 e.key)->
   (Instr.findKey ke u es).run X.P w= .ok ((sS (keq k) xs x).bind λj=>(es[j]?).map λe=>(j,e.val)) w:=by
  intro d hd _ hs β es xs hl he;refine MapKept.run_findKey hd ?_;have:∀(es:List MapEntry) (xs:List (k.den×β)) (n:Nat),es.length=xs.length->(∀(j:Nat) (p:k.den×β),xs[j]? =some p->∃e:MapEntry,es[j]? =some e/\Af (bK i.td) k p.1 e.key)->
    Instr.findNow d u es n=some ((sS (keq k) xs x).bind λj=>(es[j]?).map λe=>(n+j,e.val)):=by
   intro es;induction es with
   |nil=>
    intro xs n hl he;cases xs with
    |nil=>rfl|cons _ _=>cases hl
   |cons e es ih=>
    intro xs n hl he;cases xs with
    |nil=>cases hl|cons p xs=>
     obtain⟨e',h1,h2⟩:=he 0 p rfl;simp only[fU,F8]at h1;subst h1;unfold Instr.findNow sS;rw[hs _ _ h2];cases hq:keq k x p.1
     .simp only[cond_false];rw[ih xs (n+1) (by simpa using hl) (λj q hj=>by simpa using he (j+1) q (by simpa using hj))];cases sS (keq k) xs x with
      |none=>rfl|some j=>simp[kP,Nat.add_comm 1 j]
     .simp
  simpa using this es xs 0 hl he
 have one:∀{v:Value} {y:k.den},bK i.td=false->Af (bK i.td) k y v->lw #[] (λ_ _=>False) k y [v]:=λha h=>by have:=h.2;rw[ha]at this;exact this
 unfold Ye at hk;split at hk
 .rename_i htd';rw[htd']at htd;have ha:bK i.td=false:=by rw[htd'];rfl
  have hu1:=one ha hu;simp only[lw,G8,and_true]at hu1;subst hu1;refine⟨λem=>qN htd (by simp[MapKept.IsKey]) em 9999,scal _ htd ha λy v hv=>?_⟩;have hv1:=one ha hv;simp only[lw,G8,and_true]at hv1;subst hv1;rfl
 .rename_i p q htd';have:=of_decide_eq_true hk;subst this;rw[htd']at htd;have ha:bK i.td=false:=by rw[htd'];rfl
  have hu1:=one ha hu;simp only[lw,G8,and_true]at hu1;subst hu1;refine⟨λem=>qN htd (by simp[MapKept.IsKey]) em 9999,scal _ htd ha λy v hv=>?_⟩;have hv1:=one ha hv;simp only[lw,G8,and_true]at hv1;subst hv1;simp[Instr.sameNow,keq,D6];rfl
 .rename_i htd';rw[htd']at htd;have ha:bK i.td=false:=by rw[htd'];rfl
  have hu1:=one ha hu;simp only[lw,G8,and_true]at hu1;subst hu1;refine⟨λem=>qN htd (by simp[MapKept.IsKey]) em 9999,scal _ htd ha λy v hv=>?_⟩;have hv1:=one ha hv;simp only[lw,G8,and_true]at hv1;subst hv1;simp only[Instr.sameNow,keq,seq,F8];rw[kV];simp[MapKept.bytes_beq]
 .rename_i k _ _ fs htd';cases hkf:k.flat<;>rw[hkf]at hk
  .cases hk
  simp only[cond_true]at hk;cases hq:dO X.E.eqs ke with
  |none=>rw[hq]at hk;cases hk|some sh=>
  rw[hq]at hk;have hsh:=VD (show OE sh k.leaves=true from hk);subst hsh;obtain⟨⟨fields,hund⟩,hks⟩:=(H.eqs ke _ hq).2;have ha:bK i.td=true:=by rw[htd'];rfl
  rw[ha]at hu;obtain⟨xs0,rfl⟩:=hu.1;have shp:∀{y:k.den} {arr:Array Value},Af true k y (.agg arr)->jM k.leaves arr.toList:=λ{y arr} h=>by have:=OA hf (show lw #[] (λ_ _=>False) k y arr.toList from h.2) (sh:=[]) (d:=[]) rfl;simpa using this
  obtain⟨c1,c2⟩:=hks w xs0 (shp hu);refine⟨c1,λ{β} es xs hl he=>?_⟩;rw[run_findKey_eq w (by rw[hund])];rw[ha]at he;have:∀(es:List MapEntry) (xs:List (k.den×β)) (n:Nat),es.length=xs.length->(∀(j:Nat) (p:k.den×β),xs[j]? =some p->∃e:MapEntry,es[j]? =some e/\Af true k p.1 e.key)->
    (Instr.findAsking ke (.agg xs0) es n).run X.P w= .ok ((sS (keq k) xs x).bind λj=>(es[j]?).map λe=>(n+j,e.val)) w:=by
   intro es;induction es with
   |nil=>
    intro xs n hl he;cases xs with
    |nil=>rfl|cons _ _=>cases hl
   |cons e es ih=>
    intro xs n hl he;cases xs with
    |nil=>cases hl|cons p xs=>
     obtain⟨e',h1,h2⟩:=he 0 p rfl;simp only[fU,F8]at h1;subst h1;obtain⟨ys,hys⟩:=h2.1;rw[hys]at h2;obtain⟨r,hr,hre⟩:=c2 ys (shp h2);have hrq:r=keq k x p.1:=by
      rw[kV,hre,Qu hf];constructor
      .intro h;have h3:=h2.2;rw[show sH true (Value.agg ys)=ys.toList from rfl,←h]at h3;exact WT hf hu.2 h3
      .intro h;have h3:=h2.2;rw[←h]at h3;exact QF hf hu.2 h3
     subst hrq;unfold Instr.findAsking sS;simp only[hys,I4,hr,I5];cases hq:keq k x p.1
     .simp only[cond_false,fD,if_false];rw[ih xs (n+1) (by simpa using hl) (λj q hj=>by simpa using he (j+1) q (by simpa using hj))];cases sS (keq k) xs x with
      |none=>rfl|some j=>simp[kP,Nat.add_comm 1 j]
     .simp
  simpa using this es xs 0 hl he
 .cases hk
theorem KI(H:FxOk X){t:Nat}(h:LX X.E t=some M):X.P.underlying t=some (.map M.ke M.el)/\M.k.flat=true/\
  (∃i,TiOk X.P M.ke i/\Ye X.E M.ke i.td M.k=true/\M.ka=bK i.td)/\(∃j,TiOk X.P M.el j/\j.ty=some M.v/\M.va=bK j.td):=by
 unfold LX at h;split at h<;>try (cases h;done)
 rename_i i hi;split at h<;>try (cases h;done)
 rename_i ke el htd;split at h<;>try (cases h;done)
 rename_i p q hp hq;split at h<;>try (cases h;done)
 rename_i k v hk hv;cases hc:(Ye X.E ke p.td k&&k.flat)<;>rw[hc]at h
 .cases h
 .simp only[cond_true,F8]at h;subst h;simp only[A8]at hc;have h1:=(H.tt t i hi).td;rw[htd]at h1;exact⟨h1,hc.2,⟨p,H.tt _ p hp,hc.1,rfl⟩,⟨q,H.tt _ q hq,hv,rfl⟩⟩
theorem NJ{t:Ty}{v:V}{x:Value}{K:t.den->Cmd α}(R:Rel X cl ch S m ok a w)(hT:Tk X S m ok w T)(hv:lu ⟨w.heap,ok,m⟩ v x)
  (hK:∀S' ok' y,Rel X cl ch S' m ok' a w->Tk X S' m ok' w T->(∀b t,ok b t->ok' b t)->aW S S' ->gok ag x->lw w.heap ok' t y (sH ag x)->(K y).post S' Q):
  (a3Y ag t v K).post S Q:=by
 unfold a3Y;refine Ag hv λcs us hg hl=>?_;refine BH t R hT hl λS1 ok1 y q us1 us' R1 T1 k1 s1 e1 h1 l1=>?_;cases q with
 |cons _ _=>trivial|nil=>
 simp only[gu]at l1;subst l1;simp only[E5]at e1;subst e1;have hgc:gok ag x/\sH ag x=us:=by
  cases ag
  .simp only[Ot]at hg;subst hg;exact⟨wo h1 x D5,rfl⟩
  .obtain⟨arr,rfl,rfl⟩:=hg;exact⟨⟨arr,rfl⟩,rfl⟩
 refine hK _ _ _ R1 T1 k1 s1 hgc.1 ?_;rw[hgc.2];exact h1
def GL(h:Array Obj)(ok:Nat->Ty->Prop)(t:Ty)(xs:List t.den)(v:Value):Prop:=
 ∃mv,v= .map mv/\(mv=none->xs=[])/\∀blk,mv=some blk->∃(es:Array MapEntry) (ck:Nat),h[blk]? =some (.map es ck)/\es.size=(xs:List t.den).length/\
  ∀(i:Nat) (x:t.den),(xs:List t.den)[i]? =some x->∃e:MapEntry,es[i]? =some e/\LC t e/\lw h ok t x (yx t e)
theorem GL.of_rep{ok:Nat->Ty->Prop}{t:Ty}{xs:List t.den}(ht:t.isEnt=true)(hr:lw h ok (.sl t) xs [v]):GL h ok t xs v:=by obtain⟨mv,e,h1,h2⟩:=(X_ ht).1 hr;exact⟨mv,by simpa using e,h1,λblk hb=>(h2 blk hb).2⟩
theorem GL.of_arr{t:Ty}{xs:List t.den}(ht:t.isEnt=true)(ha:arrOk C t xs l)(hv:l.view none v):GL C.h C.ok t xs v:=by
 cases l with
 |nil=>have:=ha.2;rw[ht]at this;cases this|st b=>cases ha|arr blk off len cap sz=>have:=ha.1;rw[ht]at this;cases this|mp b=>simp only[Loc.view]at hv;subst hv;exact⟨_,rfl,(λh=>nomatch h),λblk hb=>by cases hb;exact ha.2⟩
theorem O_(R:Rel X cl ch S m ok a w)(hu:u.isEnt=true){v:V}{x:Value}{K:List u.den->Cmd α}(hv:lu ⟨w.heap,ok,m⟩ v x)
  (hK:∀xs,GL w.heap ok u xs x->(K xs).post S Q):(a5p u v K).post S Q:=by
 unfold a5p;split<;>try trivial
 .refine fM λe=>?_;subst e;exact hK _ (GL.of_rep hu hv)
 .rename_i bx;obtain⟨l,hm,hvw⟩:=hv;refine bP ?_;split<;>try trivial
  .rename_i t xs hS;obtain⟨l',hm',ha⟩:=R.own_arr hS;simp only at hm;rw[hm]at hm';cases hm';refine fM λe=>?_;subst e;exact hK _ (GL.of_arr hu ha hvw)
  .rename_i t xs hS;obtain⟨l',hm',ha,_⟩:=R.own_frz hS;simp only at hm;rw[hm]at hm';cases hm';refine fM λe=>?_;subst e;exact hK _ (GL.of_arr hu ha hvw)
theorem Jd{ok:Nat->Ty->Prop}{x:M.k.den×M.v.den}{e:MapEntry}(h1:LC M.ent e)(h2:lw h ok M.ent x (yx M.ent e)):
  gok M.ka e.key/\gok M.va e.val/\lw h ok M.k x.1 (sH M.ka e.key)/\lw h ok M.v x.2 (sH M.va e.val):=by
 obtain⟨g1,g2,g3⟩:=h1;obtain⟨c,d,e1,r1,r2⟩:=h2;obtain⟨rfl,rfl⟩:=List.append_inj (show sH M.ka e.key++sH M.va e.val=c++d from e1) (g3.trans (eY r1).symm);exact⟨g1,g2,r1,r2⟩
theorem a4h{ok:Nat->Ty->Prop}{x:M.k.den}{y:M.v.den}{e:MapEntry}(g1:gok M.ka e.key)(g2:gok M.va e.val)(r1:lw h ok M.k x (sH M.ka e.key))(r2:lw h ok M.v y (sH M.va e.val)):
  LC M.ent e/\lw h ok M.ent (x,y) (yx M.ent e):=⟨⟨g1,g2,eY r1⟩,_,_,rfl,r1,r2⟩
theorem WO{c:V}(h:uM C c v):TA C c v:=by
 cases c<;>simp only[uM]at h<;>try exact h
 all_goals exact h.elim
theorem a5V{cs:List V}{us:List Value}{x:Value}(hg:Ot ag x us)(hl:gu C cs us):TA C (mkV ag cs) x:=by
 cases ag
 .simp only[Ot]at hg;subst hg;cases cs with
  |nil=>simp[gu]at hl|cons c r=>
   obtain⟨v,r',e,h1,h2,h3⟩:=hl;simp at e;obtain⟨rfl,rfl⟩:=e;cases r with
   |nil=>exact WO h1|cons d r=>obtain⟨_,_,e,_⟩:=h3;cases e
 .obtain⟨arr,rfl,rfl⟩:=hg;exact⟨arr,rfl,hl⟩
theorem YL(h:gok ag v):Ot ag v (sH ag v):=by
 cases ag
 .rfl
 .obtain⟨arr,rfl⟩:=h;exact⟨arr,rfl,rfl⟩
theorem Qj{w:World}{t ke el:TypeId}{mv:Option Nat}{es:Array MapEntry}{key z:Value}{ok:Bool}(hund:P.underlying t=some (.map ke el))
  (hes:mv=none/\es=#[]\/∃r ck,mv=some r/\w.heap[r]? =some (.map es ck)) (hck:∀em,(Instr.checkKey em 10000 ke key).run P w= .ok () w) {r:Option (Nat×Value)}
  (hfind:(Instr.findKey ke key es.toList).run P w= .ok r w) (hz:(zeroValue el).run P w= .ok z w):
  (Instr.lookup t (.map mv) key ok).run P w= .ok (if ok then .tuple #[(r.map (·.2)).getD z,.bool r.isSome]else(r.map (·.2)).getD z) w:=by
 rcases hes with⟨rfl,rfl⟩|⟨b,ck,rfl,hb⟩
 .simp only[Instr.lookup,I4,run_underlying hund,I5,V9,hck,hfind];cases r with
  |none=>cases ok<;>simp[hz]|some p=>cases ok<;>simp
 .simp only[Instr.lookup,I4,run_underlying hund,Fa hb,I5,V9,hck,hfind];cases r with
  |none=>cases ok<;>simp[hz]|some p=>cases ok<;>simp
theorem a3i(H:FxOk X)(R:Rel X cl ch S m ok a w){x ix:Operand}{okk:Bool}(ho:o.op= .lookup t x ix okk):(bz X.E q o).post S (λ_ S' =>jh X cl ch o a w m ok S'):=by
 unfold bz;simp only[ho];refine ax R λu hu=>ax R λkv hk=>?_;unfold a1u;cases hM:LX X.E t with
 |none=>trivial|some M=>
 obtain⟨hund,hf,⟨i,hi,hko,hka⟩,⟨j,hj,hjt,hva⟩⟩:=KI H hM;simp only[];refine NJ (T:=[]) R Tk.nil hk λS1 ok1 key R1 T1 k1 s1 hg hr=>?_;refine O_ R1 rfl (Jn k1 hu) λxs hxs=>?_;obtain⟨mv,hx,hnil,hmap⟩:=hxs;have hkey:Af (bK i.td) M.k key (a.eval ix):=by rw[←hka];exact⟨hg,yP hf hr⟩
 obtain⟨c1,c2⟩:=Yg H hi hko hf hkey w;obtain⟨inf,hinf,_,_,_,hzero⟩:=hj.info;obtain⟨_,z,hz,hzr⟩:=hzero _ hjt;have hzrun:(zeroValue M.el).run X.P w= .ok z w:=by simp[zeroValue,typeInfo,hinf,hz]
 have hzg:gok M.va z/\lw w.heap ok1 M.v M.v.zero (sH M.va z):=by
  have hr0:lw w.heap ok1 M.v M.v.zero z.cells.toList:=fA (λ_ _ h=>h.elim) (λ_ _ h=>h.elim) hzr;have hag:=hj.agg inf z hinf hz;rw[←hva]at hag;cases hva' :M.va
  .have h1:=hag.2 hva';have hcz:z.cells.toList=[z]:=by cases z<;>first|rfl|cases h1
   rw[hcz]at hr0;exact⟨h1,hr0⟩
  .exact⟨hag.1 hva',hr0⟩
 have hE:∃es:Array MapEntry,(mv=none/\es=#[]\/∃r ck,mv=some r/\w.heap[r]? =some (.map es ck))/\es.size=xs.length/\
   ∀(i:Nat) (x:M.k.den×M.v.den),xs[i]? =some x->∃e:MapEntry,es[i]? =some e/\LC M.ent e/\lw w.heap ok1 M.ent x (yx M.ent e):=by
  cases mv with
  |none=>have:=hnil rfl;subst this;exact⟨#[],.inl ⟨rfl,rfl⟩,rfl,λi x h=>by simp at h⟩|some blk=>obtain⟨es,ck,h1,h2,h3⟩:=hmap blk rfl;exact⟨es,.inr ⟨blk,ck,rfl,h1⟩,h2,h3⟩
 obtain⟨es,hes,hsz,hent⟩:=hE;have hfind:=c2 (β:=M.v.den) es.toList xs (by rw[aI];exact hsz) (λj p hp=>by obtain⟨e,h1,h2,h3⟩:=hent j p hp;obtain⟨g1,g2,r1,r2⟩:=Jd h2 h3;exact⟨e,by simpa using h1,by rw[←hka];exact⟨g1,yP hf r1⟩⟩)
 have run:=Qj (ok:=okk) hund hes c1 hfind hzrun;have hval:∃val,(((sS (keq M.k) xs key).bind λj=>(es.toList[j]?).map λe=>(j,e.val)).map (·.2)).getD z=val/\gok M.va val/\
   lw w.heap ok1 M.v (a8w (keq M.k) xs key M.v.zero) (sH M.va val)/\(((sS (keq M.k) xs key).bind λj=>(es.toList[j]?).map λe=>(j,e.val))).isSome=a8x (keq M.k) xs key:=by
  rw[a2T,a2U];cases hfi:sS (keq M.k) xs key with
  |none=>exact⟨z,rfl,hzg.1,hzg.2,rfl⟩|some j=>
   obtain⟨p,hp,_⟩:=KN hfi;obtain⟨e,h1,h2,h3⟩:=hent j p hp;obtain⟨g1,g2,r1,r2⟩:=Jd h2 h3;have h1' :es.toList[j]? =some e:=by simpa using h1
   refine⟨e.val,by rw[ja,h1'];rfl,g2,?_,by rw[ja,h1'];rfl⟩;simp only[hp];exact r2
 obtain⟨val,e1,g,r,e2⟩:=hval;rw[e1,e2]at run;have hrel:=YL g;have hL:=qm (C:=⟨w.heap,ok1,m⟩) r;cases okk
 .simp only[cond_false];refine sF H R1 (λ_ _ h=>h) k1 (Na hrel hL) ?_;simp only[execOp,ho,hx,I4,run];rfl
 .simp only[cond_true];refine sF H R1 (λ_ _ h=>h) k1 (v:=.tup _) (x:=.tuple #[val,.bool (a8x (keq M.k) xs key)]) ⟨_,rfl,⟨_,_,rfl,a5V hrel hL,_,_,rfl,rfl,rfl⟩⟩ ?_;simp only[execOp,ho,hx,I4,run];rfl
theorem L_(H:FxOk X)(R:Rel X (CB*q) (CB*q+CB) S m ok a w){r:Option Operand}(ho:o.op= .makeMap t r):(bz X.E q o).post S (λ_ S' =>jh X (CB*q) (CB*q+CB) o a w m ok S'):=by
 have go:((Instr.makeMap t (r.map a.eval)).run X.P w= .ok (.map (some w.heap.size)) (w.alloc (.map #[] 0)))->
   (Ie X.E (O5 q o.dst) t λv=>dZ X.E o.dst v).post S (λ_ S' =>jh X (CB*q) (CB*q+CB) o a w m ok S'):=λrun=>by
  unfold Ie;cases hM:LX X.E t with
  |none=>trivial|some M=>
  refine Ep (l:=.mp w.heap.size) (obj:=.map #[] 0) (x:=.map (some w.heap.size)) H R D5 (by simp[U7]) (λhn hc=>?_) ⟨.mp w.heap.size,D5,rfl⟩ ?_
  .exact⟨.mp w.heap.size,D5,rfl,#[],0,heap_alloc_new w _,rfl,λi x h=>by simp at h⟩
  .simp only[execOp,ho,I4,run];rfl
 unfold bz;simp only[ho];cases r with
 |none=>exact go (by simp[Instr.makeMap])|some hd=>
  refine ax R λv hv=>?_;split<;>try trivial
  rename_i k n;cases hM:LX X.E t with
  |none=>unfold Ie;rw[hM];trivial|some M=>
  refine go ?_;simp[Instr.makeMap,tq hv,run_underlying (KI H hM).1,asInt,asIntOf]
theorem MH(H:FxOk X)(R:Rel X cl ch S m ok a w){x ix y:Operand}(ho:o.op= .mapUpdate t x ix y\/o.op= .insert t x ix y):(bz X.E q o).post S (λ_ S' =>jh X cl ch o a w m ok S'):=by
 suffices h:((match o.dst with|none=>qG x λm=>qG ix λk=>qG y λv=>Xq X.E t m k v|some _=> .fail:Cmd Unit)).post S (λ_ S' =>jh X cl ch o a w m ok S') by unfold bz;rcases ho with ho|ho<;>simp only[ho]<;>exact h
 cases hd:o.dst with
 |some _=>trivial|none=>
 refine ax R λu hu=>ax R λkv hk=>ax R λyv hy=>?_;unfold Xq;cases hM:LX X.E t with
 |none=>trivial|some M=>
 obtain⟨hund,hf,⟨i,hi,hko,hka⟩,⟨j,hj,hjt,hva⟩⟩:=KI H hM;simp only[];refine NJ (T:=[]) R Tk.nil hk λS1 ok1 key R1 T1 k1 s1 hg hr=>?_;refine NJ R1 T1 (Jn k1 hy) λS2 ok2 z R2 T2 k2 s2 hg2 hr2=>?_;have hkey:Af (bK i.td) M.k key (a.eval ix):=by rw[←hka];exact⟨hg,yP hf hr⟩
 obtain⟨c1,c2⟩:=Yg H hi hko hf hkey w;split<;>try trivial
 rename_i bx;obtain⟨l0,hm0,hvw⟩:=hu;simp only at hm0;refine bP ?_;split<;>try trivial
 rename_i u xs hS;refine fM λe=>?_;subst e;refine jf ?_;obtain⟨l,hm,ha⟩:=R2.own_arr hS;rw[hm0]at hm;cases hm;cases l0 with
 |nil=>exact absurd ha.2 (by simp[MT.ent,Ty.isEnt])|st b=>cases ha|arr blk off len cap sz=>exact absurd ha.1 (by simp[MT.ent,Ty.isEnt])|mp blk=>
 simp only[Loc.view]at hvw;obtain⟨_,es,ck,hb,hsz,hent⟩:=ha;simp only at hb hent;have hown:U7 m bx (S2 (Z5+bx))=[blk]:=by rw[hS];simp[U7,hm0]
 have hsep:=R2.sep bx blk (by rw[hown];simp);have hfind:=c2 (β:=M.v.den) es.toList xs (by rw[aI];exact hsz) (λj p hp=>by obtain⟨e,h1,h2,h3⟩:=hent j p hp;obtain⟨g1,g2,r1,r2⟩:=Jd h2 h3;exact⟨e,by simpa using h1,by rw[←hka];exact⟨g1,yP hf r1⟩⟩)
 have fin:∀(es' :Array MapEntry) (ck' :Nat) (xs' :List (M.k.den×M.v.den)),xs' =a2V (keq M.k) xs key z->
   (Instr.mapUpdate t (a.eval x) (a.eval ix) (a.eval y)).run X.P w= .ok () { w with heap:=w.heap.setIfInBounds blk (.map es' ck') }->es'.size=xs'.length->
   (∀(i:Nat) (x:M.k.den×M.v.den),xs'[i]? =some x->∃e:MapEntry,es'[i]? =some e/\LC M.ent e/\lw w.heap ok2 M.ent x (yx M.ent e))->
   jh X cl ch o a w m ok (upd S2 (Z5+bx) (.barr M.ent (a2V (keq M.k) xs key z))):=by
  intro es' ck' xs' hxs' run hsz' hent';subst hxs';obtain⟨q1,q2⟩:=MapKept.heap_set (o' :=.map es' ck') hb;have R3:Rel X cl ch (upd S2 (Z5+bx) (.barr M.ent (a2V (keq M.k) xs key z))) m ok2 a { w with heap:=w.heap.setIfInBounds blk (.map es' ck') }:=by refine R2.mod (by rw[hown];simp[U7,hm0]) D5 rfl rfl rfl D5 (λb hb=>q2 b (by rw[hown]at hb;simpa using hb)) ?_;refine⟨.mp blk,hm0,rfl,es',ck',q1,hsz',λi x hx=>?_⟩;obtain⟨e,h1,h2,h3⟩:=hent' i x hx;exact⟨e,h1,h2,fA (λ_ _ h=>h) (λb t hb=>q2 b (λe=>hsep.1 t (e▸hb))) h3⟩
  intro next Q hn
  unfold Oper.wp;have e:(execOp a.eval o).run X.P w= .ok .skip { w with heap:=w.heap.setIfInBounds blk (.map es' ck') }:=by rcases ho with ho|ho<;>simp[execOp,ho,run]
  rw[e,Oper.upon_skip,hd];exact hn m ok2 a _ R3 (λ_ _ h=>h) (λb t h=>k2 b t (k1 b t h))
 have hnew:∀n,LC M.ent { key:=a.eval ix,val:=a.eval y,born:=n }/\lw w.heap ok2 M.ent (key,z) (yx M.ent { key:=a.eval ix,val:=a.eval y,born:=n }):=λn=>
  a4h (e:={ key:=a.eval ix,val:=a.eval y,born:=n }) hg hg2 (yP hf hr) hr2
 show jh X cl ch o a w m ok (upd S2 (Z5+bx) (.barr M.ent (a2V (keq M.k) xs key z)));cases hfi:sS (keq M.k) xs key with
 |none=>
  rw[hfi]at hfind;refine fin (es.push { key:=a.eval ix,val:=a.eval y,born:=ck }) (ck+1) (xs++[(key,z)]) (by rw[Vl,hfi]) ?_ (by simp[hsz]) λi x hx=>?_
  .rw[hvw];simp only[Instr.mapUpdate,I4,run_underlying hund,Fa hb,I5,c1,hfind,Option.bind_none];exact MapKept.run_setObj_map _ hb
  .rw[List.getElem?_append]at hx;split at hx
   .rename_i hlt;obtain⟨e,h1,h2,h3⟩:=hent i x hx;refine⟨e,?_,h2,fA (λ_ _ h=>h) (λ_ _ _=>rfl) h3⟩;rw[Array.getElem?_push_lt o5];rw[←h1,O8 o5]
   .rename_i hge;have hi0:i=xs.length:=by
     have:=(ai.1 hx).1;simp at this;omega
    subst hi0;simp at hx;subst hx;exact⟨_,by rw[←hsz];simp,hnew ck⟩
 |some j=>
  obtain⟨p,hp,hpk⟩:=KN hfi;obtain⟨e,h1,h2,h3⟩:=hent j p hp;obtain⟨g1,g2,r1,r2⟩:=Jd h2 h3;have h1' :es.toList[j]? =some e:=by simpa using h1
  have hpe:=(Qu hf _ _).1 hpk;have hke:e.key=a.eval ix:=Af.det hf (ag:=M.ka) (x:=key) ⟨g1,by rw[hpe];exact yP hf r1⟩ ⟨hg,yP hf hr⟩;rw[hfi]at hfind;simp only[ja,h1',dA]at hfind;refine fin (es.modify j λe=> { e with key:=a.eval ix,val:=a.eval y }) ck (xs.set j (key,z)) (by rw[Vl,hfi]) ?_ (by simp[hsz]) λi x hx=>?_
  .rw[hvw];simp only[Instr.mapUpdate,I4,run_underlying hund,Fa hb,I5,c1,hfind,h1,dA,Y2,hke,Af.stays (P:=X.P) (w:=w) hf hkey];exact MapKept.run_setObj_map _ hb
  .rw[af]at hx;rw[lG];split at hx
   .rename_i hij;subst hij;split at hx
    .cases hx;simp only[if_true,h1,dA];exact⟨_,rfl,hnew e.born⟩
    .cases hx
   .rename_i hij;simp only[hij,if_false];obtain⟨e',a1,a2,a3⟩:=hent i x hx;exact⟨e',a1,a2,fA (λ_ _ h=>h) (λ_ _ _=>rfl) a3⟩
end
end Go.GP
namespace Go.GP
theorem VF:∀(n:Nat) (vs a b:List V),FY n vs=some (a,b)->vs=a++b/\a.length=n
 |0,vs,a,b,h=>by simp[FY]at h;obtain⟨rfl,rfl⟩:=h;simp
 |n+1,[],a,b,h=>by simp[FY]at h|n+1,v::vs,a,b,h=>by
  unfold FY at h;cases hs:FY n vs with
  |none=>simp[hs]at h|some p=>obtain⟨a',b'⟩:=p;simp only[hs,F8,jr]at h;obtain⟨rfl,rfl⟩:=h;obtain⟨rfl,hl⟩:=VF n vs _ _ hs;exact⟨rfl,by simp[hl]⟩
theorem PT{C:Cx} :∀{a b:List V} {xs ys:List Value},a.length=xs.length->iU C (a++b) (xs++ys)->iU C a xs/\iU C b ys
 |[],b,xs,ys,hl,h=>by
  have:xs=[]:=by cases xs<;>simp at hl ⊢
  subst this;exact⟨rfl,h⟩
 |c::a,b,xs,ys,hl,h=>by
  cases xs with
  |nil=>simp at hl|cons x xs=>obtain⟨v,r,e,h1,h2⟩:=h;simp only[J9,G8]at e;obtain⟨rfl,rfl⟩:=e;obtain⟨h3,h4⟩:=PT (by simpa using hl) h2;exact⟨⟨_,_,rfl,h1,h3⟩,h4⟩
theorem a1K{C:Cx} :∀{a:List V} {xs:List Value},DT a=false->iU C a xs->WQ C a xs
 |[],xs,_,h=>h|c::a,xs,ht,⟨v,r,e,h1,h2⟩=>by
  have ht2:DT a=false:=by cases c<;>first|exact ht|(simp[DT]at ht)
  refine⟨v,r,e,?_,a1K ht2 h2⟩;cases c<;>first|exact h1|(simp[DT]at ht)
variable {v:Value}
theorem a6a{C:Cx}{a:List V}{xs:List Value}{n:Nat}(ht:DT a=false)(h:iU C a xs)(hr:ZC n v xs):lu C (a9e a) v:=by
 obtain⟨_,hv⟩:=hr;cases a with
 |nil=>simp only[iU]at h;subst h;simp only at hv;subst hv;exact⟨_,rfl,rfl⟩|cons c a=>
  obtain⟨x,r,rfl,h1,h2⟩:=h;cases a with
  |nil=>simp only[iU]at h2;subst h2;simp only at hv;subst hv;exact h1|cons d a=>obtain⟨y,r',rfl,h3,h4⟩:=h2;simp only at hv;subst hv;exact⟨_,rfl,a1K ht ⟨_,_,rfl,h1,_,_,rfl,h3,h4⟩⟩
theorem QV{h:Array Obj}{ok ok' :Nat->Ty->Prop} :∀{ts:List Ty} {x:OV ts} {vs:List Value},(∀b u,ok b u->PE u ts=true->ok' b u)->BL h ok (OU ts x) vs->BL h ok' (OU ts x) vs
 |[],_,_,_,hr=>hr|[t],x,_,f,hr=>by obtain⟨v,r,e,⟨b,o,es,hv,hb,hc,hp⟩,h2⟩:=hr;exact⟨v,r,e,⟨b,o,es,hv,f _ _ hb (by simp[PE]),hc,wW (λb u h k=>f b u h (by simp[PE,k])) hp⟩,h2⟩
 |t::t' ::ts,x,_,f,hr=>by obtain⟨v,r,e,⟨b,o,es,hv,hb,hc,hp⟩,h2⟩:=hr;exact⟨v,r,e,⟨b,o,es,hv,f _ _ hb (by simp[PE]),hc,wW (λb u h k=>f b u h (by simp[PE,k])) hp⟩,QV (ts:=t' ::ts) (λb u h k=>f b u h (by rw[PE,k];simp)) h2⟩
theorem NF{h:Array Obj}{ok ok' :Nat->Ty->Prop}{m:Mp}{t:Ty}{xs:List t.den}{l:Loc}(f:∀b u,ok b u->Ty.occ u t=true->ok' b u)(hr:arrOk ⟨h,ok,m⟩ t xs l):arrOk ⟨h,ok',m⟩ t xs l:=by
 cases l with
 |nil=>exact hr|st b=>exact hr|mp b=>obtain⟨h1,es,ck,h2,h3,h4⟩:=hr;refine⟨h1,es,ck,h2,h3,λi y hi=>?_⟩;obtain⟨e,a1,a2,a3⟩:=h4 i y hi;exact⟨e,a1,a2,wW f a3⟩
 |arr blk off len cap sz=>obtain⟨h0,h1,h2,h3,c,T,g,h4,hz,h5,h6⟩:=hr;refine⟨h0,h1,h2,h3,c,T,g,h4,hz,h5,λi y hi=>?_⟩;obtain⟨es,he,hp⟩:=h6 i y hi;exact⟨es,he,wW f hp⟩
theorem CQ{h:Array Obj}{ok ok' :Nat->Ty->Prop} :∀{m:M} {ho:Option Nat} {x:m.den} {cs:List Value} {O:List Nat},(∀b u,ok b u->m.occ u=true->ok' b u)->qg h ok m ho x cs O->qg h ok' m ho x cs O
 | .dat t,_,_,_,_,f,hr=>⟨wW f hr.1,hr.2⟩| .unit,_,_,_,_,_,hr=>hr| .pair a b,_,_,_,_,f,⟨c,d,O1,O2,e,eo,h1,h2⟩=>⟨c,d,O1,O2,e,eo,CQ (λb u h k=>f b u h (by simp[M.occ,k])) h1,CQ (λb u h k=>f b u h (by simp[M.occ,k])) h2⟩| .box m,_,_,_,_,f,⟨blk,arr,T,O',e,hh,hr,eo⟩=>⟨blk,arr,T,O',e,hh,CQ f hr,eo⟩| .own t,ho,_,_,_,f,⟨v,e,h1,ha⟩=>by
  refine⟨v,e,h1,?_⟩;split at ha
  .exact ha
  .obtain⟨l,hv,ha,hO⟩:=ha;exact⟨l,hv,NF f ha,hO⟩
 | .owns m,ho,_,_,_,f,⟨v,e,h1,ha⟩=>by
  refine⟨v,e,h1,?_⟩;split at ha
  .exact ha
  .obtain⟨he,l,Os,hv,ha,hO⟩:=ha;exact⟨he,l,Os,hv,Dh (λ_ _=>rfl) (λi x es O _ hr=>CQ f hr) ha,hO⟩
 | .ownb t,_,_,_,_,f,⟨l,v,e,hv,ha,hO⟩=>⟨l,v,e,hv,NF f ha,hO⟩| .rp t,_,_,_,_,f,⟨v,e,⟨b,o,es,hv,hb,hc,hp⟩,h2⟩=>⟨v,e,⟨b,o,es,hv,f _ _ hb (by simp[M.occ]),hc,wW (λb u h k=>f b u h (by simp[M.occ,k])) hp⟩,h2⟩| .fn g ts,_,_,_,_,f,⟨vs,e,h1,h2⟩=>⟨vs,e,QV f h1,h2⟩| .ifc t m,_,_,_,_,f,⟨u,e,h1⟩=>⟨u,e,CQ f h1⟩| .cell _,_,_,_,_,_,h=>h| .fr t,_,_,_,_,f,⟨l,v,e,hv,ha,hk,hO⟩=>⟨l,v,e,hv,NF (λb u h k=>f b u h (by simp[M.occ,k])) ha,λb h=>f b t (hk b h) (by simp[M.occ]),hO⟩| .sbx _ _,_,_,_,_,f,h=>h| .lp t,_,_,_,_,f,⟨v,e,⟨b,o,es,hv,hb,hc,hp⟩,h2⟩=>⟨v,e,⟨b,o,es,hv,f _ _ hb (by simp[M.occ]),hc,wW (λb u h k=>f b u h (by simp[M.occ,k])) hp⟩,h2⟩| .dv ..,_,_,_,_,f,h=>h| .sit,_,_,_,_,f,h=>h
theorem TF{h:Array Obj}{ok ok' :Nat->Ty->Prop} :∀{ms:List MG} {x:aP ms} {vs:List Value} {O:List Nat},(∀b u,ok b u->Ij u ms=true->ok' b u)->sZ h ok ms x vs O->sZ h ok' ms x vs O
 |[],_,_,_,_,e=>e|[m],_,_,_,f,⟨v,cs,e,hg,hr⟩=>⟨v,cs,e,hg,CQ (λb u h k=>f b u h (by simp[Ij,k])) hr⟩|m::m' ::r,_,_,_,f,⟨v,cs,vs',O1,O2,e,eo,hg,h1,h2⟩=>
  ⟨v,cs,vs',O1,O2,e,eo,hg,CQ (λb u h k=>f b u h (by simp[Ij,k])) h1,TF (λb u h k=>f b u h (by rw[Ij,k];simp)) h2⟩
theorem Md{u:Ty} :∀{a b:List MG},Ij u (a++b)=(Ij u a || Ij u b)
 |[],_=>rfl|m::a,b=>by simp[Ij,Md,Bool.or_assoc]
theorem Vq:∀{fs:List (Nat×FSpec)} {f:Nat} {vs:List V} {s:FSpec},YH fs f vs=some s->(f,s)∈fs
 |[],_,_,_,h=>by simp[YH]at h|(g,s')::r,f,vs,s,h=>by
  unfold YH at h;cases hb:(Nat.beq g f&&Ky s'.ps vs)
  .rw[hb]at h;exact P7 _ (Vq h)
  .rw[hb]at h;simp only[cond_true,F8]at h;subst h;simp only[A8]at hb;have:=iH hb.1;subst this;exact iy
theorem a9G{l l0:Loc}(h:l.view none v)(h0:l0.view none v)(hs:∀b o n c s b' o' n' c' s',l= .arr b o n c s->l0= .arr b' o' n' c' s' ->s=s'):l=l0:=by
 cases l<;>cases l0<;>simp only[Loc.view]at h h0
 .rfl
 .rw[h]at h0;cases h0
 .rw[h]at h0;cases h0
 .rw[h]at h0;cases h0
 .rw[h]at h0;simp only[pX,F8,iK,and_true]at h0;obtain⟨⟨rfl,rfl⟩,rfl,rfl⟩:=h0;have:=hs _ _ _ _ _ _ _ _ _ _ rfl rfl;subst this;rfl
 .rw[h]at h0;cases h0
 .rw[h]at h0;cases h0
 .rw[h]at h0;cases h0
 .rw[h]at h0;cases h0;rfl
theorem JQ{h:Array Obj}{ok:Nat->Ty->Prop} :∀{ms:List MG} {x:aP ms} {vs:List Value} {O:List Nat},sZ h ok ms x vs O->vs.length=ms.length
 |[],_,_,_,e=>by simp[e.1]|[m],_,_,_,⟨v,cs,e,hg,hr⟩=>by simp[e]|m::m' ::r,_,_,_,⟨v,cs,vs',O1,O2,e,eo,hg,h1,h2⟩=>by have:=JQ h2;subst e;simp[this]
variable {q:Nat}{f:FuncId}{c:Call}
section
variable {X:Fx} {cl ch:Nat} {S:Sm} {m:Mp} {ok:Nat->Ty->Prop} {a:Act} {w:World} {o:Oper}
theorem aH{α:Type}{Q:α->Sm->Prop}{h0:Array Obj}{ok0:Nat->Ty->Prop}{m0:Mp} :∀(ms:List MG) {vs:List V} {vals:List Value} {ws:List V} {os:List Value} {B:List Nat} {K:Cmd α} {S:Sm}
  (R:Rel X cl ch S m ok a w) (hm:∀k l,m0 k=some l->m k=some l) (hT:Tk X S m ok w B) (hv:iU ⟨h0,ok0,m0⟩ vs vals) (ho:wZ w.heap ms vals os B) (hw:iU ⟨w.heap,ok,m⟩ ws os)
  (hK:∀S',Rel X cl ch S' m ok a w->K.post S' Q),(Z9 ms vs ws K).post S Q
 |[],vs,vals,ws,os,B,K,S,R,hm,hT,hv,ho,hw,hK=>by
  cases vs with
  |cons _ _=>unfold Z9;trivial|nil=>
   cases ws with
   |cons _ _=>unfold Z9;trivial|nil=>unfold Z9;exact hK S R
 |(g,.dat t)::ms,vs,vals,ws,os,B,K,S,R,hm,hT,hv,ho,hw,hK=>by
  cases vs with
  |nil=>unfold Z9;trivial|cons v vs=>obtain⟨x,r,rfl,h1,h2⟩:=hv;unfold Z9;exact aH ms R hm hT h2 ho hw hK
 |(g,.own t)::ms,vs,vals,ws,os,B,K,S,R,hm,hT,hv,ho,hw,hK=>by
  cases vs with
  |nil=>unfold Z9;trivial|cons v vs=>obtain⟨x,r,rfl,h1,h2⟩:=hv;unfold Z9;exact aH ms R hm hT h2 ho hw hK
 |(g,.pair p q)::ms,vs,vals,ws,os,B,K,S,R,hm,hT,hv,ho,hw,hK=>by
  cases vs with
  |nil=>unfold Z9;trivial|cons v vs=>obtain⟨x,r,rfl,h1,h2⟩:=hv;unfold Z9;exact aH ms R hm hT h2 ho hw hK
 |(g,.unit)::ms,vs,vals,ws,os,B,K,S,R,hm,hT,hv,ho,hw,hK=>by
  cases vs with
  |nil=>unfold Z9;trivial|cons v vs=>obtain⟨x,r,rfl,h1,h2⟩:=hv;unfold Z9;exact aH ms R hm hT h2 ho hw hK
 |(g,.cell _)::ms,vs,vals,ws,os,B,K,S,R,hm,hT,hv,ho,hw,hK=>by
  cases vs with
  |nil=>unfold Z9;trivial|cons v vs=>obtain⟨x,r,rfl,h1,h2⟩:=hv;unfold Z9;exact aH ms R hm hT h2 ho hw hK
 |(g,.fr _)::ms,vs,vals,ws,os,B,K,S,R,hm,hT,hv,ho,hw,hK=>by
  cases vs with
  |nil=>unfold Z9;trivial|cons v vs=>obtain⟨x,r,rfl,h1,h2⟩:=hv;unfold Z9;exact aH ms R hm hT h2 ho hw hK
 |(g,.box md)::ms,vs,vals,ws,os,B,K,S,R,hm,hT,hv,ho,hw,hK=>by
  cases vs with
  |nil=>unfold Z9;trivial|cons v0 vs=>
  cases v0<;>try (unfold Z9;trivial)
  case ptr bx off=>
  cases ws with
  |nil=>unfold Z9;trivial|cons o0 ws=>
  cases o0<;>try (unfold Z9;trivial)
  case agg cs=>
   unfold Z9;refine bP ?_;split<;>try trivial
   rename_i hS;refine jf ?_;obtain⟨x,r,rfl,h1,h2⟩:=hv;obtain⟨y,r',rfl,h3,h4⟩:=hw;obtain⟨b,arr,T,os',B',e1,hh,e2,rfl,ho'⟩:=ho;simp only[G8]at e2;obtain⟨rfl,rfl⟩:=e2;obtain⟨blk,hmb,e3⟩:=h1;subst e1;simp only[nP,F8,iK,and_true]at e3;obtain⟨rfl,rfl⟩:=e3;obtain⟨arr',e4,hl⟩:=h3;simp only[Value.agg.injEq]at e4;subst e4;have hmb' :=hm _ _ hmb;obtain⟨R',T'⟩:=R.backV (n:=bx) (v:=.bcells cs) (O1:=[b]) (B:=B') D5 (by simpa using hT) (by simp[U7,hmb']) ⟨b,_,T,hmb',hh,hl⟩;exact aH ms R' hm T' h2 ho' h4 hK
 |(g,.ifc t (.box md))::ms,vs,vals,ws,os,B,K,S,R,hm,hT,hv,ho,hw,hK=>by
  cases vs with
  |nil=>unfold Z9;trivial|cons v0 vs=>
  cases v0<;>try (unfold Z9;trivial)
  case ifc t' v1=>
  cases v1<;>try (unfold Z9;trivial)
  case ptr bx off=>
  cases ws with
  |nil=>unfold Z9;trivial|cons o0 ws=>
  cases o0<;>try (unfold Z9;trivial)
  case agg cs=>
   unfold Z9;refine bP ?_;split<;>try trivial
   rename_i hS;refine jf ?_;obtain⟨x,r,rfl,h1,h2⟩:=hv;obtain⟨y,r',rfl,h3,h4⟩:=hw;obtain⟨t2,b,arr,T,os',B',e1,hh,e2,rfl,ho'⟩:=ho;simp only[G8]at e2;obtain⟨rfl,rfl⟩:=e2;obtain⟨u,e5,_,h1⟩:=h1;obtain⟨blk,hmb,e3⟩:=h1;subst e1;subst e3;simp only[Value.iface.injEq,nP,F8,iK,and_true]at e5;obtain⟨rfl,rfl,rfl⟩:=e5;obtain⟨arr',e4,hl⟩:=h3;simp only[Value.agg.injEq]at e4;subst e4;have hmb' :=hm _ _ hmb;obtain⟨R',T'⟩:=R.backV (n:=bx) (v:=.bcells cs) (O1:=[b]) (B:=B') D5 (by simpa using hT) (by simp[U7,hmb']) ⟨b,_,T,hmb',hh,hl⟩;exact aH ms R' hm T' h2 ho' h4 hK
 |(g,.ownb t)::ms,vs,vals,ws,os,B,K,S,R,hm,hT,hv,ho,hw,hK=>by
  cases vs with
  |nil=>unfold Z9;trivial|cons v0 vs=>
  obtain⟨x,r,rfl,h1,h2⟩:=hv;obtain⟨os',rfl,ho'⟩:=ho;cases v0<;>try (unfold Z9;trivial)
  case nl=>
   cases ws with
   |nil=>unfold Z9;trivial|cons o0 ws=>
   cases o0<;>try (unfold Z9;trivial)
   case own nm vw=>
   cases vw with
   |some _=>unfold Z9;trivial|none=>
   unfold Z9;obtain⟨y,r',e,h3,h4⟩:=hw;simp only[G8]at e;obtain⟨rfl,rfl⟩:=e;refine jf ?_;have T1:=Tk.kill R hT nm (bs:=[]) (λb h=>by cases h) dY;rw[E5]at T1;exact aH ms (R.kill nm) hm T1 h2 ho' h4 hK
  case own bx vw=>
   cases vw with
   |some _=>unfold Z9;trivial|none=>
   cases ws with
   |nil=>unfold Z9;trivial|cons o0 ws=>
   cases o0<;>try (unfold Z9;trivial)
   case own nm vw=>
   cases vw with
   |some _=>unfold Z9;trivial|none=>
   unfold Z9;obtain⟨y,r',e,h3,h4⟩:=hw;simp only[G8]at e;obtain⟨rfl,rfl⟩:=e;obtain⟨l0,hm0,hv0⟩:=h1;obtain⟨l,hml,hvl⟩:=h3;have hm0' :=hm _ _ hm0;refine bP ?_;split<;>try trivial
   rename_i u xs hS;refine jf (bP ?_);split<;>try trivial
   rename_i t' hS2;refine fM λe=>?_;subst e;refine jf ?_;obtain⟨l',hml',ha⟩:=R.own_arr hS;simp only at hml;rw[hml]at hml';cases hml';have R1:=R.kill nm;have hob:U7 m nm (S (Z5+nm))=l.blks:=by rw[hS];cases l<;>first|(simp[U7,hml,Loc.blks];done)|cases ha
   have T1:=Tk.kill R hT nm (bs:=l.blks) (λb h=>by rw[hob];exact h) (Loc.blks_nodup l);have hg:=R1.box bx;rw[hS2]at hg;obtain⟨l1,hm1,hsz⟩:=hg;simp only at hm1;rw[hm0']at hm1;cases hm1;have hll:l=l0:=a9G hvl hv0 (λb o n c s b' o' n' c' s' e1 e2=>by subst e1;rw[hsz _ _ _ _ _ e2];exact ha.2.1);subst hll;obtain⟨R',T'⟩:=R1.backV (n:=bx) (v:=.barr u xs) (O1:=l.blks) (B:=B) D5 (T1.perm jo) (by cases l<;>first|(simp[U7,hm0',Loc.blks];done)|cases ha) ⟨l,hm0',ha⟩;exact aH ms R' hm T' h2 ho' h4 hK
 |(g,.lp _)::ms,vs,vals,ws,os,B,K,S,R,hm,hT,hv,ho,hw,hK=>by
  cases vs with
  |nil=>unfold Z9;trivial|cons v vs=>obtain⟨x,r,rfl,h1,h2⟩:=hv;unfold Z9;exact aH ms R hm hT h2 ho hw hK
 |(g,.dv ..)::ms,vs,vals,ws,os,B,K,S,R,hm,hT,hv,ho,hw,hK=>by
  cases vs with
  |nil=>unfold Z9;trivial|cons v vs=>obtain⟨x,r,rfl,h1,h2⟩:=hv;unfold Z9;exact aH ms R hm hT h2 ho hw hK
 |(g,.sit)::ms,vs,vals,ws,os,B,K,S,R,hm,hT,hv,ho,hw,hK=>by cases vs<;>(unfold Z9;trivial)|(g,.sbx _ _)::ms,vs,vals,ws,os,B,K,S,R,hm,hT,hv,ho,hw,hK=>by
  cases vs with
  |nil=>unfold Z9;trivial|cons v0 vs=>
  obtain⟨x,r,rfl,h1,h2⟩:=hv;obtain⟨os',rfl,ho'⟩:=ho;cases v0<;>try (unfold Z9;trivial)
  case ptr bx off=>
  cases ws with
  |nil=>unfold Z9;trivial|cons o0 ws=>
  cases o0<;>try (unfold Z9;trivial)
  case ptr nm off' =>
   unfold Z9;obtain⟨y,r',e,h3,h4⟩:=hw;simp only[G8]at e;obtain⟨rfl,rfl⟩:=e;obtain⟨b0,hm0,hv0⟩:=h1;obtain⟨b1,hm1,hv1⟩:=h3;have hm0' :=hm _ _ hm0;have hbb:b0=b1:=by rw[hv0]at hv1;simp only[nP,F8,iK,and_true]at hv1;exact hv1.1
   subst hbb;refine bP ?_;split<;>try trivial
   rename_i tb0 c hS;refine jf (bP ?_);split<;>try trivial
   rename_i hS2;refine jf ?_;have hb:=R.box nm;rw[hS]at hb;obtain⟨blk',a0,v0,hm',hh,hs,g1⟩:=hb;simp only at hm1 hm';rw[hm1]at hm';cases hm';have R1:=R.kill nm;have T1:=Tk.kill R hT nm (bs:=[b0]) (λb h=>by rw[hS];simp[U7,hm1];simpa using h) D5;obtain⟨R',T'⟩:=R1.backV (n:=bx) (v:=.bsb tb0 c) (O1:=[b0]) (B:=B) D5 (T1.perm jo) (by simp[U7,hm0']) ⟨b0,a0,v0,hm0',hh,hs,g1⟩;exact aH ms R' hm T' h2 ho' h4 hK
 |(g,.owns md)::ms,vs,vals,ws,os,B,K,S,R,hm,hT,hv,ho,hw,hK=>by
  cases vs with
  |nil=>unfold Z9;trivial|cons v vs=>obtain⟨x,r,rfl,h1,h2⟩:=hv;unfold Z9;exact aH ms R hm hT h2 ho hw hK
 |(g,.rp t)::ms,vs,vals,ws,os,B,K,S,R,hm,hT,hv,ho,hw,hK=>by
  cases vs with
  |nil=>unfold Z9;trivial|cons v vs=>obtain⟨x,r,rfl,h1,h2⟩:=hv;unfold Z9;exact aH ms R hm hT h2 ho hw hK
 |(g,.fn f ts)::ms,vs,vals,ws,os,B,K,S,R,hm,hT,hv,ho,hw,hK=>by
  cases vs with
  |nil=>unfold Z9;trivial|cons v vs=>obtain⟨x,r,rfl,h1,h2⟩:=hv;unfold Z9;exact aH ms R hm hT h2 ho hw hK
 |(g,.ifc t (.dat u))::ms,vs,vals,ws,os,B,K,S,R,hm,hT,hv,ho,hw,hK=>by
  cases vs with
  |nil=>unfold Z9;trivial|cons v vs=>obtain⟨x,r,rfl,h1,h2⟩:=hv;unfold Z9;exact aH ms R hm hT h2 ho hw hK
 |(g,.ifc t (.own u))::ms,vs,vals,ws,os,B,K,S,R,hm,hT,hv,ho,hw,hK=>by
  cases vs with
  |nil=>unfold Z9;trivial|cons v vs=>obtain⟨x,r,rfl,h1,h2⟩:=hv;unfold Z9;exact aH ms R hm hT h2 ho hw hK
 |(g,.ifc t (.pair p q))::ms,vs,vals,ws,os,B,K,S,R,hm,hT,hv,ho,hw,hK=>by
  cases vs with
  |nil=>unfold Z9;trivial|cons v vs=>obtain⟨x,r,rfl,h1,h2⟩:=hv;unfold Z9;exact aH ms R hm hT h2 ho hw hK
 |(g,.ifc t (.unit))::ms,vs,vals,ws,os,B,K,S,R,hm,hT,hv,ho,hw,hK=>by
  cases vs with
  |nil=>unfold Z9;trivial|cons v vs=>obtain⟨x,r,rfl,h1,h2⟩:=hv;unfold Z9;exact aH ms R hm hT h2 ho hw hK
 |(g,.ifc t (.cell _))::ms,vs,vals,ws,os,B,K,S,R,hm,hT,hv,ho,hw,hK=>by
  cases vs with
  |nil=>unfold Z9;trivial|cons v vs=>obtain⟨x,r,rfl,h1,h2⟩:=hv;unfold Z9;exact aH ms R hm hT h2 ho hw hK
 |(g,.ifc t (.lp _))::ms,vs,vals,ws,os,B,K,S,R,hm,hT,hv,ho,hw,hK=>by
  cases vs with
  |nil=>unfold Z9;trivial|cons v vs=>obtain⟨x,r,rfl,h1,h2⟩:=hv;unfold Z9;exact aH ms R hm hT h2 ho hw hK
 |(g,.ifc t (.dv ..))::ms,vs,vals,ws,os,B,K,S,R,hm,hT,hv,ho,hw,hK=>by
  cases vs with
  |nil=>unfold Z9;trivial|cons v vs=>obtain⟨x,r,rfl,h1,h2⟩:=hv;unfold Z9;exact aH ms R hm hT h2 ho hw hK
 |(g,.ifc t (.fr _))::ms,vs,vals,ws,os,B,K,S,R,hm,hT,hv,ho,hw,hK=>by
  cases vs with
  |nil=>unfold Z9;trivial|cons v vs=>obtain⟨x,r,rfl,h1,h2⟩:=hv;unfold Z9;exact aH ms R hm hT h2 ho hw hK
 |(g,.ifc t (.owns md))::ms,vs,vals,ws,os,B,K,S,R,hm,hT,hv,ho,hw,hK=>by
  cases vs with
  |nil=>unfold Z9;trivial|cons v vs=>obtain⟨x,r,rfl,h1,h2⟩:=hv;unfold Z9;exact aH ms R hm hT h2 ho hw hK
 |(g,.ifc t .sit)::ms,vs,vals,ws,os,B,K,S,R,hm,hT,hv,ho,hw,hK=>by
  cases vs with
  |nil=>unfold Z9;trivial|cons v vs=>obtain⟨x,r,rfl,h1,h2⟩:=hv;unfold Z9;exact aH ms R hm hT h2 ho hw hK
 |(g,.ifc t (.sbx _ _))::ms,vs,vals,ws,os,B,K,S,R,hm,hT,hv,ho,hw,hK=>by
  cases vs with
  |nil=>unfold Z9;trivial|cons v vs=>obtain⟨x,r,rfl,h1,h2⟩:=hv;unfold Z9;exact aH ms R hm hT h2 ho hw hK
 |(g,.ifc t (.ownb u))::ms,vs,vals,ws,os,B,K,S,R,hm,hT,hv,ho,hw,hK=>by
  cases vs with
  |nil=>unfold Z9;trivial|cons v vs=>obtain⟨x,r,rfl,h1,h2⟩:=hv;unfold Z9;exact aH ms R hm hT h2 ho hw hK
 |(g,.ifc t (.rp u))::ms,vs,vals,ws,os,B,K,S,R,hm,hT,hv,ho,hw,hK=>by
  cases vs with
  |nil=>unfold Z9;trivial|cons v vs=>obtain⟨x,r,rfl,h1,h2⟩:=hv;unfold Z9;exact aH ms R hm hT h2 ho hw hK
 |(g,.ifc t (.fn f ts))::ms,vs,vals,ws,os,B,K,S,R,hm,hT,hv,ho,hw,hK=>by
  cases vs with
  |nil=>unfold Z9;trivial|cons v vs=>obtain⟨x,r,rfl,h1,h2⟩:=hv;unfold Z9;exact aH ms R hm hT h2 ho hw hK
 |(g,.ifc t (.ifc t2 md))::ms,vs,vals,ws,os,B,K,S,R,hm,hT,hv,ho,hw,hK=>by
  cases vs with
  |nil=>unfold Z9;trivial|cons v vs=>obtain⟨x,r,rfl,h1,h2⟩:=hv;unfold Z9;exact aH ms R hm hT h2 ho hw hK
theorem FN{P:Program}{w:World}{fn:Func}(hf:P.funcs[f]? =some fn)(hb:fn.body.isSome=true)(hn:(fn.name== "runtime.NumGoroutine")=false)(args:Array Value):
  (callFunc f args).run P w= .ok (.enter f args) w:=by
 have hb' :¬fn.body=none:=by intro e;rw[e]at hb;cases hb
 have hn' :¬fn.name= "runtime.NumGoroutine":=by intro e;rw[e]at hn;simp at hn
 simp[callFunc,hf,hn',hb']
theorem a2s(H:FxOk X)(R:Rel X (CB*q) (CB*q+CB) S m ok a w){h0:Array Obj}{ok0:Nat->Ty->Prop}{s:FSpec}{vs:List V}{vals:List Value}{r:aP (s.rs++s.outs)}{rs os:List Value}{O' B:List Nat}
  (hT:Tk X S m ok w (O' ++B)) (hv:iU ⟨h0,ok0,m⟩ vs vals) (hret:ZC s.rs.length v rs) (ho:wZ w.heap s.ps vals os B) (hr:sZ w.heap ok (s.rs++s.outs) r (rs++os) O') {Q:Unit->Sm->Prop}
  (hK:∀S' m',Rel X (CB*q) (CB*q+CB) S' m' ok (a.put o.dst v) w->(∀k l,m k=some l->m' k=some l)->Q () S'):
  (JH (s.rs++s.outs) r (O5 q o.dst) λws n' =>bif Nat.ble n' (O5 q o.dst+64)then(match FY s.rs.length ws with
    |some (a,o')=>bif DT a then .fail else Z9 s.ps vs o' (dZ X.E o.dst (a9e a))
    |none=> .fail)else .fail).post S Q:=by
 have hcl:CB*q<=O5 q o.dst:=by
  cases o.dst with
  |none=>exact kE _ _|some t=>exact kE _ _
 refine ET (T:=B) _ R hcl hT hr λS1 m1 ws n1 ch1 R1 c1 T1 k1 s1 l1 e1=>bM λhle=>?_;have hle' :=V8 hle;split<;>try trivial
 rename_i p p' hsp;obtain⟨rfl,hpl⟩:=VF _ _ _ _ hsp;obtain⟨l2,l3⟩:=PT (by rw[hpl,hret.1]) l1;cases ht:DT p
 .simp only[cond_false];refine aH s.ps R1 k1 T1 hv ho l3 λS2 R2=>?_;have hres:=a6a ht l2 hret;cases hd:o.dst with
  |none=>have hin:=rF H (q:=q) none (λt h=>by cases h);rw[hd]at hle' hK;exact hK S2 m1 (R2.chmono (by generalize CB*q=Z at*;generalize O5 q none=N at*;omega)) k1
  |some t=>unfold dZ;refine bM λhb=>?_;have hin:=rF H (q:=q) (some t) (λt' h=>by cases h;exact(zF hb).1);rw[hd]at hle' hK;have R3:Rel X (CB*q) (CB*q+CB) S2 m1 ok a w:=R2.chmono (by generalize CB*q=Z at*;generalize O5 q (some t)=N at*;omega);exact hK _ m1 (R3.put H.ntB hb hres) k1
 .trivial
theorem Ls(H:FxOk X)(R:Rel X (CB*q) (CB*q+CB) S m ok a w){vs:List V}{vals:List Value}(hvs:iU ⟨w.heap,ok,m⟩ vs vals)
  (run:∀fn,X.P.funcs[f]? =some fn->fn.body.isSome=true->(fn.name== "runtime.NumGoroutine")=false->(execOp a.eval o).run X.P w= .ok (.enter f vals.toArray) w):
  (UN X.E q o.dst f vs).post S (λ_ S' =>jh X (CB*q) (CB*q+CB) o a w m ok S'):=by
 unfold UN;split
 .trivial
 rename_i s hs;have hmem:=Vq hs;have hF:=H.fs _ hmem;obtain⟨fn,hf,hb,hnm⟩:=H.fn _ hmem;have hrun:=run fn hf hb hnm;refine a4d R hvs s.ps hvs λhdv=>?_;refine EX (ln:=Wq s) (T:=[]) s.ps R Tk.nil hvs λS1 ok1 x O R1 T1 k1 s1 hrel=>fJ λr hr=>?_;simp only[H9]at T1;generalize hokc:okL (Wq s) S1 m ok1=okc at hrel;have c1:∀b t,ok1 b t->okc b t:=λb t h=>by rw[←hokc];exact .inl h
 have hsep1:∀b t,ok1 b t->∀n,b∉U7 m n (S1 (Z5+n)):=λb t h n e=>(R1.sep n b e).1 t h;have hlt:∀b t,okc b t->b<w.heap.size:=λb t h=>by
  rw[←hokc]at h;rcases h with h|⟨_,n,h,_⟩
  .exact R1.okLt b t h
  .exact(R1.sep n b h).2.1
 have hfree:∀b∈O,(∀t,¬okc b t)/\b<w.heap.size:=λb hb=>by
  obtain⟨f1,f2,f3,f4⟩:=T1.free b hb;refine⟨λt h=>?_,f2⟩;rw[←hokc]at h;rcases h with h|⟨_,n,h,_⟩
  .exact f1 t h
  .exact f4 n h
 have hC:=hF w okc O _ x r hlt T1.nodup hfree (λg u hg=>by obtain⟨g1,g3,g2⟩:=R1.gl g u hg;refine⟨c1 _ _ g1,g3,λi y hi=>?_⟩;obtain⟨es,he,hr⟩:=g2 i y hi;exact⟨es,he,fA c1 (λ_ _ _=>rfl) hr⟩) hrel hdv hr
 have hown:∀b,(w.heap.size<=b\/b∈O)->(X.w0.heap.size<=b\/b∈X.O)/\∀n,b∉U7 m n (S1 (Z5+n)):=λb hb=>by
  rcases hb with hb|hb
  .have:=R1.frame.size;exact⟨.inl o5,λn e=>by have:=(R1.sep n b e).2.1;omega⟩
  .exact(T1.free b hb).2.2
 revert hC;generalize hPost:(λ(e:Ending) (w' :World)=>∃v ok' O' rs os B,e= .returned v/\Frame' w w' O/\(∀b t,okc b t->ok' b t)/\(∀b t,ok' b t->b<w'.heap.size/\(okc b t\/w.heap.size<=b\/b∈O))/\
  (O' ++B).Nodup/\(∀b∈O' ++B,(∀t,¬ok' b t)/\b<w'.heap.size/\(w.heap.size<=b\/b∈O))/\
  ZC s.rs.length v rs/\wZ w'.heap s.ps vals os B/\sZ w'.heap ok' (s.rs++s.outs) r (rs++os) O')=Post
 intro hC;have hall:∀p: { p:Ending×World // Post p.1 p.2 },(JH (s.rs++s.outs) r (O5 q o.dst) λws n' =>bif Nat.ble n' (O5 q o.dst+64)then(match FY s.rs.length ws with
   |some (a,o')=>bif DT a then .fail else Z9 s.ps vs o' (dZ X.E o.dst (a9e a))
   |none=> .fail)else .fail).post S1 (λ_ S' =>∃v m' okf,p.1.1= .returned v/\Rel X (CB*q) (CB*q+CB) S' m' okf (a.put o.dst v) p.1.2/\(∀k l,m k=some l->m' k=some l)/\(∀b t,ok b t->okf b t)):=by
  rintro⟨⟨e,w'⟩,hp⟩;rw[←hPost]at hp;obtain⟨v,ok',O',rs,os,B,rfl,fr,k2,hok',hnd,hfr,hret,houts,hrel'⟩:=hp;have k3:∀b t,ok1 b t->(ok' b t/\∀n,b∉U7 m n (S1 (Z5+n))):=λb t h=>⟨k2 b t (c1 b t h),hsep1 b t h⟩;have R2:Rel X (CB*q) (CB*q+CB) S1 m (λb t=>ok' b t/\∀n,b∉U7 m n (S1 (Z5+n))) a w' :=by
   refine R1.world fr.os fr.tape fr.output fr.size (λb hb h=>fr.block b hb λhO=>?_) k3 (λb t h=>⟨(hok' b t h.1).1,?_⟩)
   .obtain⟨f1,f2,f3,f4⟩:=T1.free b hO;rcases h with⟨t,h⟩|⟨n,h⟩|h
    .exact f1 t h
    .exact f4 n h
    .exact h f3
   .rcases(hok' b t h.1).2 with h'|h'
    .rw[←hokc]at h';rcases h' with h'|⟨_,n,h',_⟩
     .exact .inl h'
     .exact absurd h' (h.2 n)
    .exact .inr (hown b h')
  have hrel2:sZ w'.heap (λb t=>ok' b t/\∀n,b∉U7 m n (S1 (Z5+n))) (s.rs++s.outs) r (rs++os) O' :=by
   refine TF (λb u h k=>⟨h,λn e=>?_⟩) hrel';rcases(hok' b u h).2 with h'|h'
   .rw[←hokc]at h';rcases h' with h'|⟨hl,_⟩
    .exact hsep1 b u h' n e
    .rw[Md]at k;unfold Wq at hl;rw[k]at hl;cases hl
   .exact(hown b h').2 n e
  refine a2s H R2 (h0:=w.heap) (ok0:=ok) (vals:=vals) (rs:=rs) (os:=os) (O' :=O') (B:=B) (v:=v) ⟨hnd,λb hb=>?_⟩ hvs hret houts hrel2 λS' m' R' km=>⟨v,m',_,rfl,R',km,λb t hb=>k3 b t (k1 b t hb)⟩;obtain⟨g1,g2,g3⟩:=hfr b hb;obtain⟨f2,f3⟩:=hown b g3;exact⟨λt h=>g1 t h.1,g2,f2,f3⟩
 refine zG ?_ (Et hall);intro _ S' hS' next Q hn
 unfold Oper.wp;rw[hrun,Oper.upon_enter];refine Calls.mono hC λe w' hp=>?_;obtain⟨v,m',okf,he,R',km,kok⟩:=hS' ⟨(e,w'),hp⟩;simp only at he;subst he;exact hn m' okf _ w' R' km kok
theorem UM{α:Type} :∀{l:List (Nat×α)} {n:Nat} {x:α},dO l n=some x->(n,x)∈l
 |[],_,_,h=>by cases h|(k,v)::r,n,x,h=>by
  unfold dO at h;cases hb:Nat.beq k n<;>rw[hb]at h
  .exact P7 _ (UM h)
  .have:=iH hb;subst this;simp only[cond_true,F8]at h;subst h;exact iy
theorem a8I(H:FxOk X)(R:Rel X (CB*q) (CB*q+CB) S m ok a w)(ho:o.op= .call c)(hc:c.callee= .value (.func f)):(bz X.E q o).post S (λ_ S' =>jh X (CB*q) (CB*q+CB) o a w m ok S'):=by
 obtain⟨cal,args,ats⟩:=c;simp only at hc;subst hc;unfold bz;simp only[ho];have e:args.map a.eval=(args.toList.map a.eval).toArray:=by apply kL;simp
 have hrun:∀fn,X.P.funcs[f]? =some fn->fn.body.isSome=true->(fn.name== "runtime.NumGoroutine")=false->(execOp a.eval o).run X.P w= .ok (.enter f (args.toList.map a.eval).toArray) w:=λfn hf hb hnm=>by have:=FN (P:=X.P) (w:=w) hf hb hnm (args.map a.eval);rw[e]at this;simp[execOp,ho,resolve,Deferred.ofValue,Act.eval,invoke,e,this]
 refine lM R _ λvs hvs=>?_;split
 .rename_i off sz hpl;cases hz:Nat.beq sz 0
  case true=>trivial
  simp only[cond_false];split<;>try trivial
  rename_i v;obtain⟨x,r,e1,h1,h2⟩:=hvs;simp only[iU]at h2;subst h2;refine KP R h1 λr y hy hp=>?_;obtain⟨⟨fn,hf,hb,hnm⟩,hcall⟩:=(H.pl _ (UM hpl)).snd hz;have hC:=hcall w x y hp;have hr0:=hrun fn hf hb hnm;rw[e1]at hr0;unfold dZ;cases hd:o.dst with
  |none=>
   intro next Q hn
   unfold Oper.wp;rw[hr0,Oper.upon_enter];refine Calls.mono hC λen w' hp=>?_;obtain⟨rfl,k,rfl⟩:=hp;rw[hd];exact hn m ok a _ (R.same (w' :=w.drewN k) rfl rfl rfl rfl) (λ_ _ h=>h) (λ_ _ h=>h)
  |some d=>
   refine bM λhb=>?_;intro next Q hn
   unfold Oper.wp;rw[hr0,Oper.upon_enter];refine Calls.mono hC λen w' hp=>?_;obtain⟨rfl,k,rfl⟩:=hp;rw[hd];exact hn m ok _ _ ((R.put H.ntB hb hy).same (w' :=w.drewN k) rfl rfl rfl rfl) (λ_ _ h=>h) (λ_ _ h=>h)
 .exact Ls H R hvs hrun
theorem FM{C:Cx} :∀{a b:List V} {xs ys:List Value},iU C a xs->iU C b ys->iU C (a++b) (xs++ys)
 |[],_,_,_,h,k=>by simp only[iU]at h;subst h;exact k|c::a,b,_,_,⟨v,r,e,h1,h2⟩,k=>by subst e;exact⟨v,r++_,rfl,h1,FM h2 k⟩
theorem TG{C:Cx} :∀{caps:List ((t:Ty)×t.den)} {vs:List Value},BL C.h C.ok caps vs->iU C (caps.map b3x) vs
 |[],_,h=>h|c::cs,_,⟨v,r,e,h1,h2⟩=>⟨v,r,e,h1,TG h2⟩
theorem a5h(H:FxOk X)(R:Rel X (CB*q) (CB*q+CB) S m ok a w){x:Operand}(ho:o.op= .call c)(hc:c.callee= .value x)(hx:∀f,x≠.func f):(bz X.E q o).post S (λ_ S' =>jh X (CB*q) (CB*q+CB) o a w m ok S'):=by
 obtain⟨cal,args,ats⟩:=c;simp only at hc;subst hc;unfold bz;simp only[ho];refine lM R _ λvs hvs=>?_;refine ax R λu hu=>?_;split<;>try trivial
 rename_i f caps;obtain⟨cs,hv,hcaps⟩:=hu;refine Ls H R (FM hvs (TG hcaps)) λfn hf hb hnm=>?_;have:=FN (P:=X.P) (w:=w) hf hb hnm (args.map a.eval++cs);have e:args.map a.eval++cs=(args.toList.map a.eval++cs.toList).toArray:=by apply kL;simp
 rw[e]at this;simp[execOp,ho,resolve,Deferred.ofValue,hv,invoke,e,this]
theorem KL:∀{l:List ((Nat×String)×Nat×Option Nat)} {t:Nat} {n:String} {r:Nat×Option Nat},SC l t n=some r->((t,n),r)∈l
 |[],_,_,_,h=>by simp[SC]at h|((u,k),r')::l,t,n,r,h=>by
  unfold SC at h;cases hb:(Nat.beq u t&&(k==n))<;>rw[hb]at h
  .exact P7 _ (KL h)
  .simp only[cond_true,F8]at h;subst h;simp only[A8,beq_iff_eq]at hb;have:=iH hb.1;subst this;rw[hb.2];exact iy
theorem a3h(H:FxOk X)(R:Rel X (CB*q) (CB*q+CB) S m ok a w){x:Operand}{n:String}(ho:o.op= .call c)(hc:c.callee= .invoke x n):(bz X.E q o).post S (λ_ S' =>jh X (CB*q) (CB*q+CB) o a w m ok S'):=by
 obtain⟨cal,args,ats⟩:=c;simp only at hc;subst hc;unfold bz;simp only[ho];refine lM R _ λvs hvs=>ax R λu hu=>?_;split<;>try trivial
 rename_i t v;obtain⟨z,hz,hz1,hzv⟩:=hu;have e2:(#[a.eval x]++args.map a.eval).extract 1 (#[a.eval x]++args.map a.eval).size=args.map a.eval:=by apply kL;simp;exact U1 (Nat.le_of_eq (by rw[P6];rfl))
 have e3:(#[a.eval x]++args.map a.eval)[0]? =some (a.eval x):=by rw[jl (by show 0<1;omega)];rfl
 have e4:(args.map a.eval).extract 0 args.size=args.map a.eval:=by
  have h:args.size=(args.map a.eval).size:=by rw[Array.size_map]
  rw[h,Array.extract_size]
 have fin:∀(f:Nat) (r:Value) (fn:Func),X.P.funcs[f]? =some fn->fn.body.isSome=true->(fn.name== "runtime.NumGoroutine")=false->(method (X.P.types.size+Made.depth) t z n).run X.P w= .ok (f,r) w->
   (execOp a.eval o).run X.P w= .ok (.enter f (r::args.toList.map a.eval).toArray) w:=λf r fn hf hb hnm hM=>by
  have:=FN (P:=X.P) (w:=w) hf hb hnm (#[r]++args.map a.eval);have e:#[r]++args.map a.eval=(r::args.toList.map a.eval).toArray:=by apply kL;simp
  rw[←e];simp only[execOp,ho,resolve,I4,V9,I5,invoke,e3];simp[hz,callMethod,hM,e4,this]
 split<;>try trivial
 .rename_i f hmt;have hM:=H.ms _ (KL hmt);exact Ls H R (vals:=z::args.toList.map a.eval) ⟨z,_,rfl,Bj hzv,hvs⟩ λfn hf hb hnm=>fin f z fn hf hb hnm (hM z w)
 .rename_i f e0 hmt;have hM:=H.ms _ (KL hmt);refine Fq H R (Bj hzv) λv' u ad hv' hp hr=>?_;refine Ls H R (vals:=u::args.toList.map a.eval) ⟨u,_,rfl,hv',hvs⟩ λfn hf hb hnm=>fin f u fn hf hb hnm ?_;rw[hM z w ad hp,hr];rfl
end
end Go.GP
namespace Go.GP
variable {q:Nat}{x:Operand}{t:TypeId}
section
variable {X:Fx} {S:Sm} {m:Mp} {ok:Nat->Ty->Prop} {a:Act} {w:World} {o:Oper}
theorem QU{α:Type}{Q:α->Sm->Prop}{cl ch:Nat} :∀(ms:List MG) {vs:List V} {xs:List Value} {K:List ((t:Ty)×t.den)->Cmd α} {S:Sm} {ok:Nat->Ty->Prop} (R:Rel X cl ch S m ok a w)
  (hv:iU ⟨w.heap,ok,m⟩ vs xs)
  (hK:∀S' ok' cs,Rel X cl ch S' m ok' a w->(∀b t,ok b t->ok' b t)->BL w.heap ok' cs xs->(K cs).post S' Q),(vI ms vs K).post S Q
 |[],vs,xs,K,S,ok,R,hv,hK=>by
  cases vs with
  |cons _ _=>unfold vI;trivial|nil=>unfold vI;exact hK S ok [] R (λ_ _ h=>h) hv
 |(g,.rp t)::ms,vs,xs,K,S,ok,R,hv,hK=>by
  cases vs with
  |nil=>unfold vI;trivial|cons v vs=>
   obtain⟨x,r,rfl,h1,h2⟩:=hv;unfold vI;have key:uM ⟨w.heap,ok,m⟩ v x->(rpC t v λx=>vI ms vs λcs=>K (⟨t,x⟩::cs)).post S Q:=λh1=>by refine YV (T:=[]) t R Tk.nil h1 λS1 ok1 y R1 T1 k1 s1 d1=>?_;refine QU ms R1 (IA k1 h2) λS2 ok2 cs R2 k2 d2=>?_;exact hK S2 ok2 _ R2 (λb t h=>k2 b t (k1 b t h)) ⟨x,r,rfl,BA k2 (λ_ _ _=>rfl) d1,d2⟩
   cases v<;>first|exact key h1|(unfold rpC;trivial)
 |(g,.dat t)::ms,vs,xs,K,S,ok,R,hv,hK=>by cases vs<;>(unfold vI;trivial)|(g,.own t)::ms,vs,xs,K,S,ok,R,hv,hK=>by cases vs<;>(unfold vI;trivial)|(g,.pair p q)::ms,vs,xs,K,S,ok,R,hv,hK=>by cases vs<;>(unfold vI;trivial)|(g,.unit)::ms,vs,xs,K,S,ok,R,hv,hK=>by cases vs<;>(unfold vI;trivial)|(g,.cell _)::ms,vs,xs,K,S,ok,R,hv,hK=>by cases vs<;>(unfold vI;trivial)|(g,.fr _)::ms,vs,xs,K,S,ok,R,hv,hK=>by cases vs<;>(unfold vI;trivial)|(g,.sbx _ _)::ms,vs,xs,K,S,ok,R,hv,hK=>by cases vs<;>(unfold vI;trivial)|(g,.lp _)::ms,vs,xs,K,S,ok,R,hv,hK=>by cases vs<;>(unfold vI;trivial)|(g,.dv ..)::ms,vs,xs,K,S,ok,R,hv,hK=>by cases vs<;>(unfold vI;trivial)|(g,.sit)::ms,vs,xs,K,S,ok,R,hv,hK=>by cases vs<;>(unfold vI;trivial)|(g,.box p)::ms,vs,xs,K,S,ok,R,hv,hK=>by cases vs<;>(unfold vI;trivial)|(g,.owns p)::ms,vs,xs,K,S,ok,R,hv,hK=>by cases vs<;>(unfold vI;trivial)|(g,.ownb p)::ms,vs,xs,K,S,ok,R,hv,hK=>by cases vs<;>(unfold vI;trivial)|(g,.fn f ts)::ms,vs,xs,K,S,ok,R,hv,hK=>by cases vs<;>(unfold vI;trivial)|(g,.ifc t p)::ms,vs,xs,K,S,ok,R,hv,hK=>by cases vs<;>(unfold vI;trivial)
theorem YC(H:FxOk X)(R:Rel X (CB*q) (CB*q+CB) S m ok a w){f:FuncId}{first caps:Array Operand}(ho:o.op= .makeFunc (.func f) first caps):(bz X.E q o).post S (λ_ S' =>jh X (CB*q) (CB*q+CB) o a w m ok S'):=by
 unfold bz;simp only[ho];refine eH λhb=>?_;have hb' :=iH hb;have hf:first=#[]:=by simpa using hb'
 split
 .refine eH λhc=>?_;simp only[A8]at hc;have hn:=iH hc.2;refine sF H R (λ_ _ h=>h) (λ_ _ h=>h) (v:=.idl f _) (x:=.func (.func f) #[] (caps.map a.eval)) ⟨caps.map a.eval,rfl,by simpa using hn⟩ ?_;simp[execOp,ho,Instr.makeFunc,hf]
 split<;>try trivial
 refine lM R _ λvs hvs=>QU _ R hvs λS' ok' cs R' k hc=>?_;refine sF H R' (λ_ _ h=>h) k (v:=.clos f cs) (x:=.func (.func f) #[] (caps.map a.eval)) ⟨caps.map a.eval,rfl,by simpa using hc⟩ ?_;simp[execOp,ho,Instr.makeFunc,hf]
theorem c0U(H:FxOk X)(R:Rel X (CB*q) (CB*q+CB) S m ok a w){c:Call}(ho:o.op= .defer c):(bz X.E q o).post S (λ_ S' =>jh X (CB*q) (CB*q+CB) o a w m ok S'):=by
 unfold bz;simp only[ho];refine eH λhb=>?_;have hb' :=iH hb;have hargs:c.args=#[]:=by simpa using hb'
 split<;>try trivial
 rename_i x hd hc;refine ax R λv hv=>?_;split<;>try trivial
 rename_i f n;split<;>try trivial
 rename_i k z hk;refine eH λhn=>?_;simp only[A8]at hn;have hz:=iH hn.1;have hn' :=iH hn.2;subst hz hn';obtain⟨cap,hx,hs⟩:∃cap:Array Value,a.eval x= .func (.func f) #[] cap/\cap.size=n:=hv;intro next Q hnx
 unfold Oper.wp;have hrun:(execOp a.eval o).run X.P w= .ok (.defer { target:=.fn (.func f) cap,args:=#[] }) w:=by simp[execOp,ho,resolve,hc,hargs,hx,Deferred.ofValue]
 rw[hrun,Oper.upon_defer,hd];refine hnx m ok _ w ?_ (λ_ _ h=>h) (λ_ _ h=>h);have hid:c0T X.P { target:=.fn (.func f) cap,args:=#[] }:=H.pl _ (UM hk) cap hs;have R' :Rel X (CB*q) (CB*q+CB) S m ok { a with defers:={ target:=.fn (.func f) cap,args:=#[] }::a.defers } w:=
  { size:=R.size,nodef:=λd hd=>(C9.1 hd).elim (λe=>e▸hid) (R.nodef d),slot:=R.slot,box:=R.box,inj:=R.inj,nd:=R.nd,sep:=R.sep,okLt:=R.okLt,okIn:=R.okIn,okOut:=R.okOut,frame:=R.frame,fresh:=R.fresh,strict:=R.strict,gl:=R.gl,kept:=R.kept }
 exact R'
theorem Ol(H:FxOk X)(R:Rel X (CB*q) (CB*q+CB) S m ok a w)(ho:o.op= .makeInterface t x):(bz X.E q o).post S (λ_ S' =>jh X (CB*q) (CB*q+CB) o a w m ok S'):=by
 unfold bz;simp only[ho];refine kX H λi hi=>?_;have htd:=hi.td;have key:∀d,X.P.underlying t=some d->(∀ms,d≠.interface ms)->(qG x λv=>(match v with
   | .b ..| .i ..| .s ..| .ptr ..=>dZ X.E o.dst (.ifc t v)
   |_=> .fail:Cmd Unit)).post S (λ_ S' =>jh X (CB*q) (CB*q+CB) o a w m ok S'):=λd hd hne=>by
  refine ax R λv hv=>?_;have run:(execOp a.eval o).run X.P w= .ok (.value (.iface t (a.eval x))) w:=by simp only[execOp,ho,Instr.makeInterface,I4,run_underlying hd,I5];cases d<;>first|rfl|exact absurd rfl (hne _)
  cases v<;>try trivial
  case b y=>exact aN H R (v:=.ifc t (.b y)) ⟨_,rfl,by rw[Ou hv];rfl,hv⟩ run
  case i k n=>exact aN H R (v:=.ifc t (.i k n)) ⟨_,rfl,by rw[tq hv];rfl,hv⟩ run
  case s l=>exact aN H R (v:=.ifc t (.s l)) ⟨_,rfl,by rw[Iz hv];rfl,hv⟩ run
  case ptr bx off=>obtain⟨blk,h1,h2⟩:=hv;exact aN H R (v:=.ifc t (.ptr bx off)) ⟨_,rfl,by rw[h2];rfl,⟨blk,h1,h2⟩⟩ run
 cases htd' :i.td<;>rw[htd']at htd<;>try trivial
 all_goals exact key _ htd (λ_ e=>by cases e)
theorem UC(H:FxOk X)(R:Rel X (CB*q) (CB*q+CB) S m ok a w){xt t:TypeId}{okk:Bool}(ho:o.op= .typeAssert x xt t okk):(bz X.E q o).post S (λ_ S' =>jh X (CB*q) (CB*q+CB) o a w m ok S'):=by
 unfold bz;simp only[ho];refine kX H λi hi=>?_;have htd:=hi.td;have key:∀d,X.P.underlying t=some d->(∀ms,d≠.interface ms)->(qG x λv=>(match v with
   | .ifc t' v=>bif Nat.beq t' t then dZ X.E o.dst (bif okk then .tup [v,.b true]else v)else .fail
   |_=> .fail:Cmd Unit)).post S (λ_ S' =>jh X (CB*q) (CB*q+CB) o a w m ok S'):=λd hd hne=>by
  refine ax R λv hv=>?_;cases v<;>try trivial
  case ifc t' c=>
  obtain⟨u,hx,h1,hc⟩:=hv;refine eH λhb=>?_;have hb' :=iH hb;subst hb';have run:(execOp a.eval o).run X.P w= .ok (.value (if okk then .tuple #[u,.bool true]else u)) w:=by simp only[execOp,ho,Instr.typeAssert,I4,run_underlying hd,I5,hx];cases d<;>first|(simp;done)|exact absurd rfl (hne _)
  cases okk
  .exact aN H R (Bj hc) run
  .refine aN H R (v:=.tup [c,.b true]) ⟨_,rfl,⟨_,_,rfl,?_,_,_,rfl,rfl,rfl⟩⟩ run;cases c<;>first|exact hc|cases hc
 cases htd' :i.td<;>rw[htd']at htd<;>try trivial
 case struct fs=>obtain⟨fields,hu,_⟩:=htd;exact key _ hu (λ_ e=>by cases e)
 all_goals exact key _ htd (λ_ e=>by cases e)
theorem a5k(H:FxOk X)(R:Rel X (CB*q) (CB*q+CB) S m ok a w)(ho:o.op= .range t x):(bz X.E q o).post S (λ_ S' =>jh X (CB*q) (CB*q+CB) o a w m ok S'):=by
 unfold bz;simp only[ho];refine ax R λu hu=>kX H λi hi=>?_;have hd:=hi.td;split<;>try trivial
 rename_i l htd;rw[htd]at hd;have hx:a.eval x= .string ⟨l.toArray⟩:=hu;refine Ep (l:=.st w.heap.size) (obj:=.stringIter ⟨l.toArray⟩ 0) H R D5 (by simp[U7]) (λhn hc=>?_) ⟨w.heap.size,D5,rfl⟩ ?_
 .exact⟨w.heap.size,⟨l.toArray⟩,0,D5,heap_alloc_new w _,D5,rfl⟩
 .have hund:X.P.underlying t=some .string:=hd;simp[execOp,ho,Instr.range,run_underlying hund,hx]
theorem a8L(H:FxOk X){cl ch:Nat}(R:Rel X cl ch S m ok a w){b:Bool}(ho:o.op= .next x b):(bz X.E q o).post S (λ_ S' =>jh X cl ch o a w m ok S'):=by
 unfold bz;simp only[ho];refine bM λhs=>?_;subst hs;refine ax R λu hu=>?_;split<;>try trivial
 rename_i bx;obtain⟨blk,hm,hx⟩:=hu;refine bP ?_;split<;>try trivial
 rename_i l p hS;have hb:=R.box bx;rw[hS]at hb;obtain⟨blk',s,pos,hm',hh,g1,g2⟩:=hb;simp only at hm hm' hh;rw[hm]at hm';cases hm';subst g2;have hl:(⟨l.toArray⟩:ByteArray)=s:=by rw[←g1]
 have hlen:l.length=s.size:=by rw[←g1,aI];rfl
 have hown:U7 m bx (S (Z5+bx))=[blk]:=by rw[hS];simp[U7,hm]
 have hx:a.eval x= .pointer (some ⟨blk,0,none⟩):=hx;refine⟨λhlt=>?_,λhge=>?_⟩
 .have hlt:pos<s.size:=by unfold J4 x8 at hlt;rw[decide_eq_true_eq]at hlt;omega
  refine jf ?_;have hsz:blk<w.heap.size:=(N8.1 hh).1;have R2:Rel X cl ch (upd S (Z5+bx) (.biter l (wB l (pos:Int)))) m ok a { w with heap:=w.heap.setIfInBounds blk (.stringIter s (pos+(Utf8.decode s pos).2)) }:=by
   refine R.mod (by rw[hown];simp[U7,hm]) D5 rfl rfl rfl D5 (λb hb=>?_) ?_
   .rw[hown]at hb;simp only[N9]at hb;simp[lm,Ne.symm hb]
   .refine⟨blk,s,pos+(Utf8.decode s pos).2,hm,?_,g1,?_⟩
    .simp[lm,hsz]
    .unfold wB;rw[hl];simp
  refine sF (o:=o) H R2 (m0:=m) (ok0:=ok) (λ_ _ h=>h) (λ_ _ h=>h) (x:=.tuple #[.bool true,.int .i64 (pos:Int),.int .i32 ((Utf8.decode s pos).1:Int)]) ?_ ?_
  .refine⟨_,rfl,⟨_,_,rfl,rfl,_,_,rfl,rfl,_,_,rfl,?_,rfl⟩⟩;show Value.int .i32 _=_;unfold ng;rw[hl];simp
  .have e1:(getObj blk).run X.P w= .ok (.stringIter s pos) w:=by simp[getObj,Sem.run,hh]
   have e2:(setObj blk (.stringIter s (pos+(Utf8.decode s pos).2))).run X.P w= .ok () { w with heap:=w.heap.setIfInBounds blk (.stringIter s (pos+(Utf8.decode s pos).2)) }:=by simp[setObj,Sem.run,hh]
   simp[execOp,ho,Instr.next,hx,e1,e2,hlt,goInt]
 .have hge:¬pos<s.size:=λh=>by
   have:J4 ((pos:Nat):Int) (x8 l)=true:=by unfold J4 x8;rw[decide_eq_true_eq];omega
   rw[this]at hge;cases hge
  refine aN H R (x:=.tuple #[.bool false]) ⟨_,rfl,⟨_,_,rfl,rfl,rfl⟩⟩ ?_;have e1:(getObj blk).run X.P w= .ok (.stringIter s pos) w:=by simp[getObj,Sem.run,hh]
  simp[execOp,ho,Instr.next,hx,e1,hge]
theorem b0W(H:FxOk X)(R:Rel X (CB*q) (CB*q+CB) S m ok a w)(o:Oper):(bz X.E q o).post S (λ_ S' =>jh X (CB*q) (CB*q+CB) o a w m ok S'):=by
 have fin:∀{α:Type} {Q:α->Sm->Prop},(Cmd.fail:Cmd α).post S Q:=trivial;cases ho:o.op
 case move x=>have h:=a1F H R (o:=o) (x:=x) (.inl ho);unfold bz;simp only[ho];exact h
 case assign x=>have h:=a1F H R (o:=o) (x:=x) (.inr ho);unfold bz;simp only[ho];exact h
 case pick c x y=>exact a8M H R ho
 case alloc t=>exact a5e H R ho
 case box t x=>exact b0X H R ho
 case build t ps=>exact a5g H R ho
 case buildSlice t n ps=>exact UB H R ho
 case load t x=>exact a8K H R ho
 case store t x y=>exact a5m H R ho
 case binOp op t x y yt=>exact a5f H R ho
 case unOp op t x=>exact a8O H R ho
 case convert s t x=>exact J_ H R ho
 case makeSlice t l c=>exact WE H R ho
 case slice t x lo hi mx=>
  cases mx with
  |none=>exact a5l H R ho|some _=>unfold bz;simp only[ho];exact fin
 case fieldAddr t x f=>exact WB H R ho
 case field t x f=>exact a5i H R ho
 case indexAddr t x ix=>exact WC H R ho
 case index t x ix=>exact a5j H R ho
 case extract x n=>exact K_ H R ho
 case nilCheck x=>exact YD H R ho
 case call c=>
  cases hc:c.callee
  case builtin b=>
   cases b
   case len=>exact b0Y H R ho hc
   case append=>exact a3e H R ho hc
   case copy=>exact a8J H R ho hc
   case min=>exact Vp H R ho (.inl hc)
   case max=>exact Vp H R ho (.inr hc)
   all_goals
    unfold bz;simp only[ho];exact lM R _ λvs hvs=>by simp only[hc];exact fin
  case value f=>
   cases f
   case func f=>exact a8I H R ho hc
   all_goals exact a5h H R ho hc (λf e=>by cases e)
  case invoke x n=>exact a3h H R ho hc
 case makeFunc f first caps=>
  cases f
  case func f=>exact YC H R ho
  all_goals
   unfold bz;simp only[ho];exact fin
 case defer c=>exact c0U H R ho
 case makeInterface t x=>exact Ol H R ho
 case typeAssert x xt t ok=>exact UC H R ho
 case makeMap t r=>exact L_ H R ho
 case lookup t x ix ok=>exact a3i H R ho
 case range t x=>exact a5k H R ho
 case next x b=>exact a8L H R ho
 case mapUpdate t x ix y=>exact MH H R (.inl ho)
 case insert t x ix y=>exact MH H R (.inr ho)
 all_goals
  unfold bz;simp only[ho];exact fin
def VM(X:Fx)(cl ch:Nat)(ops:Array Oper)(i:Nat)(a:Act)(w:World)(m:Mp)(ok:Nat->Ty->Prop)(S' :Sm):Prop:=
 ∀(next:Act->World->Prop) (Q:Exit->Act->World->Prop),
  (∀m' ok' a' w',Rel X cl ch S' m' ok' a' w' ->(∀k l,m k=some l->m' k=some l)->(∀b t,ok b t->ok' b t)->next a' w')->wpOp X.P ops Q i next a w
theorem TW(H:FxOk X){cl ch:Nat}(R:Rel X cl ch S m ok a w){ops:Array Oper}{i:Nat}(hi:ops[i]? =some o)(hw:Region.wanted o (yielded ops a.tmps)=false):
  (dZ X.E o.dst .un).post S (λ_ S' =>VM X cl ch ops i a w m ok S'):=by
 have h:∀S',Rel X cl ch S' m ok (a.put o.dst Go.undef) w->VM X cl ch ops i a w m ok S' :=λS' R' next Q hn=>by unfold wpOp;simp only[hi,hw,fD,if_false];exact hn m ok _ w R' (λ_ _ h=>h) (λ_ _ h=>h)
 unfold dZ;cases hd:o.dst with
 |none=>rw[hd]at h;exact h S R
 |some d=>rw[hd]at h;exact bM λhb=>h _ (R.put H.ntB hb rfl)
theorem Uu{tmps:Array Value}{t:Nat}{v:Value}(h:tmps.getD t Go.undef=v)(hv:v≠Go.undef):tmps[t]? =some v:=by
 rw[Y3]at h;cases hx:tmps[t]? with
 |none=>rw[hx]at h;exact absurd h.symm hv|some x=>rw[hx]at h;simpa using h
theorem a3w(H:FxOk X)(R:Rel X (CB*q) (CB*q+CB) S m ok a w){ops:Array Oper}{i:Nat}(hi:ops[i]? =some o):
  (oQ X.E q ops.toList o).post S (λ_ S' =>VM X (CB*q) (CB*q+CB) ops i a w m ok S'):=by
 have yes:Region.wanted o (yielded ops a.tmps)=true->(bz X.E q o).post S (λ_ S' =>VM X (CB*q) (CB*q+CB) ops i a w m ok S'):=λhw=>by
  refine zG ?_ (b0W H R o);intro _ S' h next Q hn
  unfold wpOp;simp only[hi,hw,if_true];exact .inl (h next Q hn)
 unfold oQ;cases hg:o.guard with
 |none=>exact yes (by simp[Region.wanted,hg])|some p=>
  obtain⟨j,want⟩:=p;cases hj:ops.toList[j]? with
  |none=>simp only[hj];trivial|some p=>
   simp only[hj];have hj' :ops[j]? =some p:=by simpa using hj
   cases hd:p.dst with
   |none=>trivial|some t=>
    simp only[];refine bM λhlt=>bP ?_;have hsl:=R.slot t (EM hlt);have hyd:yielded ops a.tmps j=match a.tmps[t]? with|some (.bool b)=>some b|_=>none:=by unfold yielded;rw[hj'];simp only[ja,hd];rfl
    split<;>try trivial
    .rename_i y hS;rw[hS]at hsl;have hb:a.tmps.getD t Go.undef= .bool y:=hsl;have hy:yielded ops a.tmps j=some y:=by
      rw[hyd,Uu hb (by simp[Go.undef])]
     have hwt:Region.wanted o (yielded ops a.tmps)=(bif want then y else !y):=by unfold Region.wanted;rw[hg];simp only[hy];cases want<;>cases y<;>rfl
     cases hc:(bif want then y else !y)
     .simp only[cond_false];exact TW H R hi (hwt.trans hc)
     .simp only[cond_true];exact yes (hwt.trans hc)
    .rename_i hS;rw[hS]at hsl;have hb:a.tmps.getD t Go.undef=Go.undef:=hsl;have hwt:Region.wanted o (yielded ops a.tmps)=false:=by
      unfold Region.wanted;rw[hg];simp only[hyd];rw[Y3]at hb;cases hx:a.tmps[t]? with
      |none=>rfl|some x=>rw[hx]at hb;simp only[Y2]at hb;subst hb;rfl
     exact TW H R hi hwt
end
end Go.GP
namespace Go.GP
def OY(E:Env)(q:Nat)(all l:List Oper)(S:Nat->Sm)(T:Nat->Tr):Prop:=
 ∀i o,l[i]? =some o->(oQ E q all o).eval (S i) ([],[])=some ((),S (i+1),T i)
def a6G(s:Sm)(S:Nat->Sm):Nat->Sm|0=>s|i+1=>S i
def a6H(t:Tr)(T:Nat->Tr):Nat->Tr|0=>t|i+1=>T i
theorem MV{R:Type}{t:Nat}{s:St}{K:St->Option R}{r:R}(h:QD t s K=some r):∃s0,fC s0=fC s/\K s0=some r:=by
 unfold QD at h;rw[Ei]at h;split at h<;>try (simp at h;done)
 .rename_i y hy;have key:∀b:Bool,y=b->fC (.kv t (.b b)::s)=fC s:=λb hb=>by
   subst hb;rw[a1t];funext k;by_cases e:k=t
   .subst e;simp[hy]
   .rw[bJ _ _ e]
  cases y
  .exact⟨_,key false rfl,h⟩
  .exact⟨_,key true rfl,h⟩
 .exact⟨s,rfl,h⟩
theorem PU{R:Type}{E:Env}{q:Nat}{all:List Oper} :∀(l:List Oper) {s:St} {t:Trs} {K:St->Trs->Option R} {r:R},KW E q all l s t K=some r->
  ∃s' S T,S 0=fC s/\S l.length=fC s' /\OY E q all l S T/\K s' (((List.range l.length).map T).reverse++t)=some r
 |[],s,t,K,r,h=>⟨s,λ_=>fC s,λ_=>([],[]),rfl,rfl,λi o hi=>by simp at hi,by simpa[KW]using h⟩|o::l,s,t,K,r,h=>by
  have key:∀s0,fC s0=fC s->(oQ E q all o).runK s0 ([],[]) (λ_ s' tr=>KW E q all l s' (tr::t) K)=some r->
    ∃s' S T,S 0=fC s/\S (o::l).length=fC s' /\OY E q all (o::l) S T/\K s' (((List.range (o::l).length).map T).reverse++t)=some r:=λs0 hs0 h=>by
   obtain⟨x,s1,tr,e,hk⟩:=qo h;obtain⟨s',S,T,h0,h1,h2,h3⟩:=PU l hk;refine⟨s',a6G (fC s) S,a6H tr T,rfl,h1,λi o' hi=>?_,?_⟩
   .cases i with
    |zero=>simp at hi;subst hi;show(oQ E q all o).eval (fC s) ([],[])=some ((),S 0,tr);rw[←hs0,e,h0]|succ i=>exact h2 i o' (by simpa using hi)
   .rw[D9,List.range_succ_eq_map,dL,List.reverse_cons,F7,List.map_map];exact h3
  unfold KW at h;split at h
  .exact key s rfl h
  .obtain⟨s0,e,h⟩:=MV h;exact key s0 e h
theorem rO{α:Type}(T:Nat->α)(n:Nat):((List.range (n+1)).map T).reverse=T n::((List.range n).map T).reverse:=by rw[jq,ed,List.reverse_append];rfl
theorem xW{a b:List Nat}(h:Qa a b=true):∀k∈a,k∉b:=by
 induction a with
 |nil=>intro k hk;cases hk|cons x a ih=>
  unfold Qa at h;cases hm:Cf x b
  .simp only[hm,cond_false]at h;intro k hk hkb;rcases C9.1 hk with rfl|hk
   .have:∀(l:List Nat),Cf k l=false->k∉l:=by
     intro l;induction l with
     |nil=>intro _ h;cases h|cons y l ih=>
      intro hm hk;unfold Cf at hm;cases hb:Nat.beq y k
      .simp only[hb,cond_false]at hm;rcases C9.1 hk with rfl|hk
       .simp at hb
       .exact ih hm hk
      .simp[hb]at hm
    exact this b hm hkb
   .exact ih h k hk hkb
  .simp[hm]at h
theorem SA{k:Nat} :∀{l:List Nat},Cf k l=true->k∈l
 |[],h=>by simp[Cf]at h|y::l,h=>by
  unfold Cf at h;cases hb:Nat.beq y k
  .simp only[hb,cond_false]at h;exact P7 _ (SA h)
  .have:=iH hb;subst this;simp
def a3H(x y:Tr):Prop:=(∀k∈x.2,k∉y.1/\k∉y.2)/\∀k∈x.1,k∉y.2
theorem YA{b:Bool}{x y:Tr}(h:H_ b x y=true):b=true\/a3H x y:=by
 unfold H_ at h;cases b
 .simp only[cond_false,A8]at h;exact .inr ⟨λk hk=>⟨xW h.1.1 k hk,xW h.1.2 k hk⟩,λk hk=>xW h.2 k hk⟩
 .exact .inl rfl
theorem MB{mask:Nat}{y:Tr}{T:Nat->Tr} :∀n,Qz mask y ((List.range n).map T).reverse n=true->∀i,i<n->Nat.testBit mask i=true\/a3H (T i) y
 |0,_,i,hi=>by omega|n+1,h,i,hi=>by
  rw[rO]at h;unfold Qz at h;simp only[Nat.add_sub_cancel,A8]at h;by_cases e:i=n
  .subst e;exact YA h.1
  .exact MB n h.2 i o5
theorem PG{M:Nat->Nat}{T:Nat->Tr} :∀n,SV ((List.range n).map M).reverse ((List.range n).map T).reverse=true->∀i j,i<j->j<n->Nat.testBit (M j) i=true\/a3H (T i) (T j)
 |0,_,i,j,_,hj=>by omega|n+1,h,i,j,hi,hj=>by
  rw[rO,rO]at h;unfold SV at h;simp only[A8,List.length_reverse,P6,iM]at h;by_cases e:j=n
  .subst e;exact MB j h.1 i hi
  .exact PG n h.2 i j hi o5
theorem a0Y{α:Type}{eq:α->α->Bool}(h:∀a b,eq a b=true->a=b):∀{l m:List α},a8d eq l m=true->l=m
 |[],[],_=>rfl|[],_::_,e=>by cases e|_::_,[],e=>by cases e|a::l,b::m,e=>by simp only[a8d,A8]at e;rw[h _ _ e.1,a0Y h e.2]
theorem Jb:∀{t:Ty} (a b:t.den),Rw t a b=true->a=b
 | .bool,a,b,e=>a0C e| .int _,a,b,e=>of_decide_eq_true e| .str,a,b,e=>of_decide_eq_true e| .sl t,a,b,e=>a0Y (λx y h=>Jb x y h) e| .prod p q,a,b,e=>by have e:(Rw p a.1 b.1&&Rw q a.2 b.2)=true:=e;rw[A8]at e;exact xn (Jb _ _ e.1) (Jb _ _ e.2)| .unit,a,b,e=>rfl| .any _,a,b,e=>rfl| .ent _ _ p q,a,b,e=>by have e:(Rw p a.1 b.1&&Rw q a.2 b.2)=true:=e;rw[A8]at e;exact xn (Jb _ _ e.1) (Jb _ _ e.2)
theorem a0H{R:Type}{a b:V}{K:Option R}{r:R}(h:a7M a b K=some r):a=b/\K=some r:=by
 unfold a7M at h;rw[Ei,Ei]at h;cases a with
 |i k n=>
  cases b with
  |i k' n' =>
   cases hk:decide (k=k')
   .simp[hk]at h
   .have e:=of_decide_eq_true hk;subst e;simp only[hk,cond_true]at h;cases hi:D6 n n'<;>rw[hi]at h
    .cases h
    .have e:=of_decide_eq_true (show decide (n=n')=true from hi);subst e;exact⟨rfl,h⟩
  |_=>cases h
 |sl t xs=>
  cases b with
  |sl u ys=>
   simp only[Ty.castL]at h;by_cases e:u=t
   .subst e;simp only[dif_pos]at h;cases hi:deq (.sl u) xs ys<;>rw[hi]at h
    .cases h
    .rw[Jb (t:=.sl u) xs ys hi];exact⟨rfl,h⟩
   .rw[dif_neg e]at h;cases h
  |_=>cases h
 |b x=>
  cases b with
  |b y=>
   cases hi:QS x y<;>simp only[hi,l7]at h
   .cases h
   .have e:x=y:=by simpa[QS]using hi
    subst e;exact⟨rfl,h⟩
  |_=>cases h
 |s x=>
  cases b with
  |s y=>
   cases hi:seq x y<;>simp only[hi,l7]at h
   .cases h
   .have e:x=y:=by simpa[seq]using hi
    subst e;exact⟨rfl,h⟩
  |_=>cases h
 |_=>cases h
theorem IL:∀{a b:List Nat},IK a b=true->a=b
 |[],[],_=>rfl|[],_::_,h=>by cases h|_::_,[],h=>by cases h|a::l,b::m,h=>by
  unfold IK at h;cases hb:Nat.beq a b
  .simp[hb]at h
  .simp only[hb,cond_true]at h;rw[iH hb,IL h]
def Rp(E:Env)(q:Nat)(all:List Oper)(o:Oper)(tr:Tr)(v:V)(S:Sm):Prop:=
 ∃d S',o.dst=some d/\tr.2=[d]/\(oQ E q all o).eval S ([],[])=some ((),S',tr)/\S' d=v
theorem Tj{R:Type}{E:Env}{q:Nat}{all:List Oper}{s:St} :∀{p:a2p} {K:Option R} {r:R},Vu E q all s p K=some r->
  (∀x∈p,Rp E q all x.1 x.2.1 x.2.2 (fC s))/\K=some r
 |[],K,r,h=>⟨λx hx=>by(cases hx),h⟩|(o,tr,v)::p,K,r,h=>by
  unfold Vu at h;obtain⟨x,s2,tr2,e,hk⟩:=qo h;cases hd:o.dst with
  |none=>simp[hd]at hk|some d=>
   simp only[hd]at hk;cases hc:(IK tr.1 tr2.1&&IK tr.2 tr2.2&&IK tr2.2 [d])
   .simp[hc]at hk
   .simp only[hc,cond_true]at hk;simp only[A8]at hc;obtain⟨⟨h1,h2⟩,h3⟩:=hc;have h1:=IL h1;have h2:=IL h2;have h3:=IL h3;have etr:tr=tr2:=xn h1 h2;subst etr;obtain⟨hv,hk⟩:=a0H hk;obtain⟨g1,g2⟩:=Tj hk;refine⟨λy hy=>?_,g2⟩;rcases C9.1 hy with rfl|hy
    .exact⟨d,_,hd,h3,e,hv.symm⟩
    .exact g1 y hy
theorem Nh{R:Type}{E:Env}{q:Nat}{all:List Oper} :∀(l:List Oper) {s:St} {t:Trs} {p:a2p} {K:St->Trs->Option R} {r:R},yR E q all l s t p K=some r->
  ∃s' S T,S 0=fC s/\S l.length=fC s' /\OY E q all l S T/\K s' (((List.range l.length).map T).reverse++t)=some r/\
   (∀x∈p,∀j o',l[j]? =some o' ->pJ o' =true->Rp E q all x.1 x.2.1 x.2.2 (S (j+1)))/\
   (∀i j o o',i<j->l[i]? =some o->l[j]? =some o' ->VZ E o=true->pJ o' =true->∃d,o.dst=some d/\Rp E q all o (T i) (S (i+1) d) (S (j+1)))
 |[],s,t,p,K,r,h=>⟨s,λ_=>fC s,λ_=>([],[]),rfl,rfl,λi o hi=>by simp at hi,by simpa[yR]using h,λx _ j o' hj=>by simp at hj,λi j o o' _ hi=>by simp at hi⟩|o::l,s,t,p,K,r,h=>by
  have key:∀s0,fC s0=fC s->(oQ E q all o).runK s0 ([],[]) (λ_ s' tr=>bif pJ o then Vu E q all s' p (yR E q all l s' (tr::t) p K)else yR E q all l s' (tr::t) (Ti E o s' tr p) K)=some r->
    ∃s' S T,S 0=fC s/\S (o::l).length=fC s' /\OY E q all (o::l) S T/\K s' (((List.range (o::l).length).map T).reverse++t)=some r/\
   (∀x∈p,∀j o',(o::l)[j]? =some o' ->pJ o' =true->Rp E q all x.1 x.2.1 x.2.2 (S (j+1)))/\
   (∀i j o1 o',i<j->(o::l)[i]? =some o1->(o::l)[j]? =some o' ->VZ E o1=true->pJ o' =true->∃d,o1.dst=some d/\Rp E q all o1 (T i) (S (i+1) d) (S (j+1))):=λs0 hs0 h=>by
   obtain⟨x,s1,tr,e,hk⟩:=qo h;have fin:∀p',(∀y∈p,y∈p')->(VZ E o=true->pJ o=false->∃d,o.dst=some d/\(o,tr,fC s1 d)∈p')->(pJ o=true->∀y∈p,Rp E q all y.1 y.2.1 y.2.2 (fC s1))->yR E q all l s1 (tr::t) p' K=some r->
     ∃s' S T,S 0=fC s/\S (o::l).length=fC s' /\OY E q all (o::l) S T/\K s' (((List.range (o::l).length).map T).reverse++t)=some r/\
   (∀x∈p,∀j o',(o::l)[j]? =some o' ->pJ o' =true->Rp E q all x.1 x.2.1 x.2.2 (S (j+1)))/\
   (∀i j o1 o',i<j->(o::l)[i]? =some o1->(o::l)[j]? =some o' ->VZ E o1=true->pJ o' =true->∃d,o1.dst=some d/\Rp E q all o1 (T i) (S (i+1) d) (S (j+1))):=λp' hp' hex hcall hk=>by
    obtain⟨s',S,T,h0,h1,h2,h3,h4,h5⟩:=Nh l hk;refine⟨s',a6G (fC s) S,a6H tr T,rfl,h1,λi o' hi=>?_,?_,λy hy j o' hj hc=>?_,λi j o1 o' hij hi hj he hc=>?_⟩
    .cases i with
     |zero=>simp at hi;subst hi;show(oQ E q all o).eval (fC s) ([],[])=some ((),S 0,tr);rw[←hs0,e,h0]|succ i=>exact h2 i o' (by simpa using hi)
    .rw[D9,List.range_succ_eq_map,dL,List.reverse_cons,F7,List.map_map];exact h3
    .cases j with
     |zero=>simp at hj;subst hj;show Rp E q all y.1 y.2.1 y.2.2 (S 0);rw[h0];exact hcall hc y hy|succ j=>exact h4 y (hp' y hy) j o' (by simpa using hj) hc
    .cases j with
     |zero=>omega|succ j=>
      cases i with
      |zero=>
       simp at hi;subst hi;have hnc:pJ o=false:=by
        unfold VZ at he;cases hcc:pJ o
        .rfl
        .simp[hcc]at he
       obtain⟨d,hd,hm⟩:=hex he hnc;refine⟨d,hd,?_⟩;have:=h4 _ hm j o' (by simpa using hj) hc;show Rp E q all o tr (S 0 d) (S (j+1));rw[h0];exact this
      |succ i=>exact h5 i j o1 o' o5 (by simpa using hi) (by simpa using hj) he hc
   cases hc:pJ o
   .simp only[hc,cond_false]at hk;refine fin _ (λy hy=>?_) (λhe _=>?_) (λh=>by rw[hc]at h;cases h) hk
    .unfold Ti;cases hx:VZ E o
     .exact hy
     .simp only[cond_true];cases hd:o.dst with
      |none=>exact hy|some d=>exact P7 _ hy
    .cases hd:o.dst with
     |none=>simp[VZ,hd]at he|some d=>exact⟨d,rfl,by simp[Ti,he,hd]⟩
   .simp only[hc,cond_true]at hk;obtain⟨g1,g2⟩:=Tj hk;exact fin p (λ_ h=>h) (λ_ h=>by rw[hc]at h;cases h) (λ_=>g1) g2
  unfold yR at h;split at h
  .exact key s rfl h
  .obtain⟨s0,e,h⟩:=MV h;exact key s0 e h
def a0L(ord:Nat->Nat->Prop)(ex:Nat->Nat->Prop)(T:Nat->Tr)(i j:Nat):Prop:=
 ord i j\/((∀k∈(T i).2,k∉(T j).1/\k∉(T j).2)/\((∀k∈(T i).1,k∉(T j).2)\/
  (ex i j/\(∀k∈(T i).2,k∉(T i).1)/\∀m,i<m->m<j->ord m j\/∀k∈(T i).1,k∉(T m).2)))
theorem SH{mask:Nat}{x:Tr} :∀{l:List (Nat×Tr)},a1y mask x l=true->∀y∈l,Nat.testBit mask y.1=true\/∀k∈x.1,k∉y.2.2
 |[],_,y,hy=>by cases hy|(m,z)::l,h,y,hy=>by
  unfold a1y at h;simp only[A8,ou]at h;rcases C9.1 hy with rfl|hy
  .exact h.1.imp id (λh=>xW h)
  .exact SH h.2 y hy
theorem JM{E:Env}{all:List Oper}{mask:Nat}{y:Tr}{cy:Bool}{T:Nat->Tr}{N:Nat} :∀n (mids:List (Nat×Tr)),(∀m,n<=m->m<N->(m,T m)∈mids)->Me E all mask y cy ((List.range n).map T).reverse n mids=true->
  ∀i,i<n->Nat.testBit mask i=true\/((∀k∈(T i).2,k∉y.1/\k∉y.2)/\((∀k∈(T i).1,k∉y.2)\/((cy=true/\a4k E all i=true)/\(∀k∈(T i).2,k∉(T i).1)/\∀m,i<m->m<N->Nat.testBit mask m=true\/∀k∈(T i).1,k∉(T m).2)))
 |0,_,_,_,i,hi=>by omega|n+1,mids,hm,h,i,hi=>by
  rw[rO]at h;unfold Me at h;simp only[Nat.add_sub_cancel,A8]at h;by_cases e:i=n
  .subst e;have h:=h.1;unfold a1E at h;cases hb:Nat.testBit mask i
   .simp only[hb,cond_false,A8]at h;refine .inr ⟨λk hk=>⟨xW h.1.1 k hk,xW h.1.2 k hk⟩,?_⟩;have h2:=h.2;cases hdj:Qa (T i).1 y.2
    .simp only[hdj,cond_false,A8]at h2;exact .inr ⟨h2.1.1,xW h2.1.2,λm h3 h4=>SH h2.2 _ (hm m o5 h4)⟩
    .exact .inl (xW hdj)
   .exact .inl rfl
  .refine JM n _ (λm h1 h2=>?_) h.2 i o5;by_cases e2:m=n
   .subst e2;simp
   .exact P7 _ (hm m o5 h2)
theorem MF{E:Env}{all:List Oper}{M:Nat->Nat}{T:Nat->Tr} :∀n,MC E all ((List.range n).map M).reverse ((List.range n).map T).reverse=true->∀i j,i<j->j<n->
  a0L (λi j=>Nat.testBit (M j) i=true) (λi j=>VQ all j=true/\a4k E all i=true) T i j
 |0,_,i,j,_,hj=>by omega|n+1,h,i,j,hi,hj=>by
  rw[rO,rO]at h;unfold MC at h;simp only[A8,List.length_reverse,P6,iM]at h;by_cases e:j=n
  .subst e;exact JM (N:=j) j [] (λm h1 h2=>by omega) h.1 i hi
  .exact MF n h.2 i j hi o5
theorem a4M{P:Nat->Prop} :∀(n:Nat),(∃j,j<n/\P j)->∃j,j<n/\P j/\∀m,j<m->m<n->¬P m
 |0,⟨j,h,_⟩=>by omega|n+1,⟨j,h,hp⟩=>by
  by_cases e:P n
  .exact⟨n,o5,e,λm h1 h2=>by omega⟩
  .have:j≠n:=λe2=>e (e2▸hp);obtain⟨j',h1,h2,h3⟩:=a4M n ⟨j,o5,hp⟩;refine⟨j',o5,h2,λm h4 h5=>?_⟩;by_cases e2:m=n
   .subst e2;exact e
   .exact h3 m h4 o5
variable {n:Nat}
theorem a3N{c:Nat->Cmd Unit}{S:Nat->Sm}{T:Nat->Tr}(hs:∀i,i<n->(c i).eval (S i) ([],[])=some ((),S (i+1),T i)){ord ex:Nat->Nat->Prop}
  (hc:∀i j,i<j->j<n->a0L ord ex T i j) (hex:∀i j,i<j->j<n->ex i j->∃S',(c i).eval (S (j+1)) ([],[])=some ((),S',T i)/\∀k∈(T i).2,S' k=S (i+1) k)
  {D:List Nat} {i:Nat} (hi:i<n) (hD:i∉D) (hlt:∀j∈D,j<n) (hp:∀j,ord j i->j∈D) (hdown:∀j∈D,∀k,ord k j->k∈D):
  (c i).eval (SD S T D n) ([],[])=some ((),SD S T (i::D) n,T i):=by
 have before:∀k,(k∈(T i).1\/k∈(T i).2)->∀j,j<i->k∈(T j).2->j∈D:=λk hk j hj hw=>by
  rcases hc j i hj hi with h|⟨h1,_⟩
  .exact hp j h
  .rcases hk with hk|hk
   .exact absurd hk (h1 k hw).1
   .exact absurd hk (h1 k hw).2
 have afterW:∀k,k∈(T i).2->∀j,i<j->j<n->k∈(T j).2->j∉D:=λk hk j hj hjn hw hjD=>by
  rcases hc i j hj hjn with h|⟨h1,h2⟩
  .exact hD (hdown j hjD i h)
  .exact(h1 k hk).2 hw
 have fin:∀S0 S1:Sm,(c i).eval S0 ([],[])=some ((),S1,T i)->(∀k∈(T i).2,S1 k=S (i+1) k)->(∀k∈(T i).1,SD S T D n k=S0 k)->(c i).eval (SD S T D n) ([],[])=some ((),SD S T (i::D) n,T i):=λS0 S1 he hv hr=>by
  obtain⟨T',h1,_,h3,h4⟩:=xM he (SD S T D n) hr;rw[h1];have:T' =SD S T (i::D) n:=by
   funext k;by_cases hk:k∈(T i).2
   .rw[h4 k hk D5,hv k hk];rw[QK (i::D) k (i+1) n o5 (λj h1 h2 hw=>by
     simp only[C9,not_or];exact⟨o5,afterW k hk j o5 h2 hw⟩)]
    simp[SD,hk]
   .rw[h3 k hk,a0M D i k hk]
  rw[this]
 by_cases hx:∃j,j<n/\(i<j/\j∈D/\∃k∈(T i).1,k∈(T j).2)
 .obtain⟨j,hjn,⟨hij,hjD,k0,hk0,hk1⟩,hmax⟩:=a4M n hx;rcases hc i j hij hjn with h|⟨_,h2⟩
  .exact absurd (hdown j hjD i h) hD
  .rcases h2 with h2|⟨h3,h4,h5⟩
   .exact absurd hk1 (h2 k0 hk0)
   .obtain⟨S',he,hv⟩:=hex i j hij hjn h3;refine fin (S (j+1)) S' he hv λk hk=>?_;rw[QK D k (j+1) n o5 (λm g1 g2 hw hmD=>hmax m o5 g2 ⟨o5,hmD,k,hk,hw⟩)];refine IX hs D k (j+1) o5 λm hm hw=>?_;rcases Nat.lt_trichotomy m i with g|g|g
    .exact before k (.inl hk) m g hw
    .subst g;exact absurd hk (h4 k hw)
    .by_cases e:m=j
     .subst e;exact hjD
     .rcases h5 m g o5 with g2|g2
      .exact hdown j hjD m g2
      .exact absurd hw (g2 k hk)
 .refine fin (S i) (S (i+1)) (hs i hi) (λ_ _=>rfl) λk hk=>?_;rw[QK D k i n o5 (λj h1 h2 hw hjD=>by
   by_cases e:j=i
   .subst e;exact hD hjD
   .exact hx ⟨j,h2,o5,hjD,k,hk,hw⟩)]
  exact IX hs D k i o5 (before k (.inl hk))
def sD(e:Edge):Prop:=match e.ground with| .textOnly _=>False| .gcOnly _=>False|_=>True
theorem sD.binds{e:Edge}(h:sD e)(md:Region.Mode):Region.binds md e=true:=by unfold sD at h;unfold Region.binds;split<;>simp_all
theorem a2r{e:Edge}(h:Region.binds .any e=true):sD e:=by unfold Region.binds at h;unfold sD;split<;>simp_all
theorem DX{M:Nat->Nat}{n k:Nat}(hk:k<n):(((List.range n).map M).reverse).getD (n -1 -k) 0=M k:=by rw[Ob,List.getElem?_reverse G5];simp only[P6,iM,iL];rw[show n -1 -(n -1 -k)=k by omega];simp[hk]
theorem Kv{M:Nat->Nat}{n:Nat} :∀(es:List Edge) {m m' :Nat},JG ((List.range n).map M).reverse n es m=some m' ->
  (∀e∈es,sD e->e.on<n)/\∀j,Nat.testBit m' j=true->Nat.testBit m j=true\/∃e∈es,sD e/\(j=e.on\/Nat.testBit (M e.on) j=true)
 |[],m,m',h=>by simp[JG]at h;subst h;exact⟨λ_ h=>absurd h D5,λj hj=> .inl hj⟩|e::es,m,m',h=>by
  have plain:(bif Nat.blt e.on n then JG ((List.range n).map M).reverse n es (m ||| 2^e.on ||| (((List.range n).map M).reverse).getD (n -1 -e.on) 0)else none)=some m' ->sD e->
    (∀e' ∈e::es,sD e' ->e'.on<n)/\∀j,Nat.testBit m' j=true->Nat.testBit m j=true\/∃e' ∈e::es,sD e' /\(j=e'.on\/Nat.testBit (M e'.on) j=true):=λh hp=>by
   cases hb:Nat.blt e.on n
   .simp[hb]at h
   .simp only[hb,cond_true]at h;have hlt:=EM hb;rw[DX hlt]at h;obtain⟨h1,h2⟩:=Kv es h;refine⟨λe' he' hp' =>?_,λj hj=>?_⟩
    .rcases C9.1 he' with rfl|he'
     .exact hlt
     .exact h1 e' he' hp'
    .rcases h2 j hj with h3|⟨e',he',hp',h3⟩
     .rw[Nat.testBit_or,Nat.testBit_or,ou,ou]at h3;rcases h3 with(h3|h3)|h3
      .exact .inl h3
      .rw[Nat.testBit_two_pow]at h3;exact .inr ⟨e,D5,hp,.inl (of_decide_eq_true h3).symm⟩
      .exact .inr ⟨e,D5,hp,.inr h3⟩
     .exact .inr ⟨e',by simp[he'],hp',h3⟩
  have skip:JG ((List.range n).map M).reverse n es m=some m' ->¬sD e->
    (∀e' ∈e::es,sD e' ->e'.on<n)/\∀j,Nat.testBit m' j=true->Nat.testBit m j=true\/∃e' ∈e::es,sD e' /\(j=e'.on\/Nat.testBit (M e'.on) j=true):=λh hp=>by
   obtain⟨h1,h2⟩:=Kv es h;refine⟨λe' he' hp' =>?_,λj hj=>?_⟩
   .rcases C9.1 he' with rfl|he'
    .exact absurd hp' hp
    .exact h1 e' he' hp'
   .rcases h2 j hj with h3|⟨e',he',hp',h3⟩
    .exact .inl h3
    .exact .inr ⟨e',by simp[he'],hp',h3⟩
  unfold JG at h;cases hg:e.ground<;>simp only[hg]at h
  case textOnly=>exact skip h (by simp[sD,hg])
  case gcOnly=>exact skip h (by simp[sD,hg])
  all_goals exact plain h (by simp[sD,hg])
theorem Jj:∀(l:List Oper) {n:Nat} {M:Nat->Nat} {ms:List Nat},WI l n ((List.range n).map M).reverse=some ms->
  ∃M' :Nat->Nat,ms=((List.range (n+l.length)).map M').reverse/\(∀k,k<n->M' k=M k)/\
   ∀i o,l[i]? =some o->(∀e∈o.after.toList,sD e->e.on<n+i)/\∀j,Nat.testBit (M' (n+i)) j=true->∃e∈o.after.toList,sD e/\(j=e.on\/Nat.testBit (M' e.on) j=true)
 |[],n,M,ms,h=>by simp only[WI,F8]at h;subst h;exact⟨M,rfl,λ_ _=>rfl,λi o hi=>by simp at hi⟩|o::l,n,M,ms,h=>by
  unfold WI at h;cases he:JG ((List.range n).map M).reverse n o.after.toList 0 with
  |none=>simp[he]at h|some m=>
   simp only[he]at h;obtain⟨h1,h2⟩:=Kv _ he;have hM:m::((List.range n).map M).reverse=((List.range (n+1)).map (λk=>if k=n then m else M k)).reverse:=by rw[rO];simp only[if_true];congr 2;apply eF;intro k hk;rw[if_neg];have:=dX.1 hk;omega
   rw[hM]at h;obtain⟨M',e1,e2,e3⟩:=Jj l h;have hMn:M' n=m:=by rw[e2 n o5];simp
   have hMk:∀k,k<n->M' k=M k:=λk hk=>by rw[e2 k o5,if_neg o5]
   refine⟨M',by rw[e1];congr 3;simp;omega,hMk,λi o' hi=>?_⟩;cases i with
   |zero=>
    simp at hi;subst hi;refine⟨h1,λj hj=>?_⟩;rw[Z8,hMn]at hj;rcases h2 j hj with h3|⟨e,hem,hp,h3⟩
    .simp at h3
    .exact⟨e,hem,hp,by rwa[hMk _ (h1 e hem hp)]⟩
   |succ i=>have:=e3 i o' (by simpa using hi);rwa[show n+1+i=n+(i+1) by omega]at this
theorem SS:∀(n:Nat) {D:List Nat},D.Nodup->(∀x∈D,x<n)->D.length<=n
 |0,D,_,h=>by
  cases D with
  |nil=>simp|cons x D=>have:=h x D5;omega
 |n+1,D,hD,h=>by
  by_cases hn:n∈D
  .have h1:=SS n (D:=D.erase n) (hD.erase n) (λx hx=>by
    have:=(hD.mem_erase_iff).1 hx;have:=h x this.2;omega)
   rw[List.length_erase_of_mem hn]at h1;omega
  .have h1:=SS n hD (λx hx=>by
    have:=h x hx;have:x≠n:=λe=>hn (e▸hx);omega)
   omega
theorem a3d{D:List Nat}(hD:D.Nodup)(h:∀x∈D,x<n)(hl:n<=D.length):∀i,i<n->i∈D:=λi hi=>by
 refine ny λhn=>?_;have:=SS n (D:=i::D) (eG.2 ⟨hn,hD⟩) (λx hx=>by
  rcases C9.1 hx with rfl|hx
  .exact hi
  .exact h x hx)
 simp at this;omega
def Ko(md:Region.Mode)(ops:Array Oper):Prop:=∃rk:Nat->Nat,∀i o,ops[i]? =some o->∀e∈o.after.toList,Region.binds md e=true->e.on<ops.size/\rk e.on<rk i
theorem PL:∀{es:List Edge},Oq es=true->∀e∈es,sD e
 |[],_,e,he=>by cases he|e::es,h,e',he' =>by
  unfold Oq at h;have hp:sD e:=by cases hg:e.ground<;>simp[hg]at h<;>simp[sD,hg]
  have hr:Oq es=true:=by cases hg:e.ground<;>simp[hg]at h<;>exact h
  rcases C9.1 he' with rfl|he'
  .exact hp
  .exact PL hr e' he'
theorem JO:∀{l:List Oper},CG l=true->∀o∈l,∀e∈o.after.toList,sD e
 |[],_,o,ho=>by cases ho|o::l,h,o',ho' =>by
  unfold CG at h;cases hp:Oq o.after.toList
  .simp[hp]at h
  .simp only[hp,cond_true]at h;rcases C9.1 ho' with rfl|ho'
   .exact PL hp
   .exact JO h o' ho'
theorem PM{md:Region.Mode}{done:List Nat} :∀{es:List Edge},KR md done es=true->∀e∈es,Region.binds md e=true->e.on∈done
 |[],_,e,he,_=>by cases he|e::es,h,e',he',hb=>by
  unfold KR at h;cases hc:(!Region.binds md e || Cf e.on done)
  .simp[hc]at h
  .simp only[hc,cond_true]at h;rcases C9.1 he' with rfl|he'
   .rw[hb]at hc;simp at hc;exact SA hc
   .exact PM h e' he' hb
theorem Gi{md:Region.Mode}{done:List Nat} :∀{l:List Oper} {n i:Nat},vN md done l n=some i->∃o,l[i -n]? =some o/\n<=i/\i<n+l.length/\KR md done o.after.toList=true
 |[],n,i,h=>by simp[vN]at h|o::l,n,i,h=>by
  unfold vN at h;have rec' :vN md done l (n+1)=some i->∃o',(o::l)[i -n]? =some o' /\n<=i/\i<n+(o::l).length/\KR md done o'.after.toList=true:=λh=>by obtain⟨o',h1,h2,h3,h4⟩:=Gi h;refine⟨o',?_,o5,by simp;omega,h4⟩;rw[show i -n=(i -(n+1))+1 by omega];simpa using h1
  cases hm:Cf n done
  .simp only[hm,cond_false]at h;cases hr:KR md done o.after.toList
   .simp only[hr,cond_false]at h;exact rec' h
   .simp only[hr,cond_true,F8]at h;subst h;exact⟨o,D5,A7 _,D5,hr⟩
  .simp only[hm,cond_true]at h;exact rec' h
theorem QM:∀{n:Nat} {d:List Nat},a0N n d=true->∀i,i<n->i∈d
 |0,d,_,i,hi=>by omega|n+1,d,h,i,hi=>by
  unfold a0N at h;simp only[A8]at h;by_cases e:i=n
  .subst e;exact SA h.1
  .exact QM h.2 i o5
theorem DJ{md:Region.Mode}{ops:Array Oper} :∀(k:Nat) {done:List Nat} {rk:Nat->Nat},Xo md ops.toList k done=true->
  (∀x∈done,rk x<done.length)->(∀i∈done,∀o,ops[i]? =some o->∀e∈o.after.toList,Region.binds md e=true->e.on∈done/\e.on<ops.size/\rk e.on<rk i)->(∀x∈done,x<ops.size)->Ko md ops
 |0,done,rk,h,h1,h2,h3=>by have hall:=QM h;simp only[aI]at hall;exact⟨rk,λi o hi e he hb=>(h2 i (hall i (N8.1 hi).1) o hi e he hb).2⟩|k+1,done,rk,h,h1,h2,h3=>by
  unfold Xo at h;cases hf:vN md done ops.toList 0 with
  |none=>simp[hf]at h|some n=>
   simp only[hf]at h;obtain⟨o,e1,_,e2,e3⟩:=Gi hf;simp only[Nat.sub_zero,Y9,dH,aI]at e1 e2;by_cases hn:n∈done
   .refine DJ k (rk:=rk) h (λx hx=>?_) (λi hi o' ho' e he hb=>?_) (λx hx=>?_)
    .rcases C9.1 hx with rfl|hx
     .have:=h1 x hn;simp;omega
     .have:=h1 x hx;simp;omega
    .have hi' :i∈done:=by rcases C9.1 hi with rfl|hi;exact hn;exact hi
     obtain⟨g1,g2,g3⟩:=h2 i hi' o' ho' e he hb;exact⟨by simp[g1],g2,g3⟩
    .rcases C9.1 hx with rfl|hx
     .exact e2
     .exact h3 x hx
   .refine DJ k (rk:=λx=>if x=n then done.length else rk x) h (λx hx=>?_) (λi hi o' ho' e he hb=>?_) (λx hx=>?_)
    .show(if x=n then done.length else rk x)<_;rcases C9.1 hx with rfl|hx
     .simp
     .have:=h1 x hx;rw[if_neg (show ¬x=n from λe=>hn (by rw[←e];exact hx))];simp;omega
    .show _/\_/\(if e.on=n then done.length else rk e.on)<(if i=n then done.length else rk i);rcases C9.1 hi with rfl|hi
     .rw[e1]at ho';cases ho';have hd:=PM e3 e he hb;refine⟨by simp[hd],h3 _ hd,?_⟩;rw[if_neg (show ¬e.on=i from λe' =>hn (by rw[←e'];exact hd)),if_pos rfl];exact h1 _ hd
     .obtain⟨g1,g2,g3⟩:=h2 i hi o' ho' e he hb;refine⟨by simp[g1],g2,?_⟩;rw[if_neg (show ¬e.on=n from λe' =>hn (by rw[←e'];exact g1)),if_neg (show ¬i=n from λe' =>hn (by rw[←e'];exact hi))];exact g3
    .rcases C9.1 hx with rfl|hx
     .exact e2
     .exact h3 x hx
end Go.GP
namespace Go.GP
section
variable {X:Fx} {q:Nat} {ops:Array Oper} {S:Nat->Sm} {T:Nat->Tr} {m0:Mp} {ok0:Nat->Ty->Prop} {Q:Exit->Act->World->Prop}
theorem Rf(H:FxOk X){i:Nat}{o:Oper}(hi:ops[i]? =some o){S1 S2:Sm}{t:Tr}(he:(oQ X.E q ops.toList o).eval S1 ([],[])=some ((),S2,t)){m:Mp}{ok:Nat->Ty->Prop}{a:Act}{w:World}
  (R:Rel X (CB*q) (CB*q+CB) S1 m ok a w) {next:Act->World->Prop}
  (hn:∀m' ok' a' w',Rel X (CB*q) (CB*q+CB) S2 m' ok' a' w' ->(∀k l,m k=some l->m' k=some l)->(∀b t,ok b t->ok' b t)->next a' w'):wpOp X.P ops Q i next a w:=
 sV (a3w H R hi) he next Q hn
theorem PY(H:FxOk X)(hc:OY X.E q ops.toList ops.toList S T)
  (hQ:∀m' ok' a' w',Rel X (CB*q) (CB*q+CB) (S ops.size) m' ok' a' w' ->(∀k l,m0 k=some l->m' k=some l)->(∀b t,ok0 b t->ok' b t)->Q .normal a' w'):
  ∀(n k:Nat) {m:Mp} {ok:Nat->Ty->Prop} {a:Act} {w:World},k+n=ops.size->Rel X (CB*q) (CB*q+CB) (S k) m ok a w->(∀k l,m0 k=some l->m k=some l)->(∀b t,ok0 b t->ok b t)->wpOps X.P ops Q (List.range' k n) a w
 |0,k,m,ok,a,w,hk,R,hm,hok=>by have:k=ops.size:=o5;subst this;exact hQ m ok a w R hm hok
 |n+1,k,m,ok,a,w,hk,R,hm,hok=>by rw[mZ,wpOps_cons];have hi:ops[k]? =some (ops[k]'o5):=O8 _;refine Rf H hi (hc k _ (by rw[Y9];exact hi)) R λm' ok' a' w' R' k1 k2=>?_;exact PY H hc hQ n (k+1) o5 R' (λk l h=>k1 k l (hm k l h)) (λb t h=>k2 b t (hok b t h))
theorem a2q(H:FxOk X){md:Region.Mode}(hc:OY X.E q ops.toList ops.toList S T){M:Nat->Nat}
  {ex:Nat->Nat->Prop} (hpair:∀i j,i<j->j<ops.size->a0L (λi j=>Nat.testBit (M j) i=true) ex T i j)
  (hex:∀i j,i<j->j<ops.size->ex i j->∃S',(oQ X.E q ops.toList (ops.getD i default)).eval (S (j+1)) ([],[])=some ((),S',T i)/\∀k∈(T i).2,S' k=S (i+1) k)
  (hM:∀i o,ops[i]? =some o->∀j,Nat.testBit (M i) j=true->∃e∈o.after.toList,sD e/\(j=e.on\/Nat.testBit (M e.on) j=true)) (hrk:Ko md ops)
  (hQ:∀m' ok' a' w',Rel X (CB*q) (CB*q+CB) (S ops.size) m' ok' a' w' ->(∀k l,m0 k=some l->m' k=some l)->(∀b t,ok0 b t->ok' b t)->Q .normal a' w'):
  ∀(fQ:Nat) {D:List Nat} {yK:Array Bool} {m:Mp} {ok:Nat->Ty->Prop} {a:Act} {w:World},fQ+D.length=ops.size->D.Nodup->(∀j∈D,j<ops.size)->yK.size=ops.size->(∀i,i<ops.size->(yK.getD i false=true↔i∈D))->
   (∀j∈D,∀k,Nat.testBit (M j) k=true->k∈D)->Rel X (CB*q) (CB*q+CB) (SD S T D ops.size) m ok a w->(∀k l,m0 k=some l->m k=some l)->(∀b t,ok0 b t->ok b t)->
   wpAny X.P md ops Q fQ yK a w:=by
 have hs:∀i,i<ops.size->(oQ X.E q ops.toList (ops.getD i default)).eval (S i) ([],[])=some ((),S (i+1),T i):=λi hi=>by refine hc i _ ?_;simp[Array.getD,hi]
 obtain⟨rk,hrk⟩:=hrk;intro fQ;induction fQ with
 |zero=>
  intro D yK m ok a w hf hD hlt hsz hl hdown R hm hok;have hall:=a3d hD hlt o5;refine⟨?_,?_⟩
  .cases hr:Region.ready md ops yK with
   |nil=>rfl|cons x xs=>
    have hx:x∈Region.ready md ops yK:=by rw[hr];simp
    obtain⟨h1,o,ho,_⟩:=mem_ready.1 hx;have hxl:=(N8.1 ho).1;have:=(hl x hxl).2 (hall x hxl);rw[Y3]at h1 this;cases hg:yK[x]? with
    |none=>rw[hg]at this;cases this|some y=>rw[hg]at h1 this;simp only[Y2]at h1 this;rw[h1]at this;cases this
  .refine hQ m ok a w ?_ hm hok;rwa[a3M (c:=λi=>oQ X.E q ops.toList (ops.getD i default)) hs hall]at R
 |succ fQ ih=>
  intro D yK m ok a w hf hD hlt hsz hl hdown R hm hok;refine⟨λhr=>?_,λi hi=>?_⟩
  .have hall:∀n i,rk i<n->i<ops.size->i∈D:=by
    intro n;induction n with
    |zero=>intro i hi _;omega|succ n ihn=>
     intro i hi hil;refine ny λhni=>?_;have hin:i∈Region.ready md ops yK:=by
      refine mem_ready.2 ⟨?_,ops[i],O8 hil,λe he hb=>?_⟩
      .have h1:¬yK.getD i false=true:=λh=>hni ((hl i hil).1 h);rw[Y3]at h1 ⊢;rw[O8 o5]at h1 ⊢;simpa using h1
      .obtain⟨g1,g2⟩:=hrk i _ (O8 hil) e (by simpa using he) hb;exact(hl e.on g1).2 (ihn e.on o5 g1)
     rw[hr]at hin;cases hin
   refine hQ m ok a w ?_ hm hok;rwa[a3M (c:=λi=>oQ X.E q ops.toList (ops.getD i default)) hs (λi hi=>hall _ i (Nat.lt_succ_self _) hi)]at R
  .obtain⟨h1,o,ho,h2⟩:=mem_ready.1 hi;have hil:=(N8.1 ho).1;have hnD:i∉D:=λh=>by
    have:=(hl i hil).2 h;rw[Y3]at h1 this;rw[O8 o5]at h1 this;simp only[Y2]at h1 this;rw[h1]at this;cases this
   have hp:∀j,Nat.testBit (M i) j=true->j∈D:=λj hj=>by
    obtain⟨e,he,hpl,h3⟩:=hM i o ho j hj;have hlst:=h2 e (by simpa using he) (hpl.binds md);have hon:e.on<ops.size:=(hrk i o ho e he (hpl.binds md)).1;have honD:=(hl e.on hon).1 hlst;rcases h3 with rfl|h3
    .exact honD
    .exact hdown e.on honD j h3
   have hgd:ops.getD i default=o:=by rw[Y3,ho];rfl
   have hstep:=a3N (c:=λi=>oQ X.E q ops.toList (ops.getD i default)) (S:=S) (T:=T) (n:=ops.size) hs (ord:=λi j=>Nat.testBit (M j) i=true) (ex:=ex)
    hpair hex hil hnD hlt hp hdown
   simp only[hgd]at hstep;refine Rf H ho hstep R λm' ok' a' w' R' k1 k2=>?_;refine ih (D:=i::D) G5 (eG.2 ⟨hnD,hD⟩) (λj hj=>?_) (by simp[hsz]) (λj hj=>?_) (λj hj k hk=>?_) R' (λk l h=>k1 k l (hm k l h)) (λb t h=>k2 b t (hok b t h))
   .rcases C9.1 hj with rfl|hj
    .exact hil
    .exact hlt j hj
   .by_cases e:i=j
    .subst e;simp[Array.getD,hsz,hil]
    .rw[getD_set_ne false e,hl j hj];simp[Ne.symm e]
   .rcases C9.1 hj with rfl|hj
    .exact P7 _ (hp k hk)
    .exact P7 _ (hdown j hj k hk)
theorem PQ(H:FxOk X){s s' :St}(h0:S 0=fC s)(h1:S ops.size=fC s')(hc:OY X.E q ops.toList ops.toList S T){draw:Bool}{ex:Nat->Nat->Prop}
  (hex:∀i j,i<j->j<ops.size->ex i j->∃S',(oQ X.E q ops.toList (ops.getD i default)).eval (S (j+1)) ([],[])=some ((),S',T i)/\∀k∈(T i).2,S' k=S (i+1) k)
  (hdraw:draw=true->∃M:Nat->Nat,WI ops.toList 0 []=some ((List.range ops.size).map M).reverse/\(∀i j,i<j->j<ops.size->a0L (λi j=>Nat.testBit (M j) i=true) ex T i j)/\
   (bif CG ops.toList then true else Xo .text ops.toList ops.toList.length []&&Xo .gc ops.toList ops.toList.length [])=true):
  (∀k,(∀x∈((List.range ops.size).map T).reverse,k∉x.2)->fC s' k=fC s k)/\
   ∀{m:Mp} {ok:Nat->Ty->Prop} {a:Act} {w:World} {id:Nat} {Q:Exit->Act->World->Prop},Rel X (CB*q) (CB*q+CB) (fC s) m ok a w->
    (∀m' ok' a' w',Rel X (CB*q) (CB*q+CB) (fC s') m' ok' a' w' ->(∀k l,m k=some l->m' k=some l)->(∀b t,ok b t->ok' b t)->Q .normal a' w')->(Code.region id ops draw).wp X.P Q a w:=by
 have hfr:∀k,(∀x∈((List.range ops.size).map T).reverse,k∉x.2)->fC s' k=fC s k:=λk hk=>by
  have:∀n,n<=ops.size->S n k=S 0 k:=by
   intro n;induction n with
   |zero=>intro _;rfl|succ n ih=>intro hn;have hi:ops[n]? =some (ops[n]'o5):=O8 _;rw[EW (hc n (ops[n]'o5) (by rw[Y9];exact hi)) k (hk (T n) (by simp;exact⟨n,o5,rfl⟩)),ih o5]
  rw[←h1,←h0];exact this ops.size (A7 _)
 cases draw with
 |false=>refine⟨hfr,λ{m ok a w id Q} R hQ=>wp_region ?_⟩;rw[List.range_eq_range'];rw[←h0]at R;refine PY H hc (m0:=m) (ok0:=ok) (by rw[h1];exact hQ) ops.size 0 o5 R (λ_ _ h=>h) (λ_ _ h=>h)|true=>
  obtain⟨M0,hp,hpair,hd⟩:=hdraw rfl;obtain⟨M,hMM,_,hM⟩:=Jj (M:=λ_=>0) ops.toList (n:=0) hp;simp only[dH,aI]at hd hM hMM;have hMM:∀k,k<ops.size->M0 k=M k:=λk hk=>by have e1:=DX (M:=M0) hk;rw[hMM,DX hk]at e1;exact e1.symm
  have hM:∀i o,ops[i]? =some o->(∀e∈o.after.toList,sD e->e.on<i)/\∀j,Nat.testBit (M0 i) j=true->∃e∈o.after.toList,sD e/\(j=e.on\/Nat.testBit (M0 e.on) j=true):=λi o ho=>by have hil:=(N8.1 ho).1;obtain⟨g1,g2⟩:=hM i o (by simpa using ho);refine⟨g1,λj hj=>?_⟩;rw[hMM i hil]at hj;obtain⟨e,he,hpl,h3⟩:=g2 j hj;exact⟨e,he,hpl,by rw[hMM e.on (by have:=g1 e he hpl;omega)];exact h3⟩
  have hidr:∀md,(∀(i:Nat) (o:Oper),ops[i]? =some o->∀e∈o.after.toList,Region.binds md e=true->sD e)->Ko md ops:=λmd hpl=>by refine⟨λi=>i,λi o ho e he hb=>?_⟩;have hil:=(N8.1 ho).1;have:=(hM i o ho).1 e he (hpl i o ho e he hb);exact⟨o5,this⟩
  have hany:Ko .any ops:=hidr .any λi o ho e he hb=>a2r hb;have hboth:Ko .text ops/\Ko .gc ops:=by
   cases hpo:CG ops.toList
   .simp only[hpo,cond_false,A8]at hd;exact⟨DJ (rk:=λ_=>0) _ hd.1 D5 D5 D5,DJ (rk:=λ_=>0) _ hd.2 D5 D5 D5⟩
   .have hpl:∀(i:Nat) (o:Oper),ops[i]? =some o->∀e∈o.after.toList,sD e:=λi o ho e he=>JO hpo o (by simpa using Array.mem_of_getElem? ho) e he;exact⟨hidr _ λi o ho e he _=>hpl i o ho e he,hidr _ λi o ho e he _=>hpl i o ho e he⟩
  refine⟨hfr,λ{m ok a w id Q} R hQ=>wp_region_draw λt=>?_⟩;have R' :Rel X (CB*q) (CB*q+CB) (SD S T [] ops.size) m ok a { w with drawn:=w.drawn+1 }:=by rw[b0y,h0];exact R.same rfl rfl rfl rfl
  have main:∀md,Ko md ops->∀t,wpOps X.P ops Q (Region.linearise md ops t) a { w with drawn:=w.drawn+1 }:=λmd hr t=>by unfold Region.linearise;refine wpAny_sound ops.size t _ a _ ?_;refine a2q H hc hpair hex (λi o ho=>(hM i o ho).2) hr (m0:=m) (ok0:=ok) (by rw[h1];exact hQ) ops.size (D:=[]) D5 dY D5 D5 (λi hi=>?_) D5 R' (λ_ _ h=>h) (λ_ _ h=>h);simp[Array.getD,hi]
  unfold Region.schedule;split
  .exact main _ hany t
  .split
   .exact main _ hboth.1 _
   .exact main _ hboth.2 _
theorem WN(H:FxOk X){R:Type}{s:St}{wr:Rgs}{K:St->Rgs->Option R}{r:R}{draw:Bool}(h:WM X.E q ops draw s wr K=some r):
  ∃s' w',K s' w' =some r/\(∃t:Trs,w' =AV t wr/\∀k,(∀x∈t,k∉x.2)->fC s' k=fC s k)/\
   ∀{m:Mp} {ok:Nat->Ty->Prop} {a:Act} {w:World} {id:Nat} {Q:Exit->Act->World->Prop},Rel X (CB*q) (CB*q+CB) (fC s) m ok a w->
    (∀m' ok' a' w',Rel X (CB*q) (CB*q+CB) (fC s') m' ok' a' w' ->(∀k l,m k=some l->m' k=some l)->(∀b t,ok b t->ok' b t)->Q .normal a' w')->(Code.region id ops draw).wp X.P Q a w:=by
 unfold WM at h;have pick:∀(dr:Bool) (s' :St) (T:Nat->Tr),(bif draw then(bif dr then K s' (AV ((List.range ops.size).map T).reverse wr)else none)else K s' (AV ((List.range ops.size).map T).reverse wr))=some r->
   K s' (AV ((List.range ops.size).map T).reverse wr)=some r/\(draw=true->dr=true):=λdr s' T h=>by
  cases draw
  .exact⟨h,λh=>by cases h⟩
  .cases dr
   .cases h
   .exact⟨h,λ_=>rfl⟩
 split at h
 .obtain⟨s',S,T,h0,h1,hc,hk⟩:=PU _ h;simp only[aI,E5]at h1 hk;obtain⟨hk,hd⟩:=pick _ s' T hk;obtain⟨hfr,hwp⟩:=PQ H h0 h1 hc (draw:=draw) (ex:=λ_ _=>False) (λ_ _ _ _ h=>h.elim) λhdr=>by
   have hd:=hd hdr;unfold a4c at hd;cases hp:WI ops.toList 0 []with
   |none=>simp[hp]at hd|some ms=>
   simp only[hp]at hd;obtain⟨M,hms,_,_⟩:=Jj (M:=λ_=>0) ops.toList (n:=0) hp;simp only[dH,aI]at hms;subst hms;cases hod:SV ((List.range ops.size).map M).reverse ((List.range ops.size).map T).reverse
   .simp[hod]at hd
   simp only[hod,cond_true]at hd;exact⟨M,rfl,λi j hi hj=>(PG _ hod i j hi hj).imp id λh=>⟨h.1,.inl h.2⟩,hd⟩
  exact⟨s',_,hk,⟨_,rfl,hfr⟩,hwp⟩
 .obtain⟨s',S,T,h0,h1,hc,hk,_,h5⟩:=Nh _ h;simp only[aI,E5]at h1 hk;obtain⟨hk,hd⟩:=pick _ s' T hk;obtain⟨hfr,hwp⟩:=PQ H h0 h1 hc (draw:=draw) (ex:=λi j=>VQ ops.toList j=true/\a4k X.E ops.toList i=true) (λi j hij hj ⟨e1,e2⟩=>by
   have hi:ops[i]? =some (ops[i]'o5):=O8 _;have hj' :ops[j]? =some (ops[j]'o5):=O8 _;unfold VQ at e1;unfold a4k at e2;rw[Y9,hj']at e1;rw[Y9,hi]at e2;obtain⟨d,hd,d',S',g1,g2,g3,g4⟩:=h5 i j _ _ hij (by rw[Y9];exact hi) (by rw[Y9];exact hj') e2 e1;rw[hd]at g1;cases g1;have hgd:ops.getD i default=ops[i]'o5:=by rw[Y3,hi];rfl
   refine⟨S',by rw[hgd];exact g3,λk hk=>?_⟩;rw[g2]at hk;simp only[C9,bQ,or_false]at hk;subst hk;exact g4) λhdr=>by
   have hd:=hd hdr;unfold a1a at hd;cases hp:WI ops.toList 0 []with
   |none=>simp[hp]at hd|some ms=>
   simp only[hp]at hd;obtain⟨M,hms,_,_⟩:=Jj (M:=λ_=>0) ops.toList (n:=0) hp;simp only[dH,aI]at hms;subst hms;cases hod:MC X.E ops.toList ((List.range ops.size).map M).reverse ((List.range ops.size).map T).reverse
   .simp[hod]at hd
   simp only[hod,cond_true]at hd;exact⟨M,rfl,MF _ hod,hd⟩
  exact⟨s',_,hk,⟨_,rfl,hfr⟩,hwp⟩
end
end Go.GP
namespace Go.GP
def Wr(w:Rgs)(k:Nat):Prop:=∃p∈w,p.1<=k/\k<p.2
theorem ZG{k:Nat} :¬Wr [] k:=λ⟨p,h,_⟩=>by cases h
theorem IY{p:Nat×Nat}{w:Rgs}{k:Nat} :Wr (p::w) k↔(p.1<=k/\k<p.2)\/Wr w k:=by
 constructor
 .rintro⟨x,h,h1⟩;rcases C9.1 h with rfl|h
  .exact .inl h1
  .exact .inr ⟨x,h,h1⟩
 .rintro(h|⟨x,h,h1⟩)
  .exact⟨p,D5,h⟩
  .exact⟨x,by simp[h],h1⟩
theorem GM{w:Rgs}{k:Nat} :∀{ks:List Nat},Wr (LP ks w) k↔k∈ks\/Wr w k
 |[]=>by simp[LP]|x::ks=>by
  unfold LP;rw[IY,GM];simp only[C9];constructor
  .rintro(⟨h1,h2⟩|h|h)
   .exact .inl (.inl o5)
   .exact .inl (.inr h)
   .exact .inr h
  .rintro((rfl|h)|h)
   .simp
   .exact .inr (.inl h)
   .exact .inr (.inr h)
theorem VN{b:Rgs}{k:Nat} :∀{a:Rgs},Wr (QO a b) k↔Wr a k\/Wr b k
 |[]=>by simp[QO,ZG]|x::a=>by unfold QO;rw[IY,IY,VN,or_assoc]
theorem NE{w:Rgs}{k:Nat} :∀{t:Trs},Wr (AV t w) k↔(∃x∈t,k∈x.2)\/Wr w k
 |[]=>by simp[AV]|x::t=>by unfold AV;rw[GM,NE,←or_assoc];simp
theorem Vf{lo hi:Nat} :∀{rs:Rgs},a2L lo hi rs=true->∃p∈rs,p.1<=lo/\hi<=p.2
 |[],h=>by simp[a2L]at h|(a,b)::r,h=>by
  unfold a2L at h;cases hb:(Nat.ble a lo&&Nat.ble hi b)
  .simp only[hb,cond_false]at h;obtain⟨p,h1,h2⟩:=Vf h;exact⟨p,by simp[h1],h2⟩
  .simp only[A8]at hb;exact⟨(a,b),D5,V8 hb.1,V8 hb.2⟩
theorem Pg{lim:Nat}{rs:Rgs} :∀{w:Rgs},Rk lim rs w=true->∀k,Wr w k->lim<=k\/Wr rs k
 |[],_,k,h=>absurd h ZG|(a,b)::w,h,k,hk=>by
  unfold Rk at h;cases hc:(Nat.ble lim a || a2L a b rs)
  .simp[hc]at h
  .simp only[hc,cond_true]at h;rcases IY.1 hk with⟨h1,h2⟩|hk
   .simp only[ou]at hc;rcases hc with hc|hc
    .have:=V8 hc;exact .inl (by simp only at h1;omega)
    .obtain⟨p,h3,h4,h5⟩:=Vf hc;exact .inr ⟨p,h3,by simp only at h1;omega,by simp only at h2;omega⟩
   .exact Pg h k hk
theorem Oi{s:St}{k:Nat} :∀{rs:Rgs},¬Wr rs k->fC (Ce rs s) k=fC s k
 |[],_=>rfl|(a,b)::r,h=>by
  rw[IY,not_or]at h;show(bif Nat.ble a k&&Nat.blt k b then V.undef else fC (Ce r s) k)=fC s k;cases hb:(Nat.ble a k&&Nat.blt k b)
  .simp only[cond_false];exact Oi h.2
  .simp only[A8]at hb;exact absurd ⟨V8 hb.1,EM hb.2⟩ h.1
theorem Yo{s:St}{k:Nat} :∀{rs:Rgs},Wr rs k->fC (Ce rs s) k= .undef
 |[],h=>absurd h ZG|(a,b)::r,h=>by
  show(bif Nat.ble a k&&Nat.blt k b then V.undef else fC (Ce r s) k)=V.undef;cases hb:(Nat.ble a k&&Nat.blt k b)
  .simp only[cond_false];rcases IY.1 h with⟨h1,h2⟩|h
   .simp only at h1 h2;have e1:Nat.ble a k=true:=Nat.ble_eq_true_of_le h1;have e2:Nat.blt k b=true:=by rw[cZ];exact h2
    simp[e1,e2]at hb
   .exact Yo h
  .simp
variable {h0:Array Obj}{h1:Array Obj}{ok0:Nat->Ty->Prop}{ok1:Nat->Ty->Prop}{m:Mp}{m1:Mp}{m2:Mp}
theorem TC(hm:∀k l,m k=some l->m2 k=m1 k):∀{c:V} {v0 v1:Value} (a:uM ⟨h0,ok0,m⟩ c v0) (b:uM ⟨h1,ok1,m1⟩ c v1),uM ⟨h1,ok1,m2⟩ c v1:=by
 intro c;induction c using V.rec (motive_2:=λ_=>True)<;>try trivial
 all_goals
  intro v0 v1 a b;simp only[uM]at a b ⊢
  try exact b
 case own bx vw=>obtain⟨l0,e0,_⟩:=a;obtain⟨l,e,hv⟩:=b;exact⟨l,by rw[hm _ _ e0];exact e,hv⟩
 case ptr bx o=>obtain⟨l0,e0,_⟩:=a;obtain⟨l,e,hv⟩:=b;exact⟨l,by rw[hm _ _ e0];exact e,hv⟩
 case ep bx ix o=>obtain⟨_,_,_,_,_,e0,_⟩:=a;obtain⟨x1,x2,x3,x4,x5,e,hv⟩:=b;exact⟨x1,x2,x3,x4,x5,by rw[hm _ _ e0];exact e,hv⟩
 case ifc t c ih=>obtain⟨u0,_,_,a⟩:=a;obtain⟨u,e,h,b⟩:=b;exact⟨u,e,h,ih a b⟩
theorem TE{h0 h1:Array Obj}{ok0 ok1:Nat->Ty->Prop}{m m1 m2:Mp}(hm:∀k l,m k=some l->m2 k=m1 k):∀{cs:List V} {v0 v1:List Value},gu ⟨h0,ok0,m⟩ cs v0->gu ⟨h1,ok1,m1⟩ cs v1->gu ⟨h1,ok1,m2⟩ cs v1
 |[],_,_,_,b=>b|_::_,_,_,⟨_,_,_,a1,_,a3⟩,⟨v,r,e,b1,b2,b3⟩=>⟨v,r,e,TC hm a1 b1,b2,TE hm a3 b3⟩
variable {c:V}
theorem YJ(hm:∀k l,m k=some l->m2 k=m1 k){v0 v1:Value}(a:TA ⟨h0,ok0,m⟩ c v0)(b:TA ⟨h1,ok1,m1⟩ c v1):TA ⟨h1,ok1,m2⟩ c v1:=by
 cases c<;>simp only[TA]at a b ⊢<;>try exact TC hm a b
 case agg cs=>obtain⟨_,_,a⟩:=a;obtain⟨arr,e,b⟩:=b;exact⟨arr,e,TE hm a b⟩
theorem YM{h0 h1:Array Obj}{ok0 ok1:Nat->Ty->Prop}{m m1 m2:Mp}(hm:∀k l,m k=some l->m2 k=m1 k):∀{cs:List V} {v0 v1:List Value},WQ ⟨h0,ok0,m⟩ cs v0->WQ ⟨h1,ok1,m1⟩ cs v1->WQ ⟨h1,ok1,m2⟩ cs v1
 |[],_,_,_,b=>b|_::_,_,_,⟨_,_,_,a1,a3⟩,⟨v,r,e,b1,b3⟩=>⟨v,r,e,YJ hm a1 b1,YM hm a3 b3⟩
theorem a5X(hm:∀k l,m k=some l->m2 k=m1 k){v0 v1:Value}(a:lu ⟨h0,ok0,m⟩ c v0)(b:lu ⟨h1,ok1,m1⟩ c v1):lu ⟨h1,ok1,m2⟩ c v1:=by
 cases c<;>simp only[lu]at a b ⊢<;>try exact YJ hm a b
 case tup cs=>obtain⟨_,_,a⟩:=a;obtain⟨arr,e,b⟩:=b;exact⟨arr,e,YM hm a b⟩
theorem r_(hm:∀k l,m k=some l->m2 k=m1 k){sz:Nat}{l0 l1:Loc}{hole:Option (Nat×Nat×Option Nat)}(a:RU ⟨h0,ok0,m⟩ sz l0 hole)(b:RU ⟨h1,ok1,m1⟩ sz l1 hole):RU ⟨h1,ok1,m2⟩ sz l1 hole:=by
 obtain _|⟨i,o,_|n⟩:=hole
 .trivial
 .trivial
 .obtain⟨_,_,_,_,_,l',_,_,e,_⟩:=a;obtain⟨b1,b2,b3,b4,b5,l2,c1,c2,c3,c4⟩:=b;exact⟨b1,b2,b3,b4,b5,l2,c1,c2,by rw[hm _ _ e];exact c3,c4⟩
theorem a5W(hm:∀k l,m k=some l->m2 k=m1 k)(hk:m2.kid=m1.kid)(km:∀k l,m k=some l->m1 k=some l){n:Nat}(a:CP ⟨h0,ok0,m⟩ n c)(b:∀l,m n=some l->CP ⟨h1,ok1,m1⟩ n c):CP ⟨h1,ok1,m2⟩ n c:=by
 cases c<;>simp only[CP]at a b ⊢
 case bcells cs=>obtain⟨_,_,_,e0,_,a⟩:=a;obtain⟨blk,arr,T,e,hh,b⟩:=b _ e0;exact⟨blk,arr,T,by rw[hm _ _ e0];exact e,hh,TE hm a b⟩
 case barr t xs=>obtain⟨_,e0,_⟩:=a;obtain⟨l,e,b⟩:=b _ e0;exact⟨l,by rw[hm _ _ e0];exact e,pq (λ_ _ h=>h) (λ_ _ _=>rfl) (λ_ _=>rfl) b⟩
 case bfrz t xs=>obtain⟨_,e0,_⟩:=a;obtain⟨l,e,b,hb⟩:=b _ e0;exact⟨l,by rw[hm _ _ e0];exact e,pq (λ_ _ h=>h) (λ_ _ _=>rfl) (λ_ _=>rfl) b,hb⟩
 case barrs md xs hole=>obtain⟨he,_,_,e0,⟨_,ha⟩,_⟩:=a;obtain⟨_,l,Os,e,⟨b,hl⟩,hb⟩:=b _ e0;exact⟨he,l,Os,by rw[hm _ _ e0];exact e,⟨b,r_ hm ha hl⟩,by rw[hk];exact hb⟩
 case bfc t x=>obtain⟨_,_,e0,_⟩:=a;obtain⟨blk,es,e,b⟩:=b _ e0;exact⟨blk,es,by rw[hm _ _ e0];exact e,b⟩
 case gone t=>obtain⟨_,e0,_⟩:=a;obtain⟨l,e,b⟩:=b _ e0;exact⟨l,by rw[hm _ _ e0];exact e,b⟩
 case biter l p=>obtain⟨_,_,_,e0,_⟩:=a;obtain⟨blk,s,q,e,hh,b⟩:=b _ e0;exact⟨blk,s,q,by rw[hm _ _ e0];exact e,hh,b⟩
 case bsb tb c=>obtain⟨_,_,_,e0,_,_,a⟩:=a;obtain⟨blk,a1,v1,e,hh,hs,b⟩:=b _ e0;exact⟨blk,a1,v1,by rw[hm _ _ e0];exact e,hh,hs,TC hm a b⟩
 case brow te xs=>obtain⟨_,e0,_⟩:=a;obtain⟨l,e,b⟩:=b _ e0;exact⟨l,by rw[hm _ _ e0];exact e,b⟩
 case blen ln sz=>obtain⟨k,l,e,e0,h⟩:=a;exact⟨k,l,e,by rw[hm _ _ e0];exact km _ _ e0,h⟩
def cut(m:Mp)(N:Nat):Mp:=⟨λn=>if n<N then m n else none,m.kid⟩
section
variable {X:Fx} {cl ch N:Nat} {S S1 S2:Sm} {m m1:Mp} {ok ok1:Nat->Ty->Prop} {a a1:Act} {w w1:World}
theorem Rel.climb(R:Rel X cl ch S m ok a w){cl' :Nat}(h:cl<=cl'):Rel X cl' ch S m ok a w:={ R with fresh:=λn h1 h2=>R.fresh n o5 h2 }
theorem Rel.rebase(R0:Rel X cl N S m ok a w){cl1 ch1:Nat}(R1:Rel X cl1 ch1 S1 m1 ok1 a1 w1)(km:∀k l,m k=some l->m1 k=some l)
  (hS:∀k,S2 k= .undef\/(S2 k=S k/\(k<Z5+N->S1 k=S k))):
  Rel X N N S2 (cut m1 N) ok1 a1 w1/\(∀T,Tk X S1 m1 ok1 w1 T->Tk X S2 (cut m1 N) ok1 w1 T)/\(∀k l,m k=some l->cut m1 N k=some l):=by
 have hdom:∀k l,m k=some l->k<N:=λk l h=>by
  rcases oM k N with h1|h1
  .exact h1
  .rw[R0.strict k h1]at h;cases h
 have hagree:∀k l,m k=some l->cut m1 N k=m1 k:=λk l h=>by simp[cut,hdom k l h]
 have hown:∀n,U7 (cut m1 N) n (S2 (Z5+n))=U7 m1 n (S1 (Z5+n))\/U7 (cut m1 N) n (S2 (Z5+n))=[]:=λn=>by
  rcases hS (Z5+n)with h1|⟨h1,h2⟩
  .right;rw[h1];rfl
  .rcases oM n N with hn|hn
   .left;rw[h2 o5,←h1];exact FB (by simp[cut,hn]) rfl
   .right;have hc:m n=none:=R0.strict n hn;have hb:=R0.box n;rw[h1];cases hv:S (Z5+n)<;>rw[hv]at hb<;>try rfl
    case bcells=>obtain⟨_,_,_,e,_⟩:=hb;simp only at e;rw[hc]at e;cases e
    case barr=>obtain⟨_,e,_⟩:=hb;simp only at e;rw[hc]at e;cases e
    case barrs=>obtain⟨_,_,_,e,_⟩:=hb;simp only at e;rw[hc]at e;cases e
    case biter=>obtain⟨_,_,_,e,_⟩:=hb;simp only at e;rw[hc]at e;cases e
    case bsb=>obtain⟨_,_,_,e,_⟩:=hb;simp only at e;rw[hc]at e;cases e
    case brow=>obtain⟨_,e,_⟩:=hb;simp only at e;rw[hc]at e;cases e
 have hownM:∀n b,b∈U7 (cut m1 N) n (S2 (Z5+n))->b∈U7 m1 n (S1 (Z5+n)):=λn b h=>by
  rcases hown n with e|e
  .rw[←e];exact h
  .rw[e]at h;cases h
 refine⟨{ kept:=R1.kept,size:=R1.size,nodef:=R1.nodef,okLt:=R1.okLt,okIn:=R1.okIn,okOut:=R1.okOut,frame:=R1.frame,gl:=R1.gl,slot:=λn hn=>?_,box:=λn=>?_,inj:=λn n' b h h' =>R1.inj n n' b (hownM n b h) (hownM n' b h'),nd:=λn=>(hown n).elim (λe=>by rw[e];exact R1.nd n) (λe=>by rw[e];exact dY),sep:=λn b h=>R1.sep n b (hownM n b h),fresh:=λn h1 _=>?_,strict:=λn h=>?_ },λT hT=>⟨hT.nodup,λb hb=>?_⟩,λk l h=>by rw[hagree k l h];exact km k l h⟩
 .rcases hS n with h1|⟨h1,h2⟩
  .rw[h1];trivial
  .rw[h1];refine a5X hagree (R0.slot n hn) ?_;rw[←h2 o5];exact R1.slot n hn
 .rcases hS (Z5+n)with h1|⟨h1,h2⟩
  .rw[h1];trivial
  .rw[h1];refine a5W hagree rfl km (R0.box n) λl hl=>?_;rw[←h2 (by have:=hdom n l hl;omega)];exact R1.box n
 .simp[cut];omega
 .simp[cut];omega
 .obtain⟨f1,f2,f3,f4⟩:=hT.free b hb;exact⟨f1,f2,f3,λn e=>f4 n (hownM n b e)⟩
theorem jX{R:Type}{q:Nat}{sg:Sig}{rs:Rgs}{s:St}{wr:Rgs}{K:qI sg->Option R}{r:R}(h:JJ q sg rs s wr K=some r):
  ∃x,K x=some r/\∀{s0:St} {cl cl1 ch1:Nat} {m m1:Mp} {ok ok1:Nat->Ty->Prop} {a a1:Act} {w w1:World},Rel X cl (CB*q) (fC s0) m ok a w->Rel X cl1 ch1 (fC s) m1 ok1 a1 w1->(∀k l,m k=some l->m1 k=some l)->
   (∀k,¬Wr wr k->fC s k=fC s0 k)->∃m2 ok2 O,Rel X (CB*q) (CB*q) (fC (Ce rs s0)) m2 ok2 a1 w1/\Tk X (fC (Ce rs s0)) m2 ok2 w1 O/\
    ZF w1.heap ok2 sg x a1.tmps O/\(∀k l,m k=some l->m2 k=some l):=by
 unfold JJ at h;obtain⟨x,s1,tr,he,hk⟩:=qo h;cases hc:Rk (Z5+CB*q) rs (LP tr.2 wr)
 .simp[hc]at hk
 simp only[hc,cond_true]at hk;refine⟨x,hk,λ{s0 cl cl1 ch1 m m1 ok ok1 a a1 w w1} R0 R1 km hun=>?_⟩;have key:=sV (j_ R1 (Q:=λy S' =>∃ok' O,Rel X cl1 ch1 S' m1 ok' a1 w1/\Tk X S' m1 ok' w1 O/\ZF w1.heap ok' sg y a1.tmps O)
  λS' ok' y O R' T' _ _ hr=>⟨ok',O,R',T',hr⟩) he
 obtain⟨ok',O,R',T',hr⟩:=key;have hcov:=Pg hc;obtain⟨R2,hT2,hm2⟩:=R0.rebase (S2:=fC (Ce rs s0)) R' km (λk=>by
  by_cases hw:Wr rs k
  .exact .inl (Yo hw)
  .refine .inr ⟨Oi hw,λhlt=>?_⟩;have hnw:¬Wr (LP tr.2 wr) k:=λh=>by
    rcases hcov k h with h1|h1
    .omega
    .exact hw h1
   rw[GM,not_or]at hnw;rw[EW he k hnw.1];exact hun k hnw.2)
 exact⟨_,ok',O,R2,hT2 O T',hr,hm2⟩
theorem qW{R:Type}{q:Nat}{sg:Sig}{rs:Rgs}{s:St}{x:qI sg}{K:St->Rgs->Option R}{r:R}(h:enter q sg rs s x K=some r):
  ∃s' w',K s' w' =some r/\(∀k,Wr rs k->Wr w' k)/\(∀k,¬Wr w' k->fC s' k=fC s k)/\
   ∀{N:Nat} {m:Mp} {ok:Nat->Ty->Prop} {a:Act} {w:World} {O:List Nat},N<=CB*q->Rel X N N (fC (Ce rs s)) m ok a w->Tk X (fC (Ce rs s)) m ok w O->
    ZF w.heap ok sg x a.tmps O->
    ∃m',Rel X (CB*(q+1)) (CB*(q+1)) (fC s') m' ok a w/\(∀k l,m k=some l->m' k=some l):=by
 unfold enter at h;obtain⟨u,s',tr,he,hk⟩:=qo h;refine⟨s',_,hk,λk hk=>GM.2 (.inr hk),λk hk=>?_,λ{N m ok a w O} hN R1 T1 hr=>?_⟩
 .rw[GM,not_or]at hk;rw[EW he k hk.1,Oi hk.2]
 .have key:=sV (b_ (x:=x) (nb:=CB*q) (lim:=CB*q+CB) (Q:=λ_ S' =>∃m',Rel X N (max N (CB*q+CB)) S' m' ok a w/\(∀k l,m k=some l->m' k=some l)) R1 hN T1 hr
   λS' m' R' k=>⟨m',R',k⟩) he
  obtain⟨m',R',k⟩:=key;have e:CB*(q+1)=CB*q+CB:=by rw[Nat.mul_add,dG]
  rw[e];generalize CB*q=Z at*;exact⟨m',(R'.climb o5).chmono o5,k⟩
end
end Go.GP
namespace Go.GP
variable {q:Nat}{m:Mp}{a:Act}{w:World}{s:St}{wr:Rgs}{q':Nat}{n:Nat}
section
variable {X:Fx} {rt:Ret} {mE:Mp} {RetP:rt.den->Act->World->Prop}
def Lm(X:Fx)(q:Nat)(m:Mp)(s:St)(wr:Rgs)(s' :St)(w' :Rgs)(a:Act)(w:World):Prop:=
 ∃m' ok',Rel X (CB*q) (CB*q) (fC s') m' ok' a w/\(∀k l,m k=some l->m' k=some l)/\(∀k,Wr wr k->Wr w' k)/\(∀k,¬Wr w' k->fC s' k=fC s k)
def ZB(X:Fx)(RetP:rt.den->Act->World->Prop)(q:Nat)(m:Mp)(s:St)(wr:Rgs)(fl:Flow rt.den)(s' :St)(w' :Rgs)(e:Exit)(a:Act)(w:World):Prop:=
 match fl with
 | .nm=>e= .normal/\Lm X q m s wr s' w' a w| .ex id=>e= .exit id/\Lm X q m s wr s' w' a w| .rt x=>e= .ret/\RetP x a w
def a0K(X:Fx)(RetP:rt.den->Act->World->Prop)(q:Nat)(m:Mp)(s:St)(wr:Rgs){R:Type}(K:Flow rt.den->St->Rgs->Option R)(r:R)(e:Exit)(a:Act)(w:World):Prop:=
 ∃fl s' w',K fl s' w' =some r/\ZB X RetP q m s wr fl s' w' e a w
structure DOk (X:Fx) (mE:Mp) (RetP:rt.den->Act->World->Prop) (D:Den rt.den) (c:Code) (n:Nat):Prop where
 run:∀{q:Nat} {an:Ann} {s:St} {wr:Rgs} {R:Type} {K:Flow rt.den->St->Rgs->Option R} {r:R},D q an s wr R K=some r->
  ∀{m:Mp} {ok:Nat->Ty->Prop} {a:Act} {w:World},Rel X (CB*q) (CB*q) (fC s) m ok a w->(∀k l,mE k=some l->m k=some l)->
   c.wp X.P (a0K X RetP (q+n) m s wr K r) a w
def a3L(X:Fx)(rt:Ret)(mE:Mp)(RetP:rt.den->Act->World->Prop):Prop:=
 ∀{s:St} {R:Type} {K:rt.den->Option R} {r:R},(a9f X.E rt).runK s ([],[]) (λx _ _=>K x)=some r->
  ∃x,K x=some r/\∀{cl ch:Nat} {m:Mp} {ok:Nat->Ty->Prop} {a:Act} {w:World},Rel X cl ch (fC s) m ok a w->(∀k l,mE k=some l->m k=some l)->RetP x a w
theorem a0W{p q:Nat}(h:p<=q):CB*p<=CB*q:=Nat.mul_le_mul_left _ h
theorem Rel.upq{p q:Nat}{S:Sm}{ok:Nat->Ty->Prop}(R:Rel X (CB*p) (CB*p) S m ok a w)(h:p<=q):Rel X (CB*q) (CB*q) S m ok a w:=
 (R.climb (a0W h)).chmono (a0W h)
theorem Lm.here{ok:Nat->Ty->Prop}(R:Rel X (CB*q) (CB*q) (fC s) m ok a w)(h:q<=q'):Lm X q' m s wr s wr a w:=
 ⟨m,ok,R.upq h,λ_ _ h=>h,λ_ h=>h,λ_ _=>rfl⟩
theorem Lm.up{s s' :St}{wr w' :Rgs}(h:Lm X q m s wr s' w' a w)(hq:q<=q'):Lm X q' m s wr s' w' a w:=by obtain⟨m',ok',R,h1,h2,h3⟩:=h;exact⟨m',ok',R.upq hq,h1,h2,h3⟩
theorem Lm.trans{m m1:Mp}{s s1 s2:St}{wr w1 w2:Rgs}(k1:∀k l,m k=some l->m1 k=some l)(k2:∀k,Wr wr k->Wr w1 k)(k3:∀k,¬Wr w1 k->fC s1 k=fC s k)
  (h:Lm X q m1 s1 w1 s2 w2 a w) (hq:q<=q'):Lm X q' m s wr s2 w2 a w:=by
 obtain⟨m',ok',R,h1,h2,h3⟩:=h;exact⟨m',ok',R.upq hq,λk l h=>h1 k l (k1 k l h),λk h=>h2 k (k2 k h),λk h=>(h3 k h).trans (k3 k λh' =>h (h2 k h'))⟩
theorem ZB.up{s s' :St}{wr w' :Rgs}{fl:Flow rt.den}{e:Exit}(h:ZB X RetP q m s wr fl s' w' e a w)(hq:q<=q'):ZB X RetP q' m s wr fl s' w' e a w:=by
 cases fl with
 |nm=>exact⟨h.1,h.2.up hq⟩|ex id=>exact⟨h.1,h.2.up hq⟩|rt x=>exact h
theorem ZB.trans{m m1:Mp}{s s1 s2:St}{wr w1 w2:Rgs}{fl:Flow rt.den}{e:Exit}(k1:∀k l,m k=some l->m1 k=some l)(k2:∀k,Wr wr k->Wr w1 k)(k3:∀k,¬Wr w1 k->fC s1 k=fC s k)
  (h:ZB X RetP q m1 s1 w1 fl s2 w2 e a w) (hq:q<=q'):ZB X RetP q' m s wr fl s2 w2 e a w:=by
 cases fl with
 |nm=>exact⟨h.1,h.2.trans k1 k2 k3 hq⟩|ex id=>exact⟨h.1,h.2.trans k1 k2 k3 hq⟩|rt x=>exact h
theorem IZ(hq:q+1<=n){s s3:St}{wr w3:Rgs}{m m2:Mp}{ok2:Nat->Ty->Prop}
  (km:∀k l,m k=some l->m2 k=some l) (hout:∀k,¬Wr w3 k->fC s3 k=fC s k)
  (hR:∃m',Rel X (CB*(q+1)) (CB*(q+1)) (fC s3) m' ok2 a w/\(∀k l,m2 k=some l->m' k=some l)):Lm X n m s wr s3 (QO w3 wr) a w:=by
 obtain⟨m',R,k⟩:=hR;exact⟨m',ok2,R.upq hq,λk' l h=>k _ _ (km _ _ h),λk h=>VN.2 (.inr h),λk h=>hout k λh' =>h (VN.2 (.inl h'))⟩
theorem uB{core:Den rt.den}{c:Code}(hc:DOk X mE RetP core c n):DOk X mE RetP (GG core) c (n+1):=by
 refine⟨?_⟩;intro q an s wr R K r h m ok a w Rl hE;have plain:core (q+1) an s wr R K=some r->c.wp X.P (a0K X RetP (q+(n+1)) m s wr K r) a w:=λh=>by have:=hc.run h (Rl.upq (Nat.le_succ q)) hE;rwa[show q+1+n=q+(n+1) by omega]at this
 cases an
 case join rs nm an=>
  unfold GG at h;simp only at h;obtain⟨x,h1,h2⟩:=zD h;obtain⟨s3,w3,hk3,hrs,hout,hR⟩:=qW (X:=X) h2;refine wp_mono (hc.run h1 (Rl.upq (Nat.le_succ q)) hE) ?_;rintro e a' w' ⟨fl,s',wr',hk,hfl⟩;cases fl with
  |ex id=>cases hk|rt x=>cases hk|nm=>obtain⟨rfl,m',ok',R1,k1,k2,k3⟩:=hfl;obtain⟨x',hx,hL⟩:=jX (X:=X) hk;cases hx;obtain⟨m2,ok2,O,R2,T2,hr,km⟩:=hL Rl R1 k1 k3;exact⟨.nm,s3,_,hk3,rfl,IZ (q:=q) o5 km hout (hR (A7 _) R2 T2 hr)⟩
 case joinR rs nm an=>
  unfold GG at h;simp only at h;obtain⟨o,h1,h2⟩:=zD h;refine wp_mono (hc.run h1 (Rl.upq (Nat.le_succ q)) hE) ?_;rintro e a' w' ⟨fl,s',wr',hk,hfl⟩;cases fl with
  |ex id=>cases hk|rt x=>cases hk;exact⟨.rt x,_,_,h2,hfl⟩|nm=>obtain⟨rfl,m',ok',R1,k1,k2,k3⟩:=hfl;obtain⟨x',hx,hL⟩:=jX (X:=X) hk;cases hx;obtain⟨s3,w3,hk3,hrs,hout,hR⟩:=qW (X:=X) (show enter q nm rs s x' (λs' w' =>K .nm s' (QO w' wr))=some r from h2);obtain⟨m2,ok2,O,R2,T2,hr,km⟩:=hL Rl R1 k1 k3;exact⟨.nm,s3,_,hk3,rfl,IZ (q:=q) o5 km hout (hR (A7 _) R2 T2 hr)⟩
 all_goals exact plain h
theorem y_{core:Den rt.den}{c:Code}(hc:DOk X mE RetP core c n):DOk X mE RetP (Yl core) (.loop c) (2+n):=by
 refine⟨?_⟩;intro q an s wr R K r h m ok a w Rl hE;cases an
 case loop rs hd xid xs an=>
  unfold Yl at h;simp only at h;obtain⟨x0,hk0,hL0⟩:=jX (X:=X) h;obtain⟨m2,ok2,O,R2,T2,hr,km⟩:=hL0 Rl Rl (λ_ _ h=>h) (λ_ _=>rfl);obtain⟨y,hl,hen⟩:=zD hk0;clear hk0 h hL0;obtain⟨s3,w3,hk3,hrs,hout,hR⟩:=qW (X:=X) hen;refine wp_loop_rounds fQ ?_;unfold dD at hl;have key:∀(f:Nat) {x:qI hd} {m2:Mp} {ok2:Nat->Ty->Prop} {O:List Nat} {a:Act} {w:World},
    xN (λx=>a6c core q rs hd xid xs an s x) f x=some y->
    Rel X (CB*q) (CB*q) (fC (Ce rs s)) m2 ok2 a w->Tk X (fC (Ce rs s)) m2 ok2 w O->ZF w.heap ok2 hd x a.tmps O->(∀k l,m k=some l->m2 k=some l)->
    Code.rounds X.P c (a0K X RetP (q+(2+n)) m s wr K r) f a w:=by
   intro f;induction f with
   |zero=>intro x m2 ok2 O a w h;simp[xN]at h|succ f ih=>
    intro x m2 ok2 O a w h R2 T2 hr km;rw[rounds_succ];unfold xN at h;split at h
    .rename_i x' hf;obtain⟨s1,w1,hcore,_,hout1,hR1⟩:=qW (X:=X) (show enter q hd rs s x _=some _ from hf);obtain⟨m1,R1,km1⟩:=hR1 (A7 _) R2 T2 hr;refine wp_mono (hc.run hcore (R1.upq o5) (λk l h=>km1 _ _ (km _ _ (hE _ _ h)))) ?_;rintro e a' w' ⟨fl,s',wr',hk,hfl⟩;cases fl with
     |rt x=>cases hk|ex id=>
      simp only at hk;cases hb:Nat.beq id xid
      .simp[hb]at hk
      .simp only[hb,cond_true]at hk;obtain⟨y',hx,_⟩:=jX (X:=X) hk;cases hx
     |nm=>obtain⟨rfl,m',ok',R1',k1,k2,k3⟩:=hfl;obtain⟨y',hx,hL⟩:=jX (X:=X) hk;cases hx;obtain⟨m4,ok4,O4,R4,T4,hr4,km4⟩:=hL Rl R1' (λk l h=>k1 _ _ (km1 _ _ (km _ _ h))) (λk h=>(k3 k h).trans (hout1 k λh' =>h (k2 k h')));exact ih h R4 T4 hr4 km4
    .rename_i y' hf;cases h;obtain⟨s1,w1,hcore,_,hout1,hR1⟩:=qW (X:=X) (show enter q hd rs s x _=some _ from hf);obtain⟨m1,R1,km1⟩:=hR1 (A7 _) R2 T2 hr;refine wp_mono (hc.run hcore (R1.upq o5) (λk l h=>km1 _ _ (km _ _ (hE _ _ h)))) ?_;rintro e a' w' ⟨fl,s',wr',hk,hfl⟩;cases fl with
     |rt x=>cases hk|nm=>simp only at hk;obtain⟨y',hx,_⟩:=jX (X:=X) hk;cases hx
     |ex id=>
      simp only at hk;cases hb:Nat.beq id xid
      .simp[hb]at hk
      .simp only[hb,cond_true]at hk;have hid:=iH hb;subst hid;obtain⟨rfl,m',ok',R1',k1,k2,k3⟩:=hfl;obtain⟨y',hx,hL⟩:=jX (X:=X) hk;cases hx;obtain⟨m4,ok4,O4,R4,T4,hr4,km4⟩:=hL Rl R1' (λk l h=>k1 _ _ (km1 _ _ (km _ _ h))) (λk h=>(k3 k h).trans (hout1 k λh' =>h (k2 k h')));exact⟨.ex id,s3,_,hk3,rfl,IZ (q:=q+1) o5 km4 hout (hR (a0W (Nat.le_succ q)) R4 T4 hr4)⟩
    .cases h
  exact key fQ (x:=x0) hl R2 T2 hr km
 case loopR rs hd xid xs an=>
  unfold Yl at h;simp only at h;obtain⟨x0,hk0,hL0⟩:=jX (X:=X) h;obtain⟨m2,ok2,O,R2,T2,hr,km⟩:=hL0 Rl Rl (λ_ _ h=>h) (λ_ _=>rfl);obtain⟨y,hl,hen⟩:=zD hk0;clear hk0 h hL0;refine wp_loop_rounds fQ ?_;unfold S9 at hl;have key:∀(f:Nat) {x:qI hd} {m2:Mp} {ok2:Nat->Ty->Prop} {O:List Nat} {a:Act} {w:World},
    iT (λx=>a6d core q rs hd xid xs an s x) f x=some y->
    Rel X (CB*q) (CB*q) (fC (Ce rs s)) m2 ok2 a w->Tk X (fC (Ce rs s)) m2 ok2 w O->ZF w.heap ok2 hd x a.tmps O->(∀k l,m k=some l->m2 k=some l)->
    Code.rounds X.P c (a0K X RetP (q+(2+n)) m s wr K r) f a w:=by
   intro f;induction f with
   |zero=>intro x m2 ok2 O a w h;simp[iT]at h|succ f ih=>
    intro x m2 ok2 O a w h R2 T2 hr km;rw[rounds_succ];unfold iT at h;split at h
    .rename_i x' hf;obtain⟨s1,w1,hcore,_,hout1,hR1⟩:=qW (X:=X) (show enter q hd rs s x _=some _ from hf);obtain⟨m1,R1,km1⟩:=hR1 (A7 _) R2 T2 hr;refine wp_mono (hc.run hcore (R1.upq o5) (λk l h=>km1 _ _ (km _ _ (hE _ _ h)))) ?_;rintro e a' w' ⟨fl,s',wr',hk,hfl⟩;cases fl with
     |rt x=>cases hk|ex id=>
      simp only at hk;cases hb:Nat.beq id xid
      .simp[hb]at hk
      .simp only[hb,cond_true]at hk;obtain⟨y',hx,_⟩:=jX (X:=X) hk;cases hx
     |nm=>obtain⟨rfl,m',ok',R1',k1,k2,k3⟩:=hfl;obtain⟨y',hx,hL⟩:=jX (X:=X) hk;cases hx;obtain⟨m4,ok4,O4,R4,T4,hr4,km4⟩:=hL Rl R1' (λk l h=>k1 _ _ (km1 _ _ (km _ _ h))) (λk h=>(k3 k h).trans (hout1 k λh' =>h (k2 k h')));exact ih h R4 T4 hr4 km4
    .rename_i y' hf;cases h;obtain⟨s3,w3,hk3,hrs,hout,hR⟩:=qW (X:=X) (show enter (q+1) xs rs s y' (λs' w' =>K (.ex xid) s' (QO w' wr))=some r from hen);obtain⟨s1,w1,hcore,_,hout1,hR1⟩:=qW (X:=X) (show enter q hd rs s x _=some _ from hf);obtain⟨m1,R1,km1⟩:=hR1 (A7 _) R2 T2 hr;refine wp_mono (hc.run hcore (R1.upq o5) (λk l h=>km1 _ _ (km _ _ (hE _ _ h)))) ?_;rintro e a' w' ⟨fl,s',wr',hk,hfl⟩;cases fl with
     |rt x=>cases hk|nm=>simp only at hk;obtain⟨y',hx,_⟩:=jX (X:=X) hk;cases hx
     |ex id=>
      simp only at hk;cases hb:Nat.beq id xid
      .simp[hb]at hk
      .simp only[hb,cond_true]at hk;have hid:=iH hb;subst hid;obtain⟨rfl,m',ok',R1',k1,k2,k3⟩:=hfl;obtain⟨y',hx,hL⟩:=jX (X:=X) hk;cases hx;obtain⟨m4,ok4,O4,R4,T4,hr4,km4⟩:=hL Rl R1' (λk l h=>k1 _ _ (km1 _ _ (km _ _ h))) (λk h=>(k3 k h).trans (hout1 k λh' =>h (k2 k h')));exact⟨.ex id,s3,_,hk3,rfl,IZ (q:=q+1) o5 km4 hout (hR (a0W (Nat.le_succ q)) R4 T4 hr4)⟩
    .rename_i r' hf;cases h;obtain⟨s1,w1,hcore,_,hout1,hR1⟩:=qW (X:=X) (show enter q hd rs s x _=some _ from hf);obtain⟨m1,R1,km1⟩:=hR1 (A7 _) R2 T2 hr;refine wp_mono (hc.run hcore (R1.upq o5) (λk l h=>km1 _ _ (km _ _ (hE _ _ h)))) ?_;rintro e a' w' ⟨fl,s',wr',hk,hfl⟩;cases fl with
     |rt x=>cases hk;obtain⟨rfl,hp⟩:=hfl;exact⟨.rt r',[],[],hen,rfl,hp⟩
     |nm=>simp only at hk;obtain⟨y',hx,_⟩:=jX (X:=X) hk;cases hx
     |ex id=>
      simp only at hk;cases hb:Nat.beq id xid
      .simp[hb]at hk
      .simp only[hb,cond_true]at hk;obtain⟨y',hx,_⟩:=jX (X:=X) hk;cases hx
    .cases h
  exact key fQ (x:=x0) hl R2 T2 hr km
 all_goals (unfold Yl at h;cases h)
theorem zq(H:FxOk X)(hret:a3L X rt mE RetP):∀c:Code,DOk X mE RetP (den X.E rt c) c (xO c)
 | .skip=>uB (n:=0) ⟨λ{q an s wr R K r} h {m ok a w} Rl hE=>wp_skip ⟨.nm,s,wr,h,rfl,Lm.here Rl o5⟩⟩| .label l=>uB (n:=0) ⟨λ{q an s wr R K r} h {m ok a w} Rl hE=>wp_label ⟨.nm,s,wr,h,rfl,Lm.here Rl o5⟩⟩| .exit id=>uB (n:=0) ⟨λ{q an s wr R K r} h {m ok a w} Rl hE=>wp_exit ⟨.ex id,s,wr,h,rfl,Lm.here Rl o5⟩⟩| .ret=>uB (n:=0) ⟨λ{q an s wr R K r} h {m ok a w} Rl hE=>by obtain⟨x,hk,hp⟩:=hret (K:=λx=>K (.rt x) [] []) h;exact wp_ret ⟨.rt x,[],[],hk,rfl,hp Rl hE⟩⟩
 | .region id ops draw=>uB (n:=1) ⟨λ{q an s wr R K r} h {m ok a w} Rl hE=>by
  obtain⟨s',w',hk,⟨t,rfl,hfr⟩,hR⟩:=WN H h;refine hR (Rl.chmono (kE _ _)) λm' ok' a' w2 R' k1 k2=>⟨.nm,s',_,hk,rfl,m',ok',?_,k1,λk h=>NE.2 (.inr h),λk h=>hfr k λx hx hkx=>h (NE.2 (.inl ⟨x,hx,hkx⟩))⟩;have e:CB*(q+1)=CB*q+CB:=by rw[Nat.mul_add,dG]
  rw[e];exact R'.climb (kE _ _)⟩
 | .seq x y=>by
  have hx:=zq H hret x;have hy:=zq H hret y;have:=uB (X:=X) (mE:=mE) (RetP:=RetP) (c:=.seq x y) (n:=xO x+xO y) (core:=λq a s w R K=>den X.E rt x q a.l s w R λfl s' w' =>match fl with
   | .nm=>den X.E rt y (q+xO x) a.r s' w' R K| .ex id=>K (.ex id) s' w'
   | .rt r=>K (.rt r) s' w') (DOk.mk λ{q an s wr R K r} h {m ok a w} Rl hE=>by
    refine wp_seq (wp_mono (hx.run h Rl hE) ?_);rintro e a' w' ⟨fl,s',wr',hk,hfl⟩;cases fl with
    |nm=>obtain⟨rfl,m',ok',R1,k1,k2,k3⟩:=hfl;refine wp_mono (hy.run hk R1 (λk l h=>k1 _ _ (hE _ _ h))) ?_;rintro e a2 w2 ⟨fl,s2,wr2,hk2,hfl2⟩;exact⟨fl,s2,wr2,hk2,hfl2.trans k1 k2 k3 o5⟩
    |ex id=>obtain⟨rfl,hs⟩:=hfl;exact⟨.ex id,s',wr',hk,rfl,hs.up o5⟩
    |rt x=>obtain⟨rfl,hs⟩:=hfl;exact⟨.rt x,s',wr',hk,rfl,hs⟩)
  rw[show xO (.seq x y)=xO x+xO y+1 by simp only[xO];omega];exact this
 | .block id x=>by
  have hx:=zq H hret x;have:=uB (X:=X) (mE:=mE) (RetP:=RetP) (c:=.block id x) (n:=xO x) (core:=λq a s w R K=>den X.E rt x q a.l s w R λfl s' w' =>match fl with
   | .nm=>K .nm s' w'| .ex j=>bif Nat.beq j id then K .nm s' w' else K (.ex j) s' w'
   | .rt r=>K (.rt r) s' w') (DOk.mk λ{q an s wr R K r} h {m ok a w} Rl hE=>by
    refine wp_block (wp_mono (hx.run h Rl hE) ?_);rintro e a' w' ⟨fl,s',wr',hk,hfl⟩;cases fl with
    |nm=>obtain⟨rfl,hs⟩:=hfl;exact⟨.nm,s',wr',hk,rfl,hs⟩
    |ex j=>
     obtain⟨rfl,hs⟩:=hfl;simp only at hk;cases hb:Nat.beq j id
     .simp only[hb,cond_false]at hk;have hne:j≠id:=λe=>by subst e;simp at hb
      simp only[Exit.inBlock,hne,if_false];exact⟨.ex j,s',wr',hk,rfl,hs⟩
     .simp only[hb,cond_true]at hk;have:=iH hb;subst this;simp only[Exit.inBlock,if_true];exact⟨.nm,s',wr',hk,rfl,hs⟩
    |rt x=>obtain⟨rfl,hs⟩:=hfl;exact⟨.rt x,s',wr',hk,rfl,hs⟩)
  rw[show xO (.block id x)=xO x+1 by simp only[xO];omega];exact this
 | .cond c x y=>by
  have hx:=zq H hret x;have hy:=zq H hret y;have:=uB (X:=X) (mE:=mE) (RetP:=RetP) (c:=.cond c x y) (n:=xO x+xO y) (core:=λq a s w R K=>(qG c λv=>Cmd.ret v:Cmd V).runK s ([],[]) λv s' _=>match v with
   | .b t=>l7 t (den X.E rt x q a.l s' w R K) (den X.E rt y (q+xO x) a.r s' w R K)
   |_=>none) (DOk.mk λ{q an s wr R K r} h {m ok a w} Rl hE=>by
    obtain⟨v,s',tr,he,hk⟩:=qo h;obtain⟨hv,hs⟩:=sV (ax Rl (K:=λv=>Cmd.ret v) (x:=c) (Q:=λv S' =>lu ⟨w.heap,ok,m⟩ v (a.eval c)/\S' =fC s) λv hv=>⟨hv,rfl⟩) he;cases v<;>try (simp at hk;done)
    case b t=>
     have R1:Rel X (CB*q) (CB*q) (fC s') m ok a w:=by rw[hs];exact Rl
     refine wp_cond_split (Ou hv) (λht=>?_) (λht=>?_)
     .subst ht;refine wp_mono (hx.run (show den X.E rt x q an.l s' wr R K=some r from hk) R1 hE) ?_;rintro e a2 w2 ⟨fl,s2,wr2,hk2,hfl2⟩;exact⟨fl,s2,wr2,hk2,hfl2.trans (λ_ _ h=>h) (λ_ h=>h) (λk _=>by rw[hs]) o5⟩
     .subst ht;refine wp_mono (hy.run (show den X.E rt y (q+xO x) an.r s' wr R K=some r from hk) (R1.upq o5) hE) ?_;rintro e a2 w2 ⟨fl,s2,wr2,hk2,hfl2⟩;exact⟨fl,s2,wr2,hk2,hfl2.trans (λ_ _ h=>h) (λ_ h=>h) (λk _=>by rw[hs]) o5⟩)
  rw[show xO (.cond c x y)=xO x+xO y+1 by simp only[xO];omega];exact this
 | .loop x=>by have hx:=zq H hret x;have:=uB (y_ hx);rw[show xO (.loop x)=2+xO x+1 by simp only[xO];omega];exact this| .goto l=>⟨λh=>by simp[den]at h⟩| .scope x=>⟨λh=>by simp[den]at h⟩| .rangeFunc ..=>⟨λh=>by simp[den]at h⟩| .refuse ..=>⟨λh=>by simp[den]at h⟩
end
end Go.GP
namespace Go.GP
structure EnvOk (P:Program) (E:Env):Prop where
 nt:64*E.nt<=999936
 tt:∀t i,dO E.tt t=some i->TiOk P t i
 fs:∀p∈E.fs,ik P E.gl p.1 p.2
 eqs:∀t sh,dO E.eqs t=some sh->IW P t sh
 ms:∀p∈E.ms,VK P p.1.1 p.1.2 p.2.1 p.2.2
 fn:∀p∈E.fs,∃fn,P.funcs[p.1]? =some fn/\fn.body.isSome=true/\(fn.name== "runtime.NumGoroutine")=false
 pl:∀p∈E.pl,PlP P p.1 p.2.1 p.2.2
theorem Nb{C:Cx} :∀{a:List V} {xs:List Value},iU C a xs->a.length=xs.length
 |[],_,h=>by simp only[iU]at h;simp[h]|c::a,_,⟨v,r,e,h1,h2⟩=>by subst e;simp[Nb h2]
def OC(tmps:Array Value):ResultVar->Sem Value
 | .tmp t=>pure (tmps.getD t undef)| .cell a t=>do loadVar t (←asAddr (tmps.getD a undef))
def a3J(h:Array Obj)(tm:Nat->Value):List Nat->List Value->List Nat->Prop
 |[],os,B=>os=[]/\B=[]|n::ns,os,B=>(∃b arr T os' B',tm n= .pointer (some ⟨b,0,none⟩)/\h[b]? =some (.cells arr T (0,0))/\os= .agg arr::os' /\B=b::B' /\a3J h tm ns os' B')\/
  (∃t b arr T os' B',tm n= .iface t (.pointer (some ⟨b,0,none⟩))/\h[b]? =some (.cells arr T (0,0))/\os= .agg arr::os' /\B=b::B' /\a3J h tm ns os' B')\/
  (∃l os',Loc.view l none (tm n)/\os=tm n::os' /\a3J h tm ns os' B)
def VI(h:Array Obj)(ok:Nat->Ty->Prop):List MG->List Value->Prop
 |[],vs=>vs=[]|m::ms,vs=>∃v r cs x O,vs=v::r/\Ot m.1 v cs/\qg h ok m.2 none x cs O/\VI h ok ms r
theorem UJ{h:Array Obj}{ok:Nat->Ty->Prop} :∀{ms:List MG} {x:aP ms} {vs:List Value} {O:List Nat},sZ h ok ms x vs O->VI h ok ms vs
 |[],_,_,_,e=>e.1|[m],x,_,_,⟨v,cs,e,hg,hr⟩=>⟨v,[],cs,x,_,e,hg,hr,rfl⟩|m::m' ::r,x,_,_,⟨v,cs,vs',O1,O2,e,eo,hg,h1,h2⟩=>⟨v,vs',cs,x.1,O1,e,hg,h1,UJ h2⟩
section
variable {X:Fx} {cl ch:Nat} {m:Mp} {a:Act} {w:World}
theorem IC{α:Type}{Q:α->Sm->Prop}(H:FxOk X){S:Sm}{ok:Nat->Ty->Prop}(R:Rel X cl ch S m ok a w):∀(l:List ResultVar) {K:List V->Cmd α}
  (hK:∀vs rvs,iU ⟨w.heap,ok,m⟩ vs rvs->rvs.length=l.length->(l.mapM (OC a.tmps)).run X.P w= .ok rvs w->(K vs).post S Q),(OB X.E l K).post S Q
 |[],K,hK=>hK [] [] rfl rfl D5
 | .tmp t::l,K,hK=>by unfold OB;refine bM λhb=>bP ?_;refine IC H R l λvs rvs hr hl hrun=>?_;refine hK _ (a.tmps.getD t undef::rvs) ⟨_,_,rfl,R.slot t (EM hb),hr⟩ (by simp[hl]) ?_;simp only[List.mapM_cons,I4,OC,V9,I5,hrun]
 | .cell p t::l,K,hK=>by unfold OB;refine bM λhb=>bP ?_;refine Fq H R (R.slot p (EM hb)) λv u ad hv hx hload=>?_;refine IC H R l λvs rvs hr hl hrun=>?_;refine hK _ (u::rvs) ⟨_,_,rfl,hv,hr⟩ (by simp[hl]) ?_;simp only[List.mapM_cons,I4,OC,hx,asAddr,V9,I5,hload,hrun]
theorem Dt{α:Type}{Q:α->Sm->Prop} :∀(ns:List Nat) {S:Sm} {ok:Nat->Ty->Prop} {T:List Nat} {K:List V->Cmd α} (R:Rel X cl ch S m ok a w) (hT:Tk X S m ok w T)
  (hK:∀S' ws os B,Rel X cl ch S' m ok a w->Tk X S' m ok w (T++B)->a3J w.heap (λn=>a.tmps.getD n Go.undef) ns os B->iU ⟨w.heap,ok,m⟩ ws os->(K ws).post S' Q),(Om ns K).post S Q
 |[],S,ok,T,K,R,hT,hK=>hK S [] [] [] R (by simpa using hT) ⟨rfl,rfl⟩ rfl|n::ns,S,ok,T,K,R,hT,hK=>by
  unfold Om;refine eH λhb=>bP ?_;have hsl:=R.slot n (by rw[cZ]at hb;exact hb);split<;>try trivial
  .rename_i bx hSn;rw[hSn]at hsl;obtain⟨blk,hm,hv⟩:=hsl;refine bP ?_;split<;>try trivial
   rename_i cs hS;obtain⟨blk',arr,Ty,hm',hh,hl⟩:=R.own_cells hS;simp only at hm;rw[hm]at hm';cases hm';refine jf ?_;have hT1:Tk X (upd S (Z5+bx) .dead) m ok w (T++[blk]):=hT.kill R bx (λb hb=>by simp at hb;subst hb;simp[U7,hS,hm]) D5;refine Dt ns (R.kill bx) hT1 λS' ws os B R' T' ho hw=>?_;exact hK S' _ (.agg arr::os) (blk::B) R' (by simpa using T') (.inl ⟨blk,arr,Ty,os,B,hv,hh,rfl,rfl,ho⟩) ⟨_,_,rfl,⟨arr,rfl,hl⟩,hw⟩
  .rename_i t u hSn;rw[hSn]at hsl;obtain⟨z,hz,_,hsl⟩:=hsl;split<;>try trivial
   rename_i bx;obtain⟨blk,hm,hv⟩:=hsl;refine bP ?_;split<;>try trivial
   rename_i cs hS;obtain⟨blk',arr,Ty,hm',hh,hl⟩:=R.own_cells hS;simp only at hm;rw[hm]at hm';cases hm';refine jf ?_;have hT1:Tk X (upd S (Z5+bx) .dead) m ok w (T++[blk]):=hT.kill R bx (λb hb=>by simp at hb;subst hb;simp[U7,hS,hm]) D5;refine Dt ns (R.kill bx) hT1 λS' ws os B R' T' ho hw=>?_;exact hK S' _ (.agg arr::os) (blk::B) R' (by simpa using T') (.inr (.inl ⟨t,blk,arr,Ty,os,B,hv▸hz,hh,rfl,rfl,ho⟩)) ⟨_,_,rfl,⟨arr,rfl,hl⟩,hw⟩
  .rename_i bx hSn;rw[hSn]at hsl;obtain⟨l,hm,hv⟩:=hsl;refine Dt ns R hT λS' ws os B R' T' ho hw=>?_;exact hK S' _ (a.tmps.getD n Go.undef::os) B R' T' (.inr (.inr ⟨l,os,hv,rfl,ho⟩)) ⟨_,_,rfl,⟨l,hm,hv⟩,hw⟩
end
theorem Ld{l:Loc}{v:Value}(h:l.view none v):(∃a n c,v= .slice a n c)\/∃b,v= .map (some b):=by
 cases l with
 |nil=>exact .inl ⟨_,_,_,h⟩|st b=>cases h|mp b=>exact .inr ⟨_,h⟩|arr blk off len cap sz=>exact .inl ⟨_,_,_,h⟩
theorem a3k{h h0:Array Obj}{ok0:Nat->Ty->Prop}{tm:Nat->Value} :∀(ms:List MG) (k:Nat) {vals:List Value} {os:List Value} {B:List Nat},a8A ms=true->
  VI h0 ok0 ms vals->(∀i v,k+i∈lN ms k->vals[i]? =some v->tm (k+i)=v)->a3J h tm (lN ms k) os B->wZ h ms vals os B:=by
 have tail:∀{m:List MG} {k:Nat} {v:Value} {r:List Value},(∀i u,k+i∈lN m (k+1)->(v::r)[i]? =some u->tm (k+i)=u)->∀i u,(k+1)+i∈lN m (k+1)->r[i]? =some u->tm ((k+1)+i)=u:=by intro m k v r h i u hi hu;have e:k+(i+1)=k+1+i:=o5;have:=h (i+1) u (by rw[e];exact hi) (by simpa using hu);rwa[e]at this
 have tail2:∀{m:List MG} {k:Nat} {v:Value} {r:List Value},(∀i u,k+i∈k::lN m (k+1)->(v::r)[i]? =some u->tm (k+i)=u)->(tm k=v)/\∀i u,(k+1)+i∈lN m (k+1)->r[i]? =some u->tm ((k+1)+i)=u:=λh=>
  ⟨by have:=h 0 _ D5 rfl;simpa using this,tail (λi u hi hu=>h i u (P7 _ hi) hu)⟩
 intro ms;induction ms with
 |nil=>intro k vals os B hsb hs ht ho;simp only[VI]at hs;subst hs;exact ho|cons m ms ih=>
  intro k vals os B hsb hs ht ho;obtain⟨v,r,cs,x,O,rfl,hg,hr,hs⟩:=hs;obtain⟨g,m⟩:=m;cases m
  case box md=>
   unfold lN at ht ho;obtain⟨htv,ht⟩:=tail2 ht;obtain⟨blk,arr,T,O',hc,_⟩:=hr;have hv:v= .pointer (some ⟨blk,0,none⟩)\/∃ar,v= .agg ar:=by
    cases g
    .left;have hg:cs=[v]:=hg;rw[hg]at hc;simpa using hc
    .right;obtain⟨ar,e,_⟩:=hg;exact⟨ar,e⟩
   rcases ho with⟨b,arr,T,os',B',e,hh,e1,e2,ho'⟩|⟨t,b,arr,T,os',B',e,_⟩|⟨l,os',e,_⟩
   .exact⟨b,arr,T,os',B',htv.symm.trans e,hh,e1,e2,ih (k+1) hsb hs ht ho'⟩
   .rw[htv]at e;rcases hv with rfl|⟨_,rfl⟩<;>cases e
   .rcases Ld e with⟨_,_,_,e⟩|⟨_,e⟩<;>rw[htv]at e<;>rcases hv with rfl|⟨_,rfl⟩<;>cases e
  case ownb u=>
   unfold lN at ht ho;obtain⟨htv,ht⟩:=tail2 ht;obtain⟨l,v',hc,hvv,_⟩:=hr;have hv:((∃a n c,v= .slice a n c)\/∃b,v= .map (some b))\/∃ar,v= .agg ar:=by
    cases g
    .left;have hg:cs=[v]:=hg;rw[hg]at hc;simp only[G8,and_true]at hc;subst hc;exact Ld hvv
    .right;obtain⟨ar,e,_⟩:=hg;exact⟨ar,e⟩
   rcases ho with⟨b,arr,T,os',B',e,_⟩|⟨t,b,arr,T,os',B',e,_⟩|⟨l,os',e,rfl,ho'⟩
   .rw[htv]at e;rcases hv with(⟨_,_,_,rfl⟩|⟨_,rfl⟩)|⟨_,rfl⟩<;>cases e
   .rw[htv]at e;rcases hv with(⟨_,_,_,rfl⟩|⟨_,rfl⟩)|⟨_,rfl⟩<;>cases e
   .rw[htv];exact⟨os',rfl,ih (k+1) hsb hs ht ho'⟩
  case ifc t md=>
   cases md
   case box md=>
    unfold lN at ht ho;obtain⟨htv,ht⟩:=tail2 ht;obtain⟨u,hc,blk,arr,T,O',hu,_⟩:=hr;have hv:v= .iface t u\/∃ar,v= .agg ar:=by
     cases g
     .left;have hg:cs=[v]:=hg;rw[hg]at hc;simpa using hc
     .right;obtain⟨ar,e,_⟩:=hg;exact⟨ar,e⟩
    rcases ho with⟨b,arr,T,os',B',e,_⟩|⟨t,b,arr,T,os',B',e,hh,e1,e2,ho'⟩|⟨l,os',e,_⟩
    .rw[htv]at e;rcases hv with rfl|⟨_,rfl⟩<;>cases e
    .exact⟨t,b,arr,T,os',B',htv.symm.trans e,hh,e1,e2,ih (k+1) hsb hs ht ho'⟩
    .rcases Ld e with⟨_,_,_,e⟩|⟨_,e⟩<;>rw[htv]at e<;>rcases hv with rfl|⟨_,rfl⟩<;>cases e
   all_goals
    unfold lN at ht ho;exact ih (k+1) hsb hs (tail ht) ho
  case sbx=>cases hsb
  case sit=>cases hsb
  all_goals
   unfold lN at ht ho;exact ih (k+1) hsb hs (tail ht) ho
theorem Zn:∀{a b:List Nat},a7A a b=true->∀n∈a,n∈b
 |[],_,_,_,h=>by cases h|a::r,b,h,n,hn=>by
  unfold a7A at h;cases hb:Cf a b<;>rw[hb]at h
  .cases h
  .rcases C9.1 hn with rfl|hn
   .exact Vk hb
   .exact Zn h n hn
theorem PH:∀{ms:List MG} {k n:Nat},n∈lN ms k->k<=n/\n<k+ms.length
 |[],k,n,h=>by cases h|(g,m)::ms,k,n,h=>by
  have key:n∈k::lN ms (k+1)->k<=n/\n<k+(ms.length+1):=λh=>by
   rcases C9.1 h with rfl|h
   .omega
   .have:=PH h;omega
  cases m
  case box md=>exact key h
  case ownb u=>exact key h
  case ifc t md=>
   cases md
   case box md=>exact key h
   all_goals exact key (P7 _ h)
  all_goals exact key (P7 _ h)
variable {P:Program}
theorem YW{w:World}{fn:Func}{tmps:Array Value}{rvs:List Value}(h:(fn.results.toList.mapM (OC tmps)).run P w= .ok rvs w):
  ∃v,(results fn tmps).run P w= .ok v w/\ZC rvs.length v rvs:=by
 have hm:(fn.results.mapM (OC tmps)).run P w= .ok rvs.toArray w:=by rw[Array.mapM_eq_mapM_toList];simp[h]
 have e:results fn tmps=(do let vs ←fn.results.mapM (OC tmps);pure (if h:vs.size=1 then vs[0]else .tuple vs):Sem Value):=by unfold results;congr 1
 rw[e,I4,hm];clear h hm e;rcases rvs with _|⟨x,_|⟨y,r⟩⟩
 .exact⟨.tuple #[],rfl,rfl,rfl⟩
 .exact⟨x,rfl,rfl,rfl⟩
 .exact⟨.tuple (x::y::r).toArray,D5,rfl,rfl⟩
section
variable {X:Fx} {cl ch:Nat} {m:Mp} {ok:Nat->Ty->Prop} {a:Act} {w:World}
theorem a2y{Q:Unit->Sm->Prop}{xall:List Value}(hall:∀k p,xall[k]? =some p->a.tmps.getD k Go.undef=p):∀(ms:List MG) (n:Nat) {xs:List Value} {S:Sm} {K:Cmd Unit}
  (R:Rel X cl ch S m ok a w) (hxs:∀i v,xs[i]? =some v->a.tmps.getD (n+i) Go.undef=v) (hl:ms.length=xs.length) (hd:a2o w.heap xall ms xs)
  (hK:∀S',Rel X cl ch S' m ok a w->K.post S' Q),(ZY ms n K).post S Q:=by
 intro ms;induction ms with
 |nil=>intro n xs S K R hxs hl hd hK;exact hK S R|cons md ms ih=>
  intro n xs S K R hxs hl hd hK;obtain⟨g,md⟩:=md;cases xs with
  |nil=>cases hl|cons x xs=>
   have hxs' :∀i v,xs[i]? =some v->a.tmps.getD (n+1+i) Go.undef=v:=λi v h=>by have:=hxs (i+1) v (by simpa using h);rwa[show n+(i+1)=n+1+i by omega]at this
   have hl' :ms.length=xs.length:=by simpa using hl
   cases md
   case dv k off sz fo=>obtain⟨⟨p,hp,hpa⟩,hd⟩:=hd;unfold ZY;refine eH λhb=>bP ?_;simp only[A8]at hb;have hk:=EM hb.1;have hn:=EM hb.2;have hsl:=R.slot k hk;rw[hall k p hp]at hsl;refine KP R hsl λr y hr hy=>jf ?_;have hx:=hxs 0 x rfl;rw[Z8]at hx;have:y=x:=hy.det hpa;subst this;exact ih (n+1) (R.slotV hn (by rw[hx];exact hr)) hxs' hl' hd hK
   all_goals
    unfold ZY;exact ih (n+1) R hxs' hl' hd hK
end
theorem Kt{E:Env}{f:FuncId}{fn:Func}{c:Code}{ps:List MG}{rt:Ret}{an:Ann}{F:aP ps->Option rt.den}(hf:P.funcs[f]? =some fn)(hb:fn.body=some c)(hnt:fn.ntmps=E.nt)
  (hres:fn.results.toList=rt.rs.map (·.1)) (hE:EnvOk P E) (hF:∀x r,F x=some r->a2x E ps rt c an x=some r):
  ik P E.gl f ⟨ps,rt.rs.map (·.2),rt.outs.map (·.2),F⟩:=by
 intro w ok O vals x r hlt hnd hO hgl hrel hdv hfn;have hden:=hF x r hfn;clear hfn hF;let X:Fx:=⟨P,E,w,O,ok,vals.toArray++Array.replicate (E.nt -vals.length) undef⟩;have H:FxOk X:=⟨hE.nt,hE.tt,hE.fs,hE.eqs,hE.ms,hE.fn,hE.pl⟩;refine calls_of_wp_defers hf hb ?_;simp only[aK];rw[hnt];generalize hact:({ tmps:=vals.toArray++Array.replicate (E.nt -vals.length) undef,defers:=[] } :Act)=act;have hvl:vals.length=ps.length:=JQ hrel;unfold a2x at hden;cases hle00:(Nat.ble ps.length E.nt&&IK (rt.outs.map (·.1)) (lN ps 0)&&a7A (rt.outs.map (·.1)) E.kp&&a8A ps)
 .simp only[hle00,cond_false]at hden;cases hden
 simp only[hle00,cond_true]at hden;simp only[A8]at hle00;obtain⟨⟨⟨hle0,hsame⟩,hsub⟩,hnosb⟩:=hle00;have hsame:=IL hsame;have hsub:=Zn hsub;have hle1:=V8 hle0;obtain⟨u,s,tr,he,hk⟩:=qo hden;have hsize:act.tmps.size=E.nt:=by subst hact;simp;omega
 have hslots:∀n,n<vals.length->act.tmps.getD n undef=vals.getD n undef:=λn hn=>by subst hact;simp only[Y3];rw[jl (by simpa using hn)];simp[Ob]
 have R0:Rel X 0 0 (fC []) nom ok act w:={ size:=hsize,nodef:=(by subst hact;intro d hd;cases hd),slot:=λn _=>trivial,box:=λn=>trivial,inj:=λn n' b h=>(by simp[fC,U7]at h),nd:=λn=>(by simp[fC,U7]),sep:=λn b h=>(by simp[fC,U7]at h),okLt:=hlt,okIn:=λb t h=>h,okOut:=λb t h=> .inl h,frame:=Frame'.refl w O,fresh:=λ_ _ _=>rfl,strict:=λ_ _=>rfl,gl:=hgl,kept:=λn _=>by subst hact;rfl };have T0:Tk X (fC []) nom ok w (O++[]):=⟨by simpa using hnd,λb hb=>by simp only[E5]at hb;obtain⟨h1,h2⟩:=hO b hb;exact⟨h1,h2,.inr hb,λn e=>by simp[fC,U7]at e⟩⟩
 have key:=sV (ET (T:=[]) ps (Q:=λ_ S' =>∃m' vs,Rel X 0 CB S' m' ok act w/\iU ⟨w.heap,ok,m'⟩ vs vals) R0 (A7 0) T0 hrel
  (K:=λvs n=>bif Nat.ble n CB then Jr (List.range vs.length) vs (ZY ps 0 (.ret ()))else .fail) λS1 m1 vs n1 ch1 R1 c1 T1 k1 s1 l1 e1=>bM λhb=>by
   have hn1:=V8 hb;have hvs:=Nb l1;have hr:vals=(List.range vs.length).map λn=>act.tmps.getD n Go.undef:=by
    apply mY
    .simp[hvs]
    .intro i h1 h2;simp only[List.getElem_map,List.getElem_range];rw[hslots i h1,Ob,mW h1];rfl
   have hall:∀k p,vals[k]? =some p->act.tmps.getD k Go.undef=p:=λk p hk=>by rw[hslots k (ai.1 hk).1,Ob,hk];rfl
   refine FW _ (R1.chmono (ch' :=CB) o5) (by rw[←hr];exact l1) λS' R' =>?_;refine a2y hall ps 0 R' (λi v hi=>by rw[dH];exact hall i v hi) hvl.symm hdv λS2 R2=>⟨m1,vs,R2,l1⟩) he
 obtain⟨mE,vs,RE,hvs⟩:=key;have Rq:Rel X (CB*1) (CB*1) (fC s) mE ok act w:=(RE.climb (aU _)).chmono (by rw[dG];exact A7 _);let RetP:rt.den->Act->World->Prop:=λr a' w' =>(∀d∈a'.defers,c0T P d)/\∃v,(results fn a'.tmps).run P w' = .ok v w' /\
  ∃v' ok' O' rs os B,(Ending.returned v)= .returned v' /\Frame' w w' O/\(∀b t,ok b t->ok' b t)/\(∀b t,ok' b t->b<w'.heap.size/\(ok b t\/w.heap.size<=b\/b∈O))/\
   (O' ++B).Nodup/\(∀b∈O' ++B,(∀t,¬ok' b t)/\b<w'.heap.size/\(w.heap.size<=b\/b∈O))/\
   ZC (rt.rs.map (·.2)).length v' rs/\wZ w'.heap ps vals os B/\sZ w'.heap ok' (rt.rs.map (·.2)++rt.outs.map (·.2)) r (rs++os) O'
 have hret:a3L X rt mE RetP:=by
  intro s R K r h;obtain⟨x,s',tr,he,hk⟩:=qo h;refine⟨x,hk,λ{cl ch m ok1 a1 w1} R1 km=>?_⟩;refine sV (Q:=λx _=>RetP x a1 w1) ?_ he;unfold a9f;refine IC H R1 _ λvs1 rvs hv1 hl1 hrun=>Dt (T:=[]) _ R1 Tk.nil λS2 ws os B R2 T2 hout hws=>?_;refine XU _ R2 T2 (FM hv1 hws) λS3 ok3 y O3 R3 T3 k3 s3 hy=>?_;simp only[H9]at T3;have hp:(B++O3).Perm (O3++B):=jo;rw[←hres]at hrun;obtain⟨v,hv,hrv⟩:=YW hrun;refine⟨R3.nodef,v,hv,v,ok3,O3,rvs,os,B,rfl,R3.frame,R3.okIn,λb t hb=>⟨R3.okLt b t hb,R3.okOut b t hb⟩,hp.nodup_iff.1 T3.nodup,λb hb=>?_,?_,a3k ps 0 hnosb (UJ hrel) (λi v hi hv=>?_) (by rw[hsame]at hout;exact hout),hy⟩
  .obtain⟨f1,f2,f3,_⟩:=T3.free b (hp.mem_iff.2 hb);exact⟨f1,f2,f3⟩
  .refine⟨by rw[hl1];simp,hrv.2⟩
  .have h1:=R1.kept (0+i) (hsub _ (by rw[hsame];exact hi));have hlt:=(PH hi).2;rw[h1];have h2:=hslots (0+i) (by rw[hvl];omega);rw[←hact]at h2;refine h2.trans ?_;rw[Ob,dH,hv];rfl
 have hwp:=(zq H hret c).run hk Rq (λ_ _ h=>h);refine wp_mono hwp ?_;rintro e a' w' ⟨fl,s',wr',hk2,hfl⟩;cases fl with
 |ex id=>cases hk2|rt y=>cases hk2;obtain⟨rfl,h1,v,h2,h3⟩:=hfl;exact c0S ⟨v,h2,h3⟩ _ h1
 |nm=>obtain⟨rfl,m',ok',R',k1,_,_⟩:=hfl;obtain⟨y,hy,hp⟩:=hret (K:=some) hk2;cases hy;obtain⟨h1,v,h2,h3⟩:=hp R' k1;exact c0S ⟨v,h2,h3⟩ _ h1
def zV:V->Value->Bool
 | .undef,v=>v.oneCell'| .b x,.bool y=>x==y| .i k n,.int k' n' =>decide (k=k')&&decide (n=n')| .s l,.string s=>decide (l=s.data.toList)| .nl,.slice none 0 0=>true| .sl t xs,.map none=>t.isEnt&&xs.isEmpty| .npt,.pointer none=>true|_,_=>false
def zL:List V->List Value->Bool
 |[],[]=>true|c::cs,v::vs=>zV c v&&zL cs vs|_,_=>false
theorem a9H{C:Cx}{c:V}{v:Value}(h:zV c v=true):uM C c v/\v.oneCell' =true:=by
 unfold zV at h;split at h
 .exact⟨trivial,h⟩
 .simp at h;subst h;exact⟨rfl,rfl⟩
 .simp at h;obtain⟨rfl,rfl⟩:=h;exact⟨rfl,rfl⟩
 .rename_i l s;have:=of_decide_eq_true h;subst this;exact⟨rfl,rfl⟩
 .exact⟨rfl,rfl⟩
 .rename_i t xs;simp only[A8,List.isEmpty_iff]at h;obtain⟨h1,rfl⟩:=h;exact⟨(X_ h1).2 ⟨none,rfl,λ_=>rfl,λ_ h=>nomatch h⟩,rfl⟩
 .exact⟨rfl,rfl⟩
 .cases h
theorem a2k{C:Cx} :∀{cs:List V} {vs:List Value},zL cs vs=true->gu C cs vs
 |[],[],_=>rfl|[],_::_,h=>by simp[zL]at h|_::_,[],h=>by simp[zL]at h|c::cs,v::vs,h=>by unfold zL at h;simp only[A8]at h;obtain⟨h1,h2⟩:=a9H (C:=C) h.1;exact⟨v,vs,rfl,h1,h2,a2k h.2⟩
def Nc:(t:Ty)->List Value->Option (List Value)
 | .bool,.bool b::r=>bif b then none else some r| .int k,.int k' n::r=>bif decide (k=k')&&decide (n=0)then some r else none| .str,.string s::r=>bif decide (s.data.toList=[])then some r else none| .sl t,.slice none 0 0::r=>bif t.isEnt then none else some r| .sl t,.map none::r=>bif t.isEnt then some r else none
 | .prod a b,vs=>match Nc a vs with|some r=>Nc b r|none=>none
 | .unit,vs=>some vs|_,_=>none
theorem Ov:∀{t:Ty} {vs r:List Value},Nc t vs=some r->∃cs,vs=cs++r/\lw #[] (λ_ _=>False) t t.zero cs
 | .bool,vs,r,h=>by
  cases vs with
  |nil=>cases h|cons v vs=>
   cases v<;>try (cases h;done)
   case bool b=>
    cases b
    .simp only[Nc,cond_false,F8]at h;subst h;exact⟨[.bool false],rfl,rfl⟩
    .simp[Nc]at h
 | .int k,vs,r,h=>by
  cases vs with
  |nil=>cases h|cons v vs=>
   cases v<;>try (cases h;done)
   case int k' n=>
    unfold Nc at h;cases hc:(decide (k=k')&&decide (n=0))
    .simp[hc]at h
    .simp only[hc,cond_true,F8]at h;simp only[A8,decide_eq_true_eq]at hc;obtain⟨rfl,rfl⟩:=hc;subst h;exact⟨[.int k 0],rfl,rfl⟩
 | .str,vs,r,h=>by
  cases vs with
  |nil=>cases h|cons v vs=>
   cases v<;>try (cases h;done)
   case string s=>
    unfold Nc at h;cases hc:decide (s.data.toList=[])
    .simp only[hc,cond_false]at h;cases h
    .simp only[hc,cond_true,F8]at h;subst h;have he:=of_decide_eq_true hc;refine⟨[.string s],rfl,?_⟩;show[Value.string s]=[Value.string ⟨(Ty.zero .str).toArray⟩];congr 2;obtain⟨⟨l⟩⟩:=s;simp only at he;subst he;rfl
 | .sl t,vs,r,h=>by
  cases vs with
  |nil=>cases h|cons v vs=>
   cases v<;>try (cases h;done)
   case slice a n c=>
    cases a<;>try (cases h;done)
    cases n<;>try (cases h;done)
    cases c<;>try (cases h;done)
    cases ht:t.isEnt<;>simp only[Nc,ht,cond_true,cond_false,F8]at h
    .subst h;exact⟨[.slice none 0 0],rfl,.inl ⟨ht,none,0,rfl,A7 _,λi x hi=>by simp[Ty.zero]at hi⟩⟩
    .cases h
   case map mv=>
    cases mv<;>try (cases h;done)
    cases ht:t.isEnt<;>simp only[Nc,ht,cond_true,cond_false,F8]at h
    .cases h
    .subst h;exact⟨[.map none],rfl,.inr ⟨ht,none,rfl,λ_=>rfl,λ_ h=>nomatch h⟩⟩
 | .ent ..,vs,r,h=>by
  cases vs with
  |nil=>cases h|cons v vs=>cases v<;>cases h
 | .unit,vs,r,h=>by
  have:vs=r:=by cases vs<;>(simp only[Nc,F8]at h;exact h)
  subst this;exact⟨[],rfl,rfl⟩
 | .prod a b,vs,r,h=>by
  have h' :(match Nc a vs with|some r=>Nc b r|none=>none)=some r:=by cases vs<;>exact h
  cases ha:Nc a vs with
  |none=>simp[ha]at h'|some r1=>simp only[ha]at h';obtain⟨c,rfl,h1⟩:=Ov ha;obtain⟨d,rfl,h2⟩:=Ov h';exact⟨c++d,D5,c,d,rfl,h1,h2⟩
def a2A:List (Nat×Nat)->List Field->Bool
 |[],[]=>true|(t,o)::r,f::fs=>Nat.beq f.type t&&Nat.beq f.offset o&&a2A r fs|_,_=>false
theorem UR:∀{a:List (Nat×Nat)} {b:List Field},a2A a b=true->b.map (λf=>(f.type,f.offset))=a
 |[],[],_=>rfl|[],_::_,h=>by simp[a2A]at h|_::_,[],h=>by simp[a2A]at h|(t,o)::r,f::fs,h=>by unfold a2A at h;simp only[A8]at h;have h1:=iH h.1.1;have h2:=iH h.1.2;simp[UR h.2,←h1,←h2]
def a7H(P:Program)(t:TypeId)(td:TD):Bool:=
 match P.underlying t with
 |none=>false
 |some d=>match td,d with
  | .bool,.bool=>true| .int k,.int k' =>decide (k=k')| .str,.string=>true| .sl e,.slice e' =>Nat.beq e e'| .ptr e,.pointer e' =>Nat.beq e e'| .struct fs,.struct fields=>a2A fs fields.toList| .arr n e,.array n' e' =>Nat.beq n n' &&Nat.beq e e'| .map k e,.map k' e' =>Nat.beq k k' &&Nat.beq e e'| .other,.struct _=>false| .other,.array _ _=>false| .other,_=>true|_,_=>false
theorem a0D{t:TypeId}{td:TD}(h:a7H P t td=true):a7I P t td:=by
 unfold a7H at h;split at h
 .cases h
 .rename_i d hd;split at h<;>try (cases h;done)
  .exact hd
  .have:=of_decide_eq_true h;subst this;exact hd
  .exact hd
  .have:=iH h;subst this;exact hd
  .have:=iH h;subst this;exact hd
  .rename_i fs fields;exact⟨fields,hd,UR h⟩
  .simp only[A8]at h;have h1:=iH h.1;have h2:=iH h.2;subst h1;subst h2;exact hd
  .simp only[A8]at h;have h1:=iH h.1;have h2:=iH h.2;subst h1;subst h2;exact hd
  .rename_i h1 h2;refine⟨d,hd,?_⟩;cases d<;>first|trivial|exact absurd rfl (h1 _)|exact absurd rfl (h2 _ _)
def a2l(inf:TypeInfo)(i:TI):Bool:=
 bif Nat.beq i.zero.length i.size then(match inf.zero with|some z=>zL i.zero z.cells.toList|none=>false)else true
def b0u(inf:TypeInfo)(i:TI):Bool:=
 match i.ty with
 |none=>true|some u=>Nat.beq u.size i.size&&(match inf.zero with|some z=>(match Nc u z.cells.toList with|some []=>true|_=>false)|none=>false)
def a9M(inf:TypeInfo)(i:TI):Bool:=
 match inf.zero with
 |none=>true|some z=>bif bK i.td then(match z with| .agg _=>true|_=>false)else z.oneCell'
def a7J(P:Program)(t:TypeId)(i:TI):Bool:=
 match P.info? t with
 |none=>false|some inf=>Nat.beq inf.size i.size&&Nat.beq inf.bytes i.bytes&&a2l inf i&&b0u inf i&&a7H P t i.td&&(bK i.td || Nat.beq i.size 1)&&a9M inf i
theorem a0E{t:TypeId}{i:TI}(h:a7J P t i=true):TiOk P t i:=by
 unfold a7J at h;split at h
 .cases h
 .rename_i inf hi;simp only[A8,ou]at h;obtain⟨⟨⟨⟨⟨⟨h1,h2⟩,h3⟩,h4⟩,h5⟩,h6⟩,h8⟩:=h;refine⟨⟨inf,hi,iH h1,iH h2,λhl=>?_,λu hu=>?_⟩,a0D h5,λha=>?_,λinf' z hinf hz=>?_⟩
  .unfold a2l at h3;rw[hl,show Nat.beq i.size i.size=true from Nat.beq_refl _]at h3;simp only[cond_true]at h3;split at h3
   .rename_i z hz;exact⟨z,hz,a2k h3⟩
   .cases h3
  .unfold b0u at h4;simp only[hu,A8]at h4;refine⟨iH h4.1,?_⟩;have h7:=h4.2;split at h7
   .rename_i z hz;split at h7
    .rename_i hr;obtain⟨cs,e,hrep⟩:=Ov hr;rw[E5]at e;exact⟨z,hz,by rw[e];exact hrep⟩
    .cases h7
   .cases h7
  .rcases h6 with h6|h6
   .rw[ha]at h6;cases h6
   .exact iH h6
  .rw[hi]at hinf;cases hinf;unfold a9M at h8;rw[hz]at h8;refine⟨λha=>?_,λha=>?_⟩<;>simp only[ha,cond_true,cond_false]at h8
   .split at h8
    .exact⟨_,rfl⟩
    .cases h8
   .exact h8
def Zw(P:Program):List (Nat×TI)->Bool
 |[]=>true|(t,i)::r=>a7J P t i&&Zw P r
theorem Ub{P:Program} :∀{tt:List (Nat×TI)},Zw P tt=true->∀t i,dO tt t=some i->TiOk P t i
 |[],_,t,i,h=>by simp[dO]at h|(k,v)::r,hc,t,i,h=>by
  unfold Zw at hc;simp only[A8]at hc;unfold dO at h;cases hb:Nat.beq k t
  .simp only[hb,cond_false]at h;exact Ub hc.2 t i h
  .simp only[hb,cond_true,F8]at h;have:=iH hb;subst this;subst h;exact a0E hc.1
def Va(P:Program):List (Nat×FSpec)->Bool
 |[]=>true|(f,_)::r=>(match P.funcs[f]? with|some fn=>fn.body.isSome&&!(fn.name== "runtime.NumGoroutine")|none=>false)&&Va P r
theorem RP{P:Program} :∀{l:List (Nat×FSpec)},Va P l=true->∀p∈l,∃fn,P.funcs[p.1]? =some fn/\fn.body.isSome=true/\(fn.name== "runtime.NumGoroutine")=false
 |[],_,p,h=>by cases h|(k,v)::r,hc,p,h=>by
  unfold Va at hc;simp only[A8]at hc;rcases C9.1 h with rfl|h
  .have h1:=hc.1;split at h1
   .rename_i fn hf;simp only[A8,dh]at h1;exact⟨fn,hf,h1.1,h1.2⟩
   .cases h1
  .exact RP hc.2 p h
end Go.GP
namespace Go.GP
def a3G(P:Program)(gl:List (Nat×(t:Ty)×List t.den)):List (Nat×FSpec)->Prop
 |[]=>True|(f,s)::r=>ik P gl f s/\a3G P gl r
theorem UH{P:Program}{gl:List (Nat×(t:Ty)×List t.den)} :∀{l:List (Nat×FSpec)},a3G P gl l->∀p∈l,ik P gl p.1 p.2
 |[],_,p,h=>by cases h|(k,v)::r,hc,p,h=>by
  rcases C9.1 h with rfl|h
  .exact hc.1
  .exact UH hc.2 p h
def Xt(P:Program):List ((Nat×String)×Nat×Option Nat)->Prop
 |[]=>True|(k,r)::l=>VK P k.1 k.2 r.1 r.2/\Xt P l
theorem QH{P:Program} :∀{l:List ((Nat×String)×Nat×Option Nat)},Xt P l->∀p∈l,VK P p.1.1 p.1.2 p.2.1 p.2.2
 |[],_,p,h=>by cases h|(k,v)::r,hc,p,h=>by
  rcases C9.1 h with rfl|h
  .exact hc.1
  .exact QH hc.2 p h
def Xu(P:Program):List (Nat×Nat×Nat)->Prop
 |[]=>True|(f,off,sz)::l=>PlP P f off sz/\Xu P l
theorem QI{P:Program} :∀{l:List (Nat×Nat×Nat)},Xu P l->∀p∈l,PlP P p.1 p.2.1 p.2.2
 |[],_,p,h=>by cases h|(f,off,sz)::l,hc,p,h=>by
  rcases C9.1 h with rfl|h
  .exact hc.1
  .exact QI hc.2 p h
theorem XP{P:Program}{E:Env}(hnt:Nat.ble (64*E.nt) 999936=true)(htt:Zw P E.tt=true)(heq:∀t sh,dO E.eqs t=some sh->IW P t sh)(hfn:Va P E.fs=true)(hms:Xt P E.ms)(hfs:a3G P E.gl E.fs)(hpl:Xu P E.pl):EnvOk P E:=
 ⟨V8 hnt,Ub htt,UH hfs,heq,QH hms,RP hfn,QI hpl⟩
end Go.GP
namespace Go.GP
def EU(rec:TypeId->List Ty->Bool)(cells:TypeId->Nat):Nat->List Field->List Ty->Bool
 |_,[],sh=>sh.isEmpty|off,f::r,sh=>(f.name != "_")&&Nat.beq f.offset off&&Nat.ble (cells f.type) sh.length&&rec f.type (sh.take (cells f.type))&&EU rec cells (off+cells f.type) r (sh.drop (cells f.type))
def xx(P:Program):Nat->TypeId->List Ty->Bool
 |0,_,_=>false
 |n+1,t,sh=>match P.underlying t with
  |some .bool=>(match sh with|[.bool]=>true|_=>false)|some (.int k)=>(match sh with|[.int k']=>decide (k=k')|_=>false)|some .string=>(match sh with|[.str]=>true|_=>false)|some (.struct fs)=> !P.stoodInHeld t&&(P.info? t).isSome&&Nat.beq (P.cellsOf t) sh.length&&EU (xx P n) P.cellsOf 0 fs.toList sh|_=>false
theorem jM.length:∀{sh:List Ty} {vs:List Value},jM sh vs->vs.length=sh.length
 |[],_,h=>by simp only[jM]at h;subst h;rfl| .bool::ts,_,⟨_,_,rfl,h⟩=>by simp[jM.length h]| .int _::ts,_,⟨_,_,rfl,h⟩=>by simp[jM.length h]| .str::ts,_,⟨_,_,rfl,h⟩=>by simp[jM.length h]| .sl _::_,_,h=>h.elim| .prod _ _::_,_,h=>h.elim| .unit::_,_,h=>h.elim
theorem jM.take_drop:∀{sh:List Ty} {vs:List Value} (n:Nat),jM sh vs->jM (sh.take n) (vs.take n)/\jM (sh.drop n) (vs.drop n)
 |sh,vs,0,h=>⟨by simp[jM],h⟩|[],_,n+1,h=>by simp only[jM]at h;subst h;exact⟨rfl,rfl⟩| .bool::ts,_,n+1,⟨b,r,rfl,h⟩=>by have:=jM.take_drop n h;exact⟨⟨b,_,rfl,this.1⟩,this.2⟩| .int _::ts,_,n+1,⟨b,r,rfl,h⟩=>by have:=jM.take_drop n h;exact⟨⟨b,_,rfl,this.1⟩,this.2⟩| .str::ts,_,n+1,⟨b,r,rfl,h⟩=>by have:=jM.take_drop n h;exact⟨⟨b,_,rfl,this.1⟩,this.2⟩| .sl _::_,_,_+1,h=>h.elim| .prod _ _::_,_,_+1,h=>h.elim| .unit::_,_,_+1,h=>h.elim
theorem EG{C:Cx} :∀{sh:List Ty} {cs:List V} {vs:List Value},yT sh cs=true->gu C cs vs->jM sh vs
 |[],[],vs,_,h=>h|[],_::_,_,h,_=>by simp[yT]at h|t::ts,[],_,h,_=>by cases t<;>simp[yT]at h|t::ts,c::cs,_,h,⟨v,r,rfl,h1,_,h3⟩=>by
  cases t<;>cases c<;>simp only[yT,A8,decide_eq_true_eq]at h<;>try (cases h;done)
  case bool.b x=>have h1:v= .bool x:=h1;subst h1;exact⟨_,_,rfl,EG h h3⟩
  case int.i k k' n=>have h1:v= .int k' n:=h1;obtain⟨rfl,h⟩:=h;subst h1;exact⟨_,_,rfl,EG h h3⟩
  case str.s l=>have h1:v= .string ⟨l.toArray⟩:=h1;subst h1;exact⟨_,_,rfl,EG h h3⟩
theorem VY{a b:V}{r q:List V}{e:Bool}(h:yz (a::r) (b::q)=some e):∃e1 e2,eq1 a b=some e1/\yz r q=some e2/\e=(e1&&e2):=by
 unfold yz at h;split at h
 .cases h
 .rename_i e1 h1;split at h
  .cases h;exact⟨_,true,h1,rfl,D5⟩
  .split at h
   .rename_i e2 h2;cases h;exact⟨_,_,h1,h2,rfl⟩
   .cases h
theorem LG{C:Cx} :∀{cs ds:List V} {xs ys:List Value} {e:Bool},gu C cs xs->gu C ds ys->yz cs ds=some e->(e=true↔xs=ys)
 |[],[],xs,ys,e,h1,h2,h=>by
  simp only[gu]at h1 h2;subst h1;subst h2;have:e=true:=by simpa[yz]using h.symm
  simp[this]
 |[],_::_,_,_,_,_,_,h=>by simp[yz]at h|_::_,[],_,_,_,_,_,h=>by simp[yz]at h|a::r,b::q,xs,ys,e,hx,hy,h=>by
  obtain⟨v,vs,rfl,hv,_,hvs⟩:=hx;obtain⟨u,us,rfl,hu,_,hus⟩:=hy;obtain⟨e1,e2,k1,k2,rfl⟩:=VY h;have ih:=LG hvs hus k2;have hd:e1=true↔v=u:=by
   cases a<;>cases b<;>simp only[eq1]at k1<;>try (cases k1;done)
   case b.b x y=>have hv:v= .bool x:=hv;have hu:u= .bool y:=hu;subst hv;subst hu;cases k1;simp[QS]
   case i.i j x k y=>
    have hv:v= .int j x:=hv;have hu:u= .int k y:=hu;subst hv;subst hu;by_cases hk:j=k
    .subst hk;simp only[decide_true,cond_true,F8]at k1;subst k1;simp[D6]
    .simp[hk]at k1
   case s.s x y=>have hv:v= .string ⟨x.toArray⟩:=hv;have hu:u= .string ⟨y.toArray⟩:=hu;subst hv;subst hu;cases k1;simp[seq]
  simp only[A8,G8,hd,ih]
def VOf(P:Program)(t:TypeId)(xs:List Value)(v:Value):Prop:=match P.underlying t with
 |some (.struct _)=>v= .agg xs.toArray|_=>xs=[v]
variable {P:Program}{t:TypeId}
theorem ZP{i:TypeInfo}(h:P.info? t=some i):P.cellsOf t=i.size:=by simp[Program.cellsOf,h]
variable {n:Nat}{sh:List Ty}
theorem Td(hc:xx P n t sh=true)(hcs:P.cellsOf t=sh.length){cs:Array Value}{off:Nat}(hl:off+sh.length<=cs.size)(w:World):
  ∃v,(part t cs off).run P w= .ok v w/\VOf P t ((cs.toList.drop off).take sh.length) v:=by
 cases n with
 |zero=>cases hc|succ n=>
  unfold xx at hc;split at hc
  all_goals try (cases hc;done)
  .rename_i ht;split at hc<;>try (cases hc;done)
   simp only[D9,O7]at hl ⊢;refine⟨cs[off]'o5,?_,?_⟩
   .have h1:=BG (P:=P) (t:=t) (d:=.bool) ht w;simp only[part,I4,h1,I5,bK,fD,if_false,O8 (show off<cs.size by omega),V9]
   .simp only[VOf,ht];apply mY
    .simp;omega
    .intro i h1 h2;simp at h1 h2;simp[show i=0 by omega]
  .rename_i k ht;split at hc<;>try (cases hc;done)
   simp only[D9,O7]at hl ⊢;refine⟨cs[off]'o5,?_,?_⟩
   .have h1:=BG (P:=P) (t:=t) (d:=.int k) ht w;simp only[part,I4,h1,I5,bK,fD,if_false,O8 (show off<cs.size by omega),V9]
   .simp only[VOf,ht];apply mY
    .simp;omega
    .intro i h1 h2;simp at h1 h2;simp[show i=0 by omega]
  .rename_i ht;split at hc<;>try (cases hc;done)
   simp only[D9,O7]at hl ⊢;refine⟨cs[off]'o5,?_,?_⟩
   .have h1:=BG (P:=P) (t:=t) (d:=.str) ht w;simp only[part,I4,h1,I5,bK,fD,if_false,O8 (show off<cs.size by omega),V9]
   .simp only[VOf,ht];apply mY
    .simp;omega
    .intro i h1 h2;simp at h1 h2;simp[show i=0 by omega]
  .rename_i fs ht;simp only[A8]at hc;obtain⟨⟨⟨_,h2⟩,_⟩,_⟩:=hc;obtain⟨inf,hinf⟩:=Option.isSome_iff_exists.1 h2;have hsz:=ZP hinf;refine⟨.agg (cs.extract off (off+inf.size)),?_,?_⟩
   .have h1:=BG (P:=P) (t:=t) (d:=.struct (fs.toList.map λf=>(f.type,f.offset))) ⟨fs,ht,rfl⟩ w;have h3:(sizeOf t).run P w= .ok inf.size w:=by
     simp[sizeOf,typeInfo,hinf]
    simp only[part,I4,h1,I5,bK,if_true,h3,V9]
   .simp only[VOf,ht];congr 1;apply kL;rw[←hsz,hcs];simp[nz,Array.toList_extract]
theorem NS{P:Program} :∀(n:Nat) (t:TypeId) (sh:List Ty),xx P n t sh=true->∀(d:Nat),n<=d->∀(xs ys:List Value) (v u:Value),jM sh xs->jM sh ys->VOf P t xs v->VOf P t ys u->∀w:World,
  ∃r,(Op.equalIn d t v u).run P w= .ok r w/\(r=true↔xs=ys)
 |0,_,_,h,_,_,_,_,_,_,_,_,_,_,_=>by cases h|n+1,t,sh,h,d,hd,xs,ys,v,u,hx,hy,hv,hu,w=>by
  obtain⟨d,rfl⟩:∃k,d=k+1:=⟨d -1,o5⟩;unfold xx at h;split at h
  all_goals try (cases h;done)
  .rename_i ht;split at h<;>try (cases h;done)
   obtain⟨a,r1,rfl,h1⟩:=hx;obtain⟨b,r2,rfl,h2⟩:=hy;simp only[jM]at h1 h2;subst h1;subst h2;simp only[VOf,ht]at hv hu;obtain rfl:=(U0 hv).1;obtain rfl:=(U0 hu).1;exact⟨a==b,run_equalIn_bool w d t a b ht,D5⟩
  .rename_i k ht;split at h<;>try (cases h;done)
   have:=of_decide_eq_true h;subst this;obtain⟨a,r1,rfl,h1⟩:=hx;obtain⟨b,r2,rfl,h2⟩:=hy;simp only[jM]at h1 h2;subst h1;subst h2;simp only[VOf,ht]at hv hu;obtain rfl:=(U0 hv).1;obtain rfl:=(U0 hu).1;exact⟨a==b,run_equalIn_int w d t k k a b ht,D5⟩
  .rename_i ht;split at h<;>try (cases h;done)
   obtain⟨a,r1,rfl,h1⟩:=hx;obtain⟨b,r2,rfl,h2⟩:=hy;simp only[jM]at h1 h2;subst h1;subst h2;simp only[VOf,ht]at hv hu;obtain rfl:=(U0 hv).1;obtain rfl:=(U0 hu).1;refine⟨a.toList==b.toList,run_equalIn_string w d t a b ht,?_⟩;constructor
   .intro h;have h:=eq_of_beq h;rw[ByteArray.toList_eq,ByteArray.toList_eq]at h;obtain⟨⟨x⟩⟩:=a;obtain⟨⟨y⟩⟩:=b;simp only at h;rw[h]
   .intro h;injection h with h;injection h with h;rw[h];simp
  .rename_i fs ht;simp only[A8,dh]at h;obtain⟨⟨⟨h1,h2⟩,h3⟩,h4⟩:=h;have hlen:=iH h3;simp only[VOf,ht]at hv hu;subst hv;subst hu;have hfo:P.fieldsOf t=fs:=by simp[Program.fieldsOf,ht]
   rw[run_equalIn_struct w d t _ _ (by rw[hfo];exact ht) h1,hfo];have hxl:=hx.length;have hyl:=hy.length;have key:∀(l:List Field) (off:Nat) (s:List Ty),EU (xx P n) P.cellsOf off l s=true->s=sh.drop off->off<=sh.length->∃r,(Op.eqFields d xs.toArray ys.toArray l).run P w= .ok r w/\(r=true↔xs.drop off=ys.drop off):=by
    intro l;induction l with
    |nil=>
     intro off s hs he ho;unfold EU at hs;have:s=[]:=by simpa using hs
     have hoff:off=sh.length:=by have:=congrArg List.length (he.symm.trans this);simp at this;omega
     refine⟨true,rfl,?_⟩;rw[au o5,au o5];simp
    |cons f r ih=>
     intro off s hs he ho;unfold EU at hs;simp only[A8]at hs;obtain⟨⟨⟨⟨g1,g2⟩,g3⟩,g4⟩,g5⟩:=hs;have g2:=iH g2;have g3:=V8 g3;subst he;simp only[aC]at g3;have hsl:((sh.drop off).take (P.cellsOf f.type)).length=P.cellsOf f.type:=by simp;omega
     obtain⟨v1,e1,o1⟩:=Td g4 hsl.symm (cs:=xs.toArray) (off:=off) (by rw[hsl];simp;omega) w;obtain⟨u1,e2,o2⟩:=Td g4 hsl.symm (cs:=ys.toArray) (off:=off) (by rw[hsl];simp;omega) w;rw[hsl]at o1 o2;obtain⟨b1,e3,q1⟩:=NS n f.type _ g4 d o5 _ _ v1 u1 (((hx.take_drop off).2).take_drop _).1 (((hy.take_drop off).2).take_drop _).1 o1 o2 w;obtain⟨b2,e4,q2⟩:=ih (off+P.cellsOf f.type) _ g5 (by rw[X0]) o5;have hne:f.name≠ "_":=by simpa using g1
     have split:(xs.drop off=ys.drop off)↔((xs.drop off).take (P.cellsOf f.type)=(ys.drop off).take (P.cellsOf f.type)/\xs.drop (off+P.cellsOf f.type)=ys.drop (off+P.cellsOf f.type)):=by
      constructor
      .intro h;rw[h];exact⟨rfl,by rw[←X0,←X0,h]⟩
      .rintro⟨p1,p2⟩;rw[←X6 (P.cellsOf f.type) (xs.drop off),←X6 (P.cellsOf f.type) (ys.drop off),p1,X0,X0,p2]
     simp only[Op.eqFields,if_pos hne,I4,g2,e1,e2,e3,I5];cases b1 with
     |false=>
      refine⟨false,D5,?_⟩;have:¬((xs.drop off).take (P.cellsOf f.type)=(ys.drop off).take (P.cellsOf f.type)):=λh=>by have:=q1.2 h;cases this
      simp only[fD,false_iff];intro h;exact this (split.1 h).1
     |true=>refine⟨b2,by simpa using e4,?_⟩;rw[q2,split];exact⟨λh=>⟨q1.1 rfl,h⟩,λh=>h.2⟩
   have:=key fs.toList 0 sh h4 D5 o5;simpa using this
theorem UO{P:Program}(em:Bool):∀(n:Nat) (t:TypeId) (sh:List Ty),xx P n t sh=true->∀(d:Nat),n<=d->∀(xs:List Value) (v:Value),jM sh xs->VOf P t xs v->∀w:World,
  (Instr.checkKey em d t v).run P w= .ok () w
 |0,_,_,h,_,_,_,_,_,_,_=>by cases h|n+1,t,sh,h,d,hd,xs,v,hx,hv,w=>by
  obtain⟨d,rfl⟩:∃k,d=k+1:=⟨d -1,o5⟩;unfold xx at h;split at h
  all_goals try (cases h;done)
  .rename_i ht;split at h<;>try (cases h;done)
   obtain⟨a,r1,rfl,h1⟩:=hx;simp only[jM]at h1;subst h1;simp only[VOf,ht]at hv;obtain rfl:=(U0 hv).1;simp[Instr.checkKey,run_underlying ht]
  .rename_i k ht;split at h<;>try (cases h;done)
   have:=of_decide_eq_true h;subst this;obtain⟨a,r1,rfl,h1⟩:=hx;simp only[jM]at h1;subst h1;simp only[VOf,ht]at hv;obtain rfl:=(U0 hv).1;simp[Instr.checkKey,run_underlying ht]
  .rename_i ht;split at h<;>try (cases h;done)
   obtain⟨a,r1,rfl,h1⟩:=hx;simp only[jM]at h1;subst h1;simp only[VOf,ht]at hv;obtain rfl:=(U0 hv).1;simp[Instr.checkKey,run_underlying ht]
  .rename_i fs ht;simp only[A8,dh]at h;obtain⟨⟨⟨h1,h2⟩,h3⟩,h4⟩:=h;have hlen:=iH h3;simp only[VOf,ht]at hv;subst hv;have hxl:=hx.length;have key:∀(l:List Field) (off:Nat) (s:List Ty),EU (xx P n) P.cellsOf off l s=true->s=sh.drop off->off<=sh.length->
     (forIn l PUnit.unit (λ(f:Field) (_:PUnit)=>(do
      if f.name≠ "_" then Instr.checkKey em d f.type (←part f.type xs.toArray f.offset)
      pure (ForInStep.yield PUnit.unit):Sem (ForInStep PUnit)))).run P w= .ok PUnit.unit w:=by
    intro l;induction l with
    |nil=>intro off s hs he ho;rfl|cons f r ih=>
     intro off s hs he ho;unfold EU at hs;simp only[A8]at hs;obtain⟨⟨⟨⟨g1,g2⟩,g3⟩,g4⟩,g5⟩:=hs;have g2:=iH g2;have g3:=V8 g3;subst he;simp only[aC]at g3;have hsl:((sh.drop off).take (P.cellsOf f.type)).length=P.cellsOf f.type:=by simp;omega
     obtain⟨v1,e1,o1⟩:=Td g4 hsl.symm (cs:=xs.toArray) (off:=off) (by rw[hsl];simp;omega) w;rw[hsl]at o1;have e3:=UO em n f.type _ g4 d o5 _ v1 (((hx.take_drop off).2).take_drop _).1 o1 w;have e4:=ih (off+P.cellsOf f.type) _ g5 (by rw[X0]) o5;have hne:f.name≠ "_":=by simpa using g1
     simp only[List.forIn_cons,I4,hne,ne_eq,not_false_eq_true,if_true,g2,e1,e3,I5,V9];exact e4
   have:=key fs.toList 0 sh h4 D5 o5;simp only[Instr.checkKey,I4,run_underlying ht,I5];simp at this;simp[this]
theorem Yf(hn:n<=10000)(h:xx P n t sh=true)(hs:(match P.underlying t with|some (.struct _)=>true|_=>false)=true):Xw P t sh:=by
 have hv:∀zs:Array Value,VOf P t zs.toList (.agg zs):=λzs=>by
  unfold VOf;split
  .simp
  .rename_i hh;exfalso;split at hs
   .rename_i fs hf;exact hh fs hf
   .cases hs
 refine⟨?_,λw xs hx=>⟨λem=>UO em n t sh h 10000 hn _ _ hx (hv xs) w,λys hy=>NS n t sh h 10000 hn _ _ _ _ hx hy (hv xs) (hv ys) w⟩⟩;split at hs
 .rename_i fs hf;exact⟨fs,hf⟩
 .cases hs
theorem f_(hn:n<=10000)(h:xx P n t sh=true)(hs:(match P.underlying t with|some (.struct _)=>true|_=>false)=true)(hg:P.eqGuardType P.depth t=false):IW P t sh:=by
 refine⟨?_,Yf hn h hs⟩;intro w C cs ds xs ys e op x y s1 s2 h1 h2 he hop;have hv:∀zs:Array Value,VOf P t zs.toList (.agg zs):=λzs=>by
  unfold VOf;split
  .simp
  .rename_i hh;exfalso;split at hs
   .rename_i fs hf;exact hh fs hf
   .cases hs
 obtain⟨r,hr,hq⟩:=NS n t sh h 10000 hn _ _ _ _ (EG s1 h1) (EG s2 h2) (hv xs) (hv ys) w;have hre:r=e:=by have:=LG h1 h2 he;cases r<;>cases e<;>simp_all
 subst hre;rcases hop with rfl|rfl
 .rw[I4,run_eqGuard_agg w .eql t x y xs ys hg];simp only[I5,run_eql_struct,hr,if_pos]
 .rw[I4,run_eqGuard_agg w .neq t x y xs ys hg];simp[run_neq_struct,hr]
def g_(P:Program):List (Nat×List Ty)->Bool
 |[]=>true|(t,sh)::r=>xx P 20 t sh&&(match P.underlying t with|some (.struct _)=>true|_=>false)&&!P.eqGuardType P.depth t&&g_ P r
theorem XQ{P:Program} :∀{l:List (Nat×List Ty)},g_ P l=true->∀t sh,dO l t=some sh->IW P t sh
 |[],_,t,sh,h=>by simp[dO]at h|(k,v)::r,hc,t,sh,h=>by
  unfold g_ at hc;simp only[A8,dh]at hc;unfold dO at h;cases hb:Nat.beq k t
  .simp only[hb,cond_false]at h;exact XQ hc.2 t sh h
  .simp only[hb,cond_true,F8]at h;have:=iH hb;subst this;subst h;exact f_ o5 hc.1.1.1 hc.1.1.2 hc.1.2
end Go.GP
namespace Go.GP
open Go.ChangeShapes Go.WideShapes Go.RowKit
def wf:(t:Ty)->t.den->Prop
 | .bool,_=>True| .int k,n=>(Lit.int k n).wf=true| .str,l=>l.length<=reachBytes| .sl t,xs=>xs.length<=reachBytes/\∀x∈xs,wf t x| .prod a b,x=>wf a x.1/\wf b x.2| .unit,_=>True| .any _,_=>True| .ent _ _ a b,x=>wf a x.1/\wf b x.2
def BB(rec:TypeId->Ty->Bool)(cells:TypeId->Nat):Nat->List Field->Ty->Bool
 |off,fs,u=>match fs with
  |[]=>false
  |f::r=>match r with
   |[]=>Nat.beq f.offset off&&rec f.type u&&Nat.beq (cells f.type) u.size
   |g::r' =>match u with
    | .prod a b=>Nat.beq f.offset off&&rec f.type a&&Nat.beq (cells f.type) a.size&&BB rec cells (off+a.size) (g::r') b|_=>false
termination_by _ fs _=>fs.length
def Xp(P:Program):Nat->TypeId->Ty->Bool
 |0,_,_=>false
 |n+1,t,u=>match P.underlying t with
  |some .bool=>(match u with| .bool=>true|_=>false)|some (.int k)=>(match u with| .int k' =>decide (k=k')|_=>false)|some .string=>(match u with| .str=>true|_=>false)|some (.slice e)=>(match u with| .sl v=>Xp P n e v&&Nat.beq (P.cellsOf e) v.size&&Nat.blt 0 v.size&&Nat.blt 0 (P.bytesOf e)&&!v.isEnt|_=>false)|some (.struct fs)=>BB (Xp P n) P.cellsOf 0 fs.toList u&&Nat.beq (P.cellsOf t) u.size|_=>false
theorem LV{α:Type}{Q:Nat->α->Prop} :∀(n:Nat),(∀i,i<n->∃x,Q i x)->∃xs:List α,xs.length=n/\∀i x,xs[i]? =some x->Q i x
 |0,_=>⟨[],rfl,λi x h=>by simp at h⟩|n+1,h=>by
  obtain⟨xs,hl,hx⟩:=LV n λi hi=>h i o5;obtain⟨y,hy⟩:=h n o5;refine⟨xs++[y],by simp[hl],λi x hi=>?_⟩;by_cases hin:i<n
  .rw[J5 o5]at hi;exact hx i x hi
  .rw[G6 o5]at hi;have:i -xs.length=0:=by
    rcases oM (i -xs.length) 1 with h1|h1
    .omega
    .rw[aZ (by simpa using h1)]at hi;cases hi
   rw[this]at hi;simp at hi;subst hi;have e:i=n:=o5;subst e;exact hy
variable {n:Nat}
theorem QZ{w:World}{a:Addr}{es:List Value}(hn:0<n)(h:w.cells? 0 a n=some es):
  a.spot=none/\a.block<w.heap.size/\dE w.heap a.block a.off n=some es:=by
 obtain⟨blk,off,spot⟩:=a;simp only[World.cells?,aU,if_true]at h;have hlen:es.length=n:=by simpa using Lib.mapM_length h
 have hat:∀i,i<n->∃b,es[i]? =some b/\w.cell? (Addr.add ⟨blk,off,spot⟩ i)=some b:=λi hi=>Lib.mapM_at h i i (by simp[hi]);obtain⟨b0,_,h0⟩:=hat 0 hn;simp only[Addr.add,if_true,World.cell?]at h0;cases hb:w.heap[blk]? with
 |none=>simp[hb]at h0|some o=>
  cases o<;>simp only[hb]at h0<;>try (cases h0;done)
  rename_i c T f;have hs:spot=none:=by
   cases spot with
   |none=>rfl|some _=>simp at h0
  subst hs;have hat' :∀i,i<n->es[i]? =c[off+i]?/\off+i<c.size:=λi hi=>by
   obtain⟨b,h1,h2⟩:=hat i hi;have h3:c[off+i]? =some b:=by
    by_cases hi0:i=0
    .subst hi0;simpa[Addr.add,World.cell?,hb]using h2
    .simpa[Addr.add,World.cell?,hb,hi0]using h2
   exact⟨h1.trans h3.symm,(N8.1 h3).1⟩
  refine⟨rfl,(N8.1 hb).1,?_⟩;have hle:off+n<=c.size:=by have:=(hat' (n -1) o5).2;omega
  rw[jO hb _ _ hle];congr 1;apply gm;intro i;by_cases hi:i<n
  .rw[(hat' i hi).1,jU hi,U8];simp
  .rw[aZ G5,aZ o5]
section
variable {H:Type} {enc:TypeId×Value->H} {P:Program} {w:World} {sp:Nat->Bool} {held:Bool} {ok:Nat->Ty->Prop}
theorem IU{e:TypeId} :∀{l:List (DataW H)} {d:DataW H},d∈l->∀b∈d.weights P e,b∈DataW.weightsAll P e l
 |x::l,d,h,b,hb=>by
  simp only[DataW.weightsAll,F9];rcases C9.1 h with rfl|h
  .exact .inl hb
  .exact .inr (IU h b hb)
theorem RF{n:Nat}(IH:∀t u,Xp P n t u=true->∀fQ cs d ps,DataW.trod enc P w 0 sp held fQ t cs=some (d,ps)->(∀b∈d.weights P t,b<=reachBytes)->∃x,lw w.heap ok u x cs/\wf u x){cs:List Value}{m:Nat} :
  ∀(fs:List Field) (off:Nat) (u:Ty),BB (Xp P n) P.cellsOf off fs u=true->∀(xs:List (DataW H×List MemPlace)),xs.length=fs.length->
   (∀(i:Nat) (f:Field),fs[i]? =some f->DataW.trod enc P w 0 sp held m f.type ((cs.drop f.offset).take (P.cellsOf f.type))=xs[i]?)->(∀b∈DataW.weightsEach P (fs.map (·.type)) (xs.map (·.1)),b<=reachBytes)->
   ∃x,lw w.heap ok u x ((cs.drop off).take u.size)/\wf u x
 |[],off,u,h,_,_,_,_=>by unfold BB at h;cases h|[f],off,u,h,xs,hl,hx,hw=>by
  unfold BB at h;simp only[A8]at h;have h1:=iH h.1.1;have h3:=iH h.2;match xs,hl with
  |[y],_=>have h4:=hx 0 f rfl;rw[h1,h3]at h4;refine IH _ _ h.1.2 _ _ y.1 y.2 (by simpa using h4) λb hb=>hw b ?_;simp[DataW.weightsEach,hb]
 |f::g::r,off,u,h,xs,hl,hx,hw=>by
  unfold BB at h;cases u<;>try (cases h;done)
  rename_i a b;simp only[A8]at h;obtain⟨⟨⟨h1,h2⟩,h3⟩,h4⟩:=h;have h1:=iH h1;have h3:=iH h3;match xs,hl with
  |y::ys,hl=>
   have h5:=hx 0 f rfl;rw[h1,h3]at h5;obtain⟨p,hp,wp⟩:=IH _ _ h2 _ _ y.1 y.2 (by simpa using h5) λc hc=>hw c (by simp[DataW.weightsEach,hc]);obtain⟨q,hq,wq⟩:=RF IH (g::r) (off+a.size) b h4 ys (by simpa using hl) (λi f' hf=>by have:=hx (i+1) f' (by simpa using hf);simpa using this) λc hc=>hw c (by simp only[dL,DataW.weightsEach,F9];simp only[dL]at hc;exact .inr hc)
   refine⟨(p,q),⟨_,_,?_,hp,hq⟩,wp,wq⟩;show(cs.drop off).take (a.size+b.size)=_;rw[List.take_add,X0]
theorem IB(hok:∀b t,b<w.heap.size->ok b t):∀(n:Nat) (t:TypeId) (u:Ty),Xp P n t u=true->∀(fQ:Nat) (cs:List Value) (d:DataW H) (ps:List MemPlace),DataW.trod enc P w 0 sp held fQ t cs=some (d,ps)->
  (∀b∈d.weights P t,b<=reachBytes)->∃x,lw w.heap ok u x cs/\wf u x
 |0,_,_,h,_,_,_,_,_,_=>by cases h|n+1,t,u,h,fQ,cs,d,ps,hd,hw=>by
  unfold Xp at h;split at h
  .rename_i ht;cases u<;>try (cases h;done)
   obtain⟨b,rfl,hx⟩:=DataW.trod_bool ht hd;exact⟨b,rfl,trivial⟩
  .rename_i k ht;cases u<;>try (cases h;done)
   rename_i k';have:=of_decide_eq_true h;subst this;obtain⟨b,rfl,hx,hwf⟩:=DataW.trod_int ht hd;exact⟨b,rfl,hwf⟩
  .rename_i ht;cases u<;>try (cases h;done)
   obtain⟨s,rfl,hx,hs⟩:=DataW.trod_string ht hd;simp only[jr]at hx;obtain⟨rfl,rfl⟩:=hx;refine⟨s.data.toList,rfl,hw _ ?_⟩;simp[DataW.weights]
  .rename_i e ht;cases u<;>try (cases h;done)
   rename_i v;simp only[A8,dh]at h;obtain⟨⟨⟨⟨h1,h2⟩,h3⟩,h4⟩,hE0⟩:=h;have h2:=iH h2;rw[cZ]at h3 h4;rcases DataW.trod_slice ht hd with⟨rfl,hx⟩|⟨a,len,cap,elems,rest,m,rfl,rfl,hx,hb,hl,hm,hlen,hel,_,_⟩
   .exact⟨[],.inl ⟨hE0,none,0,rfl,A7 _,λi x hi=>by simp at hi⟩,D5,λx hx=>by simp at hx⟩
   .simp only[jr]at hx;obtain⟨rfl,rfl⟩:=hx;have hW:DataW.weights P t (.slice (elems.map (·.1)) (rest.map (·.1)):DataW H)=((elems.map (·.1)).length+(rest.map (·.1)).length)*P.bytesOf e::(DataW.weightsAll P e (elems.map (·.1))++DataW.weightsAll P e (rest.map (·.1))):=by
     simp only[DataW.weights,ht]
    rw[hW]at hw;have hsz:=hw _ (iy ..);simp only[P6]at hsz;have hlr:len<=reachBytes:=by have h6:(elems.length+rest.length)*1<=(elems.length+rest.length)*P.bytesOf e:=Nat.mul_le_mul_left _ h4;omega
    have each:∀i,i<len->∃x,wf v x/\a.spot=none/\a.block<w.heap.size/\∃es,dE w.heap a.block (a.off+i*v.size) v.size=some es/\lw w.heap ok v x es:=by
     intro i hi;have h5:=hel i hi;rw[h2]at h5;rw[mW o5]at h5;obtain⟨es,hc,hd2⟩:=Option.bind_eq_some_iff.1 h5;obtain⟨x,hx,wx⟩:=IB hok n e v h1 m es _ _ hd2 λb hb=>hw b (by refine P7 _ (iI _ (IU (d:=(elems[i]'o5).1) (az.2 ⟨_,Y1 o5,rfl⟩) b hb)))
     obtain⟨s1,s2,s3⟩:=QZ h3 hc;by_cases hz:i*v.size=0
     .simp only[Addr.add,hz,if_true]at s1 s2 s3;exact⟨x,wx,s1,s2,es,by simpa[hz]using s3,hx⟩
     .simp only[Addr.add,hz,if_false]at s1 s2 s3;obtain⟨es0,hc0,_⟩:=Option.bind_eq_some_iff.1 (show((w.cells? 0 (a.add (0*P.cellsOf e)) (P.cellsOf e)).bind (DataW.trod enc P w 0 sp held m e))=some (elems[0]'o5) by rw[hel 0 o5,mW o5]);rw[h2]at hc0;have s0:=(QZ h3 hc0).1;simp only[Nat.zero_mul,Addr.add,if_true]at s0;exact⟨x,wx,s0,s2,es,s3,hx⟩
    obtain⟨xs,hxl,hxs⟩:=LV len each;refine⟨xs,.inl ⟨hE0,some a,cap,by simp[hxl],o5,λi x hi=>?_⟩,o5,λx hx=>?_⟩
    .obtain⟨_,s1,s2,es,s3,s4⟩:=hxs i x hi;refine⟨a.block,a.off,es,?_,hok _ _ s2,s3,s4⟩;obtain⟨b,o,s⟩:=a;simp only at s1;subst s1;rfl
    .obtain⟨i,hi,rfl⟩:=List.mem_iff_getElem.1 hx;exact(hxs i _ (mW hi)).1
  .rename_i fs ht;simp only[A8]at h;have h2:=iH h.2;obtain⟨xs,m,rfl,hx,hl,hlen,hf⟩:=DataW.trod_struct ht hd;simp only[jr]at hx;obtain⟨rfl,rfl⟩:=hx;have hW:DataW.weights P t (.agg (xs.map (·.1)):DataW H)=DataW.weightsEach P (fs.toList.map (·.type)) (xs.map (·.1)):=by simp only[DataW.weights,ht]
   rw[hW]at hw;have:=RF (cs:=cs) (m:=m) (λt u hu fQ cs d ps hd hw=>IB hok n t u hu fQ cs d ps hd hw) fs.toList 0 u h.1 xs (by simpa using hlen) (λi f hi=>hf i f (by simpa using hi)) hw;rwa[jQ,U1 o5]at this
  .cases h
end
def a3O(P:Program)(t:TypeId):Bool:=match P.underlying t with|some (.struct _)=>true|_=>false
variable {P:Program}
theorem a8Y{W:World}{base n:Nat}{t:TypeId}{u:Ty}{v:Value}(h:Xp P n t u=true)(hv:Value.okWide P W .any base t v):Ot (a3O P t) v v.cells.toList:=by
 cases n with
 |zero=>cases h|succ n=>
  unfold Xp at h;unfold a3O;split at h
  .rename_i ht;simp only[Value.okWide,ht,Cell.okWide,Cell.ok]at hv ⊢;cases v<;>first|rfl|exact absurd hv D5
  .rename_i ht;simp only[Value.okWide,ht,Cell.okWide,Cell.ok]at hv ⊢;cases v<;>first|rfl|exact absurd hv D5
  .rename_i ht;simp only[Value.okWide,ht,Cell.okWide,Cell.ok]at hv ⊢;cases v<;>first|rfl|exact absurd hv D5
  .rename_i ht;simp only[Value.okWide,ht,Cell.okWide,Cell.ok]at hv ⊢;cases v<;>first|rfl|exact absurd hv D5
  .rename_i ht;simp only[Value.okWide,ht]at hv ⊢;obtain⟨cs,rfl,_,_⟩:=hv;exact⟨cs,rfl,rfl⟩
  .cases h
def qf(P:Program)(n:Nat):List TypeId->List MG->Bool
 |[],[]=>true|t::ts,(g,.dat u)::ms=>Xp P n t u&&(a3O P t==g)&&P.readableRec t&&Nat.blt t P.types.size&&qf P n ts ms|_,_=>false
def wfM:(m:M)->m.den->Prop
 | .dat t,x=>wf t x|_,_=>True
def ZA:(ms:List MG)->aP ms->Prop
 |[],_=>True|[m],x=>wfM m.2 x|m::m' ::r,x=>wfM m.2 x.1/\ZA (m' ::r) x.2
section
variable {H:Type} {enc:TypeId×Value->H} {P:Program} {W:World} {base n:Nat} {ok:Nat->Ty->Prop}
theorem Vy(hok:∀b t,b<W.heap.size->ok b t):∀{ts:List TypeId} {ms:List MG} {vs:List Value} {ds:List (DataW H)} {ps:List MemPlace},qf P n ts ms=true->DataW.TrodAll enc P W 0 (λ_=>true) true ts vs ds ps->
  (∀(j:Nat) t v,ts[j]? =some t->vs[j]? =some v->Value.okWide P W .any base t v)->(∀b∈DataW.weightsEach P ts ds,b<=reachBytes)->∃x,sZ W.heap ok ms x vs []/\ZA ms x
 |[],[],vs,ds,ps,h,hd,hv,hw=>by obtain⟨rfl,rfl,rfl⟩:=trodAll_nil hd;exact⟨(),⟨rfl,rfl⟩,trivial⟩
 |[],_::_,_,_,_,h,_,_,_=>by simp[qf]at h|_::_,[],_,_,_,h,_,_,_=>by simp[qf]at h|t::ts,(g,m)::ms,vs,ds,ps,h,hd,hv,hw=>by
  cases m<;>simp only[qf,A8]at h<;>try (cases h;done)
  rename_i u;obtain⟨⟨⟨⟨h1,h2⟩,_⟩,_⟩,h3⟩:=h;have h2:=eq_of_beq h2;subst h2;obtain⟨v,vs',d,ds',p,q,rfl,rfl,rfl,⟨fQ,h4⟩,h5⟩:=trodAll_cons hd;have hw' :∀b∈d.weights P t++DataW.weightsEach P ts ds',b<=reachBytes:=by simpa only[DataW.weightsEach]using hw
  obtain⟨x,hx,wx⟩:=IB (ok:=ok) hok n t u h1 _ _ _ _ h4 λb hb=>hw' b (iI _ hb);have hg:=a8Y h1 (hv 0 t v rfl rfl);obtain⟨y,hy,wy⟩:=Vy hok h3 h5 (λj t v hj hk=>hv (j+1) t v (by simpa using hj) (by simpa using hk)) λb hb=>hw' b (lH _ hb);cases ms with
  |nil=>
   cases ts with
   |cons _ _=>simp[qf]at h3|nil=>obtain⟨rfl,rfl,rfl⟩:=trodAll_nil h5;exact⟨x,⟨v,_,rfl,hg,hx,rfl⟩,wx⟩
  |cons m' ms=>exact⟨(x,y),⟨v,_,vs',[],[],rfl,rfl,hg,⟨hx,rfl⟩,hy⟩,wx,wy⟩
theorem JW(hl:laidOutB P=true){W' :World}(hb:Below W.heap.size W W'){sp:Nat->Bool} :∀{ts:List TypeId} {ms:List MG} {vs:List Value} {ds:List (DataW H)} {ps:List MemPlace},qf P n ts ms=true->
  DataW.TrodAll enc P W 0 (λ_=>true) true ts vs ds ps->(∀x∈ps,x.block<W.heap.size)->(∀x∈ps,sp x.block=true)->DataW.TrodAll enc P W' 0 sp true ts vs ds ps
 |[],ms,vs,ds,ps,h,hd,_,_=>by obtain⟨rfl,rfl,rfl⟩:=trodAll_nil hd;rfl
 |_::_,[],_,_,_,h,_,_,_=>by simp[qf]at h|t::ts,(g,m)::ms,vs,ds,ps,h,hd,hlt,hsp=>by
  cases m<;>simp only[qf,A8]at h<;>try (cases h;done)
  obtain⟨⟨⟨⟨h1,h2⟩,h6⟩,h7⟩,h3⟩:=h;rw[cZ]at h7;obtain⟨v,vs',d,ds',p,q,rfl,rfl,rfl,h4,h5⟩:=trodAll_cons hd;exact⟨p,q,WideElems.Trod_stays hl h6 h7 h4 (λx hx=>hb.same (hlt x (iI _ hx))) (λx hx=>hsp x (iI _ hx)),
   JW hl hb h3 h5 (λx hx=>hlt x (lH _ hx)) (λx hx=>hsp x (lH _ hx)),rfl⟩
end
theorem Ya{W:World}{name:String}{g:Nat}{k:IntKind}{zs:List Int}(hg:P.globalNamed name=some g)(hz:0<zs.length)(h:Lib.TabIs P W name k zs):
  GK ⟨W.heap,λb _=>b<W.heap.size,nom⟩ g (.int k) zs:=by
 have hc:∀i z,zs[i]? =some z->W.cell? ⟨g,i,none⟩=some (.int k z):=λi z hi=>by have:=World.var?_cell hg h i;rw[this];simp[hi]
 have key:∀i z,zs[i]? =some z->g<W.heap.size/\dE W.heap g i 1=some [.int k z]:=λi z hi=>by
  have h1:=hc i z hi;have h2:W.cells? 0 ⟨g,i,none⟩ 1=some [.int k z]:=by simp[World.cells?,jq,Addr.add,h1]
  obtain⟨_,s2,s3⟩:=QZ o5 h2;exact⟨s2,s3⟩
 refine⟨(key 0 zs[0] (mW hz)).1,?_,λi z hi=>⟨_,?_,rfl⟩⟩
 .unfold Lib.TabIs World.var? at h;simp only[hg,ja]at h;split at h
  .rename_i cs T f hb;simp only[F8]at h;subst h;exact⟨_,T,f,hb,by simp[Ty.size]⟩
  .cases h
 .have:=(key i z hi).2;simpa[Ty.size]using this
theorem Zo{w:World}{ok:Nat->Ty->Prop}{m:Mp}{name:String}{g:Nat}{k:IntKind}{zs:List Int}(hg:P.globalNamed name=some g)(h:GK ⟨w.heap,ok,m⟩ g (.int k) zs):Lib.TabIs P w name k zs:=by
 obtain⟨_,⟨c,T,f,hb,hl⟩,hz⟩:=h;unfold Lib.TabIs World.var?;simp only[hg,ja,hb,F8];simp only[Ty.size,dG]at hl;apply Array.ext
 .simp[hl]
 .intro i h1 h2;have hi:i<zs.length:=by simpa using h2
  obtain⟨es,he,hr⟩:=hz i zs[i] (mW hi);rw[jO hb _ _ (by simp[Ty.size];omega)]at he;simp only[Ty.size,dG,F8]at he;have h3:es=[.int k zs[i]]:=hr;rw[h3]at he;have h4:=congrArg (λl=>l[0]?) he;simp only[jU (show 0<1 by omega),U8,Z8,fU]at h4;rw[Y9,O8 h1]at h4;simpa using h4
theorem a8R{h:Array Obj}{all:List Value} :∀{ms:List MG} {ts:List TypeId} {vs:List Value},qf P n ts ms=true->a2o h all ms vs:=by
 intro ms;induction ms with
 |nil=>intro ts vs _;trivial|cons md ms ih=>
  intro ts vs hp;obtain⟨g,md⟩:=md;cases ts with
  |nil=>cases hp|cons t ts=>
   cases md<;>simp only[qf,A8]at hp<;>try (cases hp;done)
   cases vs with
   |nil=>trivial|cons v vs=>exact ih hp.2
theorem Wp{H:Type}{enc:TypeId×Value->H}{gl:List (Nat×(t:Ty)×List t.den)}{f:FuncId}{fn:Func}{s:ChangeSpec}{ms:List MG}{F:aP ms->Option Bool}{tb:TypeId}
  (hlaid:laidOutB P=true) (hF:ik P gl f ⟨ms,[(false,.dat .bool)],[],F⟩) (law:∀x,ZA ms x->F x=some true) (hpars:qf P 30 fn.params.toList ms=true) (hres:fn.resultTypes=#[tb]) (hbool:P.underlying tb=some .bool)
  (hvars:s.vars=[]) (hsfn:∀ds:List (DataW H),ds.length=ms.length->s.fn H ds= { results:=[.lit (.bool true)],args:=ds })
  {W:World} {base:Nat} {args:Array Value} {ds gs:List (DataW H)} {before:List MemPlace} {apart fresh handsOn again:Bool}
  (hgl:∀g u,dO gl g=some u->GK ⟨W.heap,λb _=>b<W.heap.size,nom⟩ g u.1 u.2)
  (hval:∀(j:Nat) t v,fn.params[j]? =some t->args[j]? =some v->Value.okWide P W .any base t v)
  (hW:DataW.Whole enc P fn.params.toList s.vars apart W args.toList ds gs before)
  (hz:(DataW.weightsEach P (fn.params.toList++s.plain.varTypes P) (ds++gs)).all (·<=reachBytes)=true):
  Calls P f args W λe W' =>∃v,e= .returned v/\s.post enc P fn apart fresh handsOn again W args v W' :=by
 have hW' :=hW;obtain⟨p,q,hA,hV,rfl,hfz,hnd⟩:=hW;rw[hvars]at hV;obtain⟨rfl,rfl⟩:=trodVars_none hV;have hlen:ds.length=ms.length:=by
  have:∀{ts:List TypeId} {ms:List MG} {vs:List Value} {ds:List (DataW H)} {ps:List MemPlace},qf P 30 ts ms=true->DataW.TrodAll enc P W 0 (λ_=>true) true ts vs ds ps->ds.length=ms.length:=by
   intro ts;induction ts with
   |nil=>
    intro ms vs ds ps h hd;obtain⟨rfl,rfl,rfl⟩:=trodAll_nil hd;cases ms with
    |nil=>rfl|cons _ _=>simp[qf]at h
   |cons t ts ih=>
    intro ms vs ds ps h hd;obtain⟨v,vs',d,ds',p,q,rfl,rfl,rfl,h4,h5⟩:=trodAll_cons hd;cases ms with
    |nil=>simp[qf]at h|cons m ms=>
     obtain⟨g,m⟩:=m;cases m<;>simp only[qf,A8]at h<;>try (cases h;done)
     simp[ih h.2 h5]
  exact this hpars hA
 have hvt:s.plain.varTypes P=[]:=by simp[ChangeSpec.plain,DataSpec.varTypes,hvars]
 rw[hvt]at hz;simp only[E5,kC,decide_eq_true_eq]at hz;obtain⟨x,hx,wx⟩:=Vy (ok:=λb _=>b<W.heap.size) (λb t hb=>hb) hpars hA (λj t v hj hv=>hval j t v (by simpa using hj) (by simpa using hv)) hz;have hc:=hF W (λb _=>b<W.heap.size) [] args.toList x true (λb t hb=>hb) dY (λb hb=>by cases hb) hgl hx (a8R hpars) (law x wx);simp only[Array.toArray_toList]at hc;refine hc.mono λe W' ⟨v,ok',O',rs,os,B,he,hfr,_,_,_,_,hrv,hos,hrel⟩=>?_;subst he;have hnoos:os=[]:=by
  have:∀{ms:List MG} {vs:List Value} {ts:List TypeId},qf P 30 ts ms=true->wZ W'.heap ms vs os B->os=[]:=by
   intro ms;induction ms with
   |nil=>
    intro vs ts h ho;cases vs with
    |nil=>exact ho.1|cons _ _=>exact absurd ho (by simp[wZ])
   |cons m ms ih=>
    intro vs ts h ho;obtain⟨g,m⟩:=m;cases ts with
    |nil=>simp[qf]at h|cons t ts=>
     cases m<;>simp only[qf,A8]at h<;>try (cases h;done)
     cases vs with
     |nil=>exact absurd ho (by simp[wZ])|cons v vs=>exact ih h.2 ho
  exact this hpars hos
 subst hnoos;obtain⟨v1,cs,hvs,hg,⟨hrep,_⟩⟩:=hrel;simp only[E5]at hvs;subst hvs;have hv1:v1= .bool true:=by have h1:cs=[v1]:=hg;have h2:cs=[.bool true]:=hrep;rw[h1]at h2;exact(U0 h2).1
 subst hv1;have hv:v= .bool true:=hrv.2;subst hv;have hbel:Below W.heap.size W W' :=⟨hfr.os,hfr.tape,hfr.output,hfr.size,λk hk=>hfr.block k hk D5⟩;simp only[E5]at hW' hfz;have hlt:∀x∈p,x.block<W.heap.size:=λx hx=>by simpa using hW'.lt x hx
 have hres1:∀(b:Nat) (sp:Nat->Bool) (hd:Bool),DataW.TrodAll enc P W' b sp hd fn.resultTypes.toList ((Value.bool true).resultList fn.resultTypes.size) (s.fn H (ds++[])).results []:=λb sp hd=>by rw[E5,hsfn ds hlen,hres];exact trodAll_cons_mk (shut_bool hbool _) trodAll_mk0
 have hargs1:∀sp:Nat->Bool,(∀x∈p,sp x.block=true)->DataW.TrodAll enc P W' 0 sp true fn.params.toList args.toList (s.fn H (ds++[])).args p:=λsp hs=>by rw[E5,hsfn ds hlen];exact JW hlaid hbel hpars hA hlt hs
 have hvars1:∀sp:Nat->Bool,DataW.TrodVars enc P W' sp s.vars (s.fn H (ds++[])).vars []:=λsp=>by rw[E5,hsfn ds hlen,hvars];rfl
 refine⟨_,rfl,ds,[],p,[],p,[],hW',hres1 _ _ _,hargs1 _ (λx hx=>by simpa using hlt x hx),hvars1 _,World.keptBut_mono (λx hx=>⟨hx,.inr (.inl hx)⟩) (hbel.frame (·∈p)),λ_=>⟨ok_one hres rfl (okWide_bool_mk hbool _),_,_,([]++p)++[],⟨[]++p,[],trodAll_append (hargs1 _ (λ_ _=>rfl)) (hres1 _ _ _),hvars1 _,rfl,?_,?_⟩,?_⟩⟩
 .intro b off hp;simp only[H9,E5]at hp;rw[hbel.frozen (hlt _ hp)];exact hfz b off hp
 .intro ha;obtain⟨_,_,_,_,_,_,hn⟩:=hW';simpa using hn ha
 .intro x hx _;simpa using hx
end Go.GP
namespace Go.GP
open Go.RowKit
theorem ZJ(w:World)(k:Nat)(os:Array Obj):Below w.heap.size w (Sort.grow (w.drewN k) os):=
 ⟨rfl,rfl,rfl,by simp[Sort.grow,World.drewN],λi hi=>by show((w.drewN k).heap++os)[i]? =_;rw[jl (by exact hi)];rfl⟩
theorem En{P:Program}{w w' :World}(hb:Below w.heap.size w w'){ok:Nat->Ty->Prop}(hlt:∀b t,ok b t->b<w.heap.size){ps:List MG}{vals:List Value}(hps:wZ w'.heap ps vals [] []){t:Ty}{x:t.den}{v:Value}(hr:lw w'.heap ok t x [v]):
  ∃v' ok' O' rs os B,(Ending.returned v)= .returned v' /\Frame' w w' []/\(∀b t,ok b t->ok' b t)/\(∀b t,ok' b t->b<w'.heap.size/\(ok b t\/w.heap.size<=b\/b∈([]:List Nat)))/\
   (O' ++B).Nodup/\(∀b∈O' ++B,(∀t,¬ok' b t)/\b<w'.heap.size/\(w.heap.size<=b\/b∈([]:List Nat)))/\
   ZC 1 v' rs/\wZ w'.heap ps vals os B/\sZ w'.heap ok' ([(false,.dat t)]++[]) x (rs++os) O' :=
 ⟨v,ok,[],[v],[],[],rfl,⟨hb.os,hb.tape,hb.output,hb.size,λb h _=>hb.block b h⟩,λb t h=>h,λb t h=>⟨iD (hlt b t h) hb.size,.inl h⟩,D5,D5,⟨rfl,rfl⟩,hps,⟨v,[v],rfl,rfl,hr,rfl⟩⟩
def Ec(n:Int):Option (List UInt8):=if -9223372036854775808<=n/\n<=9223372036854775807 then some (Lib.itoa n)else none
def tY(s:List UInt8)(c:Int):Option (List UInt8):=if 0<=c/\c<=9223372036854775807/\s.length*c.toNat<=140737488355328 then some (Lib.repeatL s c.toNat)else none
variable {P:Program}
theorem u_{f g:Nat}{gl:List (Nat×(t:Ty)×List t.den)}
  (hC:∀(n:Int) (h0:-9223372036854775808<=n) (h1:n<=9223372036854775807) (w:World) (htab:Lib.TabIs P w "internal/strconv.uint64pow10" .u64 Lib.pow10Tab),
   Calls P f #[.int .i64 n] w λe w' =>e= .returned (.string ⟨(Lib.itoa n).toArray⟩)/\∃k os,w' =Sort.grow (w.drewN k) os)
  (hg:P.globalNamed "internal/strconv.uint64pow10"=some g) (hgl:dO gl g=some ⟨.int .u64,Lib.pow10Tab⟩):
  ik P gl f ⟨[(false,.dat (.int .i64))],[(false,.dat .str)],[],λx=>Ec x⟩:=by
 intro w ok O vals x r hlt _ _ hgls hrel hdv hfn;obtain⟨v,cs,rfl,h1,h2,rfl⟩:=hrel;have h1:cs=[v]:=h1;subst h1;have h2:[v]=[.int .i64 x]:=h2;obtain rfl:=(U0 h2).1;simp only[Ec]at hfn;split at hfn
 .rename_i hx;cases hfn;refine(hC x hx.1 hx.2 w (Zo hg (hgls _ _ hgl))).mono λe w' ⟨he,k,os,hw⟩=>?_;subst he;subst hw;exact En (P:=P) (t:=.str) (x:=Lib.itoa x) (ps:=[(false,.dat (.int .i64))]) (vals:=[.int .i64 x]) (ZJ w k os) hlt ⟨rfl,rfl⟩ rfl
 .cases hfn
theorem WU{f:Nat}{gl:List (Nat×(t:Ty)×List t.den)}
  (hC:∀(s:ByteArray) (c:Nat) (w:World) (hc:c<=9223372036854775807) (hlen:s.size*c<=140737488355328),
   Calls P f #[.string s,.int .i64 c] w λe w' =>e= .returned (.string ⟨(Lib.repeatL s.data.toList c).toArray⟩)/\Below w.heap.size w w'):
  ik P gl f ⟨[(false,.dat .str),(false,.dat (.int .i64))],[(false,.dat .str)],[],λx=>tY x.1 x.2⟩:=by
 intro w ok O vals x r hlt _ _ _ hrel hdv hfn;obtain⟨v,cs,vs',O1,O2,rfl,rfl,h1,⟨h2,rfl⟩,v2,cs2,rfl,h3,h4,rfl⟩:=hrel;have h1:cs=[v]:=h1;subst h1;have h3:cs2=[v2]:=h3;subst h3;have h2:[v]=[.string ⟨x.1.toArray⟩]:=h2;have h4:[v2]=[.int .i64 x.2]:=h4;obtain rfl:=(U0 h2).1;obtain rfl:=(U0 h4).1;simp only[tY]at hfn;split at hfn
 .rename_i hx;cases hfn;obtain⟨a,c⟩:=x;simp only at hx ⊢;obtain⟨n,rfl⟩:∃n:Nat,c=n:=⟨c.toNat,(gz hx.1).symm⟩;have hh:=hC ⟨a.toArray⟩ n w (by have:=hx.2.1;omega) (by have h5:=hx.2.2;rw[E9]at h5;simpa[ByteArray.size]using h5);refine Calls.mono hh λe w' ⟨he,hb⟩=>?_;subst he;exact En (P:=P) (t:=.str) (x:=Lib.repeatL a (n:Int).toNat) (ps:=[(false,.dat .str),(false,.dat (.int .i64))]) (vals:=[.string ⟨a.toArray⟩,.int .i64 n]) hb hlt ⟨rfl,rfl⟩ (by simp[lw])
 .cases hfn
end Go.GP
namespace Go.GP
def a9J(Q:Nat->((t:Ty)×List t.den)->Prop):List (Nat×(t:Ty)×List t.den)->Prop
 |[]=>True|(g,u)::r=>Q g u/\a9J Q r
theorem QJ{Q:Nat->((t:Ty)×List t.den)->Prop} :∀{l:List (Nat×(t:Ty)×List t.den)},a9J Q l->∀g u,dO l g=some u->Q g u
 |[],_,g,u,h=>by simp[dO]at h|(k,v)::r,hc,g,u,h=>by
  unfold dO at h;cases hb:Nat.beq k g
  .simp only[hb,cond_false]at h;exact QJ hc.2 g u h
  .simp only[hb,cond_true,F8]at h;have:=iH hb;subst this;subst h;exact hc.1
end Go.GP
