import Derived.Test.YtljnhmnnahpnaaaGreatDoorT0
import Derived.MapKept
import Derived.WideKeyRuns
import Derived.Orders
import Derived.LoopN
import Derived.Laws.StructEq
import Derived.ChangeSame
import Derived.Carry
import Derived.SizedLaws
import Derived.Deep.DeepHandedRow
import Derived.Lib.LaidTab
import Derived.Lib.ItoaNum
import Derived.Lib.ItoaMem
import Derived.Lib.Repeat
import Derived.Sort.Grow
import Derived.Lib.SlicesCompact
import Derived.Lib.Bytealg
import Derived.Sort.Row
set_option linter.all false
namespace Go.GP
theorem IM:∀(vs:List Value) (k off:Nat) (cs:Array Value),off+k+vs.length<=cs.size->
  (vs.zipIdx k).foldl (λcs (x:Value×Nat)=>cs.setIfInBounds (off+x.2) x.1) cs=(cZ (off+k) vs cs.toList).toArray
 |[],k,off,cs,h=>by simp[cZ]|v::vs,k,off,cs,h=>by
  simp only[List.zipIdx_cons,Y1];rw[IM vs (k+1) off (cs.setIfInBounds (off+k) v) (by simp only[F5]at h;rw[Array.size_setIfInBounds];omega)];congr 1;simp only[F5]at h;have hsz:cs.toList.length=cs.size:=rfl;apply dV;intro i;rw[uG (by rw[Array.toList_setIfInBounds,xB];omega),uG (by rw[F5];omega)];simp only[Array.toList_setIfInBounds,F5,X3];by_cases h1:i<off+k
  ·rw[if_pos (show i<off+(k+1) by omega),if_pos h1,if_neg (show ¬off+k=i by omega)]
  ·rw[if_neg h1];by_cases h2:i=off+k
   ·subst h2;rw[if_pos (show off+k<off+(k+1) by omega),if_pos rfl,if_pos (show off+k<cs.toList.length by omega),if_pos (show off+k<off+k+(vs.length+1) by omega)];simp
   ·rw[if_neg (show ¬i<off+(k+1) by omega)];by_cases h3:i<off+(k+1)+vs.length
    ·rw[if_pos h3,if_pos (show i<off+k+(vs.length+1) by omega)];rw[show i -(off+k)=(i -(off+(k+1)))+1 by omega];simp
    ·rw[if_neg h3,if_neg (show ¬i<off+k+(vs.length+1) by omega),if_neg (show ¬off+k=i by omega)]
theorem a0L(v:Value)(off:Nat)(cs:Array Value)(h:off+v.cells.size<=cs.size):
  v.cells.zipIdx.foldl (λcs (c,j)=>cs.setIfInBounds (off+j) c) cs=(cZ off v.cells.toList cs.toList).toArray:=by
 have:=IM v.cells.toList 0 off cs (by simpa using h);rw[eP]at this;rw[←this,←Array.foldl_toList,Array.toList_zipIdx]
theorem Za{place:Nat->Option (Nat×Nat)}{cs:Array Value}{i off size:Nat}{v:Value}{rest:List (Nat×Value)}(hp:place i=some (off,size))(hs:v.cells.size=size)(hf:off+v.cells.size<=cs.size):
  Instr.fill place cs ((i,v)::rest)=Instr.fill place (cZ off v.cells.toList cs.toList).toArray rest:=by
 have h2:¬(v.cells.size≠size\/off+v.cells.size>cs.size):=l7;simp only[Instr.fill,hp];rw[if_neg (by simpa using h2),a0L v off cs hf]
theorem VX{size:Nat} :∀(vs:List Value) (n:Nat) (cs:Array Value),(∀v∈vs,v.cells.size=size)->cs.size=(n+vs.length)*size->
  Instr.fill (λi=>some (i*size,size)) cs ((List.range' n vs.length).zip vs)=some (cs.toList.take (n*size)++vs.flatMap (λv=>v.cells.toList)).toArray
 |[],n,cs,_,h=>by simp only[aP,eP]at h;have:cs.toList.take (n*size)=cs.toList:=aU (by rw[←h];exact F9 _);simp[Instr.fill,this]|v::vs,n,cs,hv,h=>by
  have h1:=hv v A7;simp only[F5]at h;have e1:(n+(vs.length+1))*size=n*size+size+vs.length*size:=by rw[L6,L6];omega
  simp only[F5,nI,lN];rw[Za (off:=n*size) (size:=size) rfl h1 l7];rw[VX vs (n+1) _ (λu hu=>hv u (by simp[hu])) (by have:=zh (p:=n*size) (us:=v.cells.toList) (L:=cs.toList) U6;simp only[jQ,this];rw[L6,L6];simp;omega)]
  congr 2;simp only[List.flatMap_cons];rw[←E9];congr 1;unfold cZ;have hsz:cs.toList.length=cs.size:=rfl;have h1' :v.cells.toList.length=size:=h1;rw[L6,bC,ae (by rw[F8,aV,h1'];omega)];rw[aU (by rw[F8,aV,h1'];omega)]
theorem LU{P:Program}{w:World}{t e:TypeId}{inf:TypeInfo}{z:Value}{n sz:Nat}{parts:Array (Nat×Value)}{F:Array Value}(hu:P.underlying t=some (.slice e))(hi:P.info? e=some inf)(hs:inf.size=sz)(hz:inf.zero=some z)
  (hle:n*sz<=16777216) (hf:∀cs:Array Value,cs.size=n*sz->Instr.fill (λi=>some (i*sz,sz)) cs parts.toList=some F):
  (Instr.buildSlice t n parts).run P w= .ok (.slice (some ⟨w.heap.size,0,none⟩) n n) (w.alloc (.cells F e)):=by
 subst hs;have hsz:(sizeOf e).run P w= .ok inf.size w:=by simp[sizeOf,typeInfo,hi]
 have hnle:¬(n*inf.size>2^24):=by show ¬(n*inf.size>16777216);omega
 unfold Instr.buildSlice;simp only[G5,run_underlying hu,I7,hsz,if_neg hnle];generalize n*inf.size=N at*;have fin:∀zero:Array Value,((match Instr.fill (λi=>some (i*inf.size,inf.size)) ((Array.range N).map (zero[·% zero.size]!)) parts.toList with
   |some cells=>(do pure (Value.slice (some (←newRow e cells)) n n):Sem Value)
   |_=>stuck "buildSlice: a part of the wrong size"):Sem Value).run P w= .ok (.slice (some ⟨w.heap.size,0,none⟩) n n) (w.alloc (.cells F e)):=λzero=>by
  rw[hf _ A7];simp[newRow]
 by_cases hn:N=0
 ·rw[if_pos hn];simp only[G5,Y8,I7];exact fin _
 ·rw[if_neg hn];have hzv:(zeroValue e).run P w= .ok z w:=by simp[zeroValue,typeInfo,hi,hz]
  simp only[G5,hzv,Y8,I7];exact fin _
section
variable {X:Fx} {cl ch:Nat} {S:Sm} {m:Mp} {ok:Nat->Ty->Prop} {a:Act} {w:World} {o:Oper}
theorem JY{α:Type}{Q:α->Sm->Prop}(u:Ty):∀(is:List Nat) (vs:List V) {us:List Value} (n k:Nat) {K:List u.den->Cmd α} {S:Sm} {ok:Nat->Ty->Prop} (R:Rel X cl ch S m ok a w) (hl:is.length=us.length)
  (hv:jK ⟨w.heap,ok,m⟩ vs us)
  (hK:∀S' ok' xs,Rel X cl ch S' m ok' a w->(∀b t,ok b t->ok' b t)->us.length=k->is=List.range' n us.length->(∀v∈us,v.cells.size=u.size)->xs.length=us.length->gQ w.heap ok' u xs (us.flatMap λv=>v.cells.toList)->(K xs).post S' Q),
  (zU u (is.zip vs) n k K).post S Q
 |[],vs,us,n,k,K,S,ok,R,hl,hv,hK=>by
  have:us=[]:=by cases us<;>simp at hl ⊢
  subst this;simp only[List.zip_nil_left];cases k with
  |zero=>unfold zU;exact hK S ok [] R (λ_ _ h=>h) rfl rfl A7 rfl gQ.nil|succ k=>unfold zU;trivial
 |i::is,vs,us,n,k,K,S,ok,R,hl,hv,hK=>by
  cases us with
  |nil=>simp at hl|cons x us=>
  cases vs with
  |nil=>simp[jK]at hv|cons v vs=>
  obtain⟨x',r,e,h1,h2⟩:=hv;simp only[H5]at e;obtain⟨rfl,rfl⟩:=e;simp only[lN];cases k with
  |zero=>unfold zU;trivial|succ k=>
  unfold zU;refine fM λhi=>xm h1 λcs hcs=>?_;have hi' :=jy hi;subst hi';refine Fa (T:=[]) u R Tk.nil hcs λS1 ok1 y q ws ws' R1 T1 k1 s1 e1 g1 l1=>?_;cases q with
  |cons _ _=>trivial|nil=>
  simp only[iP]at l1;subst l1;simp only[H9]at e1;refine JY u is vs (i+1) k R1 (by simpa using hl) (LK k1 h2) λS2 ok2 ys R2 k2 c1 c2 c3 c4 c5=>?_;refine hK S2 ok2 (y::ys) R2 (λb t h=>k2 b t (k1 b t h)) (by simp[c1]) ?_ ?_ (by simp[c4]) ?_
  ·simp[nI,c2]
  ·intro z hz;rcases A8.1 hz with rfl|hz
   ·have:=ik g1;rw[←e1]at this;simpa using this
   ·exact c3 z hz
  ·have:=(gQ.one (fB k2 (λ_ _ _=>rfl) g1)).append c5;simpa[e1]using this
theorem Iz{α:Type}{Q:α->Sm->Prop}(md:M):∀(is:List Nat) (vs:List V) {us:List Value} (n k:Nat) {K:List md.den->Cmd α} {S:Sm} {ok:Nat->Ty->Prop} {T:List Nat} (R:Rel X cl ch S m ok a w) (hT:Tk X S m ok w T) (hl:is.length=us.length)
  (hv:jK ⟨w.heap,ok,m⟩ vs us)
  (hK:∀S' ok' xs Os,Rel X cl ch S' m ok' a w->Tk X S' m ok' w (T++Os.flatten)->(∀b t,ok b t->ok' b t)->us.length=k->is=List.range' n us.length->(∀v∈us,v.cells.size=md.size)->xs.length=us.length->xX w.heap ok' md xs (us.flatMap λv=>v.cells.toList) Os->(K xs).post S' Q),
  (xh md (is.zip vs) n k K).post S Q
 |[],vs,us,n,k,K,S,ok,T,R,hT,hl,hv,hK=>by
  have:us=[]:=by cases us<;>simp at hl ⊢
  subst this;simp only[List.zip_nil_left];cases k with
  |zero=>unfold xh;exact hK S ok [] [] R (by simpa using hT) (λ_ _ h=>h) rfl rfl A7 rfl xX.nil|succ k=>unfold xh;trivial
 |i::is,vs,us,n,k,K,S,ok,T,R,hT,hl,hv,hK=>by
  cases us with
  |nil=>simp at hl|cons x us=>
  cases vs with
  |nil=>simp[jK]at hv|cons v vs=>
  obtain⟨x',r,e,h1,h2⟩:=hv;simp only[H5]at e;obtain⟨rfl,rfl⟩:=e;simp only[lN];cases k with
  |zero=>unfold xh;trivial|succ k=>
  unfold xh;refine iG λhi=>xm h1 λcs hcs=>?_;have hi' :=jy hi;subst hi';refine Fz md R hT hcs λS1 ok1 y q ws ws' O R1 T1 k1 s1 e1 g1 l1=>?_;cases q with
  |cons _ _=>trivial|nil=>
  simp only[iP]at l1;subst l1;simp only[H9]at e1;refine Iz md is vs (i+1) k R1 T1 (by simpa using hl) (LK k1 h2) λS2 ok2 ys Os R2 T2 k2 c1 c2 c3 c4 c5=>?_;refine hK S2 ok2 (y::ys) (O::Os) R2 (by simpa[E9]using T2) (λb t h=>k2 b t (k1 b t h)) (by simp[c1]) ?_ ?_ (by simp[c4]) ?_
  ·simp[nI,c2]
  ·intro z hz;rcases A8.1 hz with rfl|hz
   ·have:=gu g1;rw[←e1]at this;simpa using this
   ·exact c3 z hz
  ·have:=(xX.one (kS k2 (λ_ _ _=>rfl) (λ_ _=>rfl) g1)).append c5;simpa[e1]using this
theorem Ym(H:FxOk X){q:Nat}(R:Rel X (CB*q) (CB*q+CB) S m ok a w){t:TypeId}{n:Nat}{ps:Array (Nat×Operand)}(ho:o.op= .buildSlice t n ps):(dI X.E q o).post S (λ_ S' =>kT X (CB*q) (CB*q+CB) o a w m ok S'):=by
 unfold dI;simp only[ho];split<;>try trivial
 rename_i e u het;obtain⟨j,z,inf,hu,hj,h1,h2,h3,h4,h5,h6⟩:=GL H het;have hz:=ik h6;refine fM λhle=>pW R _ λvs hvs=>?_;have hle' :n*u.size<=16777216:=X4 hle;split
 rotate_left
 ·rename_i md hom;refine iG λhc=>?_;simp only[C9]at hc;have hms:=jy hc.1;refine Iz md _ vs 0 n (T:=[]) R Tk.nil A7 hvs λS' ok' xs Os R' T' k c1 c2 c3 c4 c5=>?_;rw[H6]at T';simp only[X6]at c1 c2;have hparts:(ps.map λ(i,x)=>(i,a.eval x)).toList=(List.range' 0 ((ps.toList.map (·.2)).map a.eval).length).zip ((ps.toList.map (·.2)).map a.eval):=by
   simp only[X6];rw[←c2];simp[List.zip_map',List.zip_map,rM,Function.comp_def]
  have hxl:xs.length=n:=by rw[c4];simpa using c1
  have hflat:=c5.1;have hcl:((ps.toList.map (·.2)).map a.eval).length=n:=by simpa using c1
  have hfill:∀cs:Array Value,cs.size=n*u.size->Instr.fill (λi=>some (i*u.size,u.size)) cs (ps.map λ(i,x)=>(i,a.eval x)).toList=some ((((ps.toList.map (·.2)).map a.eval).flatMap λv=>v.cells.toList)).toArray:=λcs hcs=>by rw[hparts,VX _ 0 cs (by rw[←hms];exact c3) (by rw[hcl,hcs];simp)];simp
  refine WX (w1:=w) (e:=e) (cap:=xs.length) H R' T' rfl rfl rfl rfl hc.2 c5 T'.nodup (λ_ h=>h) (F9 _) (by rw[←hflat];simp) (c:=((((ps.toList.map (·.2)).map a.eval).flatMap λv=>v.cells.toList)).toArray) (aU (by rw[hflat];exact F9 _)) (λ_ _ h=>h) k ?_;have hrun:=LU (w:=w) (n:=n) hu h1 h2 h5 hle' hfill;simp only[execOp,ho,G5,hrun,I7,Y8,hxl]
 refine JY u _ vs 0 n R A7 hvs λS' ok' xs R' k c1 c2 c3 c4 c5=>?_;have hsz:(sizeOf e).run X.P w= .ok u.size w:=by simp[sizeOf,typeInfo,h1,h2]
 simp only[X6]at c1 c2;have hparts:(ps.map λ(i,x)=>(i,a.eval x)).toList=(List.range' 0 ((ps.toList.map (·.2)).map a.eval).length).zip ((ps.toList.map (·.2)).map a.eval):=by simp only[X6];rw[←c2];simp[List.zip_map',List.zip_map,rM,Function.comp_def]
 have hxl:xs.length=n:=by rw[c4];simpa using c1
 have hflat:=c5.1;have hcl:((ps.toList.map (·.2)).map a.eval).length=n:=by simpa using c1
 have hfill:∀cs:Array Value,cs.size=n*u.size->Instr.fill (λi=>some (i*u.size,u.size)) cs (ps.map λ(i,x)=>(i,a.eval x)).toList=some ((((ps.toList.map (·.2)).map a.eval).flatMap λv=>v.cells.toList)).toArray:=λcs hcs=>by rw[hparts,VX _ 0 cs c3 (by rw[hcl,hcs];simp)];simp
 refine RU (w1:=w) (e:=e) (cap:=xs.length) H R' rfl rfl rfl rfl (Og het) c5 (F9 _) (by rw[←hflat];simp) (c:=((((ps.toList.map (·.2)).map a.eval).flatMap λv=>v.cells.toList)).toArray) (aU (by rw[hflat];exact F9 _)) (λ_ _ h=>h) k ?_;have hrun:=LU (w:=w) (n:=n) hu h1 h2 h5 hle' hfill;simp only[execOp,ho,G5,hrun,I7,Y8,hxl]
theorem Vl{E:Env} :∀{fs:List (Nat×Nat)},a5A E fs=true->∀p∈fs,∃i,fH E.tt p.1=some i
 |[],_,p,hp=>by cases hp|(t,o)::r,h,p,hp=>by
  unfold a5A at h;cases hi:fH E.tt t with
  |none=>simp[hi]at h|some i=>
   simp only[hi]at h;rcases A8.1 hp with rfl|hp
   ·exact⟨i,hi⟩
   ·exact Vl h p hp
def Qn(P:Program)(fields:Array Field):List (Nat×Nat):=fields.toList.map λf=>(f.offset,((P.info? f.type).map (·.size)).getD 0)
theorem Ub{P:Program} :∀(fs:List Field),(∀f∈fs,∃i,P.info? f.type=some i)->
  fs.mapM (λf=>(P.info? f.type).map λi=>(f.offset,i.size))=some (fs.map λf=>(f.offset,((P.info? f.type).map (·.size)).getD 0))
 |[],_=>by simp|f::fs,h=>by obtain⟨i,hi⟩:=h f A7;rw[List.mapM_cons,Ub fs (λg hg=>h g (by simp[hg]))];simp[hi]
theorem Jc{α:Type}{Q:α->Sm->Prop}(H:FxOk X){t:Nat}{fields:Array Field}(hu:X.P.underlying t=some (.struct fields)):
  ∀(is:List Nat) (vs:List V) {us:List Value} {cs:List V} {arr:Array Value} {K:List V->Cmd α} (hl:is.length=us.length) (hv:jK ⟨w.heap,ok,m⟩ vs us) (hc:iP ⟨w.heap,ok,m⟩ cs arr.toList)
  (hK:∀cs' arr',Instr.fill ((Qn X.P fields).toArray[·]?) arr (is.zip us)=some arr' ->iP ⟨w.heap,ok,m⟩ cs' arr'.toList->(K cs').post S Q),(DI X.E t (is.zip vs) cs K).post S Q
 |[],vs,us,cs,arr,K,hl,hv,hc,hK=>by simp only[List.zip_nil_left];unfold DI;exact hK cs arr (by simp[Instr.fill]) hc|i::is,vs,us,cs,arr,K,hl,hv,hc,hK=>by
  cases us with
  |nil=>simp at hl|cons x us=>
  cases vs with
  |nil=>simp[jK]at hv|cons v vs=>
  obtain⟨x',r,e,h1,h2⟩:=hv;simp only[H5]at e;obtain⟨rfl,rfl⟩:=e;simp only[lN];unfold DI;split<;>try trivial
  rename_i off n ag hf;obtain⟨fields',fld,j,hu',hfl,hoff,hj,hn,hn0,_⟩:=Ic H hf;rw[hu]at hu';cases hu';obtain⟨inf,i1,i2,_⟩:=hj.info;refine xm h1 λws hws=>fM λhb=>EW off ws cs λhle=>?_;have hb' :=jy hb;have hL:=oZ hc;have hLw:=oZ hws;have hxs:x.cells.size=n:=by simp at hLw;omega
  have hpl:((Qn X.P fields).toArray[i]?)=some (off,n):=by
   have hfl' :fields.toList[i]? =some fld:=by simpa using hfl
   simp[Qn,hfl,i1,i2,hoff,hn]
  refine Jc H hu is vs (arr:=(cZ off x.cells.toList arr.toList).toArray) (by simpa using hl) h2 (by simpa using Hr hws hc) λcs' arr' hfill hrel=>?_;refine hK cs' arr' ?_ hrel;rw[lN,Za (place:=λk=>(Qn X.P fields).toArray[k]?) (cs:=arr) hpl hxs (by simp at hL;omega)];exact hfill
theorem b0q(H:FxOk X)(R:Rel X cl ch S m ok a w){t:TypeId}{ps:Array (Nat×Operand)}{q:Nat}(ho:o.op= .build t ps):(dI X.E q o).post S (λ_ S' =>kT X cl ch o a w m ok S'):=by
 unfold dI;simp only[ho];refine tY H λi hi=>?_;split<;>try trivial
 rename_i fs htd';have htd:=hi.td;rw[htd']at htd;obtain⟨fields,hu,hfs⟩:=htd;refine fM λhb=>pW R _ λvs hvs=>?_;simp only[C9]at hb;obtain⟨inf,h1,h2,h3,h4,h5⟩:=hi.info;obtain⟨z,hz1,hz2⟩:=h4 (jy hb.2);refine Jc H hu _ vs (us:=(ps.toList.map (·.2)).map a.eval) (arr:=z.cells) A7 hvs (Xz hz2) λcs' arr' hfill hrel=>?_;refine aX H R (v:=.agg cs') (x:=.agg arr') ⟨arr',rfl,hrel⟩ ?_;have hparts:(ps.map λ(i,x)=>(i,a.eval x)).toList=(ps.toList.map (·.1)).zip ((ps.toList.map (·.2)).map a.eval):=by simp[List.zip_map',List.zip_map,rM,Function.comp_def]
 have hmap:=Ub (P:=X.P) fields.toList (λf hf=>by obtain⟨i',hi'⟩:=Vl hb.1 (f.type,f.offset) (by rw[←hfs];exact ah.2 ⟨f,hf,rfl⟩);obtain⟨inf',q1,_⟩:=(H.tt _ _ hi').info;exact⟨inf',q1⟩)
 have hbuilt:X.P.built t (ps.map λ(i,x)=>(i,a.eval x)).toList=some arr' :=by unfold Program.built;simp only[h1,hu,hz1,hmap];rw[hparts];exact hfill
 have:=run_build (P:=X.P) w t _ arr' hbuilt;simp only[execOp,ho,G5,this,I7,Y8]
end
end Go.GP
namespace Go.GP
def Gw(h:Array Obj)(sz:Nat)(v:Value)(n:Nat)(es:List Value):Prop:=
 es.length=n*sz/\((n=0/\∃ad cap,v= .slice ad 0 cap)\/∃blk off cap,v= .slice (some ⟨blk,off,none⟩) n cap/\0<n/\fD h blk off (n*sz)=some es)
theorem b4r{h:Array Obj}{ok:Nat->Ty->Prop}{t:Ty}{ys:List t.den}{v:Value}(ht:t.isEnt=false)(hr:mJ h ok (.sl t) ys [v]):∃es,Gw h t.size v ys.length es/\gQ h ok t ys es:=by
 obtain⟨ad,cap,e,hc,hel⟩:=(Ea ht).1 hr;simp only[H5,and_true]at e;subst e;rcases jh ys.length with h0|h0
 ·have:ys=[]:=O9.1 h0;subst this;exact⟨[],⟨A7,.inl ⟨rfl,ad,cap,rfl⟩⟩,gQ.nil⟩
 ·obtain⟨y,hy⟩:∃y,ys[ys.length -1]? =some y:=by
   refine⟨ys[ys.length -1]'l7,?_⟩;exact dX _
  obtain⟨blk,off,es,rfl,hok,he,hr⟩:=hel _ y hy;obtain⟨c,T,f,hb,hn,_⟩:=xk he;have hle:off+ys.length*t.size<=c.size:=by
   have:ys.length*t.size=(ys.length -1)*t.size+t.size:=by
    conv=>lhs;rw[show ys.length=(ys.length -1)+1 by omega,L6,bC]
   omega
  refine⟨(c.toList.drop off).take (ys.length*t.size),⟨by simp;omega,.inr ⟨blk,off,cap,rfl,h0,nP hb _ _ hle⟩⟩,by simp;omega,λi x hi=>?_⟩;obtain⟨blk',off',es',ha',hok',he',hr'⟩:=hel i x hi;simp only[G8,qR,and_true]at ha';obtain⟨rfl,rfl⟩:=ha';obtain⟨c',T',f',hb',hn',rfl⟩:=xk he';rw[hb]at hb';cases hb';have hlt:=(Y6.1 hi).1;have hle2:(i+1)*t.size<=ys.length*t.size:=I8 _ l7;rw[L6,bC]at hle2;rw[jY,gV,Z9,jE l7];exact hr'
theorem XX{C:Cx}{t:Ty}{xs:List t.den}{l:Loc}{v:Value}(ht:t.isEnt=false)(ha:arrOk C t xs l)(hv:l.view none v):∃es,Gw C.h t.size v xs.length es/\gQ C.h C.ok t xs es:=by
 cases l with
 |st b=>cases ha|mp b=>exact absurd ha.1 (by simp[ht])|nil=>obtain⟨ha,_⟩:=ha;subst ha;simp only[Loc.view]at hv;subst hv;exact⟨[],⟨A7,.inl ⟨rfl,none,0,rfl⟩⟩,gQ.nil⟩
 |arr blk off len cap sz=>
  obtain⟨c,T,hb,rfl,rfl,hc,hf,hr⟩:=YN ha;simp only[Loc.view]at hv;subst hv;have hle:xs.length*t.size<=cap*t.size:=I8 _ hc;refine⟨_,⟨hr.1,?_⟩,hr⟩;rcases jh xs.length with h0|h0
  ·exact .inl ⟨h0,_,cap,by rw[h0]⟩
  ·exact .inr ⟨blk,off,cap,rfl,h0,nP hb _ _ l7⟩
theorem xe{P:Program}{w w' :World}{sz n:Nat}{v:Value}{es:List Value}(h:Gw w.heap sz v n es)(hh:w'.heap=w.heap):(Builtin.firstCells sz n v).run P w' = .ok es.toArray w' :=by
 obtain⟨hl,h⟩:=h;rcases h with⟨rfl,ad,cap,rfl⟩|⟨blk,off,cap,rfl,hn,hc⟩
 ·have:es=[]:=O9.1 (by simpa using hl);subst this;cases ad with
  |none=>simp[Builtin.firstCells]|some b=>have:=run_loadCells_list (P:=P) w' b [] (λj v h=>by simp at h);simp[Builtin.firstCells];simpa using this
 ·refine run_firstCells_some w' sz n _ _ cap es hl λj u hu=>?_;rw[kD];exact zn (w:=w') (by rw[hh];exact hc) hu
theorem Gw.lenOf{P:Program}{h:Array Obj}{sz n:Nat}{v:Value}{es:List Value}(hs:Gw h sz v n es)(w:World):(Builtin.lenOf v).run P w= .ok n w:=by rcases hs.2 with⟨rfl,ad,cap,rfl⟩|⟨blk,off,cap,rfl,hn,hc⟩<;>rfl
section runs
variable {P:Program} {w:World} {t ty e:TypeId} {i:TypeInfo} {z:Value}
theorem NU(ht:P.underlying t=some (.slice e))(hi:P.info? e=some i){blk off len cap n:Nat}{c:Array Value}{T:TypeId}(hb:w.heap[blk]? =some (.cells c T (0,0))){v:Value}{es:List Value}(hv:Gw w.heap i.size v n es)
  (h1:∀u∈es,u.oneCell' =true) (hroom:len+n<=cap) (hfit:off+cap*i.size<=c.size):
  (Builtin.append_ #[t,t] ty #[.slice (some ⟨blk,off,none⟩) len cap,v]).run P w= .ok (.slice (some ⟨blk,off,none⟩) (len+n) cap) (w.setRow blk (cZ (off+len*i.size) es c.toList).toArray):=by
 have hle:(len+n)*i.size<=cap*i.size:=I8 _ hroom;rw[L6,←hv.1]at hle;have hf:=xe (P:=P) (w' :=w) hv rfl;have hst:=run_storeCells_at P blk (off+len*i.size) T es 0 c w hb l7 h1;simp only[eP]at hst;simp[Builtin.append_,run_underlying ht,sizeOf,typeInfo,hi,hv.lenOf,hroom,hf,kD,hst,cZ]
theorem Kz(ht:P.underlying t=some (.slice e))(hi:P.info? e=some i){v:Value}{es:List Value}(hv:Gw w.heap i.size v 0 es):
  (Builtin.append_ #[t,t] ty #[.slice none 0 0,v]).run P w= .ok (.slice none 0 0) w:=by
 have hf:=xe (P:=P) (w' :=w) hv rfl;simp[Builtin.append_,run_underlying ht,sizeOf,typeInfo,hi,hv.lenOf,hf]
theorem LQ(ht:P.underlying t=some (.slice e))(hi:P.info? e=some i)(hz:i.zero=some z)(hby:i.bytes<=65536){s v:Value}{sAd:Option Addr}{len cap n:Nat}{olds es:List Value}(hse:s= .slice sAd len cap)
  (hs:Gw w.heap i.size s len olds) (hv:Gw w.heap i.size v n es) (hg:cap<len+n) (hmax:len+n<=1073741824):
  (Builtin.append_ #[t,t] ty #[s,v]).run P w= .ok (.slice (some ⟨w.heap.size,0,none⟩) (len+n) (grownCap w (len+n) cap e))
   (w.drew.alloc (.cells ((olds++es).toArray++Builtin.zeroCells z.cells (grownCap w (len+n) cap e -(len+n))) e)):=by
 subst hse;have hn:¬(len+n<=cap):=l7;have h63' :¬(9223372036854775807<((len:Int)+(n:Int))):=l7;have hb2:(len+n)*i.bytes<=1073741824*65536:=Nat.mul_le_mul hmax hby;have h48' :¬(281474976710656<Builtin.nextslicecap (len+n) cap*i.bytes):=by have:=growslice_fits hg (show(len+n)*i.bytes<=140737488355328 by omega);omega
 have hf:=xe (P:=P) (w' :=w.drew) hv rfl;have hfo:=xe (P:=P) (w' :=w.drew) hs rfl;simp[Builtin.append_,run_underlying ht,sizeOf,typeInfo,zeroValue,hi,hz,hv.lenOf,hn,h63',h48',Question.forced,hf,hfo,newRow,grownCap];generalize Builtin.zeroCells _ _=Z;congr 2;apply lh;simp
end runs
section
variable {X:Fx} {cl ch:Nat} {S:Sm} {m:Mp} {ok:Nat->Ty->Prop} {a:Act} {w:World} {o:Oper}
theorem Yw{α:Type}{Q:α->Sm->Prop}(R:Rel X cl ch S m ok a w){u:Ty}(ht:u.isEnt=false){y:V}{vy:Value}{K:List u.den->Cmd α}(hy:pg ⟨w.heap,ok,m⟩ y vy)
  (hK:∀ys es,Gw w.heap u.size vy ys.length es->gQ w.heap ok u ys es->(K ys).post S Q):(a7P u y K).post S Q:=by
 unfold a7P;split<;>try trivial
 ·have hy' :vy= .slice none 0 0:=hy;subst hy';simp only[ht,cond_false];exact hK [] [] ⟨A7,.inl ⟨rfl,none,0,rfl⟩⟩ gQ.nil
 ·obtain⟨ad,c,rfl,_⟩:=(show ∃a c,vy=Value.slice a 0 c/\a.isNone=_ from hy);simp only[ht,cond_false];exact hK [] [] ⟨A7,.inl ⟨rfl,ad,c,rfl⟩⟩ gQ.nil
 ·rename_i t' xs;refine iJ λe=>?_;subst e;obtain⟨es,h1,h2⟩:=b4r ht (show mJ w.heap ok (.sl t') xs [vy]from hy);exact hK xs es h1 h2
 ·rename_i bx vw;obtain⟨l,hm,hv⟩:=hy;refine gK ?_;split<;>try trivial
  ·rename_i t' xs hS;obtain⟨l',hm',ha⟩:=R.own_arr hS;simp only at hm;rw[hm]at hm';cases hm';refine iJ λe=>?_;subst e;obtain⟨a1,a2,_⟩:=Jh ha hv;obtain⟨es,h1,h2⟩:=XX ht a1 a2;exact hK _ es h1 h2
  ·rename_i t' xs hS;obtain⟨l',hm',ha,_⟩:=R.own_frz hS;simp only at hm;rw[hm]at hm';cases hm';refine iJ λe=>?_;subst e;obtain⟨a1,a2,_⟩:=Jh ha hv;obtain⟨es,h1,h2⟩:=XX ht a1 a2;exact hK _ es h1 h2
theorem Tv{α:Type}{Q:α->Sm->Prop}{T:List Nat}(R:Rel X cl ch S m ok a w)(hT:Tk X S m ok w T){md:M}{y:V}{vy:Value}{K:List md.den->List V->Cmd α}(hy:pg ⟨w.heap,ok,m⟩ y vy)
  (hK:∀S' ok' ys r O,Rel X cl ch S' m ok' a w->Tk X S' m ok' w (T++O)->(∀b t,ok b t->ok' b t)->eU S S' ->qy w.heap ok' (.owns md) none ys [vy] O->(K ys r).post S' Q):
  (exM CP (.owns md) [y] K).post S Q:=by
 have key:zf ⟨w.heap,ok,m⟩ y vy->vy.oneCell' =true->(exM CP (.owns md) [y] K).post S Q:=λh1 h2=>by
  refine Fz (.owns md) R hT (vs:=[vy]) ⟨vy,[],rfl,h1,h2,rfl⟩ λS' ok' ys r us us' O R' T' k s e hr l=>?_;have:us=[vy]:=by obtain⟨v,e',_⟩:=hr;subst e';simp at e;simp[e.1]
  subst this;exact hK S' ok' ys r O R' T' k s hr
 cases y<;>try (unfold exM;trivial)
 ·exact key hy (by have h:vy= .slice none 0 0:=hy;subst h;rfl)
 ·refine key hy ?_;obtain⟨l,_,hv⟩:=hy;exact uf hv
theorem h_{h:Array Obj}{ok:Nat->Ty->Prop}{md:M}{xs:List md.den}{Os:List (List Nat)}{l:Loc}{v:Value}(ha:DN h md.size (λ_ x es O=>qy h ok md none x es O) xs Os l)(hv:l.view none v):∃es,Gw h md.size v xs.length es/\xX h ok md xs es Os:=by
 cases l with
 |st b=>cases ha|mp b=>cases ha|nil=>obtain⟨rfl,rfl⟩:=ha;simp only[Loc.view]at hv;subst hv;exact⟨[],⟨A7,.inl ⟨rfl,none,0,rfl⟩⟩,xX.nil⟩
 |arr blk off len cap sz=>
  obtain⟨c,T,hb,rfl,rfl,hc,hf,hr⟩:=a1a ha;simp only[Loc.view]at hv;subst hv;have hle:xs.length*md.size<=cap*md.size:=I8 _ hc;refine⟨_,⟨hr.1,?_⟩,hr⟩;rcases jh xs.length with h0|h0
  ·exact .inl ⟨h0,_,cap,by rw[h0]⟩
  ·exact .inr ⟨blk,off,cap,rfl,h0,nP hb _ _ l7⟩
theorem RH{α:Type}{xs ys zs:List α}(h:iY xs ys=some zs):xs.length+ys.length<=1073741824/\zs=xs++ys:=by
 unfold iY at h;split at h
 ·cases h;exact⟨by assumption,rfl⟩
 ·cases h
theorem MH(z:Array Value)(n:Nat):(Builtin.zeroCells z n).size=n*z.size:=by simp[Builtin.zeroCells]
theorem Ny(H:FxOk X){q:Nat}(R:Rel X (CB*q) (CB*q+CB) S m ok a w){u:Ty}(ht:u.isEnt=false){t e:TypeId}{j:TI}{z:Value}{inf:TypeInfo}(hu:X.P.underlying t=some (.slice e))(h1:X.P.info? e=some inf)(h2:inf.size=u.size)(h4:inf.bytes<=65536)
  (h5:inf.zero=some z) (hz:z.cells.size=u.size) {xs ys:List u.den} {s v:Value} {sAd:Option Addr} {cap:Nat} {olds es:List Value} (hse:s= .slice sAd xs.length cap)
  (hs:Gw w.heap u.size s xs.length olds) (hv:Gw w.heap u.size v ys.length es) (r1:gQ w.heap ok u xs olds) (r2:gQ w.heap ok u ys es) (hg:cap<xs.length+ys.length) (hmax:xs.length+ys.length<=1073741824)
  (run:∀r w',(Builtin.append_ #[t,t] o.type #[s,v]).run X.P w= .ok r w' ->(execOp a.eval o).run X.P w= .ok (.value r) w'):
  (AP (U0 q o.dst) (.barr u (xs++ys)) (gJ X.E o.dst (.own (U0 q o.dst) none))).post S (λ_ S' =>kT X (CB*q) (CB*q+CB) o a w m ok S'):=by
 have hrun:=LQ (P:=X.P) (w:=w) (t:=t) (ty:=o.type) hu h1 h5 h4 (s:=s) (v:=v) hse (by rw[h2];exact hs) (by rw[h2];exact hv) hg hmax;have hge:=grownCap_ge w (xs.length+ys.length) cap e;have r:=r1.append r2;rw[←F8]at hrun hge;refine RU H R (w1:=w.drew) rfl rfl rfl rfl ht r hge ?_ ?_ (λ_ _ h=>h) (λ_ _ h=>h) (run _ _ hrun)
 ·have hl:=r.1;simp only[Array.size_append,jQ,hl,MH,hz,←L6];exact I8 _ l7
 ·have hl:=r.1;simp only[Array.toList_append];rw[ae (by rw[hl];exact F9 _),←hl];exact aB
theorem Nz(H:FxOk X){q:Nat}(R:Rel X (CB*q) (CB*q+CB) S m ok a w){u:Ty}(ht:u.isEnt=false){t e:TypeId}{z:Value}{inf:TypeInfo}(hu:X.P.underlying t=some (.slice e))(h1:X.P.info? e=some inf)(h2:inf.size=u.size)(h4:inf.bytes<=65536)
  (h5:inf.zero=some z) (hz:z.cells.size=u.size) {ys:List u.den} {s v:Value} {es:List Value} (hse:s= .slice none 0 0)
  (hv:Gw w.heap u.size v ys.length es) (r2:gQ w.heap ok u ys es) (hmax:ys.length<=1073741824)
  (run:∀r w',(Builtin.append_ #[t,t] o.type #[s,v]).run X.P w= .ok r w' ->(execOp a.eval o).run X.P w= .ok (.value r) w'):
  (AP (U0 q o.dst) (.barr u ys) (gJ X.E o.dst (.own (U0 q o.dst) none))).post S (λ_ S' =>kT X (CB*q) (CB*q+CB) o a w m ok S'):=by
 rcases jh ys.length with h0|h0
 ·have hy:ys=[]:=O9.1 h0;subst hy;have hrun:=Kz (P:=X.P) (w:=w) (t:=t) (ty:=o.type) hu h1 (v:=v) (by rw[h2];exact hv);rw[←hse]at hrun;refine IW H λn e1 g1 g2 hn=>?_;rw[←e1];clear e1;generalize CB*q=Z at*;have R' :Rel X Z (Z+CB) (upd S (bf+n) (.barr u [])) (pI m n .nil []) ok a w:=by
   refine R.lay hn g1 (by show n<Z+1000000;change n+64<=Z+1000000 at g2;omega) A7 rfl rfl rfl (F9 _) (λ_ _ _=>rfl) (by simp[Y5]) (λb hb=>by simp[Y5]at hb) ⟨.nil,fV _ _ _ _,rfl,ht⟩
  refine yN H R' (λk l h=>?_) (λ_ _ h=>h) ⟨.nil,fV _ _ _ _,hse⟩ (run _ _ hrun);by_cases ek:k=n
  ·subst ek;have:=R.fresh k g1 hn;rw[this]at h;cases h
  ·rw[lF _ _ _ ek];exact h
 ·have:=Ny (j:=⟨0,0,.bool,none,[]⟩) H R ht hu h1 h2 h4 h5 hz (xs:=[]) (ys:=ys) (s:=s) (v:=v) (sAd:=none) (cap:=0) (olds:=[]) (es:=es) hse ⟨A7,.inl ⟨rfl,none,0,hse⟩⟩ hv gQ.nil r2 (by simpa using h0) (by simpa using hmax) run;simpa using this
theorem a3w(H:FxOk X){q:Nat}(R:Rel X (CB*q) (CB*q+CB) S m ok a w){md:M}{t e:TypeId}{j:TI}{z:Value}{inf:TypeInfo}(hu:X.P.underlying t=some (.slice e))(h1:X.P.info? e=some inf)(h2:inf.size=md.size)(h4:inf.bytes<=65536)
  (h5:inf.zero=some z) (hz:z.cells.size=md.size) {x y:V} {s v:Value} (hx:pg ⟨w.heap,ok,m⟩ x s) (hy:pg ⟨w.heap,ok,m⟩ y v)
  (run:∀r w',(Builtin.append_ #[t,t] o.type #[s,v]).run X.P w= .ok r w' ->(execOp a.eval o).run X.P w= .ok (.value r) w'):
  (exM CP (.owns md) [y] λys _=>exM CP (.owns md) [x] λxs _=>Cmd.opt (iY xs ys) λzs=>AP (U0 q o.dst) (.barrs md zs none) (gJ X.E o.dst (.own (U0 q o.dst) none))).post S (λ_ S' =>kT X (CB*q) (CB*q+CB) o a w m ok S'):=by
 refine Tv (T:=[]) R Tk.nil hy λS1 ok1 ys _ O1 R1 T1 k1 s1 g1=>?_;refine Tv R1 T1 (Nl k1 hx) λS2 ok2 xs _ O2 R2 T2 k2 s2 g2=>?_;have k12:∀b t,ok b t->ok2 b t:=λb t h=>k2 b t (k1 b t h);have g1:=kS k2 (λ_ _ _=>rfl) (λ_ _=>rfl) g1;obtain⟨hel,ly,vy,Oy,ey,hvy,hay,rfl⟩:=AB.1 g1;obtain⟨_,lx,vx,Ox,ex,hvx,hax,rfl⟩:=AB.1 g2;simp only[H5,and_true]at ey ex;subst ey;subst ex;refine iF λzs hzs=>?_;obtain⟨hmax,rfl⟩:=RH hzs;obtain⟨es,hv,ry⟩:=h_ hay hvy;obtain⟨olds,hs,rx⟩:=h_ hax hvx;have hnd2:=T2.nodup;have rr:=rx.append ry;have hT3:∀b∈(Ox++Oy).flatten,b∈[]++(ly.blks++Oy.flatten)++(lx.blks++Ox.flatten):=λb hb=>by
  simp only[kW,D8]at hb ⊢;rcases hb with hb|hb
  ·exact .inr (.inr hb)
  ·exact .inl (.inr (.inr hb))
 have hnd3:(Ox++Oy).flatten.Nodup:=by rw[kW];have h:=N8.1 hnd2;simp only[H6]at h;refine N8.2 ⟨(N8.1 h.2.1).2.1,(N8.1 h.1).2.1,λp hp r hr e=>h.2.2 r (by simp[hr]) p (by simp[hp]) e.symm⟩
 have fresh:∀{sAd:Option Addr} {cap:Nat},s= .slice sAd xs.length cap->cap<xs.length+ys.length->(AP (U0 q o.dst) (.barrs md (xs++ys) none) (gJ X.E o.dst (.own (U0 q o.dst) none))).post S2 (λ_ S' =>kT X (CB*q) (CB*q+CB) o a w m ok S'):=λ{sAd cap} hse hg=>by
  have hrun:=LQ (P:=X.P) (w:=w) (t:=t) (ty:=o.type) hu h1 h5 h4 (s:=s) (v:=v) hse (by rw[h2];exact hs) (by rw[h2];exact hv) hg hmax;have hge:=grownCap_ge w (xs.length+ys.length) cap e;rw[←F8]at hrun hge;refine WX H R2 T2 (w1:=w.drew) rfl rfl rfl rfl hel rr hnd3 hT3 hge ?_ ?_ (λ_ _ h=>h) k12 (run _ _ hrun)
  ·have hl:=rr.1;simp only[Array.size_append,jQ,hl,MH,hz,←L6];exact I8 _ l7
  ·have hl:=rr.1;simp only[Array.toList_append];rw[ae (by rw[hl];exact F9 _),←hl];exact aB
 cases lx with
 |st b=>cases hax|mp b=>cases hax|nil=>
  obtain⟨rfl,rfl⟩:=hax;simp only[Loc.view]at hvx;rcases jh ys.length with h0|h0
  ·have hy0:ys=[]:=O9.1 h0;subst hy0;have hO0:Oy=[]:=O9.1 ry.2.1;subst hO0;have hrun:=Kz (P:=X.P) (w:=w) (t:=t) (ty:=o.type) hu h1 (v:=v) (by rw[h2];exact hv);rw[←hvx]at hrun;refine IW H λn e1 g1 g2 hn=>?_;rw[←e1];clear e1;generalize CB*q=Z at*;have R' :Rel X Z (Z+CB) (upd S2 (bf+n) (.barrs md ([]++[]) none)) (pI m n .nil []) ok2 a w:=by
    refine R2.lay hn g1 (by show n<Z+1000000;change n+64<=Z+1000000 at g2;omega) A7 rfl rfl rfl (F9 _) (λ_ _ _=>rfl) (by simp[Y5]) (λb hb=>by simp[Y5]at hb) ⟨hel,.nil,[],fV _ _ _ _,⟨⟨rfl,rfl⟩,trivial⟩,A7⟩
   refine yN H R' (λk l h=>?_) k12 ⟨.nil,fV _ _ _ _,hvx⟩ (run _ _ hrun);by_cases ek:k=n
   ·subst ek;have:=R2.fresh k g1 hn;rw[this]at h;cases h
   ·rw[lF _ _ _ ek];exact h
  ·exact fresh (sAd:=none) (cap:=0) hvx (by simpa using h0)
 |arr blk off len cap sz=>
  obtain⟨c,T,hb,rfl,rfl,hcap,hfit,r1⟩:=a1a hax;simp only[Loc.view]at hvx;by_cases hroom:xs.length+ys.length<=cap
  ·have hrun:=NU (P:=X.P) (w:=w) (t:=t) (ty:=o.type) (off:=off) (cap:=cap) hu h1 hb (v:=v) (n:=ys.length) (es:=es) (by rw[h2];exact hv) ry.one_cell hroom (by rw[h2];exact hfit);rw[←hvx]at hrun;obtain⟨q1,q2,q3,q4⟩:=T2.free blk (by simp[Loc.blks]);have hle:(xs.length+ys.length)*md.size<=cap*md.size:=I8 _ hroom;rw[L6]at hle;have hesl:=hv.1;have hcl:c.toList.length=c.size:=rfl;have hsp:(cZ (off+xs.length*md.size) es c.toList).length=c.size:=by rw[zh l7];rfl
   have hblk:∀b∈(Ox++Oy).flatten,b≠blk:=λb hbm e=>by
    subst e;rw[kW]at hbm;have h:=N8.1 hnd2;simp only[H6]at h;rcases D8.1 hbm with hbm|hbm
    ·exact(N8.1 h.2.1).2.2 b (by simp[Loc.blks]) b hbm rfl
    ·exact h.2.2 b (by simp[hbm]) b (by simp[Loc.blks]) rfl
   refine IW H λn e1 g1 g2 hn=>?_;rw[←e1];clear e1;generalize CB*q=Z at*;have hoth:∀b,b≠blk->(w.setRow blk (cZ (off+xs.length*md.size) es c.toList).toArray).heap[b]? =w.heap[b]?:=λb hb=>setRow_other w blk b _ hb;have hown1:Y5 (pI m n (.arr blk off (xs.length+ys.length) cap md.size) (Ox++Oy).flatten) n (.barrs md (xs++ys) none)=blk::(Ox++Oy).flatten:=by simp[Y5]
   have R' :Rel X Z (Z+CB) (upd S2 (bf+n) (.barrs md (xs++ys) none)) (pI m n (.arr blk off (xs.length+ys.length) cap md.size) (Ox++Oy).flatten) ok2 a (w.setRow blk (cZ (off+xs.length*md.size) es c.toList).toArray):=by
    refine R2.lay hn g1 (by show n<Z+1000000;change n+64<=Z+1000000 at g2;omega) A7 rfl rfl rfl A7 (λb _ hne=>hoth b (λe=>hne (by rw[hown1,e];simp))) (by rw[hown1];exact gp.2 ⟨λh=>hblk blk h rfl,hnd3⟩) (λb hbb=>?_) ⟨hel,_,Ox++Oy,fV _ _ _ _,?_,A7⟩
    ·rw[hown1]at hbb;obtain⟨q1,q2,q3,q4⟩:=T2.free b (by
      rcases A8.1 hbb with rfl|h
      ·simp[Loc.blks]
      ·exact hT3 b h)
     exact⟨q1,by simpa using q2,q3,q4⟩
    ·refine⟨?_,trivial⟩;have:=xX.arrs (h:=(w.setRow blk (cZ (off+xs.length*md.size) es c.toList).toArray).heap) (ok:=ok2) (cs:=((c.toList.drop off).take (xs.length*md.size))++es) (cap:=cap) (off:=off) ((r1.append ry).mono (λ_ _ h=>h) (λb t hb=>hoth b (λe=>q1 t (e▸hb))) (λb hb=>hoth b (hblk b hb))) (setRow_heap w blk c _ T (0,0) hb) (by rw[F8];exact hroom) (by rw[jQ,hsp];exact hfit) ?_
     ·rw[F8]at this;exact this
     ·simp only[F8,L6];rw[SY (n:=xs.length*md.size+ys.length*md.size) l7 l7];unfold cZ;have hd:((c.toList.drop off).take (xs.length*md.size+ys.length*md.size)).drop (xs.length*md.size+es.length)=[]:=gG (by rw[aV,rP];omega);rw[gV,jE (kQ _ _),hd,H9]
   refine yN H R' (λk l h=>?_) k12 ⟨_,fV _ _ _ _,rfl⟩ (run _ _ (by rw[h2]at hrun;exact hrun));by_cases ek:k=n
   ·subst ek;have:=R2.fresh k g1 hn;rw[this]at h;cases h
   ·rw[lF _ _ _ ek];exact h
  ·exact fresh hvx l7
theorem a7G(H:FxOk X){q:Nat}(R:Rel X (CB*q) (CB*q+CB) S m ok a w){c:Call}(ho:o.op= .call c)(hc:c.callee= .builtin .append):(dI X.E q o).post S (λ_ S' =>kT X (CB*q) (CB*q+CB) o a w m ok S'):=by
 obtain⟨cal,args,ats⟩:=c;simp only at hc;subst hc;unfold dI;simp only[ho];refine pW R _ λvs hvs=>?_;split<;>try trivial
 rename_i t t' x y hat
 obtain⟨u1,r,he,hx,u2,r',he',hy,hr⟩:=hvs;simp only[jK]at hr;subst hr;rw[he']at he;obtain⟨p,p',rfl,rfl,rfl⟩:=a1R he;refine fM λhtt=>?_;have htt' :=jy htt;subst htt';have hats:ats=#[t,t]:=by
  obtain⟨l⟩:=ats;simp only at hat
  rw[hat]
 have run:∀(s v:Value),a.eval p=s->a.eval p' =v->∀r w',(Builtin.append_ #[t,t] o.type #[s,v]).run X.P w= .ok r w' ->(execOp a.eval o).run X.P w= .ok (.value r) w' :=λs v e1 e2 r w' h=>by subst e1;subst e2;simp[execOp,ho,resolve,invoke,builtin,hats,h]
 unfold a5E;split
 ·trivial
 rename_i e u het;obtain⟨j,z,inf,hu,hj,h1,h2,h3,h4,h5,h6⟩:=GL H het;have hz:z.cells.size=u.size:=by have:=ik h6;simpa using this
 split
 rotate_left
 ·rename_i md hom;refine iG λhms=>?_;have hms:=jy hms;exact a3w (j:=j) H R hu h1 (by rw[h2,hms]) h4 h5 (by rw[hz,hms]) hx hy (run _ _ rfl rfl)
 have ht:=Og het;refine Yw R ht hy λys es hv r2=>?_;split<;>try trivial
 ·
  refine iF λzs hzs=>?_;obtain⟨hmax,rfl⟩:=RH hzs;have hx' :a.eval p= .slice none 0 0:=hx;simp only[H6];exact Nz H R ht hu h1 h2 h4 h5 hz hx' hv r2 (by simpa using hmax) (run _ _ rfl rfl)
 ·rename_i bx vw;obtain⟨loc,hm,hview⟩:=hx;refine gK ?_;split<;>try trivial
  rename_i u' xs hS;refine iJ λeu=>?_;subst eu;refine iF λzs hzs=>nJ ?_;obtain⟨hmax,rfl⟩:=RH hzs;obtain⟨loc',hm',ha⟩:=R.own_arr hS;simp only at hm;rw[hm]at hm';cases hm';have R1:=R.kill bx;obtain⟨a1,a2,a3⟩:=Jh ha hview;generalize hl2:JV loc vw=l2 at*;generalize jH vw xs=xs' at*;cases l2 with
  |st b=>cases a1|mp b=>exact absurd a1.1 (by simp[ht])|nil=>obtain⟨a1,_⟩:=a1;subst a1;simp only[Loc.view]at a2;simp only[H6];exact Nz H R1 ht hu h1 h2 h4 h5 hz a2 hv r2 (by simpa using hmax) (run _ _ rfl rfl)
  |arr blk off len cap sz=>
   obtain⟨c,T,hb,rfl,rfl,hcap,hfit,r1⟩:=YN a1;simp only[Loc.view]at a2;simp only at hb r1;by_cases hroom:xs'.length+ys.length<=cap
   ·
    have hrun:=NU (P:=X.P) (w:=w) (t:=t) (ty:=o.type) (off:=off) (cap:=cap) hu h1 hb (v:=a.eval p') (n:=ys.length) (es:=es) (by rw[h2];exact hv) r2.one_cell hroom (by rw[h2];exact hfit);rw[←a2]at hrun;have hown:Y5 m bx (S (bf+bx))=[blk]:=by
     cases loc with
     |nil=>simp[Loc.blks]at a3|st _=>cases ha|mp b=>exact absurd ha.1 (by simp[ht])|arr b2 _ _ _ _=>simp[Loc.blks]at a3;simp[Y5,hS,hm,a3]
    obtain⟨s1,s2,s3⟩:=R.sep bx blk (by rw[hown];simp);have hle:(xs'.length+ys.length)*u'.size<=cap*u'.size:=I8 _ hroom;rw[L6]at hle;have hel:=hv.1;have hcl:c.toList.length=c.size:=rfl;have hsp:(cZ (off+xs'.length*u'.size) es c.toList).length=c.size:=by rw[zh l7];rfl
    refine IW H λn e1 g1 g2 hn=>?_;rw[←e1];clear e1;generalize CB*q=Z at*;have hkeep:∀b t,ok b t->(w.setRow blk (cZ (off+xs'.length*u'.size) es c.toList).toArray).heap[b]? =w.heap[b]?:=λb t hb=>setRow_other w blk b _ (λe=>s1 t (e▸hb));have R' :Rel X Z (Z+CB) (upd (upd S (bf+bx) .dead) (bf+n) (.barr u' (xs' ++ys))) (pI m n (.arr blk off (xs'.length+ys.length) cap u'.size) []) ok a (w.setRow blk (cZ (off+xs'.length*u'.size) es c.toList).toArray):=by
     refine R1.lay hn g1 (by show n<Z+1000000;change n+64<=Z+1000000 at g2;omega) A7 rfl rfl rfl A7 (λb _ hne=>?_) (by simp[Y5]) (λb hbb=>?_) ⟨_,fV _ _ _ _,?_⟩
     ·refine setRow_other w blk b _ (λe=>hne ?_);subst e;simp[Y5]
     ·simp[Y5]at hbb;subst hbb;refine⟨s1,by simpa using s2,s3,λk e=>?_⟩;obtain⟨k1,k2⟩:=CS rfl e;exact k1 (R.inj k bx b k2 (by rw[hown];simp))
     ·rw[←F8];refine gQ.arrOk ht (cs:=((c.toList.drop off).take (xs'.length*u'.size))++es) ((r1.append r2).mono (λ_ _ h=>h) hkeep) (setRow_heap w blk c _ T (0,0) hb) (by rw[F8];exact hroom) (by rw[jQ,hsp];exact hfit) ?_;simp only[F8,L6];rw[SY (n:=xs'.length*u'.size+ys.length*u'.size) l7 l7];unfold cZ;have hd:((c.toList.drop off).take (xs'.length*u'.size+ys.length*u'.size)).drop (xs'.length*u'.size+es.length)=[]:=gG (by rw[aV,rP];omega);rw[gV,jE (kQ _ _),hd,H9]
    refine yN H R' (λk l h=>?_) (λ_ _ h=>h) ⟨_,fV _ _ _ _,rfl⟩ (run _ _ rfl rfl _ _ (by rw[h2]at hrun;exact hrun))
    ·by_cases ek:k=n
     ·subst ek;have:=R1.fresh k g1 hn;rw[this]at h;cases h
     ·rw[lF _ _ _ ek];exact h
   ·obtain⟨olds,q1,q2⟩:=XX (C:=⟨w.heap,ok,m⟩) ht a1 a2;exact Ny (j:=j) H R1 ht hu h1 h2 h4 h5 hz a2 q1 hv q2 r2 l7 hmax (run _ _ rfl rfl)
end
def vz{α β:Type}(eq:α->α->Bool):List (α×β)->α->Option Nat
 |[],_=>none|p::r,k=>bif eq k p.1 then some 0 else(vz eq r k).map (·+1)
theorem Ou{α β:Type}{eq:α->α->Bool} :∀{xs:List (α×β)} {k:α} {i:Nat},vz eq xs k=some i->∃p,xs[i]? =some p/\eq k p.1=true
 |[],_,_,h=>by cases h|p::r,k,i,h=>by
  unfold vz at h;cases he:eq k p.1<;>rw[he]at h
  ·simp only[cond_false,Option.map_eq_some_iff]at h;obtain⟨j,h1,rfl⟩:=h;obtain⟨q,h2,h3⟩:=Ou h1;exact⟨q,by simpa using h2,h3⟩
  ·cases h;exact⟨p,rfl,he⟩
theorem WN{α β:Type}(eq:α->α->Bool):∀(xs:List (α×β)) (k:α) (z:β),a6e eq xs k z=(match vz eq xs k with|some i=>(match xs[i]? with|some p=>p.2|none=>z)|none=>z)
 |[],_,_=>rfl|p::r,k,z=>by
  unfold a6e vz;cases he:eq k p.1
  ·simp only[cond_false];rw[WN eq r k z];cases vz eq r k<;>simp
  ·rfl
theorem a7u{α β:Type}(eq:α->α->Bool):∀(xs:List (α×β)) (k:α) (z:β),b4b eq xs k z=(match vz eq xs k with|some i=>(match xs[i]? with|some p=>p.2|none=>z)|none=>z):=
 WN eq
theorem WO{α β:Type}(eq:α->α->Bool):∀(xs:List (α×β)) (k:α),a6f eq xs k=(vz eq xs k).isSome
 |[],_=>rfl|p::r,k=>by
  unfold a6f vz;cases he:eq k p.1
  ·simp only[cond_false];rw[WO eq r k];cases vz eq r k<;>simp
  ·rfl
theorem a7v{α β:Type}(eq:α->α->Bool):∀(xs:List (α×β)) (k:α),b4c eq xs k=(vz eq xs k).isSome:=
 WO eq
theorem WS{α β:Type}(eq:α->α->Bool):∀(xs:List (α×β)) (k:α) (x:β),a6k eq xs k x=(match vz eq xs k with|some i=>xs.set i (k,x)|none=>xs++[(k,x)])
 |[],_,_=>rfl|p::r,k,x=>by
  unfold a6k vz;cases he:eq k p.1
  ·simp only[cond_false];rw[WS eq r k x];cases vz eq r k<;>simp
  ·rfl
theorem ZB{α β:Type}(eq:α->α->Bool):∀(xs:List (α×β)) (k:α) (x:β),a7w eq xs k x=(match vz eq xs k with|some i=>xs.set i (k,x)|none=>xs++[(k,x)]):=
 WS eq
theorem UM:∀{k:Ty} (hf:k.flat=true) (a b:k.den),keq k a b=true↔a=b
 | .bool,_,a,b=>by cases a<;>cases b<;>simp[keq,kU]| .int _,_,a,b=>by simp[keq,x8]| .str,_,a,b=>by simp[keq,seq]| .unit,_,a,b=>⟨λ_=>rfl,λ_=>rfl⟩| .prod p q,hf,a,b=>by simp only[Ty.flat,C9]at hf;simp only[keq,nN,C9,UM hf.1,UM hf.2];exact⟨λh=>aZ h.1 h.2,λh=>by subst h;exact⟨rfl,rfl⟩⟩| .sl _,hf,_,_=>by cases hf| .ent ..,hf,_,_=>by cases hf
theorem UX{h h' :Array Obj}{ok ok' :Nat->Ty->Prop} :∀{t:Ty} (hf:t.flat=true) {x:t.den} {c d:List Value},mJ h ok t x c->mJ h' ok' t x d->c=d
 | .bool,_,_,_,_,h1,h2=>by simp only[mJ]at h1 h2;rw[h1,h2]| .int _,_,_,_,_,h1,h2=>by simp only[mJ]at h1 h2;rw[h1,h2]| .str,_,_,_,_,h1,h2=>by simp only[mJ]at h1 h2;rw[h1,h2]| .unit,_,_,_,_,h1,h2=>by simp only[mJ]at h1 h2;rw[h1,h2]| .prod p q,hf,_,_,_,h1,h2=>by simp only[Ty.flat,C9]at hf;obtain⟨a,b,rfl,a1,a2⟩:=h1;obtain⟨a',b',rfl,b1,b2⟩:=h2;rw[UX hf.1 a1 b1,UX hf.2 a2 b2]
 | .sl _,hf,_,_,_,_,_=>by cases hf| .ent ..,hf,_,_,_,_,_=>by cases hf
theorem a0r{h h' :Array Obj}{ok ok' :Nat->Ty->Prop} :∀{t:Ty} (hf:t.flat=true) {x y:t.den} {c:List Value},mJ h ok t x c->mJ h' ok' t y c->x=y
 | .bool,_,_,_,_,h1,h2=>by simp only[mJ]at h1 h2;rw[h1]at h2;simpa using h2| .int _,_,_,_,_,h1,h2=>by simp only[mJ]at h1 h2;rw[h1]at h2;simpa using h2
 | .str,_,_,_,_,h1,h2=>by simp only[mJ]at h1 h2;rw[h1]at h2;injection h2 with h2 _;injection h2 with h2;injection h2 with h2;have:=congrArg Array.toList h2;simpa using this
 | .unit,_,_,_,_,_,_=>rfl| .prod p q,hf,_,_,_,h1,h2=>by simp only[Ty.flat,C9]at hf;obtain⟨a,b,rfl,a1,a2⟩:=h1;obtain⟨a',b',e,b1,b2⟩:=h2;obtain⟨rfl,rfl⟩:=List.append_inj e ((ik a1).trans (ik b1).symm);exact aZ (a0r hf.1 a1 b1) (a0r hf.2 a2 b2)
 | .sl _,hf,_,_,_,_,_=>by cases hf| .ent ..,hf,_,_,_,_,_=>by cases hf
theorem SH{h:Array Obj}{ok:Nat->Ty->Prop} :∀{k:Ty} (hf:k.flat=true) {x:k.den} {c:List Value},mJ h ok k x c->∀{sh:List Ty} {d:List Value},jW sh d->jW (k.leaves++sh) (c++d)
 | .bool,_,x,_,h1,_,_,hd=>by simp only[mJ]at h1;subst h1;exact⟨_,_,rfl,hd⟩| .int _,_,x,_,h1,_,_,hd=>by simp only[mJ]at h1;subst h1;exact⟨_,_,rfl,hd⟩| .str,_,x,_,h1,_,_,hd=>by simp only[mJ]at h1;subst h1;exact⟨_,_,rfl,hd⟩| .unit,_,x,_,h1,_,_,hd=>by simp only[mJ]at h1;subst h1;exact hd| .prod p q,hf,_,_,h1,_,_,hd=>by simp only[Ty.flat,C9]at hf;obtain⟨a,b,rfl,a1,a2⟩:=h1;simp only[Ty.leaves,E9];exact SH hf.1 a1 (SH hf.2 a2 hd)
 | .sl _,hf,_,_,_,_,_,_=>by cases hf| .ent ..,hf,_,_,_,_,_,_=>by cases hf
theorem ZW:∀{a b:List Ty},SQ a b=true->a=b
 |[],[],_=>rfl|[],_::_,h=>by cases h|_::_,[],h=>by cases h|a::r,b::q,h=>by
  unfold SQ at h;cases hb:Ty.beq a b<;>rw[hb]at h
  ·cases h
  ·rw[Ty.beq_eq hb,ZW (show SQ r q=true from h)]
def Dl(ag:Bool)(k:Ty)(x:k.den)(kv:Value):Prop:=gok ag kv/\mJ #[] (λ_ _=>False) k x (uV ag kv)
theorem a3Y{ag:Bool}{u v:Value}(hu:gok ag u)(hv:gok ag v)(h:uV ag u=uV ag v):u=v:=by
 cases ag
 ·simpa[uV]using h
 ·obtain⟨a,rfl⟩:=hu;obtain⟨b,rfl⟩:=hv;have:a.toList=b.toList:=h;rw[Array.toList_inj.1 this]
theorem Dl.det{ag:Bool}{k:Ty}(hf:k.flat=true){x:k.den}{u v:Value}(h1:Dl ag k x u)(h2:Dl ag k x v):u=v:=
 a3Y h1.1 h2.1 (UX hf h1.2 h2.2)
theorem NV:∀(v:Value),(∃b,v= .bool b)\/(∃k n,v= .int k n)\/(∃s,v= .string s)->∀n,Instr.sameBits n v v=true:=by rintro v (⟨b,rfl⟩|⟨k,n,rfl⟩|⟨s,rfl⟩) m<;>simp[Instr.sameBits,MapKept.bytes_beq]
theorem SG{h:Array Obj}{ok:Nat->Ty->Prop} :∀{k:Ty} (hf:k.flat=true) {x:k.den} {c:List Value},mJ h ok k x c->∀v∈c,(∃b,v= .bool b)\/(∃k n,v= .int k n)\/(∃s,v= .string s)
 | .bool,_,x,_,h1,v,hv=>by simp only[mJ]at h1;subst h1;simp at hv;exact .inl ⟨_,hv⟩| .int _,_,x,_,h1,v,hv=>by simp only[mJ]at h1;subst h1;simp at hv;exact .inr (.inl ⟨_,_,hv⟩)| .str,_,x,_,h1,v,hv=>by simp only[mJ]at h1;subst h1;simp at hv;exact .inr (.inr ⟨_,hv⟩)| .unit,_,x,_,h1,v,hv=>by simp only[mJ]at h1;subst h1;cases hv| .prod p q,hf,_,_,h1,v,hv=>by
  simp only[Ty.flat,C9]at hf;obtain⟨a,b,rfl,a1,a2⟩:=h1;rcases D8.1 hv with hv|hv
  ·exact SG hf.1 a1 v hv
  ·exact SG hf.2 a2 v hv
 | .sl _,hf,_,_,_,_,_=>by cases hf| .ent ..,hf,_,_,_,_,_=>by cases hf
theorem Dl.stays{P:Program}{w:World}{ag:Bool}{k:Ty}(hf:k.flat=true){x:k.den}{v:Value}(h:Dl ag k x v):(Instr.keyThatStays v v).run P w= .ok v w:=by
 have hs:Instr.sameBits 10000 v v=true:=by
  have hc:=SG hf h.2;cases ag
  ·exact NV v (hc v (by simp[uV])) _
  ·obtain⟨arr,rfl⟩:=h.1;show Instr.sameBits (9999+1) (.agg arr) (.agg arr)=true;simp only[Instr.sameBits,beq_self_eq_true,nU,ja];intro p hp;obtain⟨i,hi,e⟩:=J7 hp;rw[List.getElem_zip]at e;rw[←e];exact NV _ (hc _ (H7 _)) _
 simp[Instr.keyThatStays,hs]
section
variable {X:Fx} {cl ch:Nat} {S:Sm} {m:Mp} {ok:Nat->Ty->Prop} {a:Act} {w:World} {T:List Nat} {o:Oper}
theorem a1N(H:FxOk X){ke:Nat}{i:TI}(hi:TiOk X.P ke i){k:Ty}(hk:a1L X.E ke i.td k=true)(hf:k.flat=true){x:k.den}{u:Value}(hu:Dl (bM i.td) k x u)(w:World):
  (∀em,(Instr.checkKey em 10000 ke u).run X.P w= .ok () w)/\
  ∀{β:Type} (es:List MapEntry) (xs:List (k.den×β)),es.length=xs.length->(∀(j:Nat) (p:k.den×β),xs[j]? =some p->∃e:MapEntry,es[j]? =some e/\Dl (bM i.td) k p.1 e.key)->
   (Instr.findKey ke u es).run X.P w= .ok ((vz (keq k) xs x).bind λj=>(es[j]?).map λe=>(j,e.val)) w:=by
 have htd:=hi.td;have scal:∀d,X.P.underlying ke=some d->bM i.td=false->(∀y v,Dl (bM i.td) k y v->Instr.sameNow d u v=some (keq k x y))->
   ∀{β:Type} (es:List MapEntry) (xs:List (k.den×β)),es.length=xs.length->(∀(j:Nat) (p:k.den×β),xs[j]? =some p->∃e:MapEntry,es[j]? =some e/\Dl (bM i.td) k p.1 e.key)->
   (Instr.findKey ke u es).run X.P w= .ok ((vz (keq k) xs x).bind λj=>(es[j]?).map λe=>(j,e.val)) w:=by
  intro d hd _ hs β es xs hl he;refine MapKept.run_findKey hd ?_;have:∀(es:List MapEntry) (xs:List (k.den×β)) (n:Nat),es.length=xs.length->(∀(j:Nat) (p:k.den×β),xs[j]? =some p->∃e:MapEntry,es[j]? =some e/\Dl (bM i.td) k p.1 e.key)->
    Instr.findNow d u es n=some ((vz (keq k) xs x).bind λj=>(es[j]?).map λe=>(n+j,e.val)):=by
   intro es;induction es with
   |nil=>
    intro xs n hl he;cases xs with
    |nil=>rfl|cons _ _=>cases hl
   |cons e es ih=>
    intro xs n hl he;cases xs with
    |nil=>cases hl|cons p xs=>
     obtain⟨e',h1,h2⟩:=he 0 p rfl;simp only[lm,G8]at h1;subst h1;unfold Instr.findNow vz;rw[hs _ _ h2];cases hq:keq k x p.1
     ·simp only[cond_false];rw[ih xs (n+1) (by simpa using hl) (λj q hj=>by simpa using he (j+1) q (by simpa using hj))];cases vz (keq k) xs x with
      |none=>rfl|some j=>simp[iL,Nat.add_comm 1 j]
     ·simp
  simpa using this es xs 0 hl he
 have one:∀{v:Value} {y:k.den},bM i.td=false->Dl (bM i.td) k y v->mJ #[] (λ_ _=>False) k y [v]:=λha h=>by have:=h.2;rw[ha]at this;exact this
 unfold a1L at hk;split at hk
 ·rename_i htd';rw[htd']at htd;have ha:bM i.td=false:=by rw[htd'];rfl
  have hu1:=one ha hu;simp only[mJ,H5,and_true]at hu1;subst hu1;refine⟨λem=>rW htd (by simp[MapKept.IsKey]) em 9999,scal _ htd ha λy v hv=>?_⟩;have hv1:=one ha hv;simp only[mJ,H5,and_true]at hv1;subst hv1;rfl
 ·rename_i p q htd';have:=of_decide_eq_true hk;subst this;rw[htd']at htd;have ha:bM i.td=false:=by rw[htd'];rfl
  have hu1:=one ha hu;simp only[mJ,H5,and_true]at hu1;subst hu1;refine⟨λem=>rW htd (by simp[MapKept.IsKey]) em 9999,scal _ htd ha λy v hv=>?_⟩;have hv1:=one ha hv;simp only[mJ,H5,and_true]at hv1;subst hv1;simp[Instr.sameNow,keq,x8];rfl
 ·rename_i htd';rw[htd']at htd;have ha:bM i.td=false:=by rw[htd'];rfl
  have hu1:=one ha hu;simp only[mJ,H5,and_true]at hu1;subst hu1;refine⟨λem=>rW htd (by simp[MapKept.IsKey]) em 9999,scal _ htd ha λy v hv=>?_⟩;have hv1:=one ha hv;simp only[mJ,H5,and_true]at hv1;subst hv1;simp only[Instr.sameNow,keq,seq,G8];rw[jA];simp[MapKept.bytes_beq]
 ·rename_i k _ _ fs htd';cases hkf:k.flat<;>rw[hkf]at hk
  ·cases hk
  simp only[cond_true]at hk;cases hq:fH X.E.eqs ke with
  |none=>rw[hq]at hk;cases hk|some sh=>
  rw[hq]at hk;have hsh:=ZW (show SQ sh k.leaves=true from hk);subst hsh;obtain⟨⟨fields,hund⟩,hks⟩:=(H.eqs ke _ hq).2;have ha:bM i.td=true:=by rw[htd'];rfl
  rw[ha]at hu;obtain⟨xs0,rfl⟩:=hu.1;have shp:∀{y:k.den} {arr:Array Value},Dl true k y (.agg arr)->jW k.leaves arr.toList:=λ{y arr} h=>by have:=SH hf (show mJ #[] (λ_ _=>False) k y arr.toList from h.2) (sh:=[]) (d:=[]) rfl;simpa using this
  obtain⟨c1,c2⟩:=hks w xs0 (shp hu);refine⟨c1,λ{β} es xs hl he=>?_⟩;rw[run_findKey_eq w (by rw[hund])];rw[ha]at he;have:∀(es:List MapEntry) (xs:List (k.den×β)) (n:Nat),es.length=xs.length->(∀(j:Nat) (p:k.den×β),xs[j]? =some p->∃e:MapEntry,es[j]? =some e/\Dl true k p.1 e.key)->
    (Instr.findAsking ke (.agg xs0) es n).run X.P w= .ok ((vz (keq k) xs x).bind λj=>(es[j]?).map λe=>(n+j,e.val)) w:=by
   intro es;induction es with
   |nil=>
    intro xs n hl he;cases xs with
    |nil=>rfl|cons _ _=>cases hl
   |cons e es ih=>
    intro xs n hl he;cases xs with
    |nil=>cases hl|cons p xs=>
     obtain⟨e',h1,h2⟩:=he 0 p rfl;simp only[lm,G8]at h1;subst h1;obtain⟨ys,hys⟩:=h2.1;rw[hys]at h2;obtain⟨r,hr,hre⟩:=c2 ys (shp h2);have hrq:r=keq k x p.1:=by
      rw[jA,hre,UM hf];constructor
      ·intro h;have h3:=h2.2;rw[show uV true (Value.agg ys)=ys.toList from rfl,←h]at h3;exact a0r hf hu.2 h3
      ·intro h;have h3:=h2.2;rw[←h]at h3;exact UX hf hu.2 h3
     subst hrq;unfold Instr.findAsking vz;simp only[hys,G5,hr,I7];cases hq:keq k x p.1
     ·simp only[cond_false,bJ,if_false];rw[ih xs (n+1) (by simpa using hl) (λj q hj=>by simpa using he (j+1) q (by simpa using hj))];cases vz (keq k) xs x with
      |none=>rfl|some j=>simp[iL,Nat.add_comm 1 j]
     ·simp
  simpa using this es xs 0 hl he
 ·cases hk
theorem Oo(H:FxOk X){t:Nat}{M:MT}(h:PT X.E t=some M):X.P.underlying t=some (.map M.ke M.el)/\M.k.flat=true/\
  (∃i,TiOk X.P M.ke i/\a1L X.E M.ke i.td M.k=true/\M.ka=bM i.td)/\(∃j,TiOk X.P M.el j/\j.ty=some M.v/\M.va=bM j.td):=by
 unfold PT at h;split at h<;>try (cases h;done)
 rename_i i hi;split at h<;>try (cases h;done)
 rename_i ke el htd;split at h<;>try (cases h;done)
 rename_i p q hp hq;split at h<;>try (cases h;done)
 rename_i k v hk hv;cases hc:(a1L X.E ke p.td k&&k.flat)<;>rw[hc]at h
 ·cases h
 ·simp only[cond_true,G8]at h;subst h;simp only[C9]at hc;have h1:=(H.tt t i hi).td;rw[htd]at h1;exact⟨h1,hc.2,⟨p,H.tt _ p hp,hc.1,rfl⟩,⟨q,H.tt _ q hq,hv,rfl⟩⟩
theorem Rh{α:Type}{Q:α->Sm->Prop}{ag:Bool}{t:Ty}{v:V}{x:Value}{K:t.den->Cmd α}(R:Rel X cl ch S m ok a w)(hT:Tk X S m ok w T)(hv:pg ⟨w.heap,ok,m⟩ v x)
  (hK:∀S' ok' y,Rel X cl ch S' m ok' a w->Tk X S' m ok' w T->(∀b t,ok b t->ok' b t)->eU S S' ->gok ag x->mJ w.heap ok' t y (uV ag x)->(K y).post S' Q):
  (a9g ag t v K).post S Q:=by
 unfold a9g;refine Gy hv λcs us hg hl=>?_;refine Fa t R hT hl λS1 ok1 y q us1 us' R1 T1 k1 s1 e1 h1 l1=>?_;cases q with
 |cons _ _=>trivial|nil=>
 simp only[iP]at l1;subst l1;simp only[H9]at e1;subst e1;have hgc:gok ag x/\uV ag x=us:=by
  cases ag
  ·simp only[SB]at hg;subst hg;exact⟨xP h1 x A7,rfl⟩
  ·obtain⟨arr,rfl,rfl⟩:=hg;exact⟨⟨arr,rfl⟩,rfl⟩
 refine hK _ _ _ R1 T1 k1 s1 hgc.1 ?_;rw[hgc.2];exact h1
def KJ(h:Array Obj)(ok:Nat->Ty->Prop)(t:Ty)(xs:List t.den)(v:Value):Prop:=
 ∃mv,v= .map mv/\(mv=none->xs=[])/\∀blk,mv=some blk->∃(es:Array MapEntry) (ck:Nat),h[blk]? =some (.map es ck)/\es.size=(xs:List t.den).length/\
  ∀(i:Nat) (x:t.den),(xs:List t.den)[i]? =some x->∃e:MapEntry,es[i]? =some e/\Pm t e/\mJ h ok t x (AX t e)
theorem KJ.of_rep{h:Array Obj}{ok:Nat->Ty->Prop}{t:Ty}{xs:List t.den}{v:Value}(ht:t.isEnt=true)(hr:mJ h ok (.sl t) xs [v]):KJ h ok t xs v:=by obtain⟨mv,e,h1,h2⟩:=(a4E ht).1 hr;exact⟨mv,by simpa using e,h1,λblk hb=>(h2 blk hb).2⟩
theorem KJ.of_arr{C:Cx}{t:Ty}{xs:List t.den}{l:Loc}{v:Value}(ht:t.isEnt=true)(ha:arrOk C t xs l)(hv:l.view none v):KJ C.h C.ok t xs v:=by
 cases l with
 |nil=>have:=ha.2;rw[ht]at this;cases this|st b=>cases ha|arr blk off len cap sz=>have:=ha.1;rw[ht]at this;cases this|mp b=>simp only[Loc.view]at hv;subst hv;exact⟨_,rfl,(λh=>nomatch h),λblk hb=>by cases hb;exact ha.2⟩
theorem a4x{α:Type}{Q:α->Sm->Prop}(R:Rel X cl ch S m ok a w){u:Ty}(hu:u.isEnt=true){v:V}{x:Value}{K:List u.den->Cmd α}(hv:pg ⟨w.heap,ok,m⟩ v x)
  (hK:∀xs,KJ w.heap ok u xs x->(K xs).post S Q):(b0H u v K).post S Q:=by
 unfold b0H;split<;>try trivial
 ·refine iJ λe=>?_;subst e;exact hK _ (KJ.of_rep hu hv)
 ·rename_i bx;obtain⟨l,hm,hvw⟩:=hv;refine gK ?_;split<;>try trivial
  ·rename_i t xs hS;obtain⟨l',hm',ha⟩:=R.own_arr hS;simp only at hm;rw[hm]at hm';cases hm';refine iJ λe=>?_;subst e;exact hK _ (KJ.of_arr hu ha hvw)
  ·rename_i t xs hS;obtain⟨l',hm',ha,_⟩:=R.own_frz hS;simp only at hm;rw[hm]at hm';cases hm';refine iJ λe=>?_;subst e;exact hK _ (KJ.of_arr hu ha hvw)
theorem MR{h:Array Obj}{ok:Nat->Ty->Prop}{M:MT}{x:M.k.den×M.v.den}{e:MapEntry}(h1:Pm M.ent e)(h2:mJ h ok M.ent x (AX M.ent e)):
  gok M.ka e.key/\gok M.va e.val/\mJ h ok M.k x.1 (uV M.ka e.key)/\mJ h ok M.v x.2 (uV M.va e.val):=by
 obtain⟨g1,g2,g3⟩:=h1;obtain⟨c,d,e1,r1,r2⟩:=h2;obtain⟨rfl,rfl⟩:=List.append_inj (show uV M.ka e.key++uV M.va e.val=c++d from e1) (g3.trans (ik r1).symm);exact⟨g1,g2,r1,r2⟩
theorem a9o{h:Array Obj}{ok:Nat->Ty->Prop}{M:MT}{x:M.k.den}{y:M.v.den}{e:MapEntry}(g1:gok M.ka e.key)(g2:gok M.va e.val)(r1:mJ h ok M.k x (uV M.ka e.key))(r2:mJ h ok M.v y (uV M.va e.val)):
  Pm M.ent e/\mJ h ok M.ent (x,y) (AX M.ent e):=⟨⟨g1,g2,ik r1⟩,_,_,rfl,r1,r2⟩
theorem a0o{C:Cx}{c:V}{v:Value}(h:zf C c v):Xx C c v:=by
 cases c<;>simp only[zf]at h<;>try exact h
 all_goals exact h.elim
theorem b1s{C:Cx}{ag:Bool}{cs:List V}{us:List Value}{x:Value}(hg:SB ag x us)(hl:iP C cs us):Xx C (mkV ag cs) x:=by
 cases ag
 ·simp only[SB]at hg;subst hg;cases cs with
  |nil=>simp[iP]at hl|cons c r=>
   obtain⟨v,r',e,h1,h2,h3⟩:=hl;simp at e;obtain⟨rfl,rfl⟩:=e;cases r with
   |nil=>exact a0o h1|cons d r=>obtain⟨_,_,e,_⟩:=h3;cases e
 ·obtain⟨arr,rfl,rfl⟩:=hg;exact⟨arr,rfl,hl⟩
theorem a2z{ag:Bool}{v:Value}(h:gok ag v):SB ag v (uV ag v):=by
 cases ag
 ·rfl
 ·obtain⟨arr,rfl⟩:=h;exact⟨arr,rfl,rfl⟩
theorem UH{P:Program}{w:World}{t ke el:TypeId}{mv:Option Nat}{es:Array MapEntry}{key z:Value}{ok:Bool}(hund:P.underlying t=some (.map ke el))
  (hes:mv=none/\es=#[]\/∃r ck,mv=some r/\w.heap[r]? =some (.map es ck)) (hck:∀em,(Instr.checkKey em 10000 ke key).run P w= .ok () w) {r:Option (Nat×Value)}
  (hfind:(Instr.findKey ke key es.toList).run P w= .ok r w) (hz:(zeroValue el).run P w= .ok z w):
  (Instr.lookup t (.map mv) key ok).run P w= .ok (if ok then .tuple #[(r.map (·.2)).getD z,.bool r.isSome]else(r.map (·.2)).getD z) w:=by
 rcases hes with⟨rfl,rfl⟩|⟨b,ck,rfl,hb⟩
 ·simp only[Instr.lookup,G5,run_underlying hund,I7,Y8,hck,hfind];cases r with
  |none=>cases ok<;>simp[hz]|some p=>cases ok<;>simp
 ·simp only[Instr.lookup,G5,run_underlying hund,Jt hb,I7,Y8,hck,hfind];cases r with
  |none=>cases ok<;>simp[hz]|some p=>cases ok<;>simp
theorem a7K(H:FxOk X)(R:Rel X cl ch S m ok a w){t:TypeId}{x ix:Operand}{okk:Bool}{q:Nat}(ho:o.op= .lookup t x ix okk):(dI X.E q o).post S (λ_ S' =>kT X cl ch o a w m ok S'):=by
 unfold dI;simp only[ho];refine aI R λu hu=>aI R λkv hk=>?_;unfold a6a;cases hM:PT X.E t with
 |none=>trivial|some M=>
 obtain⟨hund,hf,⟨i,hi,hko,hka⟩,⟨j,hj,hjt,hva⟩⟩:=Oo H hM;simp only[];refine Rh (T:=[]) R Tk.nil hk λS1 ok1 key R1 T1 k1 s1 hg hr=>?_;refine a4x R1 rfl (Nl k1 hu) λxs hxs=>?_;obtain⟨mv,hx,hnil,hmap⟩:=hxs;have hkey:Dl (bM i.td) M.k key (a.eval ix):=by rw[←hka];exact⟨hg,BH hf hr⟩
 obtain⟨c1,c2⟩:=a1N H hi hko hf hkey w;obtain⟨inf,hinf,_,_,_,hzero⟩:=hj.info;obtain⟨_,z,hz,hzr⟩:=hzero _ hjt;have hzrun:(zeroValue M.el).run X.P w= .ok z w:=by simp[zeroValue,typeInfo,hinf,hz]
 have hzg:gok M.va z/\mJ w.heap ok1 M.v M.v.zero (uV M.va z):=by
  have hr0:mJ w.heap ok1 M.v M.v.zero z.cells.toList:=fB (λ_ _ h=>h.elim) (λ_ _ h=>h.elim) hzr;have hag:=hj.agg inf z hinf hz;rw[←hva]at hag;cases hva' :M.va
  ·have h1:=hag.2 hva';have hcz:z.cells.toList=[z]:=by cases z<;>first|rfl|cases h1
   rw[hcz]at hr0;exact⟨h1,hr0⟩
  ·exact⟨hag.1 hva',hr0⟩
 have hE:∃es:Array MapEntry,(mv=none/\es=#[]\/∃r ck,mv=some r/\w.heap[r]? =some (.map es ck))/\es.size=xs.length/\
   ∀(i:Nat) (x:M.k.den×M.v.den),xs[i]? =some x->∃e:MapEntry,es[i]? =some e/\Pm M.ent e/\mJ w.heap ok1 M.ent x (AX M.ent e):=by
  cases mv with
  |none=>have:=hnil rfl;subst this;exact⟨#[],.inl ⟨rfl,rfl⟩,rfl,λi x h=>by simp at h⟩|some blk=>obtain⟨es,ck,h1,h2,h3⟩:=hmap blk rfl;exact⟨es,.inr ⟨blk,ck,rfl,h1⟩,h2,h3⟩
 obtain⟨es,hes,hsz,hent⟩:=hE;have hfind:=c2 (β:=M.v.den) es.toList xs (by rw[bY];exact hsz) (λj p hp=>by obtain⟨e,h1,h2,h3⟩:=hent j p hp;obtain⟨g1,g2,r1,r2⟩:=MR h2 h3;exact⟨e,by simpa using h1,by rw[←hka];exact⟨g1,BH hf r1⟩⟩)
 have run:=UH (ok:=okk) hund hes c1 hfind hzrun;have hval:∃val,(((vz (keq M.k) xs key).bind λj=>(es.toList[j]?).map λe=>(j,e.val)).map (·.2)).getD z=val/\gok M.va val/\
   mJ w.heap ok1 M.v (b4b (keq M.k) xs key M.v.zero) (uV M.va val)/\(((vz (keq M.k) xs key).bind λj=>(es.toList[j]?).map λe=>(j,e.val))).isSome=b4c (keq M.k) xs key:=by
  rw[a7u,a7v];cases hfi:vz (keq M.k) xs key with
  |none=>exact⟨z,rfl,hzg.1,hzg.2,rfl⟩|some j=>
   obtain⟨p,hp,_⟩:=Ou hfi;obtain⟨e,h1,h2,h3⟩:=hent j p hp;obtain⟨g1,g2,r1,r2⟩:=MR h2 h3;have h1' :es.toList[j]? =some e:=by simpa using h1
   refine⟨e.val,by rw[kR,h1'];rfl,g2,?_,by rw[kR,h1'];rfl⟩;simp only[hp];exact r2
 obtain⟨val,e1,g,r,e2⟩:=hval;rw[e1,e2]at run;have hrel:=a2z g;have hL:=sO (C:=⟨w.heap,ok1,m⟩) r;cases okk
 ·simp only[cond_false];refine yN H R1 (λ_ _ h=>h) k1 (Qy hrel hL) ?_;simp only[execOp,ho,hx,G5,run];rfl
 ·simp only[cond_true];refine yN H R1 (λ_ _ h=>h) k1 (v:=.tup _) (x:=.tuple #[val,.bool (b4c (keq M.k) xs key)]) ⟨_,rfl,⟨_,_,rfl,b1s hrel hL,_,_,rfl,rfl,rfl⟩⟩ ?_;simp only[execOp,ho,hx,G5,run];rfl
theorem a4u(H:FxOk X){q:Nat}(R:Rel X (CB*q) (CB*q+CB) S m ok a w){t:TypeId}{r:Option Operand}(ho:o.op= .makeMap t r):(dI X.E q o).post S (λ_ S' =>kT X (CB*q) (CB*q+CB) o a w m ok S'):=by
 have go:((Instr.makeMap t (r.map a.eval)).run X.P w= .ok (.map (some w.heap.size)) (w.alloc (.map #[] 0)))->
   (Lm X.E (U0 q o.dst) t λv=>gJ X.E o.dst v).post S (λ_ S' =>kT X (CB*q) (CB*q+CB) o a w m ok S'):=λrun=>by
  unfold Lm;cases hM:PT X.E t with
  |none=>trivial|some M=>
  refine RS (l:=.mp w.heap.size) (obj:=.map #[] 0) (x:=.map (some w.heap.size)) H R A7 (by simp[Y5]) (λhn hc=>?_) ⟨.mp w.heap.size,A7,rfl⟩ ?_
  ·exact⟨.mp w.heap.size,A7,rfl,#[],0,heap_alloc_new w _,rfl,λi x h=>by simp at h⟩
  ·simp only[execOp,ho,G5,run];rfl
 unfold dI;simp only[ho];cases r with
 |none=>exact go (by simp[Instr.makeMap])|some hd=>
  refine aI R λv hv=>?_;split<;>try trivial
  rename_i k n;cases hM:PT X.E t with
  |none=>unfold Lm;rw[hM];trivial|some M=>
  refine go ?_;simp[Instr.makeMap,vM hv,run_underlying (Oo H hM).1,asInt,asIntOf]
theorem Qj(H:FxOk X)(R:Rel X cl ch S m ok a w){t:TypeId}{x ix y:Operand}{q:Nat}(ho:o.op= .mapUpdate t x ix y\/o.op= .insert t x ix y):(dI X.E q o).post S (λ_ S' =>kT X cl ch o a w m ok S'):=by
 suffices h:((match o.dst with|none=>rX x λm=>rX ix λk=>rX y λv=>a0I X.E t m k v|some _=> .fail:Cmd Unit)).post S (λ_ S' =>kT X cl ch o a w m ok S') by unfold dI;rcases ho with ho|ho<;>simp only[ho]<;>exact h
 cases hd:o.dst with
 |some _=>trivial|none=>
 refine aI R λu hu=>aI R λkv hk=>aI R λyv hy=>?_;unfold a0I;cases hM:PT X.E t with
 |none=>trivial|some M=>
 obtain⟨hund,hf,⟨i,hi,hko,hka⟩,⟨j,hj,hjt,hva⟩⟩:=Oo H hM;simp only[];refine Rh (T:=[]) R Tk.nil hk λS1 ok1 key R1 T1 k1 s1 hg hr=>?_;refine Rh R1 T1 (Nl k1 hy) λS2 ok2 z R2 T2 k2 s2 hg2 hr2=>?_;have hkey:Dl (bM i.td) M.k key (a.eval ix):=by rw[←hka];exact⟨hg,BH hf hr⟩
 obtain⟨c1,c2⟩:=a1N H hi hko hf hkey w;split<;>try trivial
 rename_i bx;obtain⟨l0,hm0,hvw⟩:=hu;simp only at hm0;refine gK ?_;split<;>try trivial
 rename_i u xs hS;refine iJ λe=>?_;subst e;refine nJ ?_;obtain⟨l,hm,ha⟩:=R2.own_arr hS;rw[hm0]at hm;cases hm;cases l0 with
 |nil=>exact absurd ha.2 (by simp[MT.ent,Ty.isEnt])|st b=>cases ha|arr blk off len cap sz=>exact absurd ha.1 (by simp[MT.ent,Ty.isEnt])|mp blk=>
 simp only[Loc.view]at hvw;obtain⟨_,es,ck,hb,hsz,hent⟩:=ha;simp only at hb hent;have hown:Y5 m bx (S2 (bf+bx))=[blk]:=by rw[hS];simp[Y5,hm0]
 have hsep:=R2.sep bx blk (by rw[hown];simp);have hfind:=c2 (β:=M.v.den) es.toList xs (by rw[bY];exact hsz) (λj p hp=>by obtain⟨e,h1,h2,h3⟩:=hent j p hp;obtain⟨g1,g2,r1,r2⟩:=MR h2 h3;exact⟨e,by simpa using h1,by rw[←hka];exact⟨g1,BH hf r1⟩⟩)
 have fin:∀(es' :Array MapEntry) (ck' :Nat) (xs' :List (M.k.den×M.v.den)),xs' =a7w (keq M.k) xs key z->
   (Instr.mapUpdate t (a.eval x) (a.eval ix) (a.eval y)).run X.P w= .ok () { w with heap:=w.heap.setIfInBounds blk (.map es' ck') }->es'.size=xs'.length->
   (∀(i:Nat) (x:M.k.den×M.v.den),xs'[i]? =some x->∃e:MapEntry,es'[i]? =some e/\Pm M.ent e/\mJ w.heap ok2 M.ent x (AX M.ent e))->
   kT X cl ch o a w m ok (upd S2 (bf+bx) (.barr M.ent (a7w (keq M.k) xs key z))):=by
  intro es' ck' xs' hxs' run hsz' hent';subst hxs';obtain⟨q1,q2⟩:=MapKept.heap_set (o' :=.map es' ck') hb;have R3:Rel X cl ch (upd S2 (bf+bx) (.barr M.ent (a7w (keq M.k) xs key z))) m ok2 a { w with heap:=w.heap.setIfInBounds blk (.map es' ck') }:=by refine R2.mod (by rw[hown];simp[Y5,hm0]) A7 rfl rfl rfl A7 (λb hb=>q2 b (by rw[hown]at hb;simpa using hb)) ?_;refine⟨.mp blk,hm0,rfl,es',ck',q1,hsz',λi x hx=>?_⟩;obtain⟨e,h1,h2,h3⟩:=hent' i x hx;exact⟨e,h1,h2,fB (λ_ _ h=>h) (λb t hb=>q2 b (λe=>hsep.1 t (e▸hb))) h3⟩
  intro next Q hn
  unfold Oper.wp;have e:(execOp a.eval o).run X.P w= .ok .skip { w with heap:=w.heap.setIfInBounds blk (.map es' ck') }:=by rcases ho with ho|ho<;>simp[execOp,ho,run]
  rw[e,Oper.upon_skip,hd];exact hn m ok2 a _ R3 (λ_ _ h=>h) (λb t h=>k2 b t (k1 b t h))
 have hnew:∀n,Pm M.ent { key:=a.eval ix,val:=a.eval y,born:=n }/\mJ w.heap ok2 M.ent (key,z) (AX M.ent { key:=a.eval ix,val:=a.eval y,born:=n }):=λn=>
  a9o (e:={ key:=a.eval ix,val:=a.eval y,born:=n }) hg hg2 (BH hf hr) hr2
 show kT X cl ch o a w m ok (upd S2 (bf+bx) (.barr M.ent (a7w (keq M.k) xs key z)));cases hfi:vz (keq M.k) xs key with
 |none=>
  rw[hfi]at hfind;refine fin (es.push { key:=a.eval ix,val:=a.eval y,born:=ck }) (ck+1) (xs++[(key,z)]) (by rw[ZB,hfi]) ?_ (by simp[hsz]) λi x hx=>?_
  ·rw[hvw];simp only[Instr.mapUpdate,G5,run_underlying hund,Jt hb,I7,c1,hfind,Option.bind_none];exact MapKept.run_setObj_map _ hb
  ·rw[List.getElem?_append]at hx;split at hx
   ·rename_i hlt;obtain⟨e,h1,h2,h3⟩:=hent i x hx;refine⟨e,?_,h2,fB (λ_ _ h=>h) (λ_ _ _=>rfl) h3⟩;rw[Array.getElem?_push_lt l7];rw[←h1,P8 l7]
   ·rename_i hge;have hi0:i=xs.length:=by
     have:=(Y6.1 hx).1;simp at this;omega
    subst hi0;simp at hx;subst hx;exact⟨_,by rw[←hsz];simp,hnew ck⟩
 |some j=>
  obtain⟨p,hp,hpk⟩:=Ou hfi;obtain⟨e,h1,h2,h3⟩:=hent j p hp;obtain⟨g1,g2,r1,r2⟩:=MR h2 h3;have h1' :es.toList[j]? =some e:=by simpa using h1
  have hpe:=(UM hf _ _).1 hpk;have hke:e.key=a.eval ix:=Dl.det hf (ag:=M.ka) (x:=key) ⟨g1,by rw[hpe];exact BH hf r1⟩ ⟨hg,BH hf hr⟩;rw[hfi]at hfind;simp only[kR,h1',Y2]at hfind;refine fin (es.modify j λe=> { e with key:=a.eval ix,val:=a.eval y }) ck (xs.set j (key,z)) (by rw[ZB,hfi]) ?_ (by simp[hsz]) λi x hx=>?_
  ·rw[hvw];simp only[Instr.mapUpdate,G5,run_underlying hund,Jt hb,I7,c1,hfind,h1,Y2,ai,hke,Dl.stays (P:=X.P) (w:=w) hf hkey];exact MapKept.run_setObj_map _ hb
  ·rw[X3]at hx;rw[qU];split at hx
   ·rename_i hij;subst hij;split at hx
    ·cases hx;simp only[if_true,h1,Y2];exact⟨_,rfl,hnew e.born⟩
    ·cases hx
   ·rename_i hij;simp only[hij,if_false];obtain⟨e',a1,a2,a3⟩:=hent i x hx;exact⟨e',a1,a2,fB (λ_ _ h=>h) (λ_ _ _=>rfl) a3⟩
end
end Go.GP
namespace Go.GP
theorem d_:∀(n:Nat) (vs a b:List V),JP n vs=some (a,b)->vs=a++b/\a.length=n
 |0,vs,a,b,h=>by simp[JP]at h;obtain⟨rfl,rfl⟩:=h;simp
 |n+1,[],a,b,h=>by simp[JP]at h|n+1,v::vs,a,b,h=>by
  unfold JP at h;cases hs:JP n vs with
  |none=>simp[hs]at h|some p=>obtain⟨a',b'⟩:=p;simp only[hs,G8,lw]at h;obtain⟨rfl,rfl⟩:=h;obtain⟨rfl,hl⟩:=d_ n vs _ _ hs;exact⟨rfl,by simp[hl]⟩
theorem Ui{C:Cx} :∀{a b:List V} {xs ys:List Value},a.length=xs.length->jK C (a++b) (xs++ys)->jK C a xs/\jK C b ys
 |[],b,xs,ys,hl,h=>by
  have:xs=[]:=by cases xs<;>simp at hl ⊢
  subst this;exact⟨rfl,h⟩
 |c::a,b,xs,ys,hl,h=>by
  cases xs with
  |nil=>simp at hl|cons x xs=>obtain⟨v,r,e,h1,h2⟩:=h;simp only[S9,H5]at e;obtain⟨rfl,rfl⟩:=e;obtain⟨h3,h4⟩:=Ui (by simpa using hl) h2;exact⟨⟨_,_,rfl,h1,h3⟩,h4⟩
theorem a6x{C:Cx} :∀{a:List V} {xs:List Value},Ia a=false->jK C a xs->a0p C a xs
 |[],xs,_,h=>h|c::a,xs,ht,⟨v,r,e,h1,h2⟩=>by
  have ht2:Ia a=false:=by cases c<;>first|exact ht|(simp[Ia]at ht)
  refine⟨v,r,e,?_,a6x ht2 h2⟩;cases c<;>first|exact h1|(simp[Ia]at ht)
theorem b1v{C:Cx}{a:List V}{xs:List Value}{n:Nat}{v:Value}(ht:Ia a=false)(h:jK C a xs)(hr:a3r n v xs):pg C (b4t a) v:=by
 obtain⟨_,hv⟩:=hr;cases a with
 |nil=>simp only[jK]at h;subst h;simp only at hv;subst hv;exact⟨_,rfl,rfl⟩|cons c a=>
  obtain⟨x,r,rfl,h1,h2⟩:=h;cases a with
  |nil=>simp only[jK]at h2;subst h2;simp only at hv;subst hv;exact h1|cons d a=>obtain⟨y,r',rfl,h3,h4⟩:=h2;simp only at hv;subst hv;exact⟨_,rfl,a6x ht ⟨_,_,rfl,h1,_,_,rfl,h3,h4⟩⟩
theorem Vx{h:Array Obj}{ok ok' :Nat->Ty->Prop} :∀{ts:List Ty} {x:Ti ts} {vs:List Value},(∀b u,ok b u->TU u ts=true->ok' b u)->Fh h ok (Tf ts x) vs->Fh h ok' (Tf ts x) vs
 |[],_,_,_,hr=>hr|[t],x,_,f,hr=>by obtain⟨v,r,e,⟨b,o,es,hv,hb,hc,hp⟩,h2⟩:=hr;exact⟨v,r,e,⟨b,o,es,hv,f _ _ hb (by simp[TU]),hc,zK (λb u h k=>f b u h (by simp[TU,k])) hp⟩,h2⟩
 |t::t' ::ts,x,_,f,hr=>by obtain⟨v,r,e,⟨b,o,es,hv,hb,hc,hp⟩,h2⟩:=hr;exact⟨v,r,e,⟨b,o,es,hv,f _ _ hb (by simp[TU]),hc,zK (λb u h k=>f b u h (by simp[TU,k])) hp⟩,Vx (ts:=t' ::ts) (λb u h k=>f b u h (by rw[TU,k];simp)) h2⟩
theorem YM{h:Array Obj}{ok ok' :Nat->Ty->Prop}{m:Mp}{t:Ty}{xs:List t.den}{l:Loc}(f:∀b u,ok b u->Ty.occ u t=true->ok' b u)(hr:arrOk ⟨h,ok,m⟩ t xs l):arrOk ⟨h,ok',m⟩ t xs l:=by
 cases l with
 |nil=>exact hr|st b=>exact hr|mp b=>obtain⟨h1,es,ck,h2,h3,h4⟩:=hr;refine⟨h1,es,ck,h2,h3,λi y hi=>?_⟩;obtain⟨e,a1,a2,a3⟩:=h4 i y hi;exact⟨e,a1,a2,zK f a3⟩
 |arr blk off len cap sz=>obtain⟨h0,h1,h2,h3,c,T,h4,h5,h6⟩:=hr;refine⟨h0,h1,h2,h3,c,T,h4,h5,λi y hi=>?_⟩;obtain⟨es,he,hp⟩:=h6 i y hi;exact⟨es,he,zK f hp⟩
theorem Gj{h:Array Obj}{ok ok' :Nat->Ty->Prop} :∀{m:M} {ho:Option Nat} {x:m.den} {cs:List Value} {O:List Nat},(∀b u,ok b u->m.occ u=true->ok' b u)->qy h ok m ho x cs O->qy h ok' m ho x cs O
 | .dat t,_,_,_,_,f,hr=>⟨zK f hr.1,hr.2⟩| .unit,_,_,_,_,_,hr=>hr| .pair a b,_,_,_,_,f,⟨c,d,O1,O2,e,eo,h1,h2⟩=>⟨c,d,O1,O2,e,eo,Gj (λb u h k=>f b u h (by simp[M.occ,k])) h1,Gj (λb u h k=>f b u h (by simp[M.occ,k])) h2⟩| .box m,_,_,_,_,f,⟨blk,arr,T,O',e,hh,hr,eo⟩=>⟨blk,arr,T,O',e,hh,Gj f hr,eo⟩| .own t,ho,_,_,_,f,⟨v,e,h1,ha⟩=>by
  refine⟨v,e,h1,?_⟩;split at ha
  ·exact ha
  ·obtain⟨l,hv,ha,hO⟩:=ha;exact⟨l,hv,YM f ha,hO⟩
 | .owns m,ho,_,_,_,f,⟨v,e,h1,ha⟩=>by
  refine⟨v,e,h1,?_⟩;split at ha
  ·exact ha
  ·obtain⟨he,l,Os,hv,ha,hO⟩:=ha;exact⟨he,l,Os,hv,Gx (λ_ _=>rfl) (λi x es O _ hr=>Gj f hr) ha,hO⟩
 | .ownb t,_,_,_,_,f,⟨l,v,e,hv,ha,hO⟩=>⟨l,v,e,hv,YM f ha,hO⟩| .rp t,_,_,_,_,f,⟨v,e,⟨b,o,es,hv,hb,hc,hp⟩,h2⟩=>⟨v,e,⟨b,o,es,hv,f _ _ hb (by simp[M.occ]),hc,zK (λb u h k=>f b u h (by simp[M.occ,k])) hp⟩,h2⟩| .fn g ts,_,_,_,_,f,⟨vs,e,h1,h2⟩=>⟨vs,e,Vx f h1,h2⟩| .ifc t m,_,_,_,_,f,⟨u,e,h1⟩=>⟨u,e,Gj f h1⟩| .cell _,_,_,_,_,_,h=>h| .fr t,_,_,_,_,f,⟨l,v,e,hv,ha,hk,hO⟩=>⟨l,v,e,hv,YM (λb u h k=>f b u h (by simp[M.occ,k])) ha,λb h=>f b t (hk b h) (by simp[M.occ]),hO⟩
theorem XB{h:Array Obj}{ok ok' :Nat->Ty->Prop} :∀{ms:List MG} {x:iR ms} {vs:List Value} {O:List Nat},(∀b u,ok b u->Ls u ms=true->ok' b u)->wo h ok ms x vs O->wo h ok' ms x vs O
 |[],_,_,_,_,e=>e|[m],_,_,_,f,⟨v,cs,e,hg,hr⟩=>⟨v,cs,e,hg,Gj (λb u h k=>f b u h (by simp[Ls,k])) hr⟩|m::m' ::r,_,_,_,f,⟨v,cs,vs',O1,O2,e,eo,hg,h1,h2⟩=>
  ⟨v,cs,vs',O1,O2,e,eo,hg,Gj (λb u h k=>f b u h (by simp[Ls,k])) h1,XB (λb u h k=>f b u h (by rw[Ls,k];simp)) h2⟩
theorem Qd{u:Ty} :∀{a b:List MG},Ls u (a++b)=(Ls u a || Ls u b)
 |[],_=>rfl|m::a,b=>by simp[Ls,Qd,Bool.or_assoc]
theorem ZL:∀{fs:List (Nat×FSpec)} {f:Nat} {vs:List V} {s:FSpec},a2r fs f vs=some s->(f,s)∈fs
 |[],_,_,_,h=>by simp[a2r]at h|(g,s')::r,f,vs,s,h=>by
  unfold a2r at h;cases hb:(Nat.beq g f&&Rw s'.ps vs)
  ·rw[hb]at h;exact U4 _ (ZL h)
  ·rw[hb]at h;simp only[cond_true,G8]at h;subst h;simp only[C9]at hb;have:=jy hb.1;subst this;exact jg
theorem b4T{l l0:Loc}{v:Value}(h:l.view none v)(h0:l0.view none v)(hs:∀b o n c s b' o' n' c' s',l= .arr b o n c s->l0= .arr b' o' n' c' s' ->s=s'):l=l0:=by
 cases l<;>cases l0<;>simp only[Loc.view]at h h0
 ·rfl
 ·rw[h]at h0;cases h0
 ·rw[h]at h0;cases h0
 ·rw[h]at h0;cases h0
 ·rw[h]at h0;simp only[Value.slice.injEq,G8,qR,and_true]at h0;obtain⟨⟨rfl,rfl⟩,rfl,rfl⟩:=h0;have:=hs _ _ _ _ _ _ _ _ _ _ rfl rfl;subst this;rfl
 ·rw[h]at h0;cases h0
 ·rw[h]at h0;cases h0
 ·rw[h]at h0;cases h0
 ·rw[h]at h0;cases h0;rfl
theorem NT{h:Array Obj}{ok:Nat->Ty->Prop} :∀{ms:List MG} {x:iR ms} {vs:List Value} {O:List Nat},wo h ok ms x vs O->vs.length=ms.length
 |[],_,_,_,e=>by simp[e.1]|[m],_,_,_,⟨v,cs,e,hg,hr⟩=>by simp[e]|m::m' ::r,_,_,_,⟨v,cs,vs',O1,O2,e,eo,hg,h1,h2⟩=>by have:=NT h2;subst e;simp[this]
section
variable {X:Fx} {cl ch:Nat} {S:Sm} {m:Mp} {ok:Nat->Ty->Prop} {a:Act} {w:World} {o:Oper}
theorem eX{α:Type}{Q:α->Sm->Prop}{h0:Array Obj}{ok0:Nat->Ty->Prop}{m0:Mp} :∀(ms:List MG) {vs:List V} {vals:List Value} {ws:List V} {os:List Value} {B:List Nat} {K:Cmd α} {S:Sm}
  (R:Rel X cl ch S m ok a w) (hm:∀k l,m0 k=some l->m k=some l) (hT:Tk X S m ok w B) (hv:jK ⟨h0,ok0,m0⟩ vs vals) (ho:zT w.heap ms vals os B) (hw:jK ⟨w.heap,ok,m⟩ ws os)
  (hK:∀S',Rel X cl ch S' m ok a w->K.post S' Q),(dG ms vs ws K).post S Q
 |[],vs,vals,ws,os,B,K,S,R,hm,hT,hv,ho,hw,hK=>by
  cases vs with
  |cons _ _=>unfold dG;trivial|nil=>
   cases ws with
   |cons _ _=>unfold dG;trivial|nil=>unfold dG;exact hK S R
 |(g,.dat t)::ms,vs,vals,ws,os,B,K,S,R,hm,hT,hv,ho,hw,hK=>by
  cases vs with
  |nil=>unfold dG;trivial|cons v vs=>obtain⟨x,r,rfl,h1,h2⟩:=hv;unfold dG;exact eX ms R hm hT h2 ho hw hK
 |(g,.own t)::ms,vs,vals,ws,os,B,K,S,R,hm,hT,hv,ho,hw,hK=>by
  cases vs with
  |nil=>unfold dG;trivial|cons v vs=>obtain⟨x,r,rfl,h1,h2⟩:=hv;unfold dG;exact eX ms R hm hT h2 ho hw hK
 |(g,.pair p q)::ms,vs,vals,ws,os,B,K,S,R,hm,hT,hv,ho,hw,hK=>by
  cases vs with
  |nil=>unfold dG;trivial|cons v vs=>obtain⟨x,r,rfl,h1,h2⟩:=hv;unfold dG;exact eX ms R hm hT h2 ho hw hK
 |(g,.unit)::ms,vs,vals,ws,os,B,K,S,R,hm,hT,hv,ho,hw,hK=>by
  cases vs with
  |nil=>unfold dG;trivial|cons v vs=>obtain⟨x,r,rfl,h1,h2⟩:=hv;unfold dG;exact eX ms R hm hT h2 ho hw hK
 |(g,.cell _)::ms,vs,vals,ws,os,B,K,S,R,hm,hT,hv,ho,hw,hK=>by
  cases vs with
  |nil=>unfold dG;trivial|cons v vs=>obtain⟨x,r,rfl,h1,h2⟩:=hv;unfold dG;exact eX ms R hm hT h2 ho hw hK
 |(g,.fr _)::ms,vs,vals,ws,os,B,K,S,R,hm,hT,hv,ho,hw,hK=>by
  cases vs with
  |nil=>unfold dG;trivial|cons v vs=>obtain⟨x,r,rfl,h1,h2⟩:=hv;unfold dG;exact eX ms R hm hT h2 ho hw hK
 |(g,.box md)::ms,vs,vals,ws,os,B,K,S,R,hm,hT,hv,ho,hw,hK=>by
  cases vs with
  |nil=>unfold dG;trivial|cons v0 vs=>
  cases v0<;>try (unfold dG;trivial)
  case ptr bx off=>
  cases ws with
  |nil=>unfold dG;trivial|cons o0 ws=>
  cases o0<;>try (unfold dG;trivial)
  case agg cs=>
   unfold dG;refine gK ?_;split<;>try trivial
   rename_i hS;refine nJ ?_;obtain⟨x,r,rfl,h1,h2⟩:=hv;obtain⟨y,r',rfl,h3,h4⟩:=hw;obtain⟨b,arr,T,os',B',e1,hh,e2,rfl,ho'⟩:=ho;simp only[H5]at e2;obtain⟨rfl,rfl⟩:=e2;obtain⟨blk,hmb,e3⟩:=h1;subst e1;simp only[Value.pointer.injEq,G8,qR,and_true]at e3;obtain⟨rfl,rfl⟩:=e3;obtain⟨arr',e4,hl⟩:=h3;simp only[Value.agg.injEq]at e4;subst e4;have hmb' :=hm _ _ hmb;obtain⟨R',T'⟩:=R.backV (n:=bx) (v:=.bcells cs) (O1:=[b]) (B:=B') A7 (by simpa using hT) (by simp[Y5,hmb']) ⟨b,_,T,hmb',hh,hl⟩;exact eX ms R' hm T' h2 ho' h4 hK
 |(g,.ifc t (.box md))::ms,vs,vals,ws,os,B,K,S,R,hm,hT,hv,ho,hw,hK=>by
  cases vs with
  |nil=>unfold dG;trivial|cons v0 vs=>
  cases v0<;>try (unfold dG;trivial)
  case ifc t' v1=>
  cases v1<;>try (unfold dG;trivial)
  case ptr bx off=>
  cases ws with
  |nil=>unfold dG;trivial|cons o0 ws=>
  cases o0<;>try (unfold dG;trivial)
  case agg cs=>
   unfold dG;refine gK ?_;split<;>try trivial
   rename_i hS;refine nJ ?_;obtain⟨x,r,rfl,h1,h2⟩:=hv;obtain⟨y,r',rfl,h3,h4⟩:=hw;obtain⟨t2,b,arr,T,os',B',e1,hh,e2,rfl,ho'⟩:=ho;simp only[H5]at e2;obtain⟨rfl,rfl⟩:=e2;obtain⟨u,e5,_,h1⟩:=h1;obtain⟨blk,hmb,e3⟩:=h1;subst e1;subst e3;simp only[Value.iface.injEq,Value.pointer.injEq,G8,qR,and_true]at e5;obtain⟨rfl,rfl,rfl⟩:=e5;obtain⟨arr',e4,hl⟩:=h3;simp only[Value.agg.injEq]at e4;subst e4;have hmb' :=hm _ _ hmb;obtain⟨R',T'⟩:=R.backV (n:=bx) (v:=.bcells cs) (O1:=[b]) (B:=B') A7 (by simpa using hT) (by simp[Y5,hmb']) ⟨b,_,T,hmb',hh,hl⟩;exact eX ms R' hm T' h2 ho' h4 hK
 |(g,.ownb t)::ms,vs,vals,ws,os,B,K,S,R,hm,hT,hv,ho,hw,hK=>by
  cases vs with
  |nil=>unfold dG;trivial|cons v0 vs=>
  obtain⟨x,r,rfl,h1,h2⟩:=hv;obtain⟨os',rfl,ho'⟩:=ho;cases v0<;>try (unfold dG;trivial)
  case nl=>
   cases ws with
   |nil=>unfold dG;trivial|cons o0 ws=>
   cases o0<;>try (unfold dG;trivial)
   case own nm vw=>
   cases vw with
   |some _=>unfold dG;trivial|none=>
   unfold dG;obtain⟨y,r',e,h3,h4⟩:=hw;simp only[H5]at e;obtain⟨rfl,rfl⟩:=e;refine nJ ?_;have T1:=Tk.kill R hT nm (bs:=[]) (λb h=>by cases h) fK;rw[H9]at T1;exact eX ms (R.kill nm) hm T1 h2 ho' h4 hK
  case own bx vw=>
   cases vw with
   |some _=>unfold dG;trivial|none=>
   cases ws with
   |nil=>unfold dG;trivial|cons o0 ws=>
   cases o0<;>try (unfold dG;trivial)
   case own nm vw=>
   cases vw with
   |some _=>unfold dG;trivial|none=>
   unfold dG;obtain⟨y,r',e,h3,h4⟩:=hw;simp only[H5]at e;obtain⟨rfl,rfl⟩:=e;obtain⟨l0,hm0,hv0⟩:=h1;obtain⟨l,hml,hvl⟩:=h3;have hm0' :=hm _ _ hm0;refine gK ?_;split<;>try trivial
   rename_i u xs hS;refine nJ (gK ?_);split<;>try trivial
   rename_i t' hS2;refine iJ λe=>?_;subst e;refine nJ ?_;obtain⟨l',hml',ha⟩:=R.own_arr hS;simp only at hml;rw[hml]at hml';cases hml';have R1:=R.kill nm;have hob:Y5 m nm (S (bf+nm))=l.blks:=by rw[hS];cases l<;>first|(simp[Y5,hml,Loc.blks];done)|cases ha
   have T1:=Tk.kill R hT nm (bs:=l.blks) (λb h=>by rw[hob];exact h) (Loc.blks_nodup l);have hg:=R1.box bx;rw[hS2]at hg;obtain⟨l1,hm1,hsz⟩:=hg;simp only at hm1;rw[hm0']at hm1;cases hm1;have hll:l=l0:=b4T hvl hv0 (λb o n c s b' o' n' c' s' e1 e2=>by subst e1;rw[hsz _ _ _ _ _ e2];exact ha.2.1);subst hll;obtain⟨R',T'⟩:=R1.backV (n:=bx) (v:=.barr u xs) (O1:=l.blks) (B:=B) A7 (T1.perm qX) (by cases l<;>first|(simp[Y5,hm0',Loc.blks];done)|cases ha) ⟨l,hm0',ha⟩;exact eX ms R' hm T' h2 ho' h4 hK
 |(g,.owns md)::ms,vs,vals,ws,os,B,K,S,R,hm,hT,hv,ho,hw,hK=>by
  cases vs with
  |nil=>unfold dG;trivial|cons v vs=>obtain⟨x,r,rfl,h1,h2⟩:=hv;unfold dG;exact eX ms R hm hT h2 ho hw hK
 |(g,.rp t)::ms,vs,vals,ws,os,B,K,S,R,hm,hT,hv,ho,hw,hK=>by
  cases vs with
  |nil=>unfold dG;trivial|cons v vs=>obtain⟨x,r,rfl,h1,h2⟩:=hv;unfold dG;exact eX ms R hm hT h2 ho hw hK
 |(g,.fn f ts)::ms,vs,vals,ws,os,B,K,S,R,hm,hT,hv,ho,hw,hK=>by
  cases vs with
  |nil=>unfold dG;trivial|cons v vs=>obtain⟨x,r,rfl,h1,h2⟩:=hv;unfold dG;exact eX ms R hm hT h2 ho hw hK
 |(g,.ifc t (.dat u))::ms,vs,vals,ws,os,B,K,S,R,hm,hT,hv,ho,hw,hK=>by
  cases vs with
  |nil=>unfold dG;trivial|cons v vs=>obtain⟨x,r,rfl,h1,h2⟩:=hv;unfold dG;exact eX ms R hm hT h2 ho hw hK
 |(g,.ifc t (.own u))::ms,vs,vals,ws,os,B,K,S,R,hm,hT,hv,ho,hw,hK=>by
  cases vs with
  |nil=>unfold dG;trivial|cons v vs=>obtain⟨x,r,rfl,h1,h2⟩:=hv;unfold dG;exact eX ms R hm hT h2 ho hw hK
 |(g,.ifc t (.pair p q))::ms,vs,vals,ws,os,B,K,S,R,hm,hT,hv,ho,hw,hK=>by
  cases vs with
  |nil=>unfold dG;trivial|cons v vs=>obtain⟨x,r,rfl,h1,h2⟩:=hv;unfold dG;exact eX ms R hm hT h2 ho hw hK
 |(g,.ifc t (.unit))::ms,vs,vals,ws,os,B,K,S,R,hm,hT,hv,ho,hw,hK=>by
  cases vs with
  |nil=>unfold dG;trivial|cons v vs=>obtain⟨x,r,rfl,h1,h2⟩:=hv;unfold dG;exact eX ms R hm hT h2 ho hw hK
 |(g,.ifc t (.cell _))::ms,vs,vals,ws,os,B,K,S,R,hm,hT,hv,ho,hw,hK=>by
  cases vs with
  |nil=>unfold dG;trivial|cons v vs=>obtain⟨x,r,rfl,h1,h2⟩:=hv;unfold dG;exact eX ms R hm hT h2 ho hw hK
 |(g,.ifc t (.fr _))::ms,vs,vals,ws,os,B,K,S,R,hm,hT,hv,ho,hw,hK=>by
  cases vs with
  |nil=>unfold dG;trivial|cons v vs=>obtain⟨x,r,rfl,h1,h2⟩:=hv;unfold dG;exact eX ms R hm hT h2 ho hw hK
 |(g,.ifc t (.owns md))::ms,vs,vals,ws,os,B,K,S,R,hm,hT,hv,ho,hw,hK=>by
  cases vs with
  |nil=>unfold dG;trivial|cons v vs=>obtain⟨x,r,rfl,h1,h2⟩:=hv;unfold dG;exact eX ms R hm hT h2 ho hw hK
 |(g,.ifc t (.ownb u))::ms,vs,vals,ws,os,B,K,S,R,hm,hT,hv,ho,hw,hK=>by
  cases vs with
  |nil=>unfold dG;trivial|cons v vs=>obtain⟨x,r,rfl,h1,h2⟩:=hv;unfold dG;exact eX ms R hm hT h2 ho hw hK
 |(g,.ifc t (.rp u))::ms,vs,vals,ws,os,B,K,S,R,hm,hT,hv,ho,hw,hK=>by
  cases vs with
  |nil=>unfold dG;trivial|cons v vs=>obtain⟨x,r,rfl,h1,h2⟩:=hv;unfold dG;exact eX ms R hm hT h2 ho hw hK
 |(g,.ifc t (.fn f ts))::ms,vs,vals,ws,os,B,K,S,R,hm,hT,hv,ho,hw,hK=>by
  cases vs with
  |nil=>unfold dG;trivial|cons v vs=>obtain⟨x,r,rfl,h1,h2⟩:=hv;unfold dG;exact eX ms R hm hT h2 ho hw hK
 |(g,.ifc t (.ifc t2 md))::ms,vs,vals,ws,os,B,K,S,R,hm,hT,hv,ho,hw,hK=>by
  cases vs with
  |nil=>unfold dG;trivial|cons v vs=>obtain⟨x,r,rfl,h1,h2⟩:=hv;unfold dG;exact eX ms R hm hT h2 ho hw hK
theorem JM{P:Program}{w:World}{f:FuncId}{fn:Func}(hf:P.funcs[f]? =some fn)(hb:fn.body.isSome=true)(hn:(fn.name== "runtime.NumGoroutine")=false)(args:Array Value):
  (callFunc f args).run P w= .ok (.enter f args) w:=by
 have hb' :¬fn.body=none:=by intro e;rw[e]at hb;cases hb
 have hn' :¬fn.name= "runtime.NumGoroutine":=by intro e;rw[e]at hn;simp at hn
 simp[callFunc,hf,hn',hb']
theorem a6V(H:FxOk X){q:Nat}(R:Rel X (CB*q) (CB*q+CB) S m ok a w){h0:Array Obj}{ok0:Nat->Ty->Prop}{s:FSpec}{vs:List V}{vals:List Value}{r:iR (s.rs++s.outs)}{rs os:List Value}{O' B:List Nat}{v:Value}
  (hT:Tk X S m ok w (O' ++B)) (hv:jK ⟨h0,ok0,m⟩ vs vals) (hret:a3r s.rs.length v rs) (ho:zT w.heap s.ps vals os B) (hr:wo w.heap ok (s.rs++s.outs) r (rs++os) O') {Q:Unit->Sm->Prop}
  (hK:∀S' m',Rel X (CB*q) (CB*q+CB) S' m' ok (a.put o.dst v) w->(∀k l,m k=some l->m' k=some l)->Q () S'):
  (NG (s.rs++s.outs) r (U0 q o.dst) λws n' =>bif Nat.ble n' (U0 q o.dst+64)then(match JP s.rs.length ws with
    |some (a,o')=>bif Ia a then .fail else dG s.ps vs o' (gJ X.E o.dst (b4t a))
    |none=> .fail)else .fail).post S Q:=by
 have hcl:CB*q<=U0 q o.dst:=by
  cases o.dst with
  |none=>exact kQ _ _|some t=>exact kQ _ _
 refine Jn (T:=B) _ R hcl hT hr λS1 m1 ws n1 ch1 R1 c1 T1 k1 s1 l1 e1=>fM λhle=>?_;have hle' :=X4 hle;split<;>try trivial
 rename_i p p' hsp;obtain⟨rfl,hpl⟩:=d_ _ _ _ _ hsp;obtain⟨l2,l3⟩:=Ui (by rw[hpl,hret.1]) l1;cases ht:Ia p
 ·simp only[cond_false];refine eX s.ps R1 k1 T1 hv ho l3 λS2 R2=>?_;have hres:=b1v ht l2 hret;cases hd:o.dst with
  |none=>have hin:=ui H (q:=q) none (λt h=>by cases h);rw[hd]at hle' hK;exact hK S2 m1 (R2.chmono (by generalize CB*q=Z at*;generalize U0 q none=N at*;omega)) k1
  |some t=>unfold gJ;refine fM λhb=>?_;have hin:=ui H (q:=q) (some t) (λt' h=>by cases h;exact(CQ hb).1);rw[hd]at hle' hK;have R3:Rel X (CB*q) (CB*q+CB) S2 m1 ok a w:=R2.chmono (by generalize CB*q=Z at*;generalize U0 q (some t)=N at*;omega);exact hK _ m1 (R3.put H.ntB hb hres) k1
 ·trivial
theorem OZ(H:FxOk X){q:Nat}(R:Rel X (CB*q) (CB*q+CB) S m ok a w){f:FuncId}{vs:List V}{vals:List Value}(hvs:jK ⟨w.heap,ok,m⟩ vs vals)
  (run:∀fn,X.P.funcs[f]? =some fn->fn.body.isSome=true->(fn.name== "runtime.NumGoroutine")=false->(execOp a.eval o).run X.P w= .ok (.enter f vals.toArray) w):
  (YQ X.E q o.dst f vs).post S (λ_ S' =>kT X (CB*q) (CB*q+CB) o a w m ok S'):=by
 unfold YQ;split
 ·trivial
 rename_i s hs;have hmem:=ZL hs;have hF:=H.fs _ hmem;obtain⟨fn,hf,hb,hnm⟩:=H.fn _ hmem;have hrun:=run fn hf hb hnm;refine Jr (ln:=K_ s) (T:=[]) s.ps R Tk.nil hvs λS1 ok1 x O R1 T1 k1 s1 hrel=>iF λr hr=>?_;simp only[H6]at T1;generalize hokc:okL (K_ s) S1 m ok1=okc at hrel;have c1:∀b t,ok1 b t->okc b t:=λb t h=>by rw[←hokc];exact .inl h
 have hsep1:∀b t,ok1 b t->∀n,b∉Y5 m n (S1 (bf+n)):=λb t h n e=>(R1.sep n b e).1 t h;have hlt:∀b t,okc b t->b<w.heap.size:=λb t h=>by
  rw[←hokc]at h;rcases h with h|⟨_,n,h,_⟩
  ·exact R1.okLt b t h
  ·exact(R1.sep n b h).2.1
 have hfree:∀b∈O,(∀t,¬okc b t)/\b<w.heap.size:=λb hb=>by
  obtain⟨f1,f2,f3,f4⟩:=T1.free b hb;refine⟨λt h=>?_,f2⟩;rw[←hokc]at h;rcases h with h|⟨_,n,h,_⟩
  ·exact f1 t h
  ·exact f4 n h
 have hC:=hF w okc O _ x r hlt T1.nodup hfree (λg u hg=>by obtain⟨g1,g3,g2⟩:=R1.gl g u hg;refine⟨c1 _ _ g1,g3,λi y hi=>?_⟩;obtain⟨es,he,hr⟩:=g2 i y hi;exact⟨es,he,fB c1 (λ_ _ _=>rfl) hr⟩) hrel hr
 have hown:∀b,(w.heap.size<=b\/b∈O)->(X.w0.heap.size<=b\/b∈X.O)/\∀n,b∉Y5 m n (S1 (bf+n)):=λb hb=>by
  rcases hb with hb|hb
  ·have:=R1.frame.size;exact⟨.inl l7,λn e=>by have:=(R1.sep n b e).2.1;omega⟩
  ·exact(T1.free b hb).2.2
 revert hC;generalize hPost:(λ(e:Ending) (w' :World)=>∃v ok' O' rs os B,e= .returned v/\Frame' w w' O/\(∀b t,okc b t->ok' b t)/\(∀b t,ok' b t->b<w'.heap.size/\(okc b t\/w.heap.size<=b\/b∈O))/\
  (O' ++B).Nodup/\(∀b∈O' ++B,(∀t,¬ok' b t)/\b<w'.heap.size/\(w.heap.size<=b\/b∈O))/\
  a3r s.rs.length v rs/\zT w'.heap s.ps vals os B/\wo w'.heap ok' (s.rs++s.outs) r (rs++os) O')=Post
 intro hC;have hall:∀p: { p:Ending×World // Post p.1 p.2 },(NG (s.rs++s.outs) r (U0 q o.dst) λws n' =>bif Nat.ble n' (U0 q o.dst+64)then(match JP s.rs.length ws with
   |some (a,o')=>bif Ia a then .fail else dG s.ps vs o' (gJ X.E o.dst (b4t a))
   |none=> .fail)else .fail).post S1 (λ_ S' =>∃v m' okf,p.1.1= .returned v/\Rel X (CB*q) (CB*q+CB) S' m' okf (a.put o.dst v) p.1.2/\(∀k l,m k=some l->m' k=some l)/\(∀b t,ok b t->okf b t)):=by
  rintro⟨⟨e,w'⟩,hp⟩;rw[←hPost]at hp;obtain⟨v,ok',O',rs,os,B,rfl,fr,k2,hok',hnd,hfr,hret,houts,hrel'⟩:=hp;have k3:∀b t,ok1 b t->(ok' b t/\∀n,b∉Y5 m n (S1 (bf+n))):=λb t h=>⟨k2 b t (c1 b t h),hsep1 b t h⟩;have R2:Rel X (CB*q) (CB*q+CB) S1 m (λb t=>ok' b t/\∀n,b∉Y5 m n (S1 (bf+n))) a w' :=by
   refine R1.world fr.os fr.tape fr.output fr.size (λb hb h=>fr.block b hb λhO=>?_) k3 (λb t h=>⟨(hok' b t h.1).1,?_⟩)
   ·obtain⟨f1,f2,f3,f4⟩:=T1.free b hO;rcases h with⟨t,h⟩|⟨n,h⟩|h
    ·exact f1 t h
    ·exact f4 n h
    ·exact h f3
   ·rcases(hok' b t h.1).2 with h'|h'
    ·rw[←hokc]at h';rcases h' with h'|⟨_,n,h',_⟩
     ·exact .inl h'
     ·exact absurd h' (h.2 n)
    ·exact .inr (hown b h')
  have hrel2:wo w'.heap (λb t=>ok' b t/\∀n,b∉Y5 m n (S1 (bf+n))) (s.rs++s.outs) r (rs++os) O' :=by
   refine XB (λb u h k=>⟨h,λn e=>?_⟩) hrel';rcases(hok' b u h).2 with h'|h'
   ·rw[←hokc]at h';rcases h' with h'|⟨hl,_⟩
    ·exact hsep1 b u h' n e
    ·rw[Qd]at k;unfold K_ at hl;rw[k]at hl;cases hl
   ·exact(hown b h').2 n e
  refine a6V H R2 (h0:=w.heap) (ok0:=ok) (vals:=vals) (rs:=rs) (os:=os) (O' :=O') (B:=B) (v:=v) ⟨hnd,λb hb=>?_⟩ hvs hret houts hrel2 λS' m' R' km=>⟨v,m',_,rfl,R',km,λb t hb=>k3 b t (k1 b t hb)⟩;obtain⟨g1,g2,g3⟩:=hfr b hb;obtain⟨f2,f3⟩:=hown b g3;exact⟨λt h=>g1 t h.1,g2,f2,f3⟩
 refine CU ?_ (IZ hall);intro _ S' hS' next Q hn
 unfold Oper.wp;rw[hrun,Oper.upon_enter];refine Calls.mono hC λe w' hp=>?_;obtain⟨v,m',okf,he,R',km,kok⟩:=hS' ⟨(e,w'),hp⟩;simp only at he;subst he;exact hn m' okf _ w' R' km kok
theorem b4h(H:FxOk X){q:Nat}(R:Rel X (CB*q) (CB*q+CB) S m ok a w){c:Call}{f:FuncId}(ho:o.op= .call c)(hc:c.callee= .value (.func f)):(dI X.E q o).post S (λ_ S' =>kT X (CB*q) (CB*q+CB) o a w m ok S'):=by
 obtain⟨cal,args,ats⟩:=c;simp only at hc;subst hc;unfold dI;simp only[ho];refine pW R _ λvs hvs=>OZ H R hvs λfn hf hb hnm=>?_;have:=JM (P:=X.P) (w:=w) hf hb hnm (args.map a.eval);have e:args.map a.eval=(args.toList.map a.eval).toArray:=by apply lh;simp
 rw[e]at this;simp[execOp,ho,resolve,Deferred.ofValue,Act.eval,invoke,e,this]
theorem JJ{C:Cx} :∀{a b:List V} {xs ys:List Value},jK C a xs->jK C b ys->jK C (a++b) (xs++ys)
 |[],_,_,_,h,k=>by simp only[jK]at h;subst h;exact k|c::a,b,_,_,⟨v,r,e,h1,h2⟩,k=>by subst e;exact⟨v,r++_,rfl,h1,JJ h2 k⟩
theorem XC{C:Cx} :∀{caps:List ((t:Ty)×t.den)} {vs:List Value},Fh C.h C.ok caps vs->jK C (caps.map b9u) vs
 |[],_,h=>h|c::cs,_,⟨v,r,e,h1,h2⟩=>⟨v,r,e,h1,XC h2⟩
theorem b0r(H:FxOk X){q:Nat}(R:Rel X (CB*q) (CB*q+CB) S m ok a w){c:Call}{x:Operand}(ho:o.op= .call c)(hc:c.callee= .value x)(hx:∀f,x≠.func f):(dI X.E q o).post S (λ_ S' =>kT X (CB*q) (CB*q+CB) o a w m ok S'):=by
 obtain⟨cal,args,ats⟩:=c;simp only at hc;subst hc;unfold dI;simp only[ho];refine pW R _ λvs hvs=>?_;refine aI R λu hu=>?_;split<;>try trivial
 rename_i f caps;obtain⟨cs,hv,hcaps⟩:=hu;refine OZ H R (JJ hvs (XC hcaps)) λfn hf hb hnm=>?_;have:=JM (P:=X.P) (w:=w) hf hb hnm (args.map a.eval++cs);have e:args.map a.eval++cs=(args.toList.map a.eval++cs.toList).toArray:=by apply lh;simp
 rw[e]at this;simp[execOp,ho,resolve,Deferred.ofValue,hv,invoke,e,this]
theorem Oq:∀{l:List ((Nat×String)×Nat×Option Nat)} {t:Nat} {n:String} {r:Nat×Option Nat},WL l t n=some r->((t,n),r)∈l
 |[],_,_,_,h=>by simp[WL]at h|((u,k),r')::l,t,n,r,h=>by
  unfold WL at h;cases hb:(Nat.beq u t&&(k==n))<;>rw[hb]at h
  ·exact U4 _ (Oq h)
  ·simp only[cond_true,G8]at h;subst h;simp only[C9,beq_iff_eq]at hb;have:=jy hb.1;subst this;rw[hb.2];exact jg
theorem a7J(H:FxOk X){q:Nat}(R:Rel X (CB*q) (CB*q+CB) S m ok a w){c:Call}{x:Operand}{n:String}(ho:o.op= .call c)(hc:c.callee= .invoke x n):(dI X.E q o).post S (λ_ S' =>kT X (CB*q) (CB*q+CB) o a w m ok S'):=by
 obtain⟨cal,args,ats⟩:=c;simp only at hc;subst hc;unfold dI;simp only[ho];refine pW R _ λvs hvs=>aI R λu hu=>?_;split<;>try trivial
 rename_i t v;obtain⟨z,hz,hz1,hzv⟩:=hu;have e2:(#[a.eval x]++args.map a.eval).extract 1 (#[a.eval x]++args.map a.eval).size=args.map a.eval:=by apply lh;simp;exact aU (Nat.le_of_eq (by rw[X6];rfl))
 have e3:(#[a.eval x]++args.map a.eval)[0]? =some (a.eval x):=by rw[jm (by show 0<1;omega)];rfl
 have e4:(args.map a.eval).extract 0 args.size=args.map a.eval:=by
  have h:args.size=(args.map a.eval).size:=by rw[Array.size_map]
  rw[h,Array.extract_size]
 have fin:∀(f:Nat) (r:Value) (fn:Func),X.P.funcs[f]? =some fn->fn.body.isSome=true->(fn.name== "runtime.NumGoroutine")=false->(method (X.P.types.size+Made.depth) t z n).run X.P w= .ok (f,r) w->
   (execOp a.eval o).run X.P w= .ok (.enter f (r::args.toList.map a.eval).toArray) w:=λf r fn hf hb hnm hM=>by
  have:=JM (P:=X.P) (w:=w) hf hb hnm (#[r]++args.map a.eval);have e:#[r]++args.map a.eval=(r::args.toList.map a.eval).toArray:=by apply lh;simp
  rw[←e];simp only[execOp,ho,resolve,G5,Y8,I7,invoke,e3];simp[hz,callMethod,hM,e4,this]
 split<;>try trivial
 ·rename_i f hmt;have hM:=H.ms _ (Oq hmt);exact OZ H R (vals:=z::args.toList.map a.eval) ⟨z,_,rfl,EG hzv,hvs⟩ λfn hf hb hnm=>fin f z fn hf hb hnm (hM z w)
 ·rename_i f e0 hmt;have hM:=H.ms _ (Oq hmt);refine Jw H R (EG hzv) λv' u ad hv' hp hr=>?_;refine OZ H R (vals:=u::args.toList.map a.eval) ⟨u,_,rfl,hv',hvs⟩ λfn hf hb hnm=>fin f u fn hf hb hnm ?_;rw[hM z w ad hp,hr];rfl
end
end Go.GP
namespace Go.GP
section
variable {X:Fx} {S:Sm} {m:Mp} {ok:Nat->Ty->Prop} {a:Act} {w:World} {o:Oper}
theorem Vw{α:Type}{Q:α->Sm->Prop}{cl ch:Nat} :∀(ms:List MG) {vs:List V} {xs:List Value} {K:List ((t:Ty)×t.den)->Cmd α} {S:Sm} {ok:Nat->Ty->Prop} (R:Rel X cl ch S m ok a w)
  (hv:jK ⟨w.heap,ok,m⟩ vs xs)
  (hK:∀S' ok' cs,Rel X cl ch S' m ok' a w->(∀b t,ok b t->ok' b t)->Fh w.heap ok' cs xs->(K cs).post S' Q),(BU ms vs K).post S Q
 |[],vs,xs,K,S,ok,R,hv,hK=>by
  cases vs with
  |cons _ _=>unfold BU;trivial|nil=>unfold BU;exact hK S ok [] R (λ_ _ h=>h) hv
 |(g,.rp t)::ms,vs,xs,K,S,ok,R,hv,hK=>by
  cases vs with
  |nil=>unfold BU;trivial|cons v vs=>
   obtain⟨x,r,rfl,h1,h2⟩:=hv;unfold BU;have key:zf ⟨w.heap,ok,m⟩ v x->(rpC t v λx=>BU ms vs λcs=>K (⟨t,x⟩::cs)).post S Q:=λh1=>by refine a2F (T:=[]) t R Tk.nil h1 λS1 ok1 y R1 T1 k1 s1 d1=>?_;refine Vw ms R1 (LK k1 h2) λS2 ok2 cs R2 k2 d2=>?_;exact hK S2 ok2 _ R2 (λb t h=>k2 b t (k1 b t h)) ⟨x,r,rfl,MQ k2 (λ_ _ _=>rfl) d1,d2⟩
   cases v<;>first|exact key h1|(unfold rpC;trivial)
 |(g,.dat t)::ms,vs,xs,K,S,ok,R,hv,hK=>by cases vs<;>(unfold BU;trivial)|(g,.own t)::ms,vs,xs,K,S,ok,R,hv,hK=>by cases vs<;>(unfold BU;trivial)|(g,.pair p q)::ms,vs,xs,K,S,ok,R,hv,hK=>by cases vs<;>(unfold BU;trivial)|(g,.unit)::ms,vs,xs,K,S,ok,R,hv,hK=>by cases vs<;>(unfold BU;trivial)|(g,.cell _)::ms,vs,xs,K,S,ok,R,hv,hK=>by cases vs<;>(unfold BU;trivial)|(g,.fr _)::ms,vs,xs,K,S,ok,R,hv,hK=>by cases vs<;>(unfold BU;trivial)|(g,.box p)::ms,vs,xs,K,S,ok,R,hv,hK=>by cases vs<;>(unfold BU;trivial)|(g,.owns p)::ms,vs,xs,K,S,ok,R,hv,hK=>by cases vs<;>(unfold BU;trivial)|(g,.ownb p)::ms,vs,xs,K,S,ok,R,hv,hK=>by cases vs<;>(unfold BU;trivial)|(g,.fn f ts)::ms,vs,xs,K,S,ok,R,hv,hK=>by cases vs<;>(unfold BU;trivial)|(g,.ifc t p)::ms,vs,xs,K,S,ok,R,hv,hK=>by cases vs<;>(unfold BU;trivial)
theorem a2l(H:FxOk X){q:Nat}(R:Rel X (CB*q) (CB*q+CB) S m ok a w){f:FuncId}{first caps:Array Operand}(ho:o.op= .makeFunc (.func f) first caps):(dI X.E q o).post S (λ_ S' =>kT X (CB*q) (CB*q+CB) o a w m ok S'):=by
 unfold dI;simp only[ho];refine iG λhb=>?_;have hb' :=jy hb;have hf:first=#[]:=by simpa using hb'
 split<;>try trivial
 refine pW R _ λvs hvs=>Vw _ R hvs λS' ok' cs R' k hc=>?_;refine yN H R' (λ_ _ h=>h) k (v:=.clos f cs) (x:=.func (.func f) #[] (caps.map a.eval)) ⟨caps.map a.eval,rfl,by simpa using hc⟩ ?_;simp[execOp,ho,Instr.makeFunc,hf]
theorem RY(H:FxOk X){q:Nat}(R:Rel X (CB*q) (CB*q+CB) S m ok a w){t:TypeId}{x:Operand}(ho:o.op= .makeInterface t x):(dI X.E q o).post S (λ_ S' =>kT X (CB*q) (CB*q+CB) o a w m ok S'):=by
 unfold dI;simp only[ho];refine tY H λi hi=>?_;have htd:=hi.td;have key:∀d,X.P.underlying t=some d->(∀ms,d≠.interface ms)->(rX x λv=>(match v with
   | .b ..| .i ..| .s ..| .ptr ..=>gJ X.E o.dst (.ifc t v)
   |_=> .fail:Cmd Unit)).post S (λ_ S' =>kT X (CB*q) (CB*q+CB) o a w m ok S'):=λd hd hne=>by
  refine aI R λv hv=>?_;have run:(execOp a.eval o).run X.P w= .ok (.value (.iface t (a.eval x))) w:=by simp only[execOp,ho,Instr.makeInterface,G5,run_underlying hd,I7];cases d<;>first|rfl|exact absurd rfl (hne _)
  cases v<;>try trivial
  case b y=>exact aX H R (v:=.ifc t (.b y)) ⟨_,rfl,by rw[SC hv];rfl,hv⟩ run
  case i k n=>exact aX H R (v:=.ifc t (.i k n)) ⟨_,rfl,by rw[vM hv];rfl,hv⟩ run
  case s l=>exact aX H R (v:=.ifc t (.s l)) ⟨_,rfl,by rw[OG hv];rfl,hv⟩ run
  case ptr bx off=>obtain⟨blk,h1,h2⟩:=hv;exact aX H R (v:=.ifc t (.ptr bx off)) ⟨_,rfl,by rw[h2];rfl,⟨blk,h1,h2⟩⟩ run
 cases htd' :i.td<;>rw[htd']at htd<;>try trivial
 all_goals exact key _ htd (λ_ e=>by cases e)
theorem Yn(H:FxOk X){q:Nat}(R:Rel X (CB*q) (CB*q+CB) S m ok a w){xt t:TypeId}{x:Operand}{okk:Bool}(ho:o.op= .typeAssert x xt t okk):(dI X.E q o).post S (λ_ S' =>kT X (CB*q) (CB*q+CB) o a w m ok S'):=by
 unfold dI;simp only[ho];refine tY H λi hi=>?_;have htd:=hi.td;have key:∀d,X.P.underlying t=some d->(∀ms,d≠.interface ms)->(rX x λv=>(match v with
   | .ifc t' v=>bif Nat.beq t' t then gJ X.E o.dst (bif okk then .tup [v,.b true]else v)else .fail
   |_=> .fail:Cmd Unit)).post S (λ_ S' =>kT X (CB*q) (CB*q+CB) o a w m ok S'):=λd hd hne=>by
  refine aI R λv hv=>?_;cases v<;>try trivial
  case ifc t' c=>
  obtain⟨u,hx,h1,hc⟩:=hv;refine iG λhb=>?_;have hb' :=jy hb;subst hb';have run:(execOp a.eval o).run X.P w= .ok (.value (if okk then .tuple #[u,.bool true]else u)) w:=by simp only[execOp,ho,Instr.typeAssert,G5,run_underlying hd,I7,hx];cases d<;>first|(simp;done)|exact absurd rfl (hne _)
  cases okk
  ·exact aX H R (EG hc) run
  ·refine aX H R (v:=.tup [c,.b true]) ⟨_,rfl,⟨_,_,rfl,?_,_,_,rfl,rfl,rfl⟩⟩ run;cases c<;>first|exact hc|cases hc
 cases htd' :i.td<;>rw[htd']at htd<;>try trivial
 case struct fs=>obtain⟨fields,hu,_⟩:=htd;exact key _ hu (λ_ e=>by cases e)
 all_goals exact key _ htd (λ_ e=>by cases e)
theorem b6z(H:FxOk X){q:Nat}(R:Rel X (CB*q) (CB*q+CB) S m ok a w)(o:Oper):(dI X.E q o).post S (λ_ S' =>kT X (CB*q) (CB*q+CB) o a w m ok S'):=by
 have fin:∀{α:Type} {Q:α->Sm->Prop},(Cmd.fail:Cmd α).post S Q:=trivial;cases ho:o.op
 case move x=>have h:=a6q H R (o:=o) (x:=x) (.inl ho);unfold dI;simp only[ho];exact h
 case assign x=>have h:=a6q H R (o:=o) (x:=x) (.inr ho);unfold dI;simp only[ho];exact h
 case pick c x y=>exact b4j H R ho
 case alloc t=>exact b0o H R ho
 case box t x=>exact b6A H R ho
 case build t ps=>exact b0q H R ho
 case buildSlice t n ps=>exact Ym H R ho
 case load t x=>exact b4i H R ho
 case store t x y=>exact b0v H R ho
 case binOp op t x y yt=>exact b0p H R ho
 case unOp op t x=>exact b4k H R ho
 case convert s t x=>exact a4s H R ho
 case makeSlice t l c=>exact T_ H R ho
 case slice t x lo hi mx=>
  cases mx with
  |none=>exact b0u H R ho|some _=>unfold dI;simp only[ho];exact fin
 case fieldAddr t x f=>exact R_ H R ho
 case field t x f=>exact b0s H R ho
 case indexAddr t x ix=>exact S_ H R ho
 case index t x ix=>exact b0t H R ho
 case extract x n=>exact a4t H R ho
 case nilCheck x=>exact a2m H R ho
 case call c=>
  cases hc:c.callee
  case builtin b=>
   cases b
   case len=>exact b6C H R ho hc
   case append=>exact a7G H R ho hc
   case min=>exact ZH H R ho (.inl hc)
   case max=>exact ZH H R ho (.inr hc)
   all_goals
    unfold dI;simp only[ho];exact pW R _ λvs hvs=>by simp only[hc];exact fin
  case value f=>
   cases f
   case func f=>exact b4h H R ho hc
   all_goals exact b0r H R ho hc (λf e=>by cases e)
  case invoke x n=>exact a7J H R ho hc
 case makeFunc f first caps=>
  cases f
  case func f=>exact a2l H R ho
  all_goals
   unfold dI;simp only[ho];exact fin
 case makeInterface t x=>exact RY H R ho
 case typeAssert x xt t ok=>exact Yn H R ho
 case makeMap t r=>exact a4u H R ho
 case lookup t x ix ok=>exact a7K H R ho
 case mapUpdate t x ix y=>exact Qj H R (.inl ho)
 case insert t x ix y=>exact Qj H R (.inr ho)
 all_goals
  unfold dI;simp only[ho];exact fin
def m_(X:Fx)(cl ch:Nat)(ops:Array Oper)(i:Nat)(a:Act)(w:World)(m:Mp)(ok:Nat->Ty->Prop)(S' :Sm):Prop:=
 ∀(next:Act->World->Prop) (Q:Exit->Act->World->Prop),
  (∀m' ok' a' w',Rel X cl ch S' m' ok' a' w' ->(∀k l,m k=some l->m' k=some l)->(∀b t,ok b t->ok' b t)->next a' w')->wpOp X.P ops Q i next a w
theorem XM(H:FxOk X){cl ch:Nat}(R:Rel X cl ch S m ok a w){ops:Array Oper}{i:Nat}(hi:ops[i]? =some o)(hw:Region.wanted o (yielded ops a.tmps)=false):
  (gJ X.E o.dst .un).post S (λ_ S' =>m_ X cl ch ops i a w m ok S'):=by
 have h:∀S',Rel X cl ch S' m ok (a.put o.dst Go.undef) w->m_ X cl ch ops i a w m ok S' :=λS' R' next Q hn=>by unfold wpOp;simp only[hi,hw,bJ,if_false];exact hn m ok _ w R' (λ_ _ h=>h) (λ_ _ h=>h)
 unfold gJ;cases hd:o.dst with
 |none=>rw[hd]at h;exact h S R
 |some d=>rw[hd]at h;exact fM λhb=>h _ (R.put H.ntB hb rfl)
theorem Yg{tmps:Array Value}{t:Nat}{v:Value}(h:tmps.getD t Go.undef=v)(hv:v≠Go.undef):tmps[t]? =some v:=by
 rw[Y7]at h;cases hx:tmps[t]? with
 |none=>rw[hx]at h;exact absurd h.symm hv|some x=>rw[hx]at h;simpa using h
theorem a8j(H:FxOk X){q:Nat}(R:Rel X (CB*q) (CB*q+CB) S m ok a w){ops:Array Oper}{i:Nat}(hi:ops[i]? =some o):
  (pO X.E q ops.toList o).post S (λ_ S' =>m_ X (CB*q) (CB*q+CB) ops i a w m ok S'):=by
 have yes:Region.wanted o (yielded ops a.tmps)=true->(dI X.E q o).post S (λ_ S' =>m_ X (CB*q) (CB*q+CB) ops i a w m ok S'):=λhw=>by
  refine CU ?_ (b6z H R o);intro _ S' h next Q hn
  unfold wpOp;simp only[hi,hw,if_true];exact .inl (h next Q hn)
 unfold pO;cases hg:o.guard with
 |none=>exact yes (by simp[Region.wanted,hg])|some p=>
  obtain⟨j,want⟩:=p;cases hj:ops.toList[j]? with
  |none=>simp only[hj];trivial|some p=>
   simp only[hj];have hj' :ops[j]? =some p:=by simpa using hj
   cases hd:p.dst with
   |none=>trivial|some t=>
    simp only[];refine fM λhlt=>gK ?_;have hsl:=R.slot t (NZ hlt);have hyd:yielded ops a.tmps j=match a.tmps[t]? with|some (.bool b)=>some b|_=>none:=by unfold yielded;rw[hj'];simp only[kR,hd];rfl
    split<;>try trivial
    ·rename_i y hS;rw[hS]at hsl;have hb:a.tmps.getD t Go.undef= .bool y:=hsl;have hy:yielded ops a.tmps j=some y:=by
      rw[hyd,Yg hb (by simp[Go.undef])]
     have hwt:Region.wanted o (yielded ops a.tmps)=(bif want then y else !y):=by unfold Region.wanted;rw[hg];simp only[hy];cases want<;>cases y<;>rfl
     cases hc:(bif want then y else !y)
     ·simp only[cond_false];exact XM H R hi (hwt.trans hc)
     ·simp only[cond_true];exact yes (hwt.trans hc)
    ·rename_i hS;rw[hS]at hsl;have hb:a.tmps.getD t Go.undef=Go.undef:=hsl;have hwt:Region.wanted o (yielded ops a.tmps)=false:=by
      unfold Region.wanted;rw[hg];simp only[hyd];rw[Y7]at hb;cases hx:a.tmps[t]? with
      |none=>rfl|some x=>rw[hx]at hb;simp only[ai]at hb;subst hb;rfl
     exact XM H R hi hwt
end
end Go.GP
namespace Go.GP
def Tn(E:Env)(q:Nat)(all l:List Oper)(S:Nat->Sm)(T:Nat->Tr):Prop:=
 ∀i o,l[i]? =some o->(pO E q all o).eval (S i) ([],[])=some ((),S (i+1),T i)
def b1Z(s:Sm)(S:Nat->Sm):Nat->Sm|0=>s|i+1=>S i
def b2a(t:Tr)(T:Nat->Tr):Nat->Tr|0=>t|i+1=>T i
theorem Qs{R:Type}{t:Nat}{s:St}{K:St->Option R}{r:R}(h:UV t s K=some r):∃s0,fF s0=fF s/\K s0=some r:=by
 unfold UV at h;rw[IP]at h;split at h<;>try (simp at h;done)
 ·rename_i y hy;have key:∀b:Bool,y=b->fF (.kv t (.b b)::s)=fF s:=λb hb=>by
   subst hb;rw[a5Z];funext k;by_cases e:k=t
   ·subst e;simp[hy]
   ·rw[bP _ _ e]
  cases y
  ·exact⟨_,key false rfl,h⟩
  ·exact⟨_,key true rfl,h⟩
 ·exact⟨s,rfl,h⟩
theorem Ul{R:Type}{E:Env}{q:Nat}{all:List Oper} :∀(l:List Oper) {s:St} {t:Trs} {K:St->Trs->Option R} {r:R},OI E q all l s t K=some r->
  ∃s' S T,S 0=fF s/\S l.length=fF s' /\Tn E q all l S T/\K s' (((List.range l.length).map T).reverse++t)=some r
 |[],s,t,K,r,h=>⟨s,λ_=>fF s,λ_=>([],[]),rfl,rfl,λi o hi=>by simp at hi,by simpa[OI]using h⟩|o::l,s,t,K,r,h=>by
  have key:∀s0,fF s0=fF s->(pO E q all o).runK s0 ([],[]) (λ_ s' tr=>OI E q all l s' (tr::t) K)=some r->
    ∃s' S T,S 0=fF s/\S (o::l).length=fF s' /\Tn E q all (o::l) S T/\K s' (((List.range (o::l).length).map T).reverse++t)=some r:=λs0 hs0 h=>by
   obtain⟨x,s1,tr,e,hk⟩:=qM h;obtain⟨s',S,T,h0,h1,h2,h3⟩:=Ul l hk;refine⟨s',b1Z (fF s) S,b2a tr T,rfl,h1,λi o' hi=>?_,?_⟩
   ·cases i with
    |zero=>simp at hi;subst hi;show(pO E q all o).eval (fF s) ([],[])=some ((),S 0,tr);rw[←hs0,e,h0]|succ i=>exact h2 i o' (by simpa using hi)
   ·rw[F5,List.range_succ_eq_map,jC,List.reverse_cons,E9,wW];exact h3
  unfold OI at h;split at h
  ·exact key s rfl h
  ·obtain⟨s0,e,h⟩:=Qs h;exact key s0 e h
theorem uB{α:Type}(T:Nat->α)(n:Nat):((List.range (n+1)).map T).reverse=T n::((List.range n).map T).reverse:=by rw[dD,iD,List.reverse_append];rfl
theorem Ah{a b:List Nat}(h:UB a b=true):∀k∈a,k∉b:=by
 induction a with
 |nil=>intro k hk;cases hk|cons x a ih=>
  unfold UB at h;cases hm:FO x b
  ·simp only[hm,cond_false]at h;intro k hk hkb;rcases A8.1 hk with rfl|hk
   ·have:∀(l:List Nat),FO k l=false->k∉l:=by
     intro l;induction l with
     |nil=>intro _ h;cases h|cons y l ih=>
      intro hm hk;unfold FO at hm;cases hb:Nat.beq y k
      ·simp only[hb,cond_false]at hm;rcases A8.1 hk with rfl|hk
       ·simp at hb
       ·exact ih hm hk
      ·simp[hb]at hm
    exact this b hm hkb
   ·exact ih h k hk hkb
  ·simp[hm]at h
theorem WJ{k:Nat} :∀{l:List Nat},FO k l=true->k∈l
 |[],h=>by simp[FO]at h|y::l,h=>by
  unfold FO at h;cases hb:Nat.beq y k
  ·simp only[hb,cond_false]at h;exact U4 _ (WJ h)
  ·have:=jy hb;subst this;simp
def a8C(x y:Tr):Prop:=(∀k∈x.2,k∉y.1/\k∉y.2)/\∀k∈x.1,k∉y.2
theorem a2k{b:Bool}{x y:Tr}(h:a4n b x y=true):b=true\/a8C x y:=by
 unfold a4n at h;cases b
 ·simp only[cond_false,C9]at h;exact .inr ⟨λk hk=>⟨Ah h.1.1 k hk,Ah h.1.2 k hk⟩,λk hk=>Ah h.2 k hk⟩
 ·exact .inl rfl
theorem Qg{mask:Nat}{y:Tr}{T:Nat->Tr} :∀n,UT mask y ((List.range n).map T).reverse n=true->∀i,i<n->Nat.testBit mask i=true\/a8C (T i) y
 |0,_,i,hi=>by omega|n+1,h,i,hi=>by
  rw[uB]at h;unfold UT at h;simp only[Nat.add_sub_cancel,C9]at h;by_cases e:i=n
  ·subst e;exact a2k h.1
  ·exact Qg n h.2 i l7
theorem TV{M:Nat->Nat}{T:Nat->Tr} :∀n,Xc ((List.range n).map M).reverse ((List.range n).map T).reverse=true->∀i j,i<j->j<n->Nat.testBit (M j) i=true\/a8C (T i) (T j)
 |0,_,i,j,_,hj=>by omega|n+1,h,i,j,hi,hj=>by
  rw[uB,uB]at h;unfold Xc at h;simp only[C9,List.length_reverse,X6,gm]at h;by_cases e:j=n
  ·subst e;exact Qg j h.1 i hi
  ·exact TV n h.2 i j hi l7
theorem a5K{α:Type}{eq:α->α->Bool}(h:∀a b,eq a b=true->a=b):∀{l m:List α},b3S eq l m=true->l=m
 |[],[],_=>rfl|[],_::_,e=>by cases e|_::_,[],e=>by cases e|a::l,b::m,e=>by simp only[b3S,C9]at e;rw[h _ _ e.1,a5K h e.2]
theorem MP:∀{t:Ty} (a b:t.den),VK t a b=true->a=b
 | .bool,a,b,e=>a5i e| .int _,a,b,e=>of_decide_eq_true e| .str,a,b,e=>of_decide_eq_true e| .sl t,a,b,e=>a5K (λx y h=>MP x y h) e| .prod p q,a,b,e=>by have e:(VK p a.1 b.1&&VK q a.2 b.2)=true:=e;rw[C9]at e;exact aZ (MP _ _ e.1) (MP _ _ e.2)| .unit,a,b,e=>rfl| .ent _ _ p q,a,b,e=>by have e:(VK p a.1 b.1&&VK q a.2 b.2)=true:=e;rw[C9]at e;exact aZ (MP _ _ e.1) (MP _ _ e.2)
theorem a5p{R:Type}{a b:V}{K:Option R}{r:R}(h:b3v a b K=some r):a=b/\K=some r:=by
 unfold b3v at h;rw[IP,IP]at h;cases a with
 |i k n=>
  cases b with
  |i k' n' =>
   cases hk:decide (k=k')
   ·simp[hk]at h
   ·have e:=of_decide_eq_true hk;subst e;simp only[hk,cond_true]at h;cases hi:x8 n n'<;>rw[hi]at h
    ·cases h
    ·have e:=of_decide_eq_true (show decide (n=n')=true from hi);subst e;exact⟨rfl,h⟩
  |_=>cases h
 |sl t xs=>
  cases b with
  |sl u ys=>
   simp only[Ty.castL]at h;by_cases e:u=t
   ·subst e;simp only[dif_pos]at h;cases hi:deq (.sl u) xs ys<;>rw[hi]at h
    ·cases h
    ·rw[MP (t:=.sl u) xs ys hi];exact⟨rfl,h⟩
   ·rw[dif_neg e]at h;cases h
  |_=>cases h
 |b x=>
  cases b with
  |b y=>
   cases hi:kU x y<;>simp only[hi,l9]at h
   ·cases h
   ·have e:x=y:=by simpa[kU]using hi
    subst e;exact⟨rfl,h⟩
  |_=>cases h
 |s x=>
  cases b with
  |s y=>
   cases hi:seq x y<;>simp only[hi,l9]at h
   ·cases h
   ·have e:x=y:=by simpa[seq]using hi
    subst e;exact⟨rfl,h⟩
  |_=>cases h
 |_=>cases h
theorem LX:∀{a b:List Nat},LW a b=true->a=b
 |[],[],_=>rfl|[],_::_,h=>by cases h|_::_,[],h=>by cases h|a::l,b::m,h=>by
  unfold LW at h;cases hb:Nat.beq a b
  ·simp[hb]at h
  ·simp only[hb,cond_true]at h;rw[jy hb,LX h]
def Rp(E:Env)(q:Nat)(all:List Oper)(o:Oper)(tr:Tr)(v:V)(S:Sm):Prop:=
 ∃d S',o.dst=some d/\tr.2=[d]/\(pO E q all o).eval S ([],[])=some ((),S',tr)/\S' d=v
theorem Xw{R:Type}{E:Env}{q:Nat}{all:List Oper}{s:St} :∀{p:a6P} {K:Option R} {r:R},ZP E q all s p K=some r->
  (∀x∈p,Rp E q all x.1 x.2.1 x.2.2 (fF s))/\K=some r
 |[],K,r,h=>⟨λx hx=>by(cases hx),h⟩|(o,tr,v)::p,K,r,h=>by
  unfold ZP at h;obtain⟨x,s2,tr2,e,hk⟩:=qM h;cases hd:o.dst with
  |none=>simp[hd]at hk|some d=>
   simp only[hd]at hk;cases hc:(LW tr.1 tr2.1&&LW tr.2 tr2.2&&LW tr2.2 [d])
   ·simp[hc]at hk
   ·simp only[hc,cond_true]at hk;simp only[C9]at hc;obtain⟨⟨h1,h2⟩,h3⟩:=hc;have h1:=LX h1;have h2:=LX h2;have h3:=LX h3;have etr:tr=tr2:=aZ h1 h2;subst etr;obtain⟨hv,hk⟩:=a5p hk;obtain⟨g1,g2⟩:=Xw hk;refine⟨λy hy=>?_,g2⟩;rcases A8.1 hy with rfl|hy
    ·exact⟨d,_,hd,h3,e,hv.symm⟩
    ·exact g1 y hy
theorem QD{R:Type}{E:Env}{q:Nat}{all:List Oper} :∀(l:List Oper) {s:St} {t:Trs} {p:a6P} {K:St->Trs->Option R} {r:R},BI E q all l s t p K=some r->
  ∃s' S T,S 0=fF s/\S l.length=fF s' /\Tn E q all l S T/\K s' (((List.range l.length).map T).reverse++t)=some r/\
   (∀x∈p,∀j o',l[j]? =some o' ->pY o' =true->Rp E q all x.1 x.2.1 x.2.2 (S (j+1)))/\
   (∀i j o o',i<j->l[i]? =some o->l[j]? =some o' ->C_ E o=true->pY o' =true->∃d,o.dst=some d/\Rp E q all o (T i) (S (i+1) d) (S (j+1)))
 |[],s,t,p,K,r,h=>⟨s,λ_=>fF s,λ_=>([],[]),rfl,rfl,λi o hi=>by simp at hi,by simpa[BI]using h,λx _ j o' hj=>by simp at hj,λi j o o' _ hi=>by simp at hi⟩|o::l,s,t,p,K,r,h=>by
  have key:∀s0,fF s0=fF s->(pO E q all o).runK s0 ([],[]) (λ_ s' tr=>bif pY o then ZP E q all s' p (BI E q all l s' (tr::t) p K)else BI E q all l s' (tr::t) (Xi E o s' tr p) K)=some r->
    ∃s' S T,S 0=fF s/\S (o::l).length=fF s' /\Tn E q all (o::l) S T/\K s' (((List.range (o::l).length).map T).reverse++t)=some r/\
   (∀x∈p,∀j o',(o::l)[j]? =some o' ->pY o' =true->Rp E q all x.1 x.2.1 x.2.2 (S (j+1)))/\
   (∀i j o1 o',i<j->(o::l)[i]? =some o1->(o::l)[j]? =some o' ->C_ E o1=true->pY o' =true->∃d,o1.dst=some d/\Rp E q all o1 (T i) (S (i+1) d) (S (j+1))):=λs0 hs0 h=>by
   obtain⟨x,s1,tr,e,hk⟩:=qM h;have fin:∀p',(∀y∈p,y∈p')->(C_ E o=true->pY o=false->∃d,o.dst=some d/\(o,tr,fF s1 d)∈p')->(pY o=true->∀y∈p,Rp E q all y.1 y.2.1 y.2.2 (fF s1))->BI E q all l s1 (tr::t) p' K=some r->
     ∃s' S T,S 0=fF s/\S (o::l).length=fF s' /\Tn E q all (o::l) S T/\K s' (((List.range (o::l).length).map T).reverse++t)=some r/\
   (∀x∈p,∀j o',(o::l)[j]? =some o' ->pY o' =true->Rp E q all x.1 x.2.1 x.2.2 (S (j+1)))/\
   (∀i j o1 o',i<j->(o::l)[i]? =some o1->(o::l)[j]? =some o' ->C_ E o1=true->pY o' =true->∃d,o1.dst=some d/\Rp E q all o1 (T i) (S (i+1) d) (S (j+1))):=λp' hp' hex hcall hk=>by
    obtain⟨s',S,T,h0,h1,h2,h3,h4,h5⟩:=QD l hk;refine⟨s',b1Z (fF s) S,b2a tr T,rfl,h1,λi o' hi=>?_,?_,λy hy j o' hj hc=>?_,λi j o1 o' hij hi hj he hc=>?_⟩
    ·cases i with
     |zero=>simp at hi;subst hi;show(pO E q all o).eval (fF s) ([],[])=some ((),S 0,tr);rw[←hs0,e,h0]|succ i=>exact h2 i o' (by simpa using hi)
    ·rw[F5,List.range_succ_eq_map,jC,List.reverse_cons,E9,wW];exact h3
    ·cases j with
     |zero=>simp at hj;subst hj;show Rp E q all y.1 y.2.1 y.2.2 (S 0);rw[h0];exact hcall hc y hy|succ j=>exact h4 y (hp' y hy) j o' (by simpa using hj) hc
    ·cases j with
     |zero=>omega|succ j=>
      cases i with
      |zero=>
       simp at hi;subst hi;have hnc:pY o=false:=by
        unfold C_ at he;cases hcc:pY o
        ·rfl
        ·simp[hcc]at he
       obtain⟨d,hd,hm⟩:=hex he hnc;refine⟨d,hd,?_⟩;have:=h4 _ hm j o' (by simpa using hj) hc;show Rp E q all o tr (S 0 d) (S (j+1));rw[h0];exact this
      |succ i=>exact h5 i j o1 o' l7 (by simpa using hi) (by simpa using hj) he hc
   cases hc:pY o
   ·simp only[hc,cond_false]at hk;refine fin _ (λy hy=>?_) (λhe _=>?_) (λh=>by rw[hc]at h;cases h) hk
    ·unfold Xi;cases hx:C_ E o
     ·exact hy
     ·simp only[cond_true];cases hd:o.dst with
      |none=>exact hy|some d=>exact U4 _ hy
    ·cases hd:o.dst with
     |none=>simp[C_,hd]at he|some d=>exact⟨d,rfl,by simp[Xi,he,hd]⟩
   ·simp only[hc,cond_true]at hk;obtain⟨g1,g2⟩:=Xw hk;exact fin p (λ_ h=>h) (λ_ h=>by rw[hc]at h;cases h) (λ_=>g1) g2
  unfold BI at h;split at h
  ·exact key s rfl h
  ·obtain⟨s0,e,h⟩:=Qs h;exact key s0 e h
def a5v(ord:Nat->Nat->Prop)(ex:Nat->Nat->Prop)(T:Nat->Tr)(i j:Nat):Prop:=
 ord i j\/((∀k∈(T i).2,k∉(T j).1/\k∉(T j).2)/\((∀k∈(T i).1,k∉(T j).2)\/
  (ex i j/\(∀k∈(T i).2,k∉(T i).1)/\∀m,i<m->m<j->ord m j\/∀k∈(T i).1,k∉(T m).2)))
theorem WP{mask:Nat}{x:Tr} :∀{l:List (Nat×Tr)},a6g mask x l=true->∀y∈l,Nat.testBit mask y.1=true\/∀k∈x.1,k∉y.2.2
 |[],_,y,hy=>by cases hy|(m,z)::l,h,y,hy=>by
  unfold a6g at h;simp only[C9,lL]at h;rcases A8.1 hy with rfl|hy
  ·exact h.1.imp id (λh=>Ah h)
  ·exact WP h.2 y hy
theorem NP{E:Env}{all:List Oper}{mask:Nat}{y:Tr}{cy:Bool}{T:Nat->Tr}{N:Nat} :∀n (mids:List (Nat×Tr)),(∀m,n<=m->m<N->(m,T m)∈mids)->Qe E all mask y cy ((List.range n).map T).reverse n mids=true->
  ∀i,i<n->Nat.testBit mask i=true\/((∀k∈(T i).2,k∉y.1/\k∉y.2)/\((∀k∈(T i).1,k∉y.2)\/((cy=true/\a9q E all i=true)/\(∀k∈(T i).2,k∉(T i).1)/\∀m,i<m->m<N->Nat.testBit mask m=true\/∀k∈(T i).1,k∉(T m).2)))
 |0,_,_,_,i,hi=>by omega|n+1,mids,hm,h,i,hi=>by
  rw[uB]at h;unfold Qe at h;simp only[Nat.add_sub_cancel,C9]at h;by_cases e:i=n
  ·subst e;have h:=h.1;unfold a6p at h;cases hb:Nat.testBit mask i
   ·simp only[hb,cond_false,C9]at h;refine .inr ⟨λk hk=>⟨Ah h.1.1 k hk,Ah h.1.2 k hk⟩,?_⟩;have h2:=h.2;cases hdj:UB (T i).1 y.2
    ·simp only[hdj,cond_false,C9]at h2;exact .inr ⟨h2.1.1,Ah h2.1.2,λm h3 h4=>WP h2.2 _ (hm m l7 h4)⟩
    ·exact .inl (Ah hdj)
   ·exact .inl rfl
  ·refine NP n _ (λm h1 h2=>?_) h.2 i l7;by_cases e2:m=n
   ·subst e2;simp
   ·exact U4 _ (hm m l7 h2)
theorem Qi{E:Env}{all:List Oper}{M:Nat->Nat}{T:Nat->Tr} :∀n,Qh E all ((List.range n).map M).reverse ((List.range n).map T).reverse=true->∀i j,i<j->j<n->
  a5v (λi j=>Nat.testBit (M j) i=true) (λi j=>u_ all j=true/\a9q E all i=true) T i j
 |0,_,i,j,_,hj=>by omega|n+1,h,i,j,hi,hj=>by
  rw[uB,uB]at h;unfold Qh at h;simp only[C9,List.length_reverse,X6,gm]at h;by_cases e:j=n
  ·subst e;exact NP (N:=j) j [] (λm h1 h2=>by omega) h.1 i hi
  ·exact Qi n h.2 i j hi l7
theorem a9T{P:Nat->Prop} :∀(n:Nat),(∃j,j<n/\P j)->∃j,j<n/\P j/\∀m,j<m->m<n->¬P m
 |0,⟨j,h,_⟩=>by omega|n+1,⟨j,h,hp⟩=>by
  by_cases e:P n
  ·exact⟨n,l7,e,λm h1 h2=>by omega⟩
  ·have:j≠n:=λe2=>e (e2▸hp);obtain⟨j',h1,h2,h3⟩:=a9T n ⟨j,l7,hp⟩;refine⟨j',l7,h2,λm h4 h5=>?_⟩;by_cases e2:m=n
   ·subst e2;exact e
   ·exact h3 m h4 l7
theorem a8J{n:Nat}{c:Nat->Cmd Unit}{S:Nat->Sm}{T:Nat->Tr}(hs:∀i,i<n->(c i).eval (S i) ([],[])=some ((),S (i+1),T i)){ord ex:Nat->Nat->Prop}
  (hc:∀i j,i<j->j<n->a5v ord ex T i j) (hex:∀i j,i<j->j<n->ex i j->∃S',(c i).eval (S (j+1)) ([],[])=some ((),S',T i)/\∀k∈(T i).2,S' k=S (i+1) k)
  {D:List Nat} {i:Nat} (hi:i<n) (hD:i∉D) (hlt:∀j∈D,j<n) (hp:∀j,ord j i->j∈D) (hdown:∀j∈D,∀k,ord k j->k∈D):
  (c i).eval (SD S T D n) ([],[])=some ((),SD S T (i::D) n,T i):=by
 have before:∀k,(k∈(T i).1\/k∈(T i).2)->∀j,j<i->k∈(T j).2->j∈D:=λk hk j hj hw=>by
  rcases hc j i hj hi with h|⟨h1,_⟩
  ·exact hp j h
  ·rcases hk with hk|hk
   ·exact absurd hk (h1 k hw).1
   ·exact absurd hk (h1 k hw).2
 have afterW:∀k,k∈(T i).2->∀j,i<j->j<n->k∈(T j).2->j∉D:=λk hk j hj hjn hw hjD=>by
  rcases hc i j hj hjn with h|⟨h1,h2⟩
  ·exact hD (hdown j hjD i h)
  ·exact(h1 k hk).2 hw
 have fin:∀S0 S1:Sm,(c i).eval S0 ([],[])=some ((),S1,T i)->(∀k∈(T i).2,S1 k=S (i+1) k)->(∀k∈(T i).1,SD S T D n k=S0 k)->(c i).eval (SD S T D n) ([],[])=some ((),SD S T (i::D) n,T i):=λS0 S1 he hv hr=>by
  obtain⟨T',h1,_,h3,h4⟩:=zX he (SD S T D n) hr;rw[h1];have:T' =SD S T (i::D) n:=by
   funext k;by_cases hk:k∈(T i).2
   ·rw[h4 k hk A7,hv k hk];rw[Vj (i::D) k (i+1) n l7 (λj h1 h2 hw=>by
     simp only[A8,not_or];exact⟨l7,afterW k hk j l7 h2 hw⟩)]
    simp[SD,hk]
   ·rw[h3 k hk,a5x D i k hk]
  rw[this]
 by_cases hx:∃j,j<n/\(i<j/\j∈D/\∃k∈(T i).1,k∈(T j).2)
 ·obtain⟨j,hjn,⟨hij,hjD,k0,hk0,hk1⟩,hmax⟩:=a9T n hx;rcases hc i j hij hjn with h|⟨_,h2⟩
  ·exact absurd (hdown j hjD i h) hD
  ·rcases h2 with h2|⟨h3,h4,h5⟩
   ·exact absurd hk1 (h2 k0 hk0)
   ·obtain⟨S',he,hv⟩:=hex i j hij hjn h3;refine fin (S (j+1)) S' he hv λk hk=>?_;rw[Vj D k (j+1) n l7 (λm g1 g2 hw hmD=>hmax m l7 g2 ⟨l7,hmD,k,hk,hw⟩)];refine MJ hs D k (j+1) l7 λm hm hw=>?_;rcases Nat.lt_trichotomy m i with g|g|g
    ·exact before k (.inl hk) m g hw
    ·subst g;exact absurd hk (h4 k hw)
    ·by_cases e:m=j
     ·subst e;exact hjD
     ·rcases h5 m g l7 with g2|g2
      ·exact hdown j hjD m g2
      ·exact absurd hw (g2 k hk)
 ·refine fin (S i) (S (i+1)) (hs i hi) (λ_ _=>rfl) λk hk=>?_;rw[Vj D k i n l7 (λj h1 h2 hw hjD=>by
   by_cases e:j=i
   ·subst e;exact hD hjD
   ·exact hx ⟨j,h2,l7,hjD,k,hk,hw⟩)]
  exact MJ hs D k i l7 (before k (.inl hk))
def uQ(e:Edge):Prop:=match e.ground with| .textOnly _=>False| .gcOnly _=>False|_=>True
theorem uQ.binds{e:Edge}(h:uQ e)(md:Region.Mode):Region.binds md e=true:=by unfold uQ at h;unfold Region.binds;split<;>simp_all
theorem a6U{e:Edge}(h:Region.binds .any e=true):uQ e:=by unfold Region.binds at h;unfold uQ;split<;>simp_all
theorem Ig{M:Nat->Nat}{n k:Nat}(hk:k<n):(((List.range n).map M).reverse).getD (n -1 -k) 0=M k:=by rw[AO,List.getElem?_reverse U6];simp only[X6,gm,fZ];rw[show n -1 -(n -1 -k)=k by omega];simp[hk]
theorem Oe{M:Nat->Nat}{n:Nat} :∀(es:List Edge) {m m' :Nat},NF ((List.range n).map M).reverse n es m=some m' ->
  (∀e∈es,uQ e->e.on<n)/\∀j,Nat.testBit m' j=true->Nat.testBit m j=true\/∃e∈es,uQ e/\(j=e.on\/Nat.testBit (M e.on) j=true)
 |[],m,m',h=>by simp[NF]at h;subst h;exact⟨λ_ h=>absurd h A7,λj hj=> .inl hj⟩|e::es,m,m',h=>by
  have plain:(bif Nat.blt e.on n then NF ((List.range n).map M).reverse n es (m ||| 2^e.on ||| (((List.range n).map M).reverse).getD (n -1 -e.on) 0)else none)=some m' ->uQ e->
    (∀e' ∈e::es,uQ e' ->e'.on<n)/\∀j,Nat.testBit m' j=true->Nat.testBit m j=true\/∃e' ∈e::es,uQ e' /\(j=e'.on\/Nat.testBit (M e'.on) j=true):=λh hp=>by
   cases hb:Nat.blt e.on n
   ·simp[hb]at h
   ·simp only[hb,cond_true]at h;have hlt:=NZ hb;rw[Ig hlt]at h;obtain⟨h1,h2⟩:=Oe es h;refine⟨λe' he' hp' =>?_,λj hj=>?_⟩
    ·rcases A8.1 he' with rfl|he'
     ·exact hlt
     ·exact h1 e' he' hp'
    ·rcases h2 j hj with h3|⟨e',he',hp',h3⟩
     ·rw[Nat.testBit_or,Nat.testBit_or,lL,lL]at h3;rcases h3 with(h3|h3)|h3
      ·exact .inl h3
      ·rw[Nat.testBit_two_pow]at h3;exact .inr ⟨e,A7,hp,.inl (of_decide_eq_true h3).symm⟩
      ·exact .inr ⟨e,A7,hp,.inr h3⟩
     ·exact .inr ⟨e',by simp[he'],hp',h3⟩
  have skip:NF ((List.range n).map M).reverse n es m=some m' ->¬uQ e->
    (∀e' ∈e::es,uQ e' ->e'.on<n)/\∀j,Nat.testBit m' j=true->Nat.testBit m j=true\/∃e' ∈e::es,uQ e' /\(j=e'.on\/Nat.testBit (M e'.on) j=true):=λh hp=>by
   obtain⟨h1,h2⟩:=Oe es h;refine⟨λe' he' hp' =>?_,λj hj=>?_⟩
   ·rcases A8.1 he' with rfl|he'
    ·exact absurd hp' hp
    ·exact h1 e' he' hp'
   ·rcases h2 j hj with h3|⟨e',he',hp',h3⟩
    ·exact .inl h3
    ·exact .inr ⟨e',by simp[he'],hp',h3⟩
  unfold NF at h;cases hg:e.ground<;>simp only[hg]at h
  case textOnly=>exact skip h (by simp[uQ,hg])
  case gcOnly=>exact skip h (by simp[uQ,hg])
  all_goals exact plain h (by simp[uQ,hg])
theorem Nh:∀(l:List Oper) {n:Nat} {M:Nat->Nat} {ms:List Nat},a0b l n ((List.range n).map M).reverse=some ms->
  ∃M' :Nat->Nat,ms=((List.range (n+l.length)).map M').reverse/\(∀k,k<n->M' k=M k)/\
   ∀i o,l[i]? =some o->(∀e∈o.after.toList,uQ e->e.on<n+i)/\∀j,Nat.testBit (M' (n+i)) j=true->∃e∈o.after.toList,uQ e/\(j=e.on\/Nat.testBit (M' e.on) j=true)
 |[],n,M,ms,h=>by simp only[a0b,G8]at h;subst h;exact⟨M,rfl,λ_ _=>rfl,λi o hi=>by simp at hi⟩|o::l,n,M,ms,h=>by
  unfold a0b at h;cases he:NF ((List.range n).map M).reverse n o.after.toList 0 with
  |none=>simp[he]at h|some m=>
   simp only[he]at h;obtain⟨h1,h2⟩:=Oe _ he;have hM:m::((List.range n).map M).reverse=((List.range (n+1)).map (λk=>if k=n then m else M k)).reverse:=by rw[uB];simp only[if_true];congr 2;apply cu;intro k hk;rw[if_neg];have:=ay.1 hk;omega
   rw[hM]at h;obtain⟨M',e1,e2,e3⟩:=Nh l h;have hMn:M' n=m:=by rw[e2 n l7];simp
   have hMk:∀k,k<n->M' k=M k:=λk hk=>by rw[e2 k l7,if_neg l7]
   refine⟨M',by rw[e1];congr 3;simp;omega,hMk,λi o' hi=>?_⟩;cases i with
   |zero=>
    simp at hi;subst hi;refine⟨h1,λj hj=>?_⟩;rw[eP,hMn]at hj;rcases h2 j hj with h3|⟨e,hem,hp,h3⟩
    ·simp at h3
    ·exact⟨e,hem,hp,by rwa[hMk _ (h1 e hem hp)]⟩
   |succ i=>have:=e3 i o' (by simpa using hi);rwa[show n+1+i=n+(i+1) by omega]at this
theorem Xb:∀(n:Nat) {D:List Nat},D.Nodup->(∀x∈D,x<n)->D.length<=n
 |0,D,_,h=>by
  cases D with
  |nil=>simp|cons x D=>have:=h x A7;omega
 |n+1,D,hD,h=>by
  by_cases hn:n∈D
  ·have h1:=Xb n (D:=D.erase n) (hD.erase n) (λx hx=>by
    have:=(hD.mem_erase_iff).1 hx;have:=h x this.2;omega)
   rw[List.length_erase_of_mem hn]at h1;omega
  ·have h1:=Xb n hD (λx hx=>by
    have:=h x hx;have:x≠n:=λe=>hn (e▸hx);omega)
   omega
theorem a7F{n:Nat}{D:List Nat}(hD:D.Nodup)(h:∀x∈D,x<n)(hl:n<=D.length):∀i,i<n->i∈D:=λi hi=>by
 refine Y0 λhn=>?_;have:=Xb n (D:=i::D) (gp.2 ⟨hn,hD⟩) (λx hx=>by
  rcases A8.1 hx with rfl|hx
  ·exact hi
  ·exact h x hx)
 simp at this;omega
def NY(md:Region.Mode)(ops:Array Oper):Prop:=∃rk:Nat->Nat,∀i o,ops[i]? =some o->∀e∈o.after.toList,Region.binds md e=true->e.on<ops.size/\rk e.on<rk i
theorem Uc:∀{es:List Edge},Sl es=true->∀e∈es,uQ e
 |[],_,e,he=>by cases he|e::es,h,e',he' =>by
  unfold Sl at h;have hp:uQ e:=by cases hg:e.ground<;>simp[hg]at h<;>simp[uQ,hg]
  have hr:Sl es=true:=by cases hg:e.ground<;>simp[hg]at h<;>exact h
  rcases A8.1 he' with rfl|he'
  ·exact hp
  ·exact Uc hr e' he'
theorem NQ:∀{l:List Oper},FW l=true->∀o∈l,∀e∈o.after.toList,uQ e
 |[],_,o,ho=>by cases ho|o::l,h,o',ho' =>by
  unfold FW at h;cases hp:Sl o.after.toList
  ·simp[hp]at h
  ·simp only[hp,cond_true]at h;rcases A8.1 ho' with rfl|ho'
   ·exact Uc hp
   ·exact NQ h o' ho'
theorem Uf{md:Region.Mode}{done:List Nat} :∀{es:List Edge},OD md done es=true->∀e∈es,Region.binds md e=true->e.on∈done
 |[],_,e,he,_=>by cases he|e::es,h,e',he',hb=>by
  unfold OD at h;cases hc:(!Region.binds md e || FO e.on done)
  ·simp[hc]at h
  ·simp only[hc,cond_true]at h;rcases A8.1 he' with rfl|he'
   ·rw[hb]at hc;simp at hc;exact WJ hc
   ·exact Uf h e' he' hb
theorem JZ{md:Region.Mode}{done:List Nat} :∀{l:List Oper} {n i:Nat},xw md done l n=some i->∃o,l[i -n]? =some o/\n<=i/\i<n+l.length/\OD md done o.after.toList=true
 |[],n,i,h=>by simp[xw]at h|o::l,n,i,h=>by
  unfold xw at h;have rec' :xw md done l (n+1)=some i->∃o',(o::l)[i -n]? =some o' /\n<=i/\i<n+(o::l).length/\OD md done o'.after.toList=true:=λh=>by obtain⟨o',h1,h2,h3,h4⟩:=JZ h;refine⟨o',?_,l7,by simp;omega,h4⟩;rw[show i -n=(i -(n+1))+1 by omega];simpa using h1
  cases hm:FO n done
  ·simp only[hm,cond_false]at h;cases hr:OD md done o.after.toList
   ·simp only[hr,cond_false]at h;exact rec' h
   ·simp only[hr,cond_true,G8]at h;subst h;exact⟨o,A7,F9 _,A7,hr⟩
  ·simp only[hm,cond_true]at h;exact rec' h
theorem Vk:∀{n:Nat} {d:List Nat},a5z n d=true->∀i,i<n->i∈d
 |0,d,_,i,hi=>by omega|n+1,d,h,i,hi=>by
  unfold a5z at h;simp only[C9]at h;by_cases e:i=n
  ·subst e;exact WJ h.1
  ·exact Vk h.2 i l7
theorem Hz{md:Region.Mode}{ops:Array Oper} :∀(k:Nat) {done:List Nat} {rk:Nat->Nat},a0G md ops.toList k done=true->
  (∀x∈done,rk x<done.length)->(∀i∈done,∀o,ops[i]? =some o->∀e∈o.after.toList,Region.binds md e=true->e.on∈done/\e.on<ops.size/\rk e.on<rk i)->(∀x∈done,x<ops.size)->NY md ops
 |0,done,rk,h,h1,h2,h3=>by have hall:=Vk h;simp only[bY]at hall;exact⟨rk,λi o hi e he hb=>(h2 i (hall i (aG.1 hi).1) o hi e he hb).2⟩|k+1,done,rk,h,h1,h2,h3=>by
  unfold a0G at h;cases hf:xw md done ops.toList 0 with
  |none=>simp[hf]at h|some n=>
   simp only[hf]at h;obtain⟨o,e1,_,e2,e3⟩:=JZ hf;simp only[Nat.sub_zero,aC,dM,bY]at e1 e2;by_cases hn:n∈done
   ·refine Hz k (rk:=rk) h (λx hx=>?_) (λi hi o' ho' e he hb=>?_) (λx hx=>?_)
    ·rcases A8.1 hx with rfl|hx
     ·have:=h1 x hn;simp;omega
     ·have:=h1 x hx;simp;omega
    ·have hi' :i∈done:=by rcases A8.1 hi with rfl|hi;exact hn;exact hi
     obtain⟨g1,g2,g3⟩:=h2 i hi' o' ho' e he hb;exact⟨by simp[g1],g2,g3⟩
    ·rcases A8.1 hx with rfl|hx
     ·exact e2
     ·exact h3 x hx
   ·refine Hz k (rk:=λx=>if x=n then done.length else rk x) h (λx hx=>?_) (λi hi o' ho' e he hb=>?_) (λx hx=>?_)
    ·show(if x=n then done.length else rk x)<_;rcases A8.1 hx with rfl|hx
     ·simp
     ·have:=h1 x hx;rw[if_neg (show ¬x=n from λe=>hn (by rw[←e];exact hx))];simp;omega
    ·show _/\_/\(if e.on=n then done.length else rk e.on)<(if i=n then done.length else rk i);rcases A8.1 hi with rfl|hi
     ·rw[e1]at ho';cases ho';have hd:=Uf e3 e he hb;refine⟨by simp[hd],h3 _ hd,?_⟩;rw[if_neg (show ¬e.on=i from λe' =>hn (by rw[←e'];exact hd)),if_pos rfl];exact h1 _ hd
     ·obtain⟨g1,g2,g3⟩:=h2 i hi o' ho' e he hb;refine⟨by simp[g1],g2,?_⟩;rw[if_neg (show ¬e.on=n from λe' =>hn (by rw[←e'];exact g1)),if_neg (show ¬i=n from λe' =>hn (by rw[←e'];exact hi))];exact g3
    ·rcases A8.1 hx with rfl|hx
     ·exact e2
     ·exact h3 x hx
end Go.GP
namespace Go.GP
section
variable {X:Fx} {q:Nat} {ops:Array Oper} {S:Nat->Sm} {T:Nat->Tr} {m0:Mp} {ok0:Nat->Ty->Prop} {Q:Exit->Act->World->Prop}
theorem VC(H:FxOk X){i:Nat}{o:Oper}(hi:ops[i]? =some o){S1 S2:Sm}{t:Tr}(he:(pO X.E q ops.toList o).eval S1 ([],[])=some ((),S2,t)){m:Mp}{ok:Nat->Ty->Prop}{a:Act}{w:World}
  (R:Rel X (CB*q) (CB*q+CB) S1 m ok a w) {next:Act->World->Prop}
  (hn:∀m' ok' a' w',Rel X (CB*q) (CB*q+CB) S2 m' ok' a' w' ->(∀k l,m k=some l->m' k=some l)->(∀b t,ok b t->ok' b t)->next a' w'):wpOp X.P ops Q i next a w:=
 vG (a8j H R hi) he next Q hn
theorem Uw(H:FxOk X)(hc:Tn X.E q ops.toList ops.toList S T)
  (hQ:∀m' ok' a' w',Rel X (CB*q) (CB*q+CB) (S ops.size) m' ok' a' w' ->(∀k l,m0 k=some l->m' k=some l)->(∀b t,ok0 b t->ok' b t)->Q .normal a' w'):
  ∀(n k:Nat) {m:Mp} {ok:Nat->Ty->Prop} {a:Act} {w:World},k+n=ops.size->Rel X (CB*q) (CB*q+CB) (S k) m ok a w->(∀k l,m0 k=some l->m k=some l)->(∀b t,ok0 b t->ok b t)->wpOps X.P ops Q (List.range' k n) a w
 |0,k,m,ok,a,w,hk,R,hm,hok=>by have:k=ops.size:=l7;subst this;exact hQ m ok a w R hm hok
 |n+1,k,m,ok,a,w,hk,R,hm,hok=>by rw[nI,wpOps_cons];have hi:ops[k]? =some (ops[k]'l7):=P8 _;refine VC H hi (hc k _ (by rw[aC];exact hi)) R λm' ok' a' w' R' k1 k2=>?_;exact Uw H hc hQ n (k+1) l7 R' (λk l h=>k1 k l (hm k l h)) (λb t h=>k2 b t (hok b t h))
theorem a6S(H:FxOk X){md:Region.Mode}(hc:Tn X.E q ops.toList ops.toList S T){M:Nat->Nat}
  {ex:Nat->Nat->Prop} (hpair:∀i j,i<j->j<ops.size->a5v (λi j=>Nat.testBit (M j) i=true) ex T i j)
  (hex:∀i j,i<j->j<ops.size->ex i j->∃S',(pO X.E q ops.toList (ops.getD i default)).eval (S (j+1)) ([],[])=some ((),S',T i)/\∀k∈(T i).2,S' k=S (i+1) k)
  (hM:∀i o,ops[i]? =some o->∀j,Nat.testBit (M i) j=true->∃e∈o.after.toList,uQ e/\(j=e.on\/Nat.testBit (M e.on) j=true)) (hrk:NY md ops)
  (hQ:∀m' ok' a' w',Rel X (CB*q) (CB*q+CB) (S ops.size) m' ok' a' w' ->(∀k l,m0 k=some l->m' k=some l)->(∀b t,ok0 b t->ok' b t)->Q .normal a' w'):
  ∀(lg:Nat) {D:List Nat} {Bj:Array Bool} {m:Mp} {ok:Nat->Ty->Prop} {a:Act} {w:World},lg+D.length=ops.size->D.Nodup->(∀j∈D,j<ops.size)->Bj.size=ops.size->(∀i,i<ops.size->(Bj.getD i false=true↔i∈D))->
   (∀j∈D,∀k,Nat.testBit (M j) k=true->k∈D)->Rel X (CB*q) (CB*q+CB) (SD S T D ops.size) m ok a w->(∀k l,m0 k=some l->m k=some l)->(∀b t,ok0 b t->ok b t)->
   wpAny X.P md ops Q lg Bj a w:=by
 have hs:∀i,i<ops.size->(pO X.E q ops.toList (ops.getD i default)).eval (S i) ([],[])=some ((),S (i+1),T i):=λi hi=>by refine hc i _ ?_;simp[Array.getD,hi]
 obtain⟨rk,hrk⟩:=hrk;intro lg;induction lg with
 |zero=>
  intro D Bj m ok a w hf hD hlt hsz hl hdown R hm hok;have hall:=a7F hD hlt l7;refine⟨?_,?_⟩
  ·cases hr:Region.ready md ops Bj with
   |nil=>rfl|cons x xs=>
    have hx:x∈Region.ready md ops Bj:=by rw[hr];simp
    obtain⟨h1,o,ho,_⟩:=mem_ready.1 hx;have hxl:=(aG.1 ho).1;have:=(hl x hxl).2 (hall x hxl);rw[Y7]at h1 this;cases hg:Bj[x]? with
    |none=>rw[hg]at this;cases this|some y=>rw[hg]at h1 this;simp only[ai]at h1 this;rw[h1]at this;cases this
  ·refine hQ m ok a w ?_ hm hok;rwa[a8I (c:=λi=>pO X.E q ops.toList (ops.getD i default)) hs hall]at R
 |succ lg ih=>
  intro D Bj m ok a w hf hD hlt hsz hl hdown R hm hok;refine⟨λhr=>?_,λi hi=>?_⟩
  ·have hall:∀n i,rk i<n->i<ops.size->i∈D:=by
    intro n;induction n with
    |zero=>intro i hi _;omega|succ n ihn=>
     intro i hi hil;refine Y0 λhni=>?_;have hin:i∈Region.ready md ops Bj:=by
      refine mem_ready.2 ⟨?_,ops[i],P8 hil,λe he hb=>?_⟩
      ·have h1:¬Bj.getD i false=true:=λh=>hni ((hl i hil).1 h);rw[Y7]at h1 ⊢;rw[P8 l7]at h1 ⊢;simpa using h1
      ·obtain⟨g1,g2⟩:=hrk i _ (P8 hil) e (by simpa using he) hb;exact(hl e.on g1).2 (ihn e.on l7 g1)
     rw[hr]at hin;cases hin
   refine hQ m ok a w ?_ hm hok;rwa[a8I (c:=λi=>pO X.E q ops.toList (ops.getD i default)) hs (λi hi=>hall _ i (Nat.lt_succ_self _) hi)]at R
  ·obtain⟨h1,o,ho,h2⟩:=mem_ready.1 hi;have hil:=(aG.1 ho).1;have hnD:i∉D:=λh=>by
    have:=(hl i hil).2 h;rw[Y7]at h1 this;rw[P8 l7]at h1 this;simp only[ai]at h1 this;rw[h1]at this;cases this
   have hp:∀j,Nat.testBit (M i) j=true->j∈D:=λj hj=>by
    obtain⟨e,he,hpl,h3⟩:=hM i o ho j hj;have hlst:=h2 e (by simpa using he) (hpl.binds md);have hon:e.on<ops.size:=(hrk i o ho e he (hpl.binds md)).1;have honD:=(hl e.on hon).1 hlst;rcases h3 with rfl|h3
    ·exact honD
    ·exact hdown e.on honD j h3
   have hgd:ops.getD i default=o:=by rw[Y7,ho];rfl
   have hstep:=a8J (c:=λi=>pO X.E q ops.toList (ops.getD i default)) (S:=S) (T:=T) (n:=ops.size) hs (ord:=λi j=>Nat.testBit (M j) i=true) (ex:=ex)
    hpair hex hil hnD hlt hp hdown
   simp only[hgd]at hstep;refine VC H ho hstep R λm' ok' a' w' R' k1 k2=>?_;refine ih (D:=i::D) U6 (gp.2 ⟨hnD,hD⟩) (λj hj=>?_) (by simp[hsz]) (λj hj=>?_) (λj hj k hk=>?_) R' (λk l h=>k1 k l (hm k l h)) (λb t h=>k2 b t (hok b t h))
   ·rcases A8.1 hj with rfl|hj
    ·exact hil
    ·exact hlt j hj
   ·by_cases e:i=j
    ·subst e;simp[Array.getD,hsz,hil]
    ·rw[getD_set_ne false e,hl j hj];simp[Ne.symm e]
   ·rcases A8.1 hj with rfl|hj
    ·exact U4 _ (hp k hk)
    ·exact U4 _ (hdown j hj k hk)
theorem Ug(H:FxOk X){s s' :St}(h0:S 0=fF s)(h1:S ops.size=fF s')(hc:Tn X.E q ops.toList ops.toList S T){draw:Bool}{ex:Nat->Nat->Prop}
  (hex:∀i j,i<j->j<ops.size->ex i j->∃S',(pO X.E q ops.toList (ops.getD i default)).eval (S (j+1)) ([],[])=some ((),S',T i)/\∀k∈(T i).2,S' k=S (i+1) k)
  (hdraw:draw=true->∃M:Nat->Nat,a0b ops.toList 0 []=some ((List.range ops.size).map M).reverse/\(∀i j,i<j->j<ops.size->a5v (λi j=>Nat.testBit (M j) i=true) ex T i j)/\
   (bif FW ops.toList then true else a0G .text ops.toList ops.toList.length []&&a0G .gc ops.toList ops.toList.length [])=true):
  (∀k,(∀x∈((List.range ops.size).map T).reverse,k∉x.2)->fF s' k=fF s k)/\
   ∀{m:Mp} {ok:Nat->Ty->Prop} {a:Act} {w:World} {id:Nat} {Q:Exit->Act->World->Prop},Rel X (CB*q) (CB*q+CB) (fF s) m ok a w->
    (∀m' ok' a' w',Rel X (CB*q) (CB*q+CB) (fF s') m' ok' a' w' ->(∀k l,m k=some l->m' k=some l)->(∀b t,ok b t->ok' b t)->Q .normal a' w')->(Code.region id ops draw).wp X.P Q a w:=by
 have hfr:∀k,(∀x∈((List.range ops.size).map T).reverse,k∉x.2)->fF s' k=fF s k:=λk hk=>by
  have:∀n,n<=ops.size->S n k=S 0 k:=by
   intro n;induction n with
   |zero=>intro _;rfl|succ n ih=>intro hn;have hi:ops[n]? =some (ops[n]'l7):=P8 _;rw[Jq (hc n (ops[n]'l7) (by rw[aC];exact hi)) k (hk (T n) (by simp;exact⟨n,l7,rfl⟩)),ih l7]
  rw[←h1,←h0];exact this ops.size (F9 _)
 cases draw with
 |false=>refine⟨hfr,λ{m ok a w id Q} R hQ=>wp_region ?_⟩;rw[List.range_eq_range'];rw[←h0]at R;refine Uw H hc (m0:=m) (ok0:=ok) (by rw[h1];exact hQ) ops.size 0 l7 R (λ_ _ h=>h) (λ_ _ h=>h)|true=>
  obtain⟨M0,hp,hpair,hd⟩:=hdraw rfl;obtain⟨M,hMM,_,hM⟩:=Nh (M:=λ_=>0) ops.toList (n:=0) hp;simp only[dM,bY]at hd hM hMM;have hMM:∀k,k<ops.size->M0 k=M k:=λk hk=>by have e1:=Ig (M:=M0) hk;rw[hMM,Ig hk]at e1;exact e1.symm
  have hM:∀i o,ops[i]? =some o->(∀e∈o.after.toList,uQ e->e.on<i)/\∀j,Nat.testBit (M0 i) j=true->∃e∈o.after.toList,uQ e/\(j=e.on\/Nat.testBit (M0 e.on) j=true):=λi o ho=>by have hil:=(aG.1 ho).1;obtain⟨g1,g2⟩:=hM i o (by simpa using ho);refine⟨g1,λj hj=>?_⟩;rw[hMM i hil]at hj;obtain⟨e,he,hpl,h3⟩:=g2 j hj;exact⟨e,he,hpl,by rw[hMM e.on (by have:=g1 e he hpl;omega)];exact h3⟩
  have hidr:∀md,(∀(i:Nat) (o:Oper),ops[i]? =some o->∀e∈o.after.toList,Region.binds md e=true->uQ e)->NY md ops:=λmd hpl=>by refine⟨λi=>i,λi o ho e he hb=>?_⟩;have hil:=(aG.1 ho).1;have:=(hM i o ho).1 e he (hpl i o ho e he hb);exact⟨l7,this⟩
  have hany:NY .any ops:=hidr .any λi o ho e he hb=>a6U hb;have hboth:NY .text ops/\NY .gc ops:=by
   cases hpo:FW ops.toList
   ·simp only[hpo,cond_false,C9]at hd;exact⟨Hz (rk:=λ_=>0) _ hd.1 A7 A7 A7,Hz (rk:=λ_=>0) _ hd.2 A7 A7 A7⟩
   ·have hpl:∀(i:Nat) (o:Oper),ops[i]? =some o->∀e∈o.after.toList,uQ e:=λi o ho e he=>NQ hpo o (by simpa using Array.mem_of_getElem? ho) e he;exact⟨hidr _ λi o ho e he _=>hpl i o ho e he,hidr _ λi o ho e he _=>hpl i o ho e he⟩
  refine⟨hfr,λ{m ok a w id Q} R hQ=>wp_region_draw λt=>?_⟩;have R' :Rel X (CB*q) (CB*q+CB) (SD S T [] ops.size) m ok a { w with drawn:=w.drawn+1 }:=by rw[b5K,h0];exact R.same rfl rfl rfl rfl
  have main:∀md,NY md ops->∀t,wpOps X.P ops Q (Region.linearise md ops t) a { w with drawn:=w.drawn+1 }:=λmd hr t=>by unfold Region.linearise;refine wpAny_sound ops.size t _ a _ ?_;refine a6S H hc hpair hex (λi o ho=>(hM i o ho).2) hr (m0:=m) (ok0:=ok) (by rw[h1];exact hQ) ops.size (D:=[]) A7 fK A7 A7 (λi hi=>?_) A7 R' (λ_ _ h=>h) (λ_ _ h=>h);simp[Array.getD,hi]
  unfold Region.schedule;split
  ·exact main _ hany t
  ·split
   ·exact main _ hboth.1 _
   ·exact main _ hboth.2 _
theorem a0n(H:FxOk X){R:Type}{s:St}{wr:Rgs}{K:St->Rgs->Option R}{r:R}{draw:Bool}(h:a0m X.E q ops draw s wr K=some r):
  ∃s' w',K s' w' =some r/\(∃t:Trs,w' =Ec t wr/\∀k,(∀x∈t,k∉x.2)->fF s' k=fF s k)/\
   ∀{m:Mp} {ok:Nat->Ty->Prop} {a:Act} {w:World} {id:Nat} {Q:Exit->Act->World->Prop},Rel X (CB*q) (CB*q+CB) (fF s) m ok a w->
    (∀m' ok' a' w',Rel X (CB*q) (CB*q+CB) (fF s') m' ok' a' w' ->(∀k l,m k=some l->m' k=some l)->(∀b t,ok b t->ok' b t)->Q .normal a' w')->(Code.region id ops draw).wp X.P Q a w:=by
 unfold a0m at h;have pick:∀(dr:Bool) (s' :St) (T:Nat->Tr),(bif draw then(bif dr then K s' (Ec ((List.range ops.size).map T).reverse wr)else none)else K s' (Ec ((List.range ops.size).map T).reverse wr))=some r->
   K s' (Ec ((List.range ops.size).map T).reverse wr)=some r/\(draw=true->dr=true):=λdr s' T h=>by
  cases draw
  ·exact⟨h,λh=>by cases h⟩
  ·cases dr
   ·cases h
   ·exact⟨h,λ_=>rfl⟩
 split at h
 ·obtain⟨s',S,T,h0,h1,hc,hk⟩:=Ul _ h;simp only[bY,H9]at h1 hk;obtain⟨hk,hd⟩:=pick _ s' T hk;obtain⟨hfr,hwp⟩:=Ug H h0 h1 hc (draw:=draw) (ex:=λ_ _=>False) (λ_ _ _ _ h=>h.elim) λhdr=>by
   have hd:=hd hdr;unfold a9m at hd;cases hp:a0b ops.toList 0 []with
   |none=>simp[hp]at hd|some ms=>
   simp only[hp]at hd;obtain⟨M,hms,_,_⟩:=Nh (M:=λ_=>0) ops.toList (n:=0) hp;simp only[dM,bY]at hms;subst hms;cases hod:Xc ((List.range ops.size).map M).reverse ((List.range ops.size).map T).reverse
   ·simp[hod]at hd
   simp only[hod,cond_true]at hd;exact⟨M,rfl,λi j hi hj=>(TV _ hod i j hi hj).imp id λh=>⟨h.1,.inl h.2⟩,hd⟩
  exact⟨s',_,hk,⟨_,rfl,hfr⟩,hwp⟩
 ·obtain⟨s',S,T,h0,h1,hc,hk,_,h5⟩:=QD _ h;simp only[bY,H9]at h1 hk;obtain⟨hk,hd⟩:=pick _ s' T hk;obtain⟨hfr,hwp⟩:=Ug H h0 h1 hc (draw:=draw) (ex:=λi j=>u_ ops.toList j=true/\a9q X.E ops.toList i=true) (λi j hij hj ⟨e1,e2⟩=>by
   have hi:ops[i]? =some (ops[i]'l7):=P8 _;have hj' :ops[j]? =some (ops[j]'l7):=P8 _;unfold u_ at e1;unfold a9q at e2;rw[aC,hj']at e1;rw[aC,hi]at e2;obtain⟨d,hd,d',S',g1,g2,g3,g4⟩:=h5 i j _ _ hij (by rw[aC];exact hi) (by rw[aC];exact hj') e2 e1;rw[hd]at g1;cases g1;have hgd:ops.getD i default=ops[i]'l7:=by rw[Y7,hi];rfl
   refine⟨S',by rw[hgd];exact g3,λk hk=>?_⟩;rw[g2]at hk;simp only[A8,kP,or_false]at hk;subst hk;exact g4) λhdr=>by
   have hd:=hd hdr;unfold a5N at hd;cases hp:a0b ops.toList 0 []with
   |none=>simp[hp]at hd|some ms=>
   simp only[hp]at hd;obtain⟨M,hms,_,_⟩:=Nh (M:=λ_=>0) ops.toList (n:=0) hp;simp only[dM,bY]at hms;subst hms;cases hod:Qh X.E ops.toList ((List.range ops.size).map M).reverse ((List.range ops.size).map T).reverse
   ·simp[hod]at hd
   simp only[hod,cond_true]at hd;exact⟨M,rfl,Qi _ hod,hd⟩
  exact⟨s',_,hk,⟨_,rfl,hfr⟩,hwp⟩
end
end Go.GP
namespace Go.GP
def Wr(w:Rgs)(k:Nat):Prop:=∃p∈w,p.1<=k/\k<p.2
theorem a3u{k:Nat} :¬Wr [] k:=λ⟨p,h,_⟩=>by cases h
theorem MK{p:Nat×Nat}{w:Rgs}{k:Nat} :Wr (p::w) k↔(p.1<=k/\k<p.2)\/Wr w k:=by
 constructor
 ·rintro⟨x,h,h1⟩;rcases A8.1 h with rfl|h
  ·exact .inl h1
  ·exact .inr ⟨x,h,h1⟩
 ·rintro(h|⟨x,h,h1⟩)
  ·exact⟨p,A7,h⟩
  ·exact⟨x,by simp[h],h1⟩
theorem KL{w:Rgs}{k:Nat} :∀{ks:List Nat},Wr (PM ks w) k↔k∈ks\/Wr w k
 |[]=>by simp[PM]|x::ks=>by
  unfold PM;rw[MK,KL];simp only[A8];constructor
  ·rintro(⟨h1,h2⟩|h|h)
   ·exact .inl (.inl l7)
   ·exact .inl (.inr h)
   ·exact .inr h
  ·rintro((rfl|h)|h)
   ·simp
   ·exact .inr (.inl h)
   ·exact .inr (.inr h)
theorem n_{b:Rgs}{k:Nat} :∀{a:Rgs},Wr (Vm a b) k↔Wr a k\/Wr b k
 |[]=>by simp[Vm,a3u]|x::a=>by unfold Vm;rw[MK,MK,n_,or_assoc]
theorem QU{w:Rgs}{k:Nat} :∀{t:Trs},Wr (Ec t w) k↔(∃x∈t,k∈x.2)\/Wr w k
 |[]=>by simp[Ec]|x::t=>by unfold Ec;rw[KL,QU,←or_assoc];simp
theorem Zm{lo hi:Nat} :∀{rs:Rgs},a7o lo hi rs=true->∃p∈rs,p.1<=lo/\hi<=p.2
 |[],h=>by simp[a7o]at h|(a,b)::r,h=>by
  unfold a7o at h;cases hb:(Nat.ble a lo&&Nat.ble hi b)
  ·simp only[hb,cond_false]at h;obtain⟨p,h1,h2⟩:=Zm h;exact⟨p,by simp[h1],h2⟩
  ·simp only[C9]at hb;exact⟨(a,b),A7,X4 hb.1,X4 hb.2⟩
theorem Tu{lim:Nat}{rs:Rgs} :∀{w:Rgs},VF lim rs w=true->∀k,Wr w k->lim<=k\/Wr rs k
 |[],_,k,h=>absurd h a3u|(a,b)::w,h,k,hk=>by
  unfold VF at h;cases hc:(Nat.ble lim a || a7o a b rs)
  ·simp[hc]at h
  ·simp only[hc,cond_true]at h;rcases MK.1 hk with⟨h1,h2⟩|hk
   ·simp only[lL]at hc;rcases hc with hc|hc
    ·have:=X4 hc;exact .inl (by simp only at h1;omega)
    ·obtain⟨p,h3,h4,h5⟩:=Zm hc;exact .inr ⟨p,h3,by simp only at h1;omega,by simp only at h2;omega⟩
   ·exact Tu h k hk
theorem RJ{s:St}{k:Nat} :∀{rs:Rgs},¬Wr rs k->fF (FN rs s) k=fF s k
 |[],_=>rfl|(a,b)::r,h=>by
  rw[MK,not_or]at h;show(bif Nat.ble a k&&Nat.blt k b then V.undef else fF (FN r s) k)=fF s k;cases hb:(Nat.ble a k&&Nat.blt k b)
  ·simp only[cond_false];exact RJ h.2
  ·simp only[C9]at hb;exact absurd ⟨X4 hb.1,NZ hb.2⟩ h.1
theorem a1Y{s:St}{k:Nat} :∀{rs:Rgs},Wr rs k->fF (FN rs s) k= .undef
 |[],h=>absurd h a3u|(a,b)::r,h=>by
  show(bif Nat.ble a k&&Nat.blt k b then V.undef else fF (FN r s) k)=V.undef;cases hb:(Nat.ble a k&&Nat.blt k b)
  ·simp only[cond_false];rcases MK.1 h with⟨h1,h2⟩|h
   ·simp only at h1 h2;have e1:Nat.ble a k=true:=Nat.ble_eq_true_of_le h1;have e2:Nat.blt k b=true:=by rw[fU];exact h2
    simp[e1,e2]at hb
   ·exact a1Y h
  ·simp
theorem a2x{h0 h1:Array Obj}{ok0 ok1:Nat->Ty->Prop}{m m1 m2:Mp}(hm:∀k l,m k=some l->m2 k=m1 k):∀{c:V} {v0 v1:Value} (a:zf ⟨h0,ok0,m⟩ c v0) (b:zf ⟨h1,ok1,m1⟩ c v1),zf ⟨h1,ok1,m2⟩ c v1:=by
 intro c;induction c using V.rec (motive_2:=λ_=>True)<;>try trivial
 all_goals
  intro v0 v1 a b;simp only[zf]at a b ⊢
  try exact b
 case own bx vw=>obtain⟨l0,e0,_⟩:=a;obtain⟨l,e,hv⟩:=b;exact⟨l,by rw[hm _ _ e0];exact e,hv⟩
 case ptr bx o=>obtain⟨l0,e0,_⟩:=a;obtain⟨l,e,hv⟩:=b;exact⟨l,by rw[hm _ _ e0];exact e,hv⟩
 case ep bx ix o=>obtain⟨_,_,_,_,_,e0,_⟩:=a;obtain⟨x1,x2,x3,x4,x5,e,hv⟩:=b;exact⟨x1,x2,x3,x4,x5,by rw[hm _ _ e0];exact e,hv⟩
 case ifc t c ih=>obtain⟨u0,_,_,a⟩:=a;obtain⟨u,e,h,b⟩:=b;exact⟨u,e,h,ih a b⟩
theorem XA{h0 h1:Array Obj}{ok0 ok1:Nat->Ty->Prop}{m m1 m2:Mp}(hm:∀k l,m k=some l->m2 k=m1 k):∀{cs:List V} {v0 v1:List Value},iP ⟨h0,ok0,m⟩ cs v0->iP ⟨h1,ok1,m1⟩ cs v1->iP ⟨h1,ok1,m2⟩ cs v1
 |[],_,_,_,b=>b|_::_,_,_,⟨_,_,_,a1,_,a3⟩,⟨v,r,e,b1,b2,b3⟩=>⟨v,r,e,a2x hm a1 b1,b2,XA hm a3 b3⟩
theorem a2w{h0 h1:Array Obj}{ok0 ok1:Nat->Ty->Prop}{m m1 m2:Mp}(hm:∀k l,m k=some l->m2 k=m1 k){c:V}{v0 v1:Value}(a:Xx ⟨h0,ok0,m⟩ c v0)(b:Xx ⟨h1,ok1,m1⟩ c v1):Xx ⟨h1,ok1,m2⟩ c v1:=by
 cases c<;>simp only[Xx]at a b ⊢<;>try exact a2x hm a b
 case agg cs=>obtain⟨_,_,a⟩:=a;obtain⟨arr,e,b⟩:=b;exact⟨arr,e,XA hm a b⟩
theorem a2A{h0 h1:Array Obj}{ok0 ok1:Nat->Ty->Prop}{m m1 m2:Mp}(hm:∀k l,m k=some l->m2 k=m1 k):∀{cs:List V} {v0 v1:List Value},a0p ⟨h0,ok0,m⟩ cs v0->a0p ⟨h1,ok1,m1⟩ cs v1->a0p ⟨h1,ok1,m2⟩ cs v1
 |[],_,_,_,b=>b|_::_,_,_,⟨_,_,_,a1,a3⟩,⟨v,r,e,b1,b3⟩=>⟨v,r,e,a2w hm a1 b1,a2A hm a3 b3⟩
theorem b1u{h0 h1:Array Obj}{ok0 ok1:Nat->Ty->Prop}{m m1 m2:Mp}(hm:∀k l,m k=some l->m2 k=m1 k){c:V}{v0 v1:Value}(a:pg ⟨h0,ok0,m⟩ c v0)(b:pg ⟨h1,ok1,m1⟩ c v1):pg ⟨h1,ok1,m2⟩ c v1:=by
 cases c<;>simp only[pg]at a b ⊢<;>try exact a2w hm a b
 case tup cs=>obtain⟨_,_,a⟩:=a;obtain⟨arr,e,b⟩:=b;exact⟨arr,e,a2A hm a b⟩
theorem a4c{h0 h1:Array Obj}{ok0 ok1:Nat->Ty->Prop}{m m1 m2:Mp}(hm:∀k l,m k=some l->m2 k=m1 k){sz:Nat}{l0 l1:Loc}{hole:Option (Nat×Nat×Option Nat)}(a:Wp ⟨h0,ok0,m⟩ sz l0 hole)(b:Wp ⟨h1,ok1,m1⟩ sz l1 hole):Wp ⟨h1,ok1,m2⟩ sz l1 hole:=by
 obtain _|⟨i,o,_|n⟩:=hole
 ·trivial
 ·trivial
 ·obtain⟨_,_,_,_,_,l',_,_,e,_⟩:=a;obtain⟨b1,b2,b3,b4,b5,l2,c1,c2,c3,c4⟩:=b;exact⟨b1,b2,b3,b4,b5,l2,c1,c2,by rw[hm _ _ e];exact c3,c4⟩
theorem b1t{h0 h1:Array Obj}{ok0 ok1:Nat->Ty->Prop}{m m1 m2:Mp}(hm:∀k l,m k=some l->m2 k=m1 k)(hk:m2.kid=m1.kid)(km:∀k l,m k=some l->m1 k=some l){n:Nat}{c:V}(a:Gi ⟨h0,ok0,m⟩ n c)(b:∀l,m n=some l->Gi ⟨h1,ok1,m1⟩ n c):Gi ⟨h1,ok1,m2⟩ n c:=by
 cases c<;>simp only[Gi]at a b ⊢
 case bcells cs=>obtain⟨_,_,_,e0,_,a⟩:=a;obtain⟨blk,arr,T,e,hh,b⟩:=b _ e0;exact⟨blk,arr,T,by rw[hm _ _ e0];exact e,hh,XA hm a b⟩
 case barr t xs=>obtain⟨_,e0,_⟩:=a;obtain⟨l,e,b⟩:=b _ e0;exact⟨l,by rw[hm _ _ e0];exact e,xf (λ_ _ h=>h) (λ_ _ _=>rfl) (λ_ _=>rfl) b⟩
 case bfrz t xs=>obtain⟨_,e0,_⟩:=a;obtain⟨l,e,b,hb⟩:=b _ e0;exact⟨l,by rw[hm _ _ e0];exact e,xf (λ_ _ h=>h) (λ_ _ _=>rfl) (λ_ _=>rfl) b,hb⟩
 case barrs md xs hole=>obtain⟨he,_,_,e0,⟨_,ha⟩,_⟩:=a;obtain⟨_,l,Os,e,⟨b,hl⟩,hb⟩:=b _ e0;exact⟨he,l,Os,by rw[hm _ _ e0];exact e,⟨b,a4c hm ha hl⟩,by rw[hk];exact hb⟩
 case bfc t x=>obtain⟨_,_,e0,_⟩:=a;obtain⟨blk,es,e,b⟩:=b _ e0;exact⟨blk,es,by rw[hm _ _ e0];exact e,b⟩
 case gone t=>obtain⟨_,e0,_⟩:=a;obtain⟨l,e,b⟩:=b _ e0;exact⟨l,by rw[hm _ _ e0];exact e,b⟩
 case blen ln sz=>obtain⟨k,l,e,e0,h⟩:=a;exact⟨k,l,e,by rw[hm _ _ e0];exact km _ _ e0,h⟩
def cut(m:Mp)(N:Nat):Mp:=⟨λn=>if n<N then m n else none,m.kid⟩
section
variable {X:Fx} {cl ch N:Nat} {S S1 S2:Sm} {m m1:Mp} {ok ok1:Nat->Ty->Prop} {a a1:Act} {w w1:World}
theorem Rel.climb(R:Rel X cl ch S m ok a w){cl' :Nat}(h:cl<=cl'):Rel X cl' ch S m ok a w:={ R with fresh:=λn h1 h2=>R.fresh n l7 h2 }
theorem Rel.rebase(R0:Rel X cl N S m ok a w){cl1 ch1:Nat}(R1:Rel X cl1 ch1 S1 m1 ok1 a1 w1)(km:∀k l,m k=some l->m1 k=some l)
  (hS:∀k,S2 k= .undef\/(S2 k=S k/\(k<bf+N->S1 k=S k))):
  Rel X N N S2 (cut m1 N) ok1 a1 w1/\(∀T,Tk X S1 m1 ok1 w1 T->Tk X S2 (cut m1 N) ok1 w1 T)/\(∀k l,m k=some l->cut m1 N k=some l):=by
 have hdom:∀k l,m k=some l->k<N:=λk l h=>by
  rcases mi k N with h1|h1
  ·exact h1
  ·rw[R0.strict k h1]at h;cases h
 have hagree:∀k l,m k=some l->cut m1 N k=m1 k:=λk l h=>by simp[cut,hdom k l h]
 have hown:∀n,Y5 (cut m1 N) n (S2 (bf+n))=Y5 m1 n (S1 (bf+n))\/Y5 (cut m1 N) n (S2 (bf+n))=[]:=λn=>by
  rcases hS (bf+n)with h1|⟨h1,h2⟩
  ·right;rw[h1];rfl
  ·rcases mi n N with hn|hn
   ·left;rw[h2 l7,←h1];exact JB (by simp[cut,hn]) rfl
   ·right;have hc:m n=none:=R0.strict n hn;have hb:=R0.box n;rw[h1];cases hv:S (bf+n)<;>rw[hv]at hb<;>try rfl
    ·obtain⟨_,_,_,e,_⟩:=hb;simp only at e;rw[hc]at e;cases e
    ·obtain⟨_,e,_⟩:=hb;simp only at e;rw[hc]at e;cases e
    ·obtain⟨_,_,_,e,_⟩:=hb;simp only at e;rw[hc]at e;cases e
 have hownM:∀n b,b∈Y5 (cut m1 N) n (S2 (bf+n))->b∈Y5 m1 n (S1 (bf+n)):=λn b h=>by
  rcases hown n with e|e
  ·rw[←e];exact h
  ·rw[e]at h;cases h
 refine⟨{ kept:=R1.kept,size:=R1.size,nodef:=R1.nodef,okLt:=R1.okLt,okIn:=R1.okIn,okOut:=R1.okOut,frame:=R1.frame,gl:=R1.gl,slot:=λn hn=>?_,box:=λn=>?_,inj:=λn n' b h h' =>R1.inj n n' b (hownM n b h) (hownM n' b h'),nd:=λn=>(hown n).elim (λe=>by rw[e];exact R1.nd n) (λe=>by rw[e];exact fK),sep:=λn b h=>R1.sep n b (hownM n b h),fresh:=λn h1 _=>?_,strict:=λn h=>?_ },λT hT=>⟨hT.nodup,λb hb=>?_⟩,λk l h=>by rw[hagree k l h];exact km k l h⟩
 ·rcases hS n with h1|⟨h1,h2⟩
  ·rw[h1];trivial
  ·rw[h1];refine b1u hagree (R0.slot n hn) ?_;rw[←h2 l7];exact R1.slot n hn
 ·rcases hS (bf+n)with h1|⟨h1,h2⟩
  ·rw[h1];trivial
  ·rw[h1];refine b1t hagree rfl km (R0.box n) λl hl=>?_;rw[←h2 (by have:=hdom n l hl;omega)];exact R1.box n
 ·simp[cut];omega
 ·simp[cut];omega
 ·obtain⟨f1,f2,f3,f4⟩:=hT.free b hb;exact⟨f1,f2,f3,λn e=>f4 n (hownM n b e)⟩
theorem kF{R:Type}{q:Nat}{sg:Sig}{rs:Rgs}{s:St}{wr:Rgs}{K:rD sg->Option R}{r:R}(h:NK q sg rs s wr K=some r):
  ∃x,K x=some r/\∀{s0:St} {cl cl1 ch1:Nat} {m m1:Mp} {ok ok1:Nat->Ty->Prop} {a a1:Act} {w w1:World},Rel X cl (CB*q) (fF s0) m ok a w->Rel X cl1 ch1 (fF s) m1 ok1 a1 w1->(∀k l,m k=some l->m1 k=some l)->
   (∀k,¬Wr wr k->fF s k=fF s0 k)->∃m2 ok2 O,Rel X (CB*q) (CB*q) (fF (FN rs s0)) m2 ok2 a1 w1/\Tk X (fF (FN rs s0)) m2 ok2 w1 O/\
    a3t w1.heap ok2 sg x a1.tmps O/\(∀k l,m k=some l->m2 k=some l):=by
 unfold NK at h;obtain⟨x,s1,tr,he,hk⟩:=qM h;cases hc:VF (bf+CB*q) rs (PM tr.2 wr)
 ·simp[hc]at hk
 simp only[hc,cond_true]at hk;refine⟨x,hk,λ{s0 cl cl1 ch1 m m1 ok ok1 a a1 w w1} R0 R1 km hun=>?_⟩;have key:=vG (a3V R1 (Q:=λy S' =>∃ok' O,Rel X cl1 ch1 S' m1 ok' a1 w1/\Tk X S' m1 ok' w1 O/\a3t w1.heap ok' sg y a1.tmps O)
  λS' ok' y O R' T' _ _ hr=>⟨ok',O,R',T',hr⟩) he
 obtain⟨ok',O,R',T',hr⟩:=key;have hcov:=Tu hc;obtain⟨R2,hT2,hm2⟩:=R0.rebase (S2:=fF (FN rs s0)) R' km (λk=>by
  by_cases hw:Wr rs k
  ·exact .inl (a1Y hw)
  ·refine .inr ⟨RJ hw,λhlt=>?_⟩;have hnw:¬Wr (PM tr.2 wr) k:=λh=>by
    rcases hcov k h with h1|h1
    ·omega
    ·exact hw h1
   rw[KL,not_or]at hnw;rw[Jq he k hnw.1];exact hun k hnw.2)
 exact⟨_,ok',O,R2,hT2 O T',hr,hm2⟩
theorem sV{R:Type}{q:Nat}{sg:Sig}{rs:Rgs}{s:St}{x:rD sg}{K:St->Rgs->Option R}{r:R}(h:enter q sg rs s x K=some r):
  ∃s' w',K s' w' =some r/\(∀k,Wr rs k->Wr w' k)/\(∀k,¬Wr w' k->fF s' k=fF s k)/\
   ∀{N:Nat} {m:Mp} {ok:Nat->Ty->Prop} {a:Act} {w:World} {O:List Nat},N<=CB*q->Rel X N N (fF (FN rs s)) m ok a w->Tk X (fF (FN rs s)) m ok w O->
    a3t w.heap ok sg x a.tmps O->
    ∃m',Rel X (CB*(q+1)) (CB*(q+1)) (fF s') m' ok a w/\(∀k l,m k=some l->m' k=some l):=by
 unfold enter at h;obtain⟨u,s',tr,he,hk⟩:=qM h;refine⟨s',_,hk,λk hk=>KL.2 (.inr hk),λk hk=>?_,λ{N m ok a w O} hN R1 T1 hr=>?_⟩
 ·rw[KL,not_or]at hk;rw[Jq he k hk.1,RJ hk.2]
 ·have key:=vG (a3Q (x:=x) (nb:=CB*q) (lim:=CB*q+CB) (Q:=λ_ S' =>∃m',Rel X N (max N (CB*q+CB)) S' m' ok a w/\(∀k l,m k=some l->m' k=some l)) R1 hN T1 hr
   λS' m' R' k=>⟨m',R',k⟩) he
  obtain⟨m',R',k⟩:=key;have e:CB*(q+1)=CB*q+CB:=by rw[Nat.mul_add,lQ]
  rw[e];generalize CB*q=Z at*;exact⟨m',(R'.climb l7).chmono l7,k⟩
end
end Go.GP
namespace Go.GP
section
variable {X:Fx} {rt:Ret} {mE:Mp} {RetP:rt.den->Act->World->Prop}
def OO(X:Fx)(q:Nat)(m:Mp)(s:St)(wr:Rgs)(s' :St)(w' :Rgs)(a:Act)(w:World):Prop:=
 ∃m' ok',Rel X (CB*q) (CB*q) (fF s') m' ok' a w/\(∀k l,m k=some l->m' k=some l)/\(∀k,Wr wr k->Wr w' k)/\(∀k,¬Wr w' k->fF s' k=fF s k)
def a3p(X:Fx)(RetP:rt.den->Act->World->Prop)(q:Nat)(m:Mp)(s:St)(wr:Rgs)(fl:Flow rt.den)(s' :St)(w' :Rgs)(e:Exit)(a:Act)(w:World):Prop:=
 match fl with
 | .nm=>e= .normal/\OO X q m s wr s' w' a w| .ex id=>e= .exit id/\OO X q m s wr s' w' a w| .rt x=>e= .ret/\RetP x a w
def a5t(X:Fx)(RetP:rt.den->Act->World->Prop)(q:Nat)(m:Mp)(s:St)(wr:Rgs){R:Type}(K:Flow rt.den->St->Rgs->Option R)(r:R)(e:Exit)(a:Act)(w:World):Prop:=
 ∃fl s' w',K fl s' w' =some r/\a3p X RetP q m s wr fl s' w' e a w
structure DOk (X:Fx) (mE:Mp) (RetP:rt.den->Act->World->Prop) (D:Den rt.den) (c:Code) (n:Nat):Prop where
 run:∀{q:Nat} {an:Ann} {s:St} {wr:Rgs} {R:Type} {K:Flow rt.den->St->Rgs->Option R} {r:R},D q an s wr R K=some r->
  ∀{m:Mp} {ok:Nat->Ty->Prop} {a:Act} {w:World},Rel X (CB*q) (CB*q) (fF s) m ok a w->(∀k l,mE k=some l->m k=some l)->
   c.wp X.P (a5t X RetP (q+n) m s wr K r) a w
def a8H(X:Fx)(rt:Ret)(mE:Mp)(RetP:rt.den->Act->World->Prop):Prop:=
 ∀{s:St} {R:Type} {K:rt.den->Option R} {r:R},(b4x X.E rt).runK s ([],[]) (λx _ _=>K x)=some r->
  ∃x,K x=some r/\∀{cl ch:Nat} {m:Mp} {ok:Nat->Ty->Prop} {a:Act} {w:World},Rel X cl ch (fF s) m ok a w->(∀k l,mE k=some l->m k=some l)->RetP x a w
theorem a5J{p q:Nat}(h:p<=q):CB*p<=CB*q:=Nat.mul_le_mul_left _ h
theorem Rel.upq{p q:Nat}{S:Sm}{m:Mp}{ok:Nat->Ty->Prop}{a:Act}{w:World}(R:Rel X (CB*p) (CB*p) S m ok a w)(h:p<=q):Rel X (CB*q) (CB*q) S m ok a w:=
 (R.climb (a5J h)).chmono (a5J h)
theorem OO.here{q q' :Nat}{m:Mp}{ok:Nat->Ty->Prop}{s:St}{wr:Rgs}{a:Act}{w:World}(R:Rel X (CB*q) (CB*q) (fF s) m ok a w)(h:q<=q'):OO X q' m s wr s wr a w:=
 ⟨m,ok,R.upq h,λ_ _ h=>h,λ_ h=>h,λ_ _=>rfl⟩
theorem OO.up{q q' :Nat}{m:Mp}{s s' :St}{wr w' :Rgs}{a:Act}{w:World}(h:OO X q m s wr s' w' a w)(hq:q<=q'):OO X q' m s wr s' w' a w:=by obtain⟨m',ok',R,h1,h2,h3⟩:=h;exact⟨m',ok',R.upq hq,h1,h2,h3⟩
theorem OO.trans{q q' :Nat}{m m1:Mp}{s s1 s2:St}{wr w1 w2:Rgs}{a:Act}{w:World}(k1:∀k l,m k=some l->m1 k=some l)(k2:∀k,Wr wr k->Wr w1 k)(k3:∀k,¬Wr w1 k->fF s1 k=fF s k)
  (h:OO X q m1 s1 w1 s2 w2 a w) (hq:q<=q'):OO X q' m s wr s2 w2 a w:=by
 obtain⟨m',ok',R,h1,h2,h3⟩:=h;exact⟨m',ok',R.upq hq,λk l h=>h1 k l (k1 k l h),λk h=>h2 k (k2 k h),λk h=>(h3 k h).trans (k3 k λh' =>h (h2 k h'))⟩
theorem a3p.up{q q' :Nat}{m:Mp}{s s' :St}{wr w' :Rgs}{fl:Flow rt.den}{e:Exit}{a:Act}{w:World}(h:a3p X RetP q m s wr fl s' w' e a w)(hq:q<=q'):a3p X RetP q' m s wr fl s' w' e a w:=by
 cases fl with
 |nm=>exact⟨h.1,h.2.up hq⟩|ex id=>exact⟨h.1,h.2.up hq⟩|rt x=>exact h
theorem a3p.trans{q q' :Nat}{m m1:Mp}{s s1 s2:St}{wr w1 w2:Rgs}{fl:Flow rt.den}{e:Exit}{a:Act}{w:World}(k1:∀k l,m k=some l->m1 k=some l)(k2:∀k,Wr wr k->Wr w1 k)(k3:∀k,¬Wr w1 k->fF s1 k=fF s k)
  (h:a3p X RetP q m1 s1 w1 fl s2 w2 e a w) (hq:q<=q'):a3p X RetP q' m s wr fl s2 w2 e a w:=by
 cases fl with
 |nm=>exact⟨h.1,h.2.trans k1 k2 k3 hq⟩|ex id=>exact⟨h.1,h.2.trans k1 k2 k3 hq⟩|rt x=>exact h
theorem MN{q n:Nat}(hq:q+1<=n){s s3:St}{wr w3:Rgs}{m m2:Mp}{ok2:Nat->Ty->Prop}{a:Act}{w:World}
  (km:∀k l,m k=some l->m2 k=some l) (hout:∀k,¬Wr w3 k->fF s3 k=fF s k)
  (hR:∃m',Rel X (CB*(q+1)) (CB*(q+1)) (fF s3) m' ok2 a w/\(∀k l,m2 k=some l->m' k=some l)):OO X n m s wr s3 (Vm w3 wr) a w:=by
 obtain⟨m',R,k⟩:=hR;exact⟨m',ok2,R.upq hq,λk' l h=>k _ _ (km _ _ h),λk h=>n_.2 (.inr h),λk h=>hout k λh' =>h (n_.2 (.inl h'))⟩
theorem wE{core:Den rt.den}{c:Code}{n:Nat}(hc:DOk X mE RetP core c n):DOk X mE RetP (KA core) c (n+1):=by
 refine⟨?_⟩;intro q an s wr R K r h m ok a w Rl hE;have plain:core (q+1) an s wr R K=some r->c.wp X.P (a5t X RetP (q+(n+1)) m s wr K r) a w:=λh=>by have:=hc.run h (Rl.upq (Nat.le_succ q)) hE;rwa[show q+1+n=q+(n+1) by omega]at this
 cases an
 case join rs nm an=>
  unfold KA at h;simp only at h;obtain⟨x,h1,h2⟩:=FU h;obtain⟨s3,w3,hk3,hrs,hout,hR⟩:=sV (X:=X) h2;refine wp_mono (hc.run h1 (Rl.upq (Nat.le_succ q)) hE) ?_;rintro e a' w' ⟨fl,s',wr',hk,hfl⟩;cases fl with
  |ex id=>cases hk|rt x=>cases hk|nm=>obtain⟨rfl,m',ok',R1,k1,k2,k3⟩:=hfl;obtain⟨x',hx,hL⟩:=kF (X:=X) hk;cases hx;obtain⟨m2,ok2,O,R2,T2,hr,km⟩:=hL Rl R1 k1 k3;exact⟨.nm,s3,_,hk3,rfl,MN (q:=q) l7 km hout (hR (F9 _) R2 T2 hr)⟩
 case joinR rs nm an=>
  unfold KA at h;simp only at h;obtain⟨o,h1,h2⟩:=FU h;refine wp_mono (hc.run h1 (Rl.upq (Nat.le_succ q)) hE) ?_;rintro e a' w' ⟨fl,s',wr',hk,hfl⟩;cases fl with
  |ex id=>cases hk|rt x=>cases hk;exact⟨.rt x,_,_,h2,hfl⟩|nm=>obtain⟨rfl,m',ok',R1,k1,k2,k3⟩:=hfl;obtain⟨x',hx,hL⟩:=kF (X:=X) hk;cases hx;obtain⟨s3,w3,hk3,hrs,hout,hR⟩:=sV (X:=X) (show enter q nm rs s x' (λs' w' =>K .nm s' (Vm w' wr))=some r from h2);obtain⟨m2,ok2,O,R2,T2,hr,km⟩:=hL Rl R1 k1 k3;exact⟨.nm,s3,_,hk3,rfl,MN (q:=q) l7 km hout (hR (F9 _) R2 T2 hr)⟩
 all_goals exact plain h
theorem a4g{core:Den rt.den}{c:Code}{n:Nat}(hc:DOk X mE RetP core c n):DOk X mE RetP (a1V core) (.loop c) (2+n):=by
 refine⟨?_⟩;intro q an s wr R K r h m ok a w Rl hE;cases an
 case loop rs hd xid xs an=>
  unfold a1V at h;simp only at h;obtain⟨x0,hk0,hL0⟩:=kF (X:=X) h;obtain⟨m2,ok2,O,R2,T2,hr,km⟩:=hL0 Rl Rl (λ_ _ h=>h) (λ_ _=>rfl);obtain⟨y,hl,hen⟩:=FU hk0;clear hk0 h hL0;obtain⟨s3,w3,hk3,hrs,hout,hR⟩:=sV (X:=X) hen;refine wp_loop_rounds lg ?_;unfold aS at hl;have key:∀(f:Nat) {x:rD hd} {m2:Mp} {ok2:Nat->Ty->Prop} {O:List Nat} {a:Act} {w:World},
    nZ (λx=>b1x core q rs hd xid xs an s x) f x=some y->
    Rel X (CB*q) (CB*q) (fF (FN rs s)) m2 ok2 a w->Tk X (fF (FN rs s)) m2 ok2 w O->a3t w.heap ok2 hd x a.tmps O->(∀k l,m k=some l->m2 k=some l)->
    Code.rounds X.P c (a5t X RetP (q+(2+n)) m s wr K r) f a w:=by
   intro f;induction f with
   |zero=>intro x m2 ok2 O a w h;simp[nZ]at h|succ f ih=>
    intro x m2 ok2 O a w h R2 T2 hr km;rw[rounds_succ];unfold nZ at h;split at h
    ·rename_i x' hf;obtain⟨s1,w1,hcore,_,hout1,hR1⟩:=sV (X:=X) (show enter q hd rs s x _=some _ from hf);obtain⟨m1,R1,km1⟩:=hR1 (F9 _) R2 T2 hr;refine wp_mono (hc.run hcore (R1.upq l7) (λk l h=>km1 _ _ (km _ _ (hE _ _ h)))) ?_;rintro e a' w' ⟨fl,s',wr',hk,hfl⟩;cases fl with
     |rt x=>cases hk|ex id=>
      simp only at hk;cases hb:Nat.beq id xid
      ·simp[hb]at hk
      ·simp only[hb,cond_true]at hk;obtain⟨y',hx,_⟩:=kF (X:=X) hk;cases hx
     |nm=>obtain⟨rfl,m',ok',R1',k1,k2,k3⟩:=hfl;obtain⟨y',hx,hL⟩:=kF (X:=X) hk;cases hx;obtain⟨m4,ok4,O4,R4,T4,hr4,km4⟩:=hL Rl R1' (λk l h=>k1 _ _ (km1 _ _ (km _ _ h))) (λk h=>(k3 k h).trans (hout1 k λh' =>h (k2 k h')));exact ih h R4 T4 hr4 km4
    ·rename_i y' hf;cases h;obtain⟨s1,w1,hcore,_,hout1,hR1⟩:=sV (X:=X) (show enter q hd rs s x _=some _ from hf);obtain⟨m1,R1,km1⟩:=hR1 (F9 _) R2 T2 hr;refine wp_mono (hc.run hcore (R1.upq l7) (λk l h=>km1 _ _ (km _ _ (hE _ _ h)))) ?_;rintro e a' w' ⟨fl,s',wr',hk,hfl⟩;cases fl with
     |rt x=>cases hk|nm=>simp only at hk;obtain⟨y',hx,_⟩:=kF (X:=X) hk;cases hx
     |ex id=>
      simp only at hk;cases hb:Nat.beq id xid
      ·simp[hb]at hk
      ·simp only[hb,cond_true]at hk;have hid:=jy hb;subst hid;obtain⟨rfl,m',ok',R1',k1,k2,k3⟩:=hfl;obtain⟨y',hx,hL⟩:=kF (X:=X) hk;cases hx;obtain⟨m4,ok4,O4,R4,T4,hr4,km4⟩:=hL Rl R1' (λk l h=>k1 _ _ (km1 _ _ (km _ _ h))) (λk h=>(k3 k h).trans (hout1 k λh' =>h (k2 k h')));exact⟨.ex id,s3,_,hk3,rfl,MN (q:=q+1) l7 km4 hout (hR (a5J (Nat.le_succ q)) R4 T4 hr4)⟩
    ·cases h
  exact key lg (x:=x0) hl R2 T2 hr km
 case loopR rs hd xid xs an=>
  unfold a1V at h;simp only at h;obtain⟨x0,hk0,hL0⟩:=kF (X:=X) h;obtain⟨m2,ok2,O,R2,T2,hr,km⟩:=hL0 Rl Rl (λ_ _ h=>h) (λ_ _=>rfl);obtain⟨y,hl,hen⟩:=FU hk0;clear hk0 h hL0;refine wp_loop_rounds lg ?_;unfold X7 at hl;have key:∀(f:Nat) {x:rD hd} {m2:Mp} {ok2:Nat->Ty->Prop} {O:List Nat} {a:Act} {w:World},
    ou (λx=>b1y core q rs hd xid xs an s x) f x=some y->
    Rel X (CB*q) (CB*q) (fF (FN rs s)) m2 ok2 a w->Tk X (fF (FN rs s)) m2 ok2 w O->a3t w.heap ok2 hd x a.tmps O->(∀k l,m k=some l->m2 k=some l)->
    Code.rounds X.P c (a5t X RetP (q+(2+n)) m s wr K r) f a w:=by
   intro f;induction f with
   |zero=>intro x m2 ok2 O a w h;simp[ou]at h|succ f ih=>
    intro x m2 ok2 O a w h R2 T2 hr km;rw[rounds_succ];unfold ou at h;split at h
    ·rename_i x' hf;obtain⟨s1,w1,hcore,_,hout1,hR1⟩:=sV (X:=X) (show enter q hd rs s x _=some _ from hf);obtain⟨m1,R1,km1⟩:=hR1 (F9 _) R2 T2 hr;refine wp_mono (hc.run hcore (R1.upq l7) (λk l h=>km1 _ _ (km _ _ (hE _ _ h)))) ?_;rintro e a' w' ⟨fl,s',wr',hk,hfl⟩;cases fl with
     |rt x=>cases hk|ex id=>
      simp only at hk;cases hb:Nat.beq id xid
      ·simp[hb]at hk
      ·simp only[hb,cond_true]at hk;obtain⟨y',hx,_⟩:=kF (X:=X) hk;cases hx
     |nm=>obtain⟨rfl,m',ok',R1',k1,k2,k3⟩:=hfl;obtain⟨y',hx,hL⟩:=kF (X:=X) hk;cases hx;obtain⟨m4,ok4,O4,R4,T4,hr4,km4⟩:=hL Rl R1' (λk l h=>k1 _ _ (km1 _ _ (km _ _ h))) (λk h=>(k3 k h).trans (hout1 k λh' =>h (k2 k h')));exact ih h R4 T4 hr4 km4
    ·rename_i y' hf;cases h;obtain⟨s3,w3,hk3,hrs,hout,hR⟩:=sV (X:=X) (show enter (q+1) xs rs s y' (λs' w' =>K (.ex xid) s' (Vm w' wr))=some r from hen);obtain⟨s1,w1,hcore,_,hout1,hR1⟩:=sV (X:=X) (show enter q hd rs s x _=some _ from hf);obtain⟨m1,R1,km1⟩:=hR1 (F9 _) R2 T2 hr;refine wp_mono (hc.run hcore (R1.upq l7) (λk l h=>km1 _ _ (km _ _ (hE _ _ h)))) ?_;rintro e a' w' ⟨fl,s',wr',hk,hfl⟩;cases fl with
     |rt x=>cases hk|nm=>simp only at hk;obtain⟨y',hx,_⟩:=kF (X:=X) hk;cases hx
     |ex id=>
      simp only at hk;cases hb:Nat.beq id xid
      ·simp[hb]at hk
      ·simp only[hb,cond_true]at hk;have hid:=jy hb;subst hid;obtain⟨rfl,m',ok',R1',k1,k2,k3⟩:=hfl;obtain⟨y',hx,hL⟩:=kF (X:=X) hk;cases hx;obtain⟨m4,ok4,O4,R4,T4,hr4,km4⟩:=hL Rl R1' (λk l h=>k1 _ _ (km1 _ _ (km _ _ h))) (λk h=>(k3 k h).trans (hout1 k λh' =>h (k2 k h')));exact⟨.ex id,s3,_,hk3,rfl,MN (q:=q+1) l7 km4 hout (hR (a5J (Nat.le_succ q)) R4 T4 hr4)⟩
    ·rename_i r' hf;cases h;obtain⟨s1,w1,hcore,_,hout1,hR1⟩:=sV (X:=X) (show enter q hd rs s x _=some _ from hf);obtain⟨m1,R1,km1⟩:=hR1 (F9 _) R2 T2 hr;refine wp_mono (hc.run hcore (R1.upq l7) (λk l h=>km1 _ _ (km _ _ (hE _ _ h)))) ?_;rintro e a' w' ⟨fl,s',wr',hk,hfl⟩;cases fl with
     |rt x=>cases hk;obtain⟨rfl,hp⟩:=hfl;exact⟨.rt r',[],[],hen,rfl,hp⟩
     |nm=>simp only at hk;obtain⟨y',hx,_⟩:=kF (X:=X) hk;cases hx
     |ex id=>
      simp only at hk;cases hb:Nat.beq id xid
      ·simp[hb]at hk
      ·simp only[hb,cond_true]at hk;obtain⟨y',hx,_⟩:=kF (X:=X) hk;cases hx
    ·cases h
  exact key lg (x:=x0) hl R2 T2 hr km
 all_goals (unfold a1V at h;cases h)
theorem Cb(H:FxOk X)(hret:a8H X rt mE RetP):∀c:Code,DOk X mE RetP (den X.E rt c) c (Ac c)
 | .skip=>wE (n:=0) ⟨λ{q an s wr R K r} h {m ok a w} Rl hE=>wp_skip ⟨.nm,s,wr,h,rfl,OO.here Rl l7⟩⟩| .label l=>wE (n:=0) ⟨λ{q an s wr R K r} h {m ok a w} Rl hE=>wp_label ⟨.nm,s,wr,h,rfl,OO.here Rl l7⟩⟩| .exit id=>wE (n:=0) ⟨λ{q an s wr R K r} h {m ok a w} Rl hE=>wp_exit ⟨.ex id,s,wr,h,rfl,OO.here Rl l7⟩⟩| .ret=>wE (n:=0) ⟨λ{q an s wr R K r} h {m ok a w} Rl hE=>by obtain⟨x,hk,hp⟩:=hret (K:=λx=>K (.rt x) [] []) h;exact wp_ret ⟨.rt x,[],[],hk,rfl,hp Rl hE⟩⟩
 | .region id ops draw=>wE (n:=1) ⟨λ{q an s wr R K r} h {m ok a w} Rl hE=>by
  obtain⟨s',w',hk,⟨t,rfl,hfr⟩,hR⟩:=a0n H h;refine hR (Rl.chmono (kQ _ _)) λm' ok' a' w2 R' k1 k2=>⟨.nm,s',_,hk,rfl,m',ok',?_,k1,λk h=>QU.2 (.inr h),λk h=>hfr k λx hx hkx=>h (QU.2 (.inl ⟨x,hx,hkx⟩))⟩;have e:CB*(q+1)=CB*q+CB:=by rw[Nat.mul_add,lQ]
  rw[e];exact R'.climb (kQ _ _)⟩
 | .seq x y=>by
  have hx:=Cb H hret x;have hy:=Cb H hret y;have:=wE (X:=X) (mE:=mE) (RetP:=RetP) (c:=.seq x y) (n:=Ac x+Ac y) (core:=λq a s w R K=>den X.E rt x q a.l s w R λfl s' w' =>match fl with
   | .nm=>den X.E rt y (q+Ac x) a.r s' w' R K| .ex id=>K (.ex id) s' w'
   | .rt r=>K (.rt r) s' w') (DOk.mk λ{q an s wr R K r} h {m ok a w} Rl hE=>by
    refine wp_seq (wp_mono (hx.run h Rl hE) ?_);rintro e a' w' ⟨fl,s',wr',hk,hfl⟩;cases fl with
    |nm=>obtain⟨rfl,m',ok',R1,k1,k2,k3⟩:=hfl;refine wp_mono (hy.run hk R1 (λk l h=>k1 _ _ (hE _ _ h))) ?_;rintro e a2 w2 ⟨fl,s2,wr2,hk2,hfl2⟩;exact⟨fl,s2,wr2,hk2,hfl2.trans k1 k2 k3 l7⟩
    |ex id=>obtain⟨rfl,hs⟩:=hfl;exact⟨.ex id,s',wr',hk,rfl,hs.up l7⟩
    |rt x=>obtain⟨rfl,hs⟩:=hfl;exact⟨.rt x,s',wr',hk,rfl,hs⟩)
  rw[show Ac (.seq x y)=Ac x+Ac y+1 by simp only[Ac];omega];exact this
 | .block id x=>by
  have hx:=Cb H hret x;have:=wE (X:=X) (mE:=mE) (RetP:=RetP) (c:=.block id x) (n:=Ac x) (core:=λq a s w R K=>den X.E rt x q a.l s w R λfl s' w' =>match fl with
   | .nm=>K .nm s' w'| .ex j=>bif Nat.beq j id then K .nm s' w' else K (.ex j) s' w'
   | .rt r=>K (.rt r) s' w') (DOk.mk λ{q an s wr R K r} h {m ok a w} Rl hE=>by
    refine wp_block (wp_mono (hx.run h Rl hE) ?_);rintro e a' w' ⟨fl,s',wr',hk,hfl⟩;cases fl with
    |nm=>obtain⟨rfl,hs⟩:=hfl;exact⟨.nm,s',wr',hk,rfl,hs⟩
    |ex j=>
     obtain⟨rfl,hs⟩:=hfl;simp only at hk;cases hb:Nat.beq j id
     ·simp only[hb,cond_false]at hk;have hne:j≠id:=λe=>by subst e;simp at hb
      simp only[Exit.inBlock,hne,if_false];exact⟨.ex j,s',wr',hk,rfl,hs⟩
     ·simp only[hb,cond_true]at hk;have:=jy hb;subst this;simp only[Exit.inBlock,if_true];exact⟨.nm,s',wr',hk,rfl,hs⟩
    |rt x=>obtain⟨rfl,hs⟩:=hfl;exact⟨.rt x,s',wr',hk,rfl,hs⟩)
  rw[show Ac (.block id x)=Ac x+1 by simp only[Ac];omega];exact this
 | .cond c x y=>by
  have hx:=Cb H hret x;have hy:=Cb H hret y;have:=wE (X:=X) (mE:=mE) (RetP:=RetP) (c:=.cond c x y) (n:=Ac x+Ac y) (core:=λq a s w R K=>(rX c λv=>Cmd.ret v:Cmd V).runK s ([],[]) λv s' _=>match v with
   | .b t=>l9 t (den X.E rt x q a.l s' w R K) (den X.E rt y (q+Ac x) a.r s' w R K)
   |_=>none) (DOk.mk λ{q an s wr R K r} h {m ok a w} Rl hE=>by
    obtain⟨v,s',tr,he,hk⟩:=qM h;obtain⟨hv,hs⟩:=vG (aI Rl (K:=λv=>Cmd.ret v) (x:=c) (Q:=λv S' =>pg ⟨w.heap,ok,m⟩ v (a.eval c)/\S' =fF s) λv hv=>⟨hv,rfl⟩) he;cases v<;>try (simp at hk;done)
    case b t=>
     have R1:Rel X (CB*q) (CB*q) (fF s') m ok a w:=by rw[hs];exact Rl
     refine wp_cond_split (SC hv) (λht=>?_) (λht=>?_)
     ·subst ht;refine wp_mono (hx.run (show den X.E rt x q an.l s' wr R K=some r from hk) R1 hE) ?_;rintro e a2 w2 ⟨fl,s2,wr2,hk2,hfl2⟩;exact⟨fl,s2,wr2,hk2,hfl2.trans (λ_ _ h=>h) (λ_ h=>h) (λk _=>by rw[hs]) l7⟩
     ·subst ht;refine wp_mono (hy.run (show den X.E rt y (q+Ac x) an.r s' wr R K=some r from hk) (R1.upq l7) hE) ?_;rintro e a2 w2 ⟨fl,s2,wr2,hk2,hfl2⟩;exact⟨fl,s2,wr2,hk2,hfl2.trans (λ_ _ h=>h) (λ_ h=>h) (λk _=>by rw[hs]) l7⟩)
  rw[show Ac (.cond c x y)=Ac x+Ac y+1 by simp only[Ac];omega];exact this
 | .loop x=>by have hx:=Cb H hret x;have:=wE (a4g hx);rw[show Ac (.loop x)=2+Ac x+1 by simp only[Ac];omega];exact this| .goto l=>⟨λh=>by simp[den]at h⟩| .scope x=>⟨λh=>by simp[den]at h⟩| .rangeFunc ..=>⟨λh=>by simp[den]at h⟩| .refuse ..=>⟨λh=>by simp[den]at h⟩
end
end Go.GP
namespace Go.GP
structure EnvOk (P:Program) (E:Env):Prop where
 nt:64*E.nt<=999936
 tt:∀t i,fH E.tt t=some i->TiOk P t i
 fs:∀p∈E.fs,pR P E.gl p.1 p.2
 eqs:∀t sh,fH E.eqs t=some sh->MI P t sh
 ms:∀p∈E.ms,Ff P p.1.1 p.1.2 p.2.1 p.2.2
 fn:∀p∈E.fs,∃fn,P.funcs[p.1]? =some fn/\fn.body.isSome=true/\(fn.name== "runtime.NumGoroutine")=false
theorem Qz{C:Cx} :∀{a:List V} {xs:List Value},jK C a xs->a.length=xs.length
 |[],_,h=>by simp only[jK]at h;simp[h]|c::a,_,⟨v,r,e,h1,h2⟩=>by subst e;simp[Qz h2]
def SL(tmps:Array Value):ResultVar->Sem Value
 | .tmp t=>pure (tmps.getD t undef)| .cell a t=>do loadVar t (←asAddr (tmps.getD a undef))
def a8F(h:Array Obj)(tm:Nat->Value):List Nat->List Value->List Nat->Prop
 |[],os,B=>os=[]/\B=[]|n::ns,os,B=>(∃b arr T os' B',tm n= .pointer (some ⟨b,0,none⟩)/\h[b]? =some (.cells arr T (0,0))/\os= .agg arr::os' /\B=b::B' /\a8F h tm ns os' B')\/
  (∃t b arr T os' B',tm n= .iface t (.pointer (some ⟨b,0,none⟩))/\h[b]? =some (.cells arr T (0,0))/\os= .agg arr::os' /\B=b::B' /\a8F h tm ns os' B')\/
  (∃l os',Loc.view l none (tm n)/\os=tm n::os' /\a8F h tm ns os' B)
def j_(h:Array Obj)(ok:Nat->Ty->Prop):List MG->List Value->Prop
 |[],vs=>vs=[]|m::ms,vs=>∃v r cs x O,vs=v::r/\SB m.1 v cs/\qy h ok m.2 none x cs O/\j_ h ok ms r
theorem YG{h:Array Obj}{ok:Nat->Ty->Prop} :∀{ms:List MG} {x:iR ms} {vs:List Value} {O:List Nat},wo h ok ms x vs O->j_ h ok ms vs
 |[],_,_,_,e=>e.1|[m],x,_,_,⟨v,cs,e,hg,hr⟩=>⟨v,[],cs,x,_,e,hg,hr,rfl⟩|m::m' ::r,x,_,_,⟨v,cs,vs',O1,O2,e,eo,hg,h1,h2⟩=>⟨v,vs',cs,x.1,O1,e,hg,h1,YG h2⟩
section
variable {X:Fx} {cl ch:Nat} {m:Mp} {a:Act} {w:World}
theorem LP{α:Type}{Q:α->Sm->Prop}(H:FxOk X){S:Sm}{ok:Nat->Ty->Prop}(R:Rel X cl ch S m ok a w):∀(l:List ResultVar) {K:List V->Cmd α}
  (hK:∀vs rvs,jK ⟨w.heap,ok,m⟩ vs rvs->rvs.length=l.length->(l.mapM (SL a.tmps)).run X.P w= .ok rvs w->(K vs).post S Q),(SK X.E l K).post S Q
 |[],K,hK=>hK [] [] rfl rfl A7
 | .tmp t::l,K,hK=>by unfold SK;refine fM λhb=>gK ?_;refine LP H R l λvs rvs hr hl hrun=>?_;refine hK _ (a.tmps.getD t undef::rvs) ⟨_,_,rfl,R.slot t (NZ hb),hr⟩ (by simp[hl]) ?_;simp only[List.mapM_cons,G5,SL,Y8,I7,hrun]
 | .cell p t::l,K,hK=>by unfold SK;refine fM λhb=>gK ?_;refine Jw H R (R.slot p (NZ hb)) λv u ad hv hx hload=>?_;refine LP H R l λvs rvs hr hl hrun=>?_;refine hK _ (u::rvs) ⟨_,_,rfl,hv,hr⟩ (by simp[hl]) ?_;simp only[List.mapM_cons,G5,SL,hx,asAddr,Y8,I7,hload,hrun]
theorem Hf{α:Type}{Q:α->Sm->Prop} :∀(ns:List Nat) {S:Sm} {ok:Nat->Ty->Prop} {T:List Nat} {K:List V->Cmd α} (R:Rel X cl ch S m ok a w) (hT:Tk X S m ok w T)
  (hK:∀S' ws os B,Rel X cl ch S' m ok a w->Tk X S' m ok w (T++B)->a8F w.heap (λn=>a.tmps.getD n Go.undef) ns os B->jK ⟨w.heap,ok,m⟩ ws os->(K ws).post S' Q),(RZ ns K).post S Q
 |[],S,ok,T,K,R,hT,hK=>hK S [] [] [] R (by simpa using hT) ⟨rfl,rfl⟩ rfl|n::ns,S,ok,T,K,R,hT,hK=>by
  unfold RZ;refine iG λhb=>gK ?_;have hsl:=R.slot n (by rw[fU]at hb;exact hb);split<;>try trivial
  ·rename_i bx hSn;rw[hSn]at hsl;obtain⟨blk,hm,hv⟩:=hsl;refine gK ?_;split<;>try trivial
   rename_i cs hS;obtain⟨blk',arr,Ty,hm',hh,hl⟩:=R.own_cells hS;simp only at hm;rw[hm]at hm';cases hm';refine nJ ?_;have hT1:Tk X (upd S (bf+bx) .dead) m ok w (T++[blk]):=hT.kill R bx (λb hb=>by simp at hb;subst hb;simp[Y5,hS,hm]) A7;refine Hf ns (R.kill bx) hT1 λS' ws os B R' T' ho hw=>?_;exact hK S' _ (.agg arr::os) (blk::B) R' (by simpa using T') (.inl ⟨blk,arr,Ty,os,B,hv,hh,rfl,rfl,ho⟩) ⟨_,_,rfl,⟨arr,rfl,hl⟩,hw⟩
  ·rename_i t u hSn;rw[hSn]at hsl;obtain⟨z,hz,_,hsl⟩:=hsl;split<;>try trivial
   rename_i bx;obtain⟨blk,hm,hv⟩:=hsl;refine gK ?_;split<;>try trivial
   rename_i cs hS;obtain⟨blk',arr,Ty,hm',hh,hl⟩:=R.own_cells hS;simp only at hm;rw[hm]at hm';cases hm';refine nJ ?_;have hT1:Tk X (upd S (bf+bx) .dead) m ok w (T++[blk]):=hT.kill R bx (λb hb=>by simp at hb;subst hb;simp[Y5,hS,hm]) A7;refine Hf ns (R.kill bx) hT1 λS' ws os B R' T' ho hw=>?_;exact hK S' _ (.agg arr::os) (blk::B) R' (by simpa using T') (.inr (.inl ⟨t,blk,arr,Ty,os,B,hv▸hz,hh,rfl,rfl,ho⟩)) ⟨_,_,rfl,⟨arr,rfl,hl⟩,hw⟩
  ·rename_i bx hSn;rw[hSn]at hsl;obtain⟨l,hm,hv⟩:=hsl;refine Hf ns R hT λS' ws os B R' T' ho hw=>?_;exact hK S' _ (a.tmps.getD n Go.undef::os) B R' T' (.inr (.inr ⟨l,os,hv,rfl,ho⟩)) ⟨_,_,rfl,⟨l,hm,hv⟩,hw⟩
end
theorem OJ{l:Loc}{v:Value}(h:l.view none v):(∃a n c,v= .slice a n c)\/∃b,v= .map (some b):=by
 cases l with
 |nil=>exact .inl ⟨_,_,_,h⟩|st b=>cases h|mp b=>exact .inr ⟨_,h⟩|arr blk off len cap sz=>exact .inl ⟨_,_,_,h⟩
theorem a7L{h h0:Array Obj}{ok0:Nat->Ty->Prop}{tm:Nat->Value} :∀(ms:List MG) (k:Nat) {vals:List Value} {os:List Value} {B:List Nat},
  j_ h0 ok0 ms vals->(∀i v,k+i∈mD ms k->vals[i]? =some v->tm (k+i)=v)->a8F h tm (mD ms k) os B->zT h ms vals os B:=by
 have tail:∀{m:List MG} {k:Nat} {v:Value} {r:List Value},(∀i u,k+i∈mD m (k+1)->(v::r)[i]? =some u->tm (k+i)=u)->∀i u,(k+1)+i∈mD m (k+1)->r[i]? =some u->tm ((k+1)+i)=u:=by intro m k v r h i u hi hu;have e:k+(i+1)=k+1+i:=l7;have:=h (i+1) u (by rw[e];exact hi) (by simpa using hu);rwa[e]at this
 have tail2:∀{m:List MG} {k:Nat} {v:Value} {r:List Value},(∀i u,k+i∈k::mD m (k+1)->(v::r)[i]? =some u->tm (k+i)=u)->(tm k=v)/\∀i u,(k+1)+i∈mD m (k+1)->r[i]? =some u->tm ((k+1)+i)=u:=λh=>
  ⟨by have:=h 0 _ A7 rfl;simpa using this,tail (λi u hi hu=>h i u (U4 _ hi) hu)⟩
 intro ms;induction ms with
 |nil=>intro k vals os B hs ht ho;simp only[j_]at hs;subst hs;exact ho|cons m ms ih=>
  intro k vals os B hs ht ho;obtain⟨v,r,cs,x,O,rfl,hg,hr,hs⟩:=hs;obtain⟨g,m⟩:=m;cases m
  case box md=>
   unfold mD at ht ho;obtain⟨htv,ht⟩:=tail2 ht;obtain⟨blk,arr,T,O',hc,_⟩:=hr;have hv:v= .pointer (some ⟨blk,0,none⟩)\/∃ar,v= .agg ar:=by
    cases g
    ·left;have hg:cs=[v]:=hg;rw[hg]at hc;simpa using hc
    ·right;obtain⟨ar,e,_⟩:=hg;exact⟨ar,e⟩
   rcases ho with⟨b,arr,T,os',B',e,hh,e1,e2,ho'⟩|⟨t,b,arr,T,os',B',e,_⟩|⟨l,os',e,_⟩
   ·exact⟨b,arr,T,os',B',htv.symm.trans e,hh,e1,e2,ih (k+1) hs ht ho'⟩
   ·rw[htv]at e;rcases hv with rfl|⟨_,rfl⟩<;>cases e
   ·rcases OJ e with⟨_,_,_,e⟩|⟨_,e⟩<;>rw[htv]at e<;>rcases hv with rfl|⟨_,rfl⟩<;>cases e
  case ownb u=>
   unfold mD at ht ho;obtain⟨htv,ht⟩:=tail2 ht;obtain⟨l,v',hc,hvv,_⟩:=hr;have hv:((∃a n c,v= .slice a n c)\/∃b,v= .map (some b))\/∃ar,v= .agg ar:=by
    cases g
    ·left;have hg:cs=[v]:=hg;rw[hg]at hc;simp only[H5,and_true]at hc;subst hc;exact OJ hvv
    ·right;obtain⟨ar,e,_⟩:=hg;exact⟨ar,e⟩
   rcases ho with⟨b,arr,T,os',B',e,_⟩|⟨t,b,arr,T,os',B',e,_⟩|⟨l,os',e,rfl,ho'⟩
   ·rw[htv]at e;rcases hv with(⟨_,_,_,rfl⟩|⟨_,rfl⟩)|⟨_,rfl⟩<;>cases e
   ·rw[htv]at e;rcases hv with(⟨_,_,_,rfl⟩|⟨_,rfl⟩)|⟨_,rfl⟩<;>cases e
   ·rw[htv];exact⟨os',rfl,ih (k+1) hs ht ho'⟩
  case ifc t md=>
   cases md
   case box md=>
    unfold mD at ht ho;obtain⟨htv,ht⟩:=tail2 ht;obtain⟨u,hc,blk,arr,T,O',hu,_⟩:=hr;have hv:v= .iface t u\/∃ar,v= .agg ar:=by
     cases g
     ·left;have hg:cs=[v]:=hg;rw[hg]at hc;simpa using hc
     ·right;obtain⟨ar,e,_⟩:=hg;exact⟨ar,e⟩
    rcases ho with⟨b,arr,T,os',B',e,_⟩|⟨t,b,arr,T,os',B',e,hh,e1,e2,ho'⟩|⟨l,os',e,_⟩
    ·rw[htv]at e;rcases hv with rfl|⟨_,rfl⟩<;>cases e
    ·exact⟨t,b,arr,T,os',B',htv.symm.trans e,hh,e1,e2,ih (k+1) hs ht ho'⟩
    ·rcases OJ e with⟨_,_,_,e⟩|⟨_,e⟩<;>rw[htv]at e<;>rcases hv with rfl|⟨_,rfl⟩<;>cases e
   all_goals
    unfold mD at ht ho;exact ih (k+1) hs (tail ht) ho
  all_goals
   unfold mD at ht ho;exact ih (k+1) hs (tail ht) ho
theorem a3a:∀{a b:List Nat},b3c a b=true->∀n∈a,n∈b
 |[],_,_,_,h=>by cases h|a::r,b,h,n,hn=>by
  unfold b3c at h;cases hb:FO a b<;>rw[hb]at h
  ·cases h
  ·rcases A8.1 hn with rfl|hn
   ·exact Zy hb
   ·exact a3a h n hn
theorem TZ:∀{ms:List MG} {k n:Nat},n∈mD ms k->k<=n/\n<k+ms.length
 |[],k,n,h=>by cases h|(g,m)::ms,k,n,h=>by
  have key:n∈k::mD ms (k+1)->k<=n/\n<k+(ms.length+1):=λh=>by
   rcases A8.1 h with rfl|h
   ·omega
   ·have:=TZ h;omega
  cases m
  case box md=>exact key h
  case ownb u=>exact key h
  case ifc t md=>
   cases md
   case box md=>exact key h
   all_goals exact key (U4 _ h)
  all_goals exact key (U4 _ h)
theorem a2H{P:Program}{w:World}{fn:Func}{tmps:Array Value}{rvs:List Value}(h:(fn.results.toList.mapM (SL tmps)).run P w= .ok rvs w):
  ∃v,(results fn tmps).run P w= .ok v w/\a3r rvs.length v rvs:=by
 have hm:(fn.results.mapM (SL tmps)).run P w= .ok rvs.toArray w:=by rw[Array.mapM_eq_mapM_toList];simp[h]
 have e:results fn tmps=(do let vs ←fn.results.mapM (SL tmps);pure (if h:vs.size=1 then vs[0]else .tuple vs):Sem Value):=by unfold results;congr 1
 rw[e,G5,hm];clear h hm e;rcases rvs with _|⟨x,_|⟨y,r⟩⟩
 ·exact⟨.tuple #[],rfl,rfl,rfl⟩
 ·exact⟨x,rfl,rfl,rfl⟩
 ·exact⟨.tuple (x::y::r).toArray,A7,rfl,rfl⟩
theorem a3K{P:Program}{E:Env}{f:FuncId}{fn:Func}{c:Code}{ps:List MG}{rt:Ret}{an:Ann}{F:iR ps->Option rt.den}(hf:P.funcs[f]? =some fn)(hb:fn.body=some c)(hnt:fn.ntmps=E.nt)
  (hres:fn.results.toList=rt.rs.map (·.1)) (hE:EnvOk P E) (hF:∀x r,F x=some r->b3R E ps rt c an x=some r):
  pR P E.gl f ⟨ps,rt.rs.map (·.2),rt.outs.map (·.2),F⟩:=by
 intro w ok O vals x r hlt hnd hO hgl hrel hfn;have hden:=hF x r hfn;clear hfn hF;let X:Fx:=⟨P,E,w,O,ok,vals.toArray++Array.replicate (E.nt -vals.length) undef⟩;have H:FxOk X:=⟨hE.nt,hE.tt,hE.fs,hE.eqs,hE.ms,hE.fn⟩;refine calls_of_wp hf hb ?_;simp only[jQ];rw[hnt];generalize hact:({ tmps:=vals.toArray++Array.replicate (E.nt -vals.length) undef,defers:=[] } :Act)=act;have hvl:vals.length=ps.length:=NT hrel;unfold b3R at hden;cases hle00:(Nat.ble ps.length E.nt&&LW (rt.outs.map (·.1)) (mD ps 0)&&b3c (rt.outs.map (·.1)) E.kp)
 ·simp only[hle00,cond_false]at hden;cases hden
 simp only[hle00,cond_true]at hden;simp only[C9]at hle00;obtain⟨⟨hle0,hsame⟩,hsub⟩:=hle00;have hsame:=LX hsame;have hsub:=a3a hsub;have hle1:=X4 hle0;obtain⟨u,s,tr,he,hk⟩:=qM hden;have hsize:act.tmps.size=E.nt:=by subst hact;simp;omega
 have hslots:∀n,n<vals.length->act.tmps.getD n undef=vals.getD n undef:=λn hn=>by subst hact;simp only[Y7];rw[jm (by simpa using hn)];simp[AO]
 have R0:Rel X 0 0 (fF []) nom ok act w:={ size:=hsize,nodef:=(by subst hact;rfl),slot:=λn _=>trivial,box:=λn=>trivial,inj:=λn n' b h=>(by simp[fF,Y5]at h),nd:=λn=>(by simp[fF,Y5]),sep:=λn b h=>(by simp[fF,Y5]at h),okLt:=hlt,okIn:=λb t h=>h,okOut:=λb t h=> .inl h,frame:=Frame'.refl w O,fresh:=λ_ _ _=>rfl,strict:=λ_ _=>rfl,gl:=hgl,kept:=λn _=>by subst hact;rfl };have T0:Tk X (fF []) nom ok w (O++[]):=⟨by simpa using hnd,λb hb=>by simp only[H9]at hb;obtain⟨h1,h2⟩:=hO b hb;exact⟨h1,h2,.inr hb,λn e=>by simp[fF,Y5]at e⟩⟩
 have key:=vG (Jn (T:=[]) ps (Q:=λ_ S' =>∃m' vs,Rel X 0 CB S' m' ok act w/\jK ⟨w.heap,ok,m'⟩ vs vals) R0 (F9 0) T0 hrel
  (K:=λvs n=>bif Nat.ble n CB then XI (List.range vs.length) vs else .fail) λS1 m1 vs n1 ch1 R1 c1 T1 k1 s1 l1 e1=>fM λhb=>by
   have hn1:=X4 hb;have hvs:=Qz l1;have hr:vals=(List.range vs.length).map λn=>act.tmps.getD n Go.undef:=by
    apply nH
    ·simp[hvs]
    ·intro i h1 h2;simp only[List.getElem_map,List.getElem_range];rw[hslots i h1,AO,dX h1];rfl
   refine Uo _ (R1.chmono (ch' :=CB) l7) (by rw[←hr];exact l1) λS' R' =>⟨m1,vs,R',l1⟩) he
 obtain⟨mE,vs,RE,hvs⟩:=key;have Rq:Rel X (CB*1) (CB*1) (fF s) mE ok act w:=(RE.climb (nY _)).chmono (by rw[lQ];exact F9 _);let RetP:rt.den->Act->World->Prop:=λr a' w' =>a'.defers=[]/\∃v,(results fn a'.tmps).run P w' = .ok v w' /\
  ∃v' ok' O' rs os B,(Ending.returned v)= .returned v' /\Frame' w w' O/\(∀b t,ok b t->ok' b t)/\(∀b t,ok' b t->b<w'.heap.size/\(ok b t\/w.heap.size<=b\/b∈O))/\
   (O' ++B).Nodup/\(∀b∈O' ++B,(∀t,¬ok' b t)/\b<w'.heap.size/\(w.heap.size<=b\/b∈O))/\
   a3r (rt.rs.map (·.2)).length v' rs/\zT w'.heap ps vals os B/\wo w'.heap ok' (rt.rs.map (·.2)++rt.outs.map (·.2)) r (rs++os) O'
 have hret:a8H X rt mE RetP:=by
  intro s R K r h;obtain⟨x,s',tr,he,hk⟩:=qM h;refine⟨x,hk,λ{cl ch m ok1 a1 w1} R1 km=>?_⟩;refine vG (Q:=λx _=>RetP x a1 w1) ?_ he;unfold b4x;refine LP H R1 _ λvs1 rvs hv1 hl1 hrun=>Hf (T:=[]) _ R1 Tk.nil λS2 ws os B R2 T2 hout hws=>?_;refine a1u _ R2 T2 (JJ hv1 hws) λS3 ok3 y O3 R3 T3 k3 s3 hy=>?_;simp only[H6]at T3;have hp:(B++O3).Perm (O3++B):=qX;rw[←hres]at hrun;obtain⟨v,hv,hrv⟩:=a2H hrun;refine⟨R3.nodef,v,hv,v,ok3,O3,rvs,os,B,rfl,R3.frame,R3.okIn,λb t hb=>⟨R3.okLt b t hb,R3.okOut b t hb⟩,hp.nodup_iff.1 T3.nodup,λb hb=>?_,?_,a7L ps 0 (YG hrel) (λi v hi hv=>?_) (by rw[hsame]at hout;exact hout),hy⟩
  ·obtain⟨f1,f2,f3,_⟩:=T3.free b (hp.mem_iff.2 hb);exact⟨f1,f2,f3⟩
  ·refine⟨by rw[hl1];simp,hrv.2⟩
  ·have h1:=R1.kept (0+i) (hsub _ (by rw[hsame];exact hi));have hlt:=(TZ hi).2;rw[h1];have h2:=hslots (0+i) (by rw[hvl];omega);rw[←hact]at h2;refine h2.trans ?_;rw[AO,dM,hv];rfl
 have hwp:=(Cb H hret c).run hk Rq (λ_ _ h=>h);refine wp_mono hwp ?_;rintro e a' w' ⟨fl,s',wr',hk2,hfl⟩;cases fl with
 |ex id=>cases hk2|rt y=>cases hk2;obtain⟨rfl,h1,v,h2,h3⟩:=hfl;exact⟨h1,v,h2,h3⟩
 |nm=>obtain⟨rfl,m',ok',R',k1,_,_⟩:=hfl;obtain⟨y,hy,hp⟩:=hret (K:=some) hk2;cases hy;obtain⟨h1,v,h2,h3⟩:=hp R' k1;exact⟨h1,v,h2,h3⟩
def zV:V->Value->Bool
 | .undef,v=>v.oneCell'| .b x,.bool y=>x==y| .i k n,.int k' n' =>decide (k=k')&&decide (n=n')| .s l,.string s=>decide (l=s.data.toList)| .nl,.slice none 0 0=>true| .sl t xs,.map none=>t.isEnt&&xs.isEmpty|_,_=>false
def zL:List V->List Value->Bool
 |[],[]=>true|c::cs,v::vs=>zV c v&&zL cs vs|_,_=>false
theorem b4X{C:Cx}{c:V}{v:Value}(h:zV c v=true):zf C c v/\v.oneCell' =true:=by
 unfold zV at h;split at h
 ·exact⟨trivial,h⟩
 ·simp at h;subst h;exact⟨rfl,rfl⟩
 ·simp at h;obtain⟨rfl,rfl⟩:=h;exact⟨rfl,rfl⟩
 ·rename_i l s;have:=of_decide_eq_true h;subst this;exact⟨rfl,rfl⟩
 ·exact⟨rfl,rfl⟩
 ·rename_i t xs;simp only[C9,List.isEmpty_iff]at h;obtain⟨h1,rfl⟩:=h;exact⟨(a4E h1).2 ⟨none,rfl,λ_=>rfl,λ_ h=>nomatch h⟩,rfl⟩
 ·cases h
theorem a6K{C:Cx} :∀{cs:List V} {vs:List Value},zL cs vs=true->iP C cs vs
 |[],[],_=>rfl|[],_::_,h=>by simp[zL]at h|_::_,[],h=>by simp[zL]at h|c::cs,v::vs,h=>by unfold zL at h;simp only[C9]at h;obtain⟨h1,h2⟩:=b4X (C:=C) h.1;exact⟨v,vs,rfl,h1,h2,a6K h.2⟩
def QA:(t:Ty)->List Value->Option (List Value)
 | .bool,.bool b::r=>bif b then none else some r| .int k,.int k' n::r=>bif decide (k=k')&&decide (n=0)then some r else none| .str,.string s::r=>bif decide (s.data.toList=[])then some r else none| .sl t,.slice none 0 0::r=>bif t.isEnt then none else some r| .sl t,.map none::r=>bif t.isEnt then some r else none
 | .prod a b,vs=>match QA a vs with|some r=>QA b r|none=>none
 | .unit,vs=>some vs|_,_=>none
theorem SE:∀{t:Ty} {vs r:List Value},QA t vs=some r->∃cs,vs=cs++r/\mJ #[] (λ_ _=>False) t t.zero cs
 | .bool,vs,r,h=>by
  cases vs with
  |nil=>cases h|cons v vs=>
   cases v<;>try (cases h;done)
   case bool b=>
    cases b
    ·simp only[QA,cond_false,G8]at h;subst h;exact⟨[.bool false],rfl,rfl⟩
    ·simp[QA]at h
 | .int k,vs,r,h=>by
  cases vs with
  |nil=>cases h|cons v vs=>
   cases v<;>try (cases h;done)
   case int k' n=>
    unfold QA at h;cases hc:(decide (k=k')&&decide (n=0))
    ·simp[hc]at h
    ·simp only[hc,cond_true,G8]at h;simp only[C9,decide_eq_true_eq]at hc;obtain⟨rfl,rfl⟩:=hc;subst h;exact⟨[.int k 0],rfl,rfl⟩
 | .str,vs,r,h=>by
  cases vs with
  |nil=>cases h|cons v vs=>
   cases v<;>try (cases h;done)
   case string s=>
    unfold QA at h;cases hc:decide (s.data.toList=[])
    ·simp only[hc,cond_false]at h;cases h
    ·simp only[hc,cond_true,G8]at h;subst h;have he:=of_decide_eq_true hc;refine⟨[.string s],rfl,?_⟩;show[Value.string s]=[Value.string ⟨(Ty.zero .str).toArray⟩];congr 2;obtain⟨⟨l⟩⟩:=s;simp only at he;subst he;rfl
 | .sl t,vs,r,h=>by
  cases vs with
  |nil=>cases h|cons v vs=>
   cases v<;>try (cases h;done)
   case slice a n c=>
    cases a<;>try (cases h;done)
    cases n<;>try (cases h;done)
    cases c<;>try (cases h;done)
    cases ht:t.isEnt<;>simp only[QA,ht,cond_true,cond_false,G8]at h
    ·subst h;exact⟨[.slice none 0 0],rfl,.inl ⟨ht,none,0,rfl,F9 _,λi x hi=>by simp[Ty.zero]at hi⟩⟩
    ·cases h
   case map mv=>
    cases mv<;>try (cases h;done)
    cases ht:t.isEnt<;>simp only[QA,ht,cond_true,cond_false,G8]at h
    ·cases h
    ·subst h;exact⟨[.map none],rfl,.inr ⟨ht,none,rfl,λ_=>rfl,λ_ h=>nomatch h⟩⟩
 | .ent ..,vs,r,h=>by
  cases vs with
  |nil=>cases h|cons v vs=>cases v<;>cases h
 | .unit,vs,r,h=>by
  have:vs=r:=by cases vs<;>(simp only[QA,G8]at h;exact h)
  subst this;exact⟨[],rfl,rfl⟩
 | .prod a b,vs,r,h=>by
  have h' :(match QA a vs with|some r=>QA b r|none=>none)=some r:=by cases vs<;>exact h
  cases ha:QA a vs with
  |none=>simp[ha]at h'|some r1=>simp only[ha]at h';obtain⟨c,rfl,h1⟩:=SE ha;obtain⟨d,rfl,h2⟩:=SE h';exact⟨c++d,A7,c,d,rfl,h1,h2⟩
def a7c:List (Nat×Nat)->List Field->Bool
 |[],[]=>true|(t,o)::r,f::fs=>Nat.beq f.type t&&Nat.beq f.offset o&&a7c r fs|_,_=>false
theorem YW:∀{a:List (Nat×Nat)} {b:List Field},a7c a b=true->b.map (λf=>(f.type,f.offset))=a
 |[],[],_=>rfl|[],_::_,h=>by simp[a7c]at h|_::_,[],h=>by simp[a7c]at h|(t,o)::r,f::fs,h=>by unfold a7c at h;simp only[C9]at h;have h1:=jy h.1.1;have h2:=jy h.1.2;simp[YW h.2,←h1,←h2]
def b3h(P:Program)(t:TypeId)(td:TD):Bool:=
 match P.underlying t with
 |none=>false
 |some d=>match td,d with
  | .bool,.bool=>true| .int k,.int k' =>decide (k=k')| .str,.string=>true| .sl e,.slice e' =>Nat.beq e e'| .ptr e,.pointer e' =>Nat.beq e e'| .struct fs,.struct fields=>a7c fs fields.toList| .arr n e,.array n' e' =>Nat.beq n n' &&Nat.beq e e'| .map k e,.map k' e' =>Nat.beq k k' &&Nat.beq e e'| .other,.struct _=>false| .other,.array _ _=>false| .other,_=>true|_,_=>false
theorem a5j{P:Program}{t:TypeId}{td:TD}(h:b3h P t td=true):b3i P t td:=by
 unfold b3h at h;split at h
 ·cases h
 ·rename_i d hd;split at h<;>try (cases h;done)
  ·exact hd
  ·have:=of_decide_eq_true h;subst this;exact hd
  ·exact hd
  ·have:=jy h;subst this;exact hd
  ·have:=jy h;subst this;exact hd
  ·rename_i fs fields;exact⟨fields,hd,YW h⟩
  ·simp only[C9]at h;have h1:=jy h.1;have h2:=jy h.2;subst h1;subst h2;exact hd
  ·simp only[C9]at h;have h1:=jy h.1;have h2:=jy h.2;subst h1;subst h2;exact hd
  ·rename_i h1 h2;refine⟨d,hd,?_⟩;cases d<;>first|trivial|exact absurd rfl (h1 _)|exact absurd rfl (h2 _ _)
def a6L(inf:TypeInfo)(i:TI):Bool:=
 bif Nat.beq i.zero.length i.size then(match inf.zero with|some z=>zL i.zero z.cells.toList|none=>false)else true
def b5I(inf:TypeInfo)(i:TI):Bool:=
 match i.ty with
 |none=>true|some u=>Nat.beq u.size i.size&&(match inf.zero with|some z=>(match QA u z.cells.toList with|some []=>true|_=>false)|none=>false)
def b5c(inf:TypeInfo)(i:TI):Bool:=
 match inf.zero with
 |none=>true|some z=>bif bM i.td then(match z with| .agg _=>true|_=>false)else z.oneCell'
def b3l(P:Program)(t:TypeId)(i:TI):Bool:=
 match P.info? t with
 |none=>false|some inf=>Nat.beq inf.size i.size&&Nat.beq inf.bytes i.bytes&&a6L inf i&&b5I inf i&&b3h P t i.td&&(bM i.td || Nat.beq i.size 1)&&b5c inf i
theorem a5k{P:Program}{t:TypeId}{i:TI}(h:b3l P t i=true):TiOk P t i:=by
 unfold b3l at h;split at h
 ·cases h
 ·rename_i inf hi;simp only[C9,lL]at h;obtain⟨⟨⟨⟨⟨⟨h1,h2⟩,h3⟩,h4⟩,h5⟩,h6⟩,h8⟩:=h;refine⟨⟨inf,hi,jy h1,jy h2,λhl=>?_,λu hu=>?_⟩,a5j h5,λha=>?_,λinf' z hinf hz=>?_⟩
  ·unfold a6L at h3;rw[hl,show Nat.beq i.size i.size=true from Nat.beq_refl _]at h3;simp only[cond_true]at h3;split at h3
   ·rename_i z hz;exact⟨z,hz,a6K h3⟩
   ·cases h3
  ·unfold b5I at h4;simp only[hu,C9]at h4;refine⟨jy h4.1,?_⟩;have h7:=h4.2;split at h7
   ·rename_i z hz;split at h7
    ·rename_i hr;obtain⟨cs,e,hrep⟩:=SE hr;rw[H9]at e;exact⟨z,hz,by rw[e];exact hrep⟩
    ·cases h7
   ·cases h7
  ·rcases h6 with h6|h6
   ·rw[ha]at h6;cases h6
   ·exact jy h6
  ·rw[hi]at hinf;cases hinf;unfold b5c at h8;rw[hz]at h8;refine⟨λha=>?_,λha=>?_⟩<;>simp only[ha,cond_true,cond_false]at h8
   ·split at h8
    ·exact⟨_,rfl⟩
    ·cases h8
   ·exact h8
def a3h(P:Program):List (Nat×TI)->Bool
 |[]=>true|(t,i)::r=>b3l P t i&&a3h P r
theorem XQ{P:Program} :∀{tt:List (Nat×TI)},a3h P tt=true->∀t i,fH tt t=some i->TiOk P t i
 |[],_,t,i,h=>by simp[fH]at h|(k,v)::r,hc,t,i,h=>by
  unfold a3h at hc;simp only[C9]at hc;unfold fH at h;cases hb:Nat.beq k t
  ·simp only[hb,cond_false]at h;exact XQ hc.2 t i h
  ·simp only[hb,cond_true,G8]at h;have:=jy hb;subst this;subst h;exact a5k hc.1
def Zi(P:Program):List (Nat×FSpec)->Bool
 |[]=>true|(f,_)::r=>(match P.funcs[f]? with|some fn=>fn.body.isSome&&!(fn.name== "runtime.NumGoroutine")|none=>false)&&Zi P r
theorem Wi{P:Program} :∀{l:List (Nat×FSpec)},Zi P l=true->∀p∈l,∃fn,P.funcs[p.1]? =some fn/\fn.body.isSome=true/\(fn.name== "runtime.NumGoroutine")=false
 |[],_,p,h=>by cases h|(k,v)::r,hc,p,h=>by
  unfold Zi at hc;simp only[C9]at hc;rcases A8.1 h with rfl|h
  ·have h1:=hc.1;split at h1
   ·rename_i fn hf;simp only[C9,bZ]at h1;exact⟨fn,hf,h1.1,h1.2⟩
   ·cases h1
  ·exact Wi hc.2 p h
end Go.GP
namespace Go.GP
def a8B(P:Program)(gl:List (Nat×(t:Ty)×List t.den)):List (Nat×FSpec)->Prop
 |[]=>True|(f,s)::r=>pR P gl f s/\a8B P gl r
theorem YE{P:Program}{gl:List (Nat×(t:Ty)×List t.den)} :∀{l:List (Nat×FSpec)},a8B P gl l->∀p∈l,pR P gl p.1 p.2
 |[],_,p,h=>by cases h|(k,v)::r,hc,p,h=>by
  rcases A8.1 h with rfl|h
  ·exact hc.1
  ·exact YE hc.2 p h
def a0M(P:Program):List ((Nat×String)×Nat×Option Nat)->Prop
 |[]=>True|(k,r)::l=>Ff P k.1 k.2 r.1 r.2/\a0M P l
theorem Ve{P:Program} :∀{l:List ((Nat×String)×Nat×Option Nat)},a0M P l->∀p∈l,Ff P p.1.1 p.1.2 p.2.1 p.2.2
 |[],_,p,h=>by cases h|(k,v)::r,hc,p,h=>by
  rcases A8.1 h with rfl|h
  ·exact hc.1
  ·exact Ve hc.2 p h
theorem a9p{P:Program}{E:Env}(hnt:Nat.ble (64*E.nt) 999936=true)(htt:a3h P E.tt=true)(heq:∀t sh,fH E.eqs t=some sh->MI P t sh)(hfn:Zi P E.fs=true)(hms:a0M P E.ms)(hfs:a8B P E.gl E.fs):EnvOk P E:=
 ⟨X4 hnt,XQ htt,YE hfs,heq,Ve hms,Wi hfn⟩
end Go.GP
namespace Go.GP
def Jo(rec:TypeId->List Ty->Bool)(cells:TypeId->Nat):Nat->List Field->List Ty->Bool
 |_,[],sh=>sh.isEmpty|off,f::r,sh=>(f.name != "_")&&Nat.beq f.offset off&&Nat.ble (cells f.type) sh.length&&rec f.type (sh.take (cells f.type))&&Jo rec cells (off+cells f.type) r (sh.drop (cells f.type))
def zq(P:Program):Nat->TypeId->List Ty->Bool
 |0,_,_=>false
 |n+1,t,sh=>match P.underlying t with
  |some .bool=>(match sh with|[.bool]=>true|_=>false)|some (.int k)=>(match sh with|[.int k']=>decide (k=k')|_=>false)|some .string=>(match sh with|[.str]=>true|_=>false)|some (.struct fs)=> !P.stoodInHeld t&&(P.info? t).isSome&&Nat.beq (P.cellsOf t) sh.length&&Jo (zq P n) P.cellsOf 0 fs.toList sh|_=>false
theorem jW.length:∀{sh:List Ty} {vs:List Value},jW sh vs->vs.length=sh.length
 |[],_,h=>by simp only[jW]at h;subst h;rfl| .bool::ts,_,⟨_,_,rfl,h⟩=>by simp[jW.length h]| .int _::ts,_,⟨_,_,rfl,h⟩=>by simp[jW.length h]| .str::ts,_,⟨_,_,rfl,h⟩=>by simp[jW.length h]| .sl _::_,_,h=>h.elim| .prod _ _::_,_,h=>h.elim| .unit::_,_,h=>h.elim
theorem jW.take_drop:∀{sh:List Ty} {vs:List Value} (n:Nat),jW sh vs->jW (sh.take n) (vs.take n)/\jW (sh.drop n) (vs.drop n)
 |sh,vs,0,h=>⟨by simp[jW],h⟩|[],_,n+1,h=>by simp only[jW]at h;subst h;exact⟨rfl,rfl⟩| .bool::ts,_,n+1,⟨b,r,rfl,h⟩=>by have:=jW.take_drop n h;exact⟨⟨b,_,rfl,this.1⟩,this.2⟩| .int _::ts,_,n+1,⟨b,r,rfl,h⟩=>by have:=jW.take_drop n h;exact⟨⟨b,_,rfl,this.1⟩,this.2⟩| .str::ts,_,n+1,⟨b,r,rfl,h⟩=>by have:=jW.take_drop n h;exact⟨⟨b,_,rfl,this.1⟩,this.2⟩| .sl _::_,_,_+1,h=>h.elim| .prod _ _::_,_,_+1,h=>h.elim| .unit::_,_,_+1,h=>h.elim
theorem Jb{C:Cx} :∀{sh:List Ty} {cs:List V} {vs:List Value},BK sh cs=true->iP C cs vs->jW sh vs
 |[],[],vs,_,h=>h|[],_::_,_,h,_=>by simp[BK]at h|t::ts,[],_,h,_=>by cases t<;>simp[BK]at h|t::ts,c::cs,_,h,⟨v,r,rfl,h1,_,h3⟩=>by
  cases t<;>cases c<;>simp only[BK,C9,decide_eq_true_eq]at h<;>try (cases h;done)
  case bool.b x=>have h1:v= .bool x:=h1;subst h1;exact⟨_,_,rfl,Jb h h3⟩
  case int.i k k' n=>have h1:v= .int k' n:=h1;obtain⟨rfl,h⟩:=h;subst h1;exact⟨_,_,rfl,Jb h h3⟩
  case str.s l=>have h1:v= .string ⟨l.toArray⟩:=h1;subst h1;exact⟨_,_,rfl,Jb h h3⟩
theorem A_{a b:V}{r q:List V}{e:Bool}(h:AZ (a::r) (b::q)=some e):∃e1 e2,eq1 a b=some e1/\AZ r q=some e2/\e=(e1&&e2):=by
 unfold AZ at h;split at h
 ·cases h
 ·rename_i e1 h1;split at h
  ·cases h;exact⟨_,true,h1,rfl,A7⟩
  ·split at h
   ·rename_i e2 h2;cases h;exact⟨_,_,h1,h2,rfl⟩
   ·cases h
theorem Pq{C:Cx} :∀{cs ds:List V} {xs ys:List Value} {e:Bool},iP C cs xs->iP C ds ys->AZ cs ds=some e->(e=true↔xs=ys)
 |[],[],xs,ys,e,h1,h2,h=>by
  simp only[iP]at h1 h2;subst h1;subst h2;have:e=true:=by simpa[AZ]using h.symm
  simp[this]
 |[],_::_,_,_,_,_,_,h=>by simp[AZ]at h|_::_,[],_,_,_,_,_,h=>by simp[AZ]at h|a::r,b::q,xs,ys,e,hx,hy,h=>by
  obtain⟨v,vs,rfl,hv,_,hvs⟩:=hx;obtain⟨u,us,rfl,hu,_,hus⟩:=hy;obtain⟨e1,e2,k1,k2,rfl⟩:=A_ h;have ih:=Pq hvs hus k2;have hd:e1=true↔v=u:=by
   cases a<;>cases b<;>simp only[eq1]at k1<;>try (cases k1;done)
   case b.b x y=>have hv:v= .bool x:=hv;have hu:u= .bool y:=hu;subst hv;subst hu;cases k1;simp[kU]
   case i.i j x k y=>
    have hv:v= .int j x:=hv;have hu:u= .int k y:=hu;subst hv;subst hu;by_cases hk:j=k
    ·subst hk;simp only[decide_true,cond_true,G8]at k1;subst k1;simp[x8]
    ·simp[hk]at k1
   case s.s x y=>have hv:v= .string ⟨x.toArray⟩:=hv;have hu:u= .string ⟨y.toArray⟩:=hu;subst hv;subst hu;cases k1;simp[seq]
  simp only[C9,H5,hd,ih]
def VOf(P:Program)(t:TypeId)(xs:List Value)(v:Value):Prop:=match P.underlying t with
 |some (.struct _)=>v= .agg xs.toArray|_=>xs=[v]
theorem a3D{P:Program}{t:TypeId}{i:TypeInfo}(h:P.info? t=some i):P.cellsOf t=i.size:=by simp[Program.cellsOf,h]
theorem Xh{P:Program}{n:Nat}{t:TypeId}{sh:List Ty}(hc:zq P n t sh=true)(hcs:P.cellsOf t=sh.length){cs:Array Value}{off:Nat}(hl:off+sh.length<=cs.size)(w:World):
  ∃v,(part t cs off).run P w= .ok v w/\VOf P t ((cs.toList.drop off).take sh.length) v:=by
 cases n with
 |zero=>cases hc|succ n=>
  unfold zq at hc;split at hc
  all_goals try (cases hc;done)
  ·rename_i ht;split at hc<;>try (cases hc;done)
   simp only[F5,aP]at hl ⊢;refine⟨cs[off]'l7,?_,?_⟩
   ·have h1:=EY (P:=P) (t:=t) (d:=.bool) ht w;simp only[part,G5,h1,I7,bM,bJ,if_false,P8 (show off<cs.size by omega),Y8]
   ·simp only[VOf,ht];apply nH
    ·simp;omega
    ·intro i h1 h2;simp at h1 h2;simp[show i=0 by omega]
  ·rename_i k ht;split at hc<;>try (cases hc;done)
   simp only[F5,aP]at hl ⊢;refine⟨cs[off]'l7,?_,?_⟩
   ·have h1:=EY (P:=P) (t:=t) (d:=.int k) ht w;simp only[part,G5,h1,I7,bM,bJ,if_false,P8 (show off<cs.size by omega),Y8]
   ·simp only[VOf,ht];apply nH
    ·simp;omega
    ·intro i h1 h2;simp at h1 h2;simp[show i=0 by omega]
  ·rename_i ht;split at hc<;>try (cases hc;done)
   simp only[F5,aP]at hl ⊢;refine⟨cs[off]'l7,?_,?_⟩
   ·have h1:=EY (P:=P) (t:=t) (d:=.str) ht w;simp only[part,G5,h1,I7,bM,bJ,if_false,P8 (show off<cs.size by omega),Y8]
   ·simp only[VOf,ht];apply nH
    ·simp;omega
    ·intro i h1 h2;simp at h1 h2;simp[show i=0 by omega]
  ·rename_i fs ht;simp only[C9]at hc;obtain⟨⟨⟨_,h2⟩,_⟩,_⟩:=hc;obtain⟨inf,hinf⟩:=Dv.1 h2;have hsz:=a3D hinf;refine⟨.agg (cs.extract off (off+inf.size)),?_,?_⟩
   ·have h1:=EY (P:=P) (t:=t) (d:=.struct (fs.toList.map λf=>(f.type,f.offset))) ⟨fs,ht,rfl⟩ w;have h3:(sizeOf t).run P w= .ok inf.size w:=by
     simp[sizeOf,typeInfo,hinf]
    simp only[part,G5,h1,I7,bM,if_true,h3,Y8]
   ·simp only[VOf,ht];congr 1;apply lh;rw[←hsz,hcs];simp[nV,Array.toList_extract]
theorem Ro{P:Program} :∀(n:Nat) (t:TypeId) (sh:List Ty),zq P n t sh=true->∀(d:Nat),n<=d->∀(xs ys:List Value) (v u:Value),jW sh xs->jW sh ys->VOf P t xs v->VOf P t ys u->∀w:World,
  ∃r,(Op.equalIn d t v u).run P w= .ok r w/\(r=true↔xs=ys)
 |0,_,_,h,_,_,_,_,_,_,_,_,_,_,_=>by cases h|n+1,t,sh,h,d,hd,xs,ys,v,u,hx,hy,hv,hu,w=>by
  obtain⟨d,rfl⟩:∃k,d=k+1:=⟨d -1,l7⟩;unfold zq at h;split at h
  all_goals try (cases h;done)
  ·rename_i ht;split at h<;>try (cases h;done)
   obtain⟨a,r1,rfl,h1⟩:=hx;obtain⟨b,r2,rfl,h2⟩:=hy;simp only[jW]at h1 h2;subst h1;subst h2;simp only[VOf,ht]at hv hu;obtain rfl:=(Y4 hv).1;obtain rfl:=(Y4 hu).1;exact⟨a==b,run_equalIn_bool w d t a b ht,A7⟩
  ·rename_i k ht;split at h<;>try (cases h;done)
   have:=of_decide_eq_true h;subst this;obtain⟨a,r1,rfl,h1⟩:=hx;obtain⟨b,r2,rfl,h2⟩:=hy;simp only[jW]at h1 h2;subst h1;subst h2;simp only[VOf,ht]at hv hu;obtain rfl:=(Y4 hv).1;obtain rfl:=(Y4 hu).1;exact⟨a==b,run_equalIn_int w d t k k a b ht,A7⟩
  ·rename_i ht;split at h<;>try (cases h;done)
   obtain⟨a,r1,rfl,h1⟩:=hx;obtain⟨b,r2,rfl,h2⟩:=hy;simp only[jW]at h1 h2;subst h1;subst h2;simp only[VOf,ht]at hv hu;obtain rfl:=(Y4 hv).1;obtain rfl:=(Y4 hu).1;refine⟨a.toList==b.toList,run_equalIn_string w d t a b ht,?_⟩;constructor
   ·intro h;have h:=eq_of_beq h;rw[ByteArray.toList_eq,ByteArray.toList_eq]at h;obtain⟨⟨x⟩⟩:=a;obtain⟨⟨y⟩⟩:=b;simp only at h;rw[h]
   ·intro h;injection h with h;injection h with h;rw[h];simp
  ·rename_i fs ht;simp only[C9,bZ]at h;obtain⟨⟨⟨h1,h2⟩,h3⟩,h4⟩:=h;have hlen:=jy h3;simp only[VOf,ht]at hv hu;subst hv;subst hu;have hfo:P.fieldsOf t=fs:=by simp[Program.fieldsOf,ht]
   rw[run_equalIn_struct w d t _ _ (by rw[hfo];exact ht) h1,hfo];have hxl:=hx.length;have hyl:=hy.length;have key:∀(l:List Field) (off:Nat) (s:List Ty),Jo (zq P n) P.cellsOf off l s=true->s=sh.drop off->off<=sh.length->∃r,(Op.eqFields d xs.toArray ys.toArray l).run P w= .ok r w/\(r=true↔xs.drop off=ys.drop off):=by
    intro l;induction l with
    |nil=>
     intro off s hs he ho;unfold Jo at hs;have:s=[]:=by simpa using hs
     have hoff:off=sh.length:=by have:=congrArg List.length (he.symm.trans this);simp at this;omega
     refine⟨true,rfl,?_⟩;rw[gG l7,gG l7];simp
    |cons f r ih=>
     intro off s hs he ho;unfold Jo at hs;simp only[C9]at hs;obtain⟨⟨⟨⟨g1,g2⟩,g3⟩,g4⟩,g5⟩:=hs;have g2:=jy g2;have g3:=X4 g3;subst he;simp only[rP]at g3;have hsl:((sh.drop off).take (P.cellsOf f.type)).length=P.cellsOf f.type:=by simp;omega
     obtain⟨v1,e1,o1⟩:=Xh g4 hsl.symm (cs:=xs.toArray) (off:=off) (by rw[hsl];simp;omega) w;obtain⟨u1,e2,o2⟩:=Xh g4 hsl.symm (cs:=ys.toArray) (off:=off) (by rw[hsl];simp;omega) w;rw[hsl]at o1 o2;obtain⟨b1,e3,q1⟩:=Ro n f.type _ g4 d l7 _ _ v1 u1 (((hx.take_drop off).2).take_drop _).1 (((hy.take_drop off).2).take_drop _).1 o1 o2 w;obtain⟨b2,e4,q2⟩:=ih (off+P.cellsOf f.type) _ g5 (by rw[Z9]) l7;have hne:f.name≠ "_":=by simpa using g1
     have split:(xs.drop off=ys.drop off)↔((xs.drop off).take (P.cellsOf f.type)=(ys.drop off).take (P.cellsOf f.type)/\xs.drop (off+P.cellsOf f.type)=ys.drop (off+P.cellsOf f.type)):=by
      constructor
      ·intro h;rw[h];exact⟨rfl,by rw[←Z9,←Z9,h]⟩
      ·rintro⟨p1,p2⟩;rw[←eY (P.cellsOf f.type) (xs.drop off),←eY (P.cellsOf f.type) (ys.drop off),p1,Z9,Z9,p2]
     simp only[Op.eqFields,if_pos hne,G5,g2,e1,e2,e3,I7];cases b1 with
     |false=>
      refine⟨false,A7,?_⟩;have:¬((xs.drop off).take (P.cellsOf f.type)=(ys.drop off).take (P.cellsOf f.type)):=λh=>by have:=q1.2 h;cases this
      simp only[bJ,false_iff];intro h;exact this (split.1 h).1
     |true=>refine⟨b2,by simpa using e4,?_⟩;rw[q2,split];exact⟨λh=>⟨q1.1 rfl,h⟩,λh=>h.2⟩
   have:=key fs.toList 0 sh h4 A7 l7;simpa using this
theorem YT{P:Program}(em:Bool):∀(n:Nat) (t:TypeId) (sh:List Ty),zq P n t sh=true->∀(d:Nat),n<=d->∀(xs:List Value) (v:Value),jW sh xs->VOf P t xs v->∀w:World,
  (Instr.checkKey em d t v).run P w= .ok () w
 |0,_,_,h,_,_,_,_,_,_,_=>by cases h|n+1,t,sh,h,d,hd,xs,v,hx,hv,w=>by
  obtain⟨d,rfl⟩:∃k,d=k+1:=⟨d -1,l7⟩;unfold zq at h;split at h
  all_goals try (cases h;done)
  ·rename_i ht;split at h<;>try (cases h;done)
   obtain⟨a,r1,rfl,h1⟩:=hx;simp only[jW]at h1;subst h1;simp only[VOf,ht]at hv;obtain rfl:=(Y4 hv).1;simp[Instr.checkKey,run_underlying ht]
  ·rename_i k ht;split at h<;>try (cases h;done)
   have:=of_decide_eq_true h;subst this;obtain⟨a,r1,rfl,h1⟩:=hx;simp only[jW]at h1;subst h1;simp only[VOf,ht]at hv;obtain rfl:=(Y4 hv).1;simp[Instr.checkKey,run_underlying ht]
  ·rename_i ht;split at h<;>try (cases h;done)
   obtain⟨a,r1,rfl,h1⟩:=hx;simp only[jW]at h1;subst h1;simp only[VOf,ht]at hv;obtain rfl:=(Y4 hv).1;simp[Instr.checkKey,run_underlying ht]
  ·rename_i fs ht;simp only[C9,bZ]at h;obtain⟨⟨⟨h1,h2⟩,h3⟩,h4⟩:=h;have hlen:=jy h3;simp only[VOf,ht]at hv;subst hv;have hxl:=hx.length;have key:∀(l:List Field) (off:Nat) (s:List Ty),Jo (zq P n) P.cellsOf off l s=true->s=sh.drop off->off<=sh.length->
     (forIn l PUnit.unit (λ(f:Field) (_:PUnit)=>(do
      if f.name≠ "_" then Instr.checkKey em d f.type (←part f.type xs.toArray f.offset)
      pure (ForInStep.yield PUnit.unit):Sem (ForInStep PUnit)))).run P w= .ok PUnit.unit w:=by
    intro l;induction l with
    |nil=>intro off s hs he ho;rfl|cons f r ih=>
     intro off s hs he ho;unfold Jo at hs;simp only[C9]at hs;obtain⟨⟨⟨⟨g1,g2⟩,g3⟩,g4⟩,g5⟩:=hs;have g2:=jy g2;have g3:=X4 g3;subst he;simp only[rP]at g3;have hsl:((sh.drop off).take (P.cellsOf f.type)).length=P.cellsOf f.type:=by simp;omega
     obtain⟨v1,e1,o1⟩:=Xh g4 hsl.symm (cs:=xs.toArray) (off:=off) (by rw[hsl];simp;omega) w;rw[hsl]at o1;have e3:=YT em n f.type _ g4 d l7 _ v1 (((hx.take_drop off).2).take_drop _).1 o1 w;have e4:=ih (off+P.cellsOf f.type) _ g5 (by rw[Z9]) l7;have hne:f.name≠ "_":=by simpa using g1
     simp only[List.forIn_cons,G5,hne,ne_eq,not_false_eq_true,if_true,g2,e1,e3,I7,Y8];exact e4
   have:=key fs.toList 0 sh h4 A7 l7;simp only[Instr.checkKey,G5,run_underlying ht,I7];simp at this;simp[this]
theorem a1M{P:Program}{n:Nat}(hn:n<=10000){t:TypeId}{sh:List Ty}(h:zq P n t sh=true)(hs:(match P.underlying t with|some (.struct _)=>true|_=>false)=true):a0P P t sh:=by
 have hv:∀zs:Array Value,VOf P t zs.toList (.agg zs):=λzs=>by
  unfold VOf;split
  ·simp
  ·rename_i hh;exfalso;split at hs
   ·rename_i fs hf;exact hh fs hf
   ·cases hs
 refine⟨?_,λw xs hx=>⟨λem=>YT em n t sh h 10000 hn _ _ hx (hv xs) w,λys hy=>Ro n t sh h 10000 hn _ _ _ _ hx hy (hv xs) (hv ys) w⟩⟩;split at hs
 ·rename_i fs hf;exact⟨fs,hf⟩
 ·cases hs
theorem a3R{P:Program}{n:Nat}(hn:n<=10000){t:TypeId}{sh:List Ty}(h:zq P n t sh=true)(hs:(match P.underlying t with|some (.struct _)=>true|_=>false)=true)(hg:P.eqGuardType P.depth t=false):MI P t sh:=by
 refine⟨?_,a1M hn h hs⟩;intro w C cs ds xs ys e op x y s1 s2 h1 h2 he hop;have hv:∀zs:Array Value,VOf P t zs.toList (.agg zs):=λzs=>by
  unfold VOf;split
  ·simp
  ·rename_i hh;exfalso;split at hs
   ·rename_i fs hf;exact hh fs hf
   ·cases hs
 obtain⟨r,hr,hq⟩:=Ro n t sh h 10000 hn _ _ _ _ (Jb s1 h1) (Jb s2 h2) (hv xs) (hv ys) w;have hre:r=e:=by have:=Pq h1 h2 he;cases r<;>cases e<;>simp_all
 subst hre;rcases hop with rfl|rfl
 ·rw[G5,run_eqGuard_agg w .eql t x y xs ys hg];simp only[I7,run_eql_struct,hr,if_pos]
 ·rw[G5,run_eqGuard_agg w .neq t x y xs ys hg];simp[run_neq_struct,hr]
def a3S(P:Program):List (Nat×List Ty)->Bool
 |[]=>true|(t,sh)::r=>zq P 20 t sh&&(match P.underlying t with|some (.struct _)=>true|_=>false)&&!P.eqGuardType P.depth t&&a3S P r
theorem a1q{P:Program} :∀{l:List (Nat×List Ty)},a3S P l=true->∀t sh,fH l t=some sh->MI P t sh
 |[],_,t,sh,h=>by simp[fH]at h|(k,v)::r,hc,t,sh,h=>by
  unfold a3S at hc;simp only[C9,bZ]at hc;unfold fH at h;cases hb:Nat.beq k t
  ·simp only[hb,cond_false]at h;exact a1q hc.2 t sh h
  ·simp only[hb,cond_true,G8]at h;have:=jy hb;subst this;subst h;exact a3R l7 hc.1.1.1 hc.1.1.2 hc.1.2
end Go.GP
namespace Go.GP
open Go.ChangeShapes Go.WideShapes Go.RowKit
def wf:(t:Ty)->t.den->Prop
 | .bool,_=>True| .int k,n=>(Lit.int k n).wf=true| .str,l=>l.length<=reachBytes| .sl t,xs=>xs.length<=reachBytes/\∀x∈xs,wf t x| .prod a b,x=>wf a x.1/\wf b x.2| .unit,_=>True| .ent _ _ a b,x=>wf a x.1/\wf b x.2
def EQ(rec:TypeId->Ty->Bool)(cells:TypeId->Nat):Nat->List Field->Ty->Bool
 |off,fs,u=>match fs with
  |[]=>false
  |f::r=>match r with
   |[]=>Nat.beq f.offset off&&rec f.type u&&Nat.beq (cells f.type) u.size
   |g::r' =>match u with
    | .prod a b=>Nat.beq f.offset off&&rec f.type a&&Nat.beq (cells f.type) a.size&&EQ rec cells (off+a.size) (g::r') b|_=>false
termination_by _ fs _=>fs.length
def a0H(P:Program):Nat->TypeId->Ty->Bool
 |0,_,_=>false
 |n+1,t,u=>match P.underlying t with
  |some .bool=>(match u with| .bool=>true|_=>false)|some (.int k)=>(match u with| .int k' =>decide (k=k')|_=>false)|some .string=>(match u with| .str=>true|_=>false)|some (.slice e)=>(match u with| .sl v=>a0H P n e v&&Nat.beq (P.cellsOf e) v.size&&Nat.blt 0 v.size&&Nat.blt 0 (P.bytesOf e)&&!v.isEnt|_=>false)|some (.struct fs)=>EQ (a0H P n) P.cellsOf 0 fs.toList u&&Nat.beq (P.cellsOf t) u.size|_=>false
theorem PO{α:Type}{Q:Nat->α->Prop} :∀(n:Nat),(∀i,i<n->∃x,Q i x)->∃xs:List α,xs.length=n/\∀i x,xs[i]? =some x->Q i x
 |0,_=>⟨[],rfl,λi x h=>by simp at h⟩|n+1,h=>by
  obtain⟨xs,hl,hx⟩:=PO n λi hi=>h i l7;obtain⟨y,hy⟩:=h n l7;refine⟨xs++[y],by simp[hl],λi x hi=>?_⟩;by_cases hin:i<n
  ·rw[J9 l7]at hi;exact hx i x hi
  ·rw[F7 l7]at hi;have:i -xs.length=0:=by
    rcases mi (i -xs.length) 1 with h1|h1
    ·omega
    ·rw[bu (by simpa using h1)]at hi;cases hi
   rw[this]at hi;simp at hi;subst hi;have e:i=n:=l7;subst e;exact hy
theorem VB{w:World}{a:Addr}{n:Nat}{es:List Value}(hn:0<n)(h:w.cells? 0 a n=some es):
  a.spot=none/\a.block<w.heap.size/\fD w.heap a.block a.off n=some es:=by
 obtain⟨blk,off,spot⟩:=a;simp only[World.cells?,nY,if_true]at h;have hlen:es.length=n:=by simpa using Lib.mapM_length h
 have hat:∀i,i<n->∃b,es[i]? =some b/\w.cell? (Addr.add ⟨blk,off,spot⟩ i)=some b:=λi hi=>Lib.mapM_at h i i (by simp[hi]);obtain⟨b0,_,h0⟩:=hat 0 hn;simp only[Addr.add,if_true,World.cell?]at h0;cases hb:w.heap[blk]? with
 |none=>simp[hb]at h0|some o=>
  cases o<;>simp only[hb]at h0<;>try (cases h0;done)
  rename_i c T f;have hs:spot=none:=by
   cases spot with
   |none=>rfl|some _=>simp at h0
  subst hs;have hat' :∀i,i<n->es[i]? =c[off+i]?/\off+i<c.size:=λi hi=>by
   obtain⟨b,h1,h2⟩:=hat i hi;have h3:c[off+i]? =some b:=by
    by_cases hi0:i=0
    ·subst hi0;simpa[Addr.add,World.cell?,hb]using h2
    ·simpa[Addr.add,World.cell?,hb,hi0]using h2
   exact⟨h1.trans h3.symm,(aG.1 h3).1⟩
  refine⟨rfl,(aG.1 hb).1,?_⟩;have hle:off+n<=c.size:=by have:=(hat' (n -1) l7).2;omega
  rw[nP hb _ _ hle];congr 1;apply dV;intro i;by_cases hi:i<n
  ·rw[(hat' i hi).1,di hi,U8];simp
  ·rw[bu U6,bu l7]
section
variable {H:Type} {enc:TypeId×Value->H} {P:Program} {w:World} {sp:Nat->Bool} {held:Bool} {ok:Nat->Ty->Prop}
theorem MC{e:TypeId} :∀{l:List (DataW H)} {d:DataW H},d∈l->∀b∈d.weights P e,b∈DataW.weightsAll P e l
 |x::l,d,h,b,hb=>by
  simp only[DataW.weightsAll,D8];rcases A8.1 h with rfl|h
  ·exact .inl hb
  ·exact .inr (MC h b hb)
theorem VW{n:Nat}(IH:∀t u,a0H P n t u=true->∀lg cs d ps,DataW.trod enc P w 0 sp held lg t cs=some (d,ps)->(∀b∈d.weights P t,b<=reachBytes)->∃x,mJ w.heap ok u x cs/\wf u x){cs:List Value}{m:Nat} :
  ∀(fs:List Field) (off:Nat) (u:Ty),EQ (a0H P n) P.cellsOf off fs u=true->∀(xs:List (DataW H×List MemPlace)),xs.length=fs.length->
   (∀(i:Nat) (f:Field),fs[i]? =some f->DataW.trod enc P w 0 sp held m f.type ((cs.drop f.offset).take (P.cellsOf f.type))=xs[i]?)->(∀b∈DataW.weightsEach P (fs.map (·.type)) (xs.map (·.1)),b<=reachBytes)->
   ∃x,mJ w.heap ok u x ((cs.drop off).take u.size)/\wf u x
 |[],off,u,h,_,_,_,_=>by unfold EQ at h;cases h|[f],off,u,h,xs,hl,hx,hw=>by
  unfold EQ at h;simp only[C9]at h;have h1:=jy h.1.1;have h3:=jy h.2;match xs,hl with
  |[y],_=>have h4:=hx 0 f rfl;rw[h1,h3]at h4;refine IH _ _ h.1.2 _ _ y.1 y.2 (by simpa using h4) λb hb=>hw b ?_;simp[DataW.weightsEach,hb]
 |f::g::r,off,u,h,xs,hl,hx,hw=>by
  unfold EQ at h;cases u<;>try (cases h;done)
  rename_i a b;simp only[C9]at h;obtain⟨⟨⟨h1,h2⟩,h3⟩,h4⟩:=h;have h1:=jy h1;have h3:=jy h3;match xs,hl with
  |y::ys,hl=>
   have h5:=hx 0 f rfl;rw[h1,h3]at h5;obtain⟨p,hp,wp⟩:=IH _ _ h2 _ _ y.1 y.2 (by simpa using h5) λc hc=>hw c (by simp[DataW.weightsEach,hc]);obtain⟨q,hq,wq⟩:=VW IH (g::r) (off+a.size) b h4 ys (by simpa using hl) (λi f' hf=>by have:=hx (i+1) f' (by simpa using hf);simpa using this) λc hc=>hw c (by simp only[jC,DataW.weightsEach,D8];simp only[jC]at hc;exact .inr hc)
   refine⟨(p,q),⟨_,_,?_,hp,hq⟩,wp,wq⟩;show(cs.drop off).take (a.size+b.size)=_;rw[List.take_add,Z9]
theorem LM(hok:∀b t,b<w.heap.size->ok b t):∀(n:Nat) (t:TypeId) (u:Ty),a0H P n t u=true->∀(lg:Nat) (cs:List Value) (d:DataW H) (ps:List MemPlace),DataW.trod enc P w 0 sp held lg t cs=some (d,ps)->
  (∀b∈d.weights P t,b<=reachBytes)->∃x,mJ w.heap ok u x cs/\wf u x
 |0,_,_,h,_,_,_,_,_,_=>by cases h|n+1,t,u,h,lg,cs,d,ps,hd,hw=>by
  unfold a0H at h;split at h
  ·rename_i ht;cases u<;>try (cases h;done)
   obtain⟨b,rfl,hx⟩:=DataW.trod_bool ht hd;exact⟨b,rfl,trivial⟩
  ·rename_i k ht;cases u<;>try (cases h;done)
   rename_i k';have:=of_decide_eq_true h;subst this;obtain⟨b,rfl,hx,hwf⟩:=DataW.trod_int ht hd;exact⟨b,rfl,hwf⟩
  ·rename_i ht;cases u<;>try (cases h;done)
   obtain⟨s,rfl,hx,hs⟩:=DataW.trod_string ht hd;simp only[lw]at hx;obtain⟨rfl,rfl⟩:=hx;refine⟨s.data.toList,rfl,hw _ ?_⟩;simp[DataW.weights]
  ·rename_i e ht;cases u<;>try (cases h;done)
   rename_i v;simp only[C9,bZ]at h;obtain⟨⟨⟨⟨h1,h2⟩,h3⟩,h4⟩,hE0⟩:=h;have h2:=jy h2;rw[fU]at h3 h4;rcases DataW.trod_slice ht hd with⟨rfl,hx⟩|⟨a,len,cap,elems,rest,m,rfl,rfl,hx,hb,hl,hm,hlen,hel,_,_⟩
   ·exact⟨[],.inl ⟨hE0,none,0,rfl,F9 _,λi x hi=>by simp at hi⟩,A7,λx hx=>by simp at hx⟩
   ·simp only[lw]at hx;obtain⟨rfl,rfl⟩:=hx;have hW:DataW.weights P t (.slice (elems.map (·.1)) (rest.map (·.1)):DataW H)=((elems.map (·.1)).length+(rest.map (·.1)).length)*P.bytesOf e::(DataW.weightsAll P e (elems.map (·.1))++DataW.weightsAll P e (rest.map (·.1))):=by
     simp only[DataW.weights,ht]
    rw[hW]at hw;have hsz:=hw _ (jg ..);simp only[X6]at hsz;have hlr:len<=reachBytes:=by have h6:(elems.length+rest.length)*1<=(elems.length+rest.length)*P.bytesOf e:=Nat.mul_le_mul_left _ h4;omega
    have each:∀i,i<len->∃x,wf v x/\a.spot=none/\a.block<w.heap.size/\∃es,fD w.heap a.block (a.off+i*v.size) v.size=some es/\mJ w.heap ok v x es:=by
     intro i hi;have h5:=hel i hi;rw[h2]at h5;rw[dX l7]at h5;obtain⟨es,hc,hd2⟩:=Option.bind_eq_some_iff.1 h5;obtain⟨x,hx,wx⟩:=LM hok n e v h1 m es _ _ hd2 λb hb=>hw b (by refine U4 _ (aO _ (MC (d:=(elems[i]'l7).1) (ah.2 ⟨_,H7 l7,rfl⟩) b hb)))
     obtain⟨s1,s2,s3⟩:=VB h3 hc;by_cases hz:i*v.size=0
     ·simp only[Addr.add,hz,if_true]at s1 s2 s3;exact⟨x,wx,s1,s2,es,by simpa[hz]using s3,hx⟩
     ·simp only[Addr.add,hz,if_false]at s1 s2 s3;obtain⟨es0,hc0,_⟩:=Option.bind_eq_some_iff.1 (show((w.cells? 0 (a.add (0*P.cellsOf e)) (P.cellsOf e)).bind (DataW.trod enc P w 0 sp held m e))=some (elems[0]'l7) by rw[hel 0 l7,dX l7]);rw[h2]at hc0;have s0:=(VB h3 hc0).1;simp only[Nat.zero_mul,Addr.add,if_true]at s0;exact⟨x,wx,s0,s2,es,s3,hx⟩
    obtain⟨xs,hxl,hxs⟩:=PO len each;refine⟨xs,.inl ⟨hE0,some a,cap,by simp[hxl],l7,λi x hi=>?_⟩,l7,λx hx=>?_⟩
    ·obtain⟨_,s1,s2,es,s3,s4⟩:=hxs i x hi;refine⟨a.block,a.off,es,?_,hok _ _ s2,s3,s4⟩;obtain⟨b,o,s⟩:=a;simp only at s1;subst s1;rfl
    ·obtain⟨i,hi,rfl⟩:=List.mem_iff_getElem.1 hx;exact(hxs i _ (dX hi)).1
  ·rename_i fs ht;simp only[C9]at h;have h2:=jy h.2;obtain⟨xs,m,rfl,hx,hl,hlen,hf⟩:=DataW.trod_struct ht hd;simp only[lw]at hx;obtain⟨rfl,rfl⟩:=hx;have hW:DataW.weights P t (.agg (xs.map (·.1)):DataW H)=DataW.weightsEach P (fs.toList.map (·.type)) (xs.map (·.1)):=by simp only[DataW.weights,ht]
   rw[hW]at hw;have:=VW (cs:=cs) (m:=m) (λt u hu lg cs d ps hd hw=>LM hok n t u hu lg cs d ps hd hw) fs.toList 0 u h.1 xs (by simpa using hlen) (λi f hi=>hf i f (by simpa using hi)) hw;rwa[List.drop_zero,aU l7]at this
  ·cases h
end
def a8K(P:Program)(t:TypeId):Bool:=match P.underlying t with|some (.struct _)=>true|_=>false
theorem b4o{P:Program}{W:World}{base n:Nat}{t:TypeId}{u:Ty}{v:Value}(h:a0H P n t u=true)(hv:Value.okWide P W .any base t v):SB (a8K P t) v v.cells.toList:=by
 cases n with
 |zero=>cases h|succ n=>
  unfold a0H at h;unfold a8K;split at h
  ·rename_i ht;simp only[Value.okWide,ht,Cell.okWide,Cell.ok]at hv ⊢;cases v<;>first|rfl|exact absurd hv A7
  ·rename_i ht;simp only[Value.okWide,ht,Cell.okWide,Cell.ok]at hv ⊢;cases v<;>first|rfl|exact absurd hv A7
  ·rename_i ht;simp only[Value.okWide,ht,Cell.okWide,Cell.ok]at hv ⊢;cases v<;>first|rfl|exact absurd hv A7
  ·rename_i ht;simp only[Value.okWide,ht,Cell.okWide,Cell.ok]at hv ⊢;cases v<;>first|rfl|exact absurd hv A7
  ·rename_i ht;simp only[Value.okWide,ht]at hv ⊢;obtain⟨cs,rfl,_,_⟩:=hv;exact⟨cs,rfl,rfl⟩
  ·cases h
def tJ(P:Program)(n:Nat):List TypeId->List MG->Bool
 |[],[]=>true|t::ts,(g,.dat u)::ms=>a0H P n t u&&(a8K P t==g)&&P.readableRec t&&Nat.blt t P.types.size&&tJ P n ts ms|_,_=>false
def wfM:(m:M)->m.den->Prop
 | .dat t,x=>wf t x|_,_=>True
def a3o:(ms:List MG)->iR ms->Prop
 |[],_=>True|[m],x=>wfM m.2 x|m::m' ::r,x=>wfM m.2 x.1/\a3o (m' ::r) x.2
section
variable {H:Type} {enc:TypeId×Value->H} {P:Program} {W:World} {base n:Nat} {ok:Nat->Ty->Prop}
theorem ZQ(hok:∀b t,b<W.heap.size->ok b t):∀{ts:List TypeId} {ms:List MG} {vs:List Value} {ds:List (DataW H)} {ps:List MemPlace},tJ P n ts ms=true->DataW.TrodAll enc P W 0 (λ_=>true) true ts vs ds ps->
  (∀(j:Nat) t v,ts[j]? =some t->vs[j]? =some v->Value.okWide P W .any base t v)->(∀b∈DataW.weightsEach P ts ds,b<=reachBytes)->∃x,wo W.heap ok ms x vs []/\a3o ms x
 |[],[],vs,ds,ps,h,hd,hv,hw=>by obtain⟨rfl,rfl,rfl⟩:=trodAll_nil hd;exact⟨(),⟨rfl,rfl⟩,trivial⟩
 |[],_::_,_,_,_,h,_,_,_=>by simp[tJ]at h|_::_,[],_,_,_,h,_,_,_=>by simp[tJ]at h|t::ts,(g,m)::ms,vs,ds,ps,h,hd,hv,hw=>by
  cases m<;>simp only[tJ,C9]at h<;>try (cases h;done)
  rename_i u;obtain⟨⟨⟨⟨h1,h2⟩,_⟩,_⟩,h3⟩:=h;have h2:=eq_of_beq h2;subst h2;obtain⟨v,vs',d,ds',p,q,rfl,rfl,rfl,⟨lg,h4⟩,h5⟩:=trodAll_cons hd;have hw' :∀b∈d.weights P t++DataW.weightsEach P ts ds',b<=reachBytes:=by simpa only[DataW.weightsEach]using hw
  obtain⟨x,hx,wx⟩:=LM (ok:=ok) hok n t u h1 _ _ _ _ h4 λb hb=>hw' b (aO _ hb);have hg:=b4o h1 (hv 0 t v rfl rfl);obtain⟨y,hy,wy⟩:=ZQ hok h3 h5 (λj t v hj hk=>hv (j+1) t v (by simpa using hj) (by simpa using hk)) λb hb=>hw' b (jD _ hb);cases ms with
  |nil=>
   cases ts with
   |cons _ _=>simp[tJ]at h3|nil=>obtain⟨rfl,rfl,rfl⟩:=trodAll_nil h5;exact⟨x,⟨v,_,rfl,hg,hx,rfl⟩,wx⟩
  |cons m' ms=>exact⟨(x,y),⟨v,_,vs',[],[],rfl,rfl,hg,⟨hx,rfl⟩,hy⟩,wx,wy⟩
theorem NW(hl:laidOutB P=true){W' :World}(hb:Below W.heap.size W W'){sp:Nat->Bool} :∀{ts:List TypeId} {ms:List MG} {vs:List Value} {ds:List (DataW H)} {ps:List MemPlace},tJ P n ts ms=true->
  DataW.TrodAll enc P W 0 (λ_=>true) true ts vs ds ps->(∀x∈ps,x.block<W.heap.size)->(∀x∈ps,sp x.block=true)->DataW.TrodAll enc P W' 0 sp true ts vs ds ps
 |[],ms,vs,ds,ps,h,hd,_,_=>by obtain⟨rfl,rfl,rfl⟩:=trodAll_nil hd;rfl
 |_::_,[],_,_,_,h,_,_,_=>by simp[tJ]at h|t::ts,(g,m)::ms,vs,ds,ps,h,hd,hlt,hsp=>by
  cases m<;>simp only[tJ,C9]at h<;>try (cases h;done)
  obtain⟨⟨⟨⟨h1,h2⟩,h6⟩,h7⟩,h3⟩:=h;rw[fU]at h7;obtain⟨v,vs',d,ds',p,q,rfl,rfl,rfl,h4,h5⟩:=trodAll_cons hd;exact⟨p,q,WideElems.Trod_stays hl h6 h7 h4 (λx hx=>hb.same (hlt x (aO _ hx))) (λx hx=>hsp x (aO _ hx)),
   NW hl hb h3 h5 (λx hx=>hlt x (jD _ hx)) (λx hx=>hsp x (jD _ hx)),rfl⟩
end
theorem a1C{P:Program}{W:World}{name:String}{g:Nat}{k:IntKind}{zs:List Int}(hg:P.globalNamed name=some g)(hz:0<zs.length)(h:Lib.TabIs P W name k zs):
  OL ⟨W.heap,λb _=>b<W.heap.size,nom⟩ g (.int k) zs:=by
 have hc:∀i z,zs[i]? =some z->W.cell? ⟨g,i,none⟩=some (.int k z):=λi z hi=>by have:=World.var?_cell hg h i;rw[this];simp[hi]
 have key:∀i z,zs[i]? =some z->g<W.heap.size/\fD W.heap g i 1=some [.int k z]:=λi z hi=>by
  have h1:=hc i z hi;have h2:W.cells? 0 ⟨g,i,none⟩ 1=some [.int k z]:=by simp[World.cells?,dD,Addr.add,h1]
  obtain⟨_,s2,s3⟩:=VB l7 h2;exact⟨s2,s3⟩
 refine⟨(key 0 zs[0] (dX hz)).1,?_,λi z hi=>⟨_,?_,rfl⟩⟩
 ·unfold Lib.TabIs World.var? at h;simp only[hg,kR]at h;split at h
  ·rename_i cs T f hb;simp only[G8]at h;subst h;exact⟨_,T,f,hb,by simp[Ty.size]⟩
  ·cases h
 ·have:=(key i z hi).2;simpa[Ty.size]using this
theorem a3b{P:Program}{w:World}{ok:Nat->Ty->Prop}{m:Mp}{name:String}{g:Nat}{k:IntKind}{zs:List Int}(hg:P.globalNamed name=some g)(h:OL ⟨w.heap,ok,m⟩ g (.int k) zs):Lib.TabIs P w name k zs:=by
 obtain⟨_,⟨c,T,f,hb,hl⟩,hz⟩:=h;unfold Lib.TabIs World.var?;simp only[hg,kR,hb,G8];simp only[Ty.size,lQ]at hl;apply Array.ext
 ·simp[hl]
 ·intro i h1 h2;have hi:i<zs.length:=by simpa using h2
  obtain⟨es,he,hr⟩:=hz i zs[i] (dX hi);rw[nP hb _ _ (by simp[Ty.size];omega)]at he;simp only[Ty.size,lQ,G8]at he;have h3:es=[.int k zs[i]]:=hr;rw[h3]at he;have h4:=congrArg (λl=>l[0]?) he;simp only[di (show 0<1 by omega),U8,eP,lm]at h4;rw[aC,P8 h1]at h4;simpa using h4
theorem J_{H:Type}{enc:TypeId×Value->H}{P:Program}{gl:List (Nat×(t:Ty)×List t.den)}{f:FuncId}{fn:Func}{s:ChangeSpec}{ms:List MG}{F:iR ms->Option Bool}{tb:TypeId}
  (hlaid:laidOutB P=true) (hF:pR P gl f ⟨ms,[(false,.dat .bool)],[],F⟩) (law:∀x,a3o ms x->F x=some true) (hpars:tJ P 30 fn.params.toList ms=true) (hres:fn.resultTypes=#[tb]) (hbool:P.underlying tb=some .bool)
  (hvars:s.vars=[]) (hsfn:∀ds:List (DataW H),ds.length=ms.length->s.fn H ds= { results:=[.lit (.bool true)],args:=ds })
  {W:World} {base:Nat} {args:Array Value} {ds gs:List (DataW H)} {before:List MemPlace} {apart fresh handsOn again:Bool}
  (hgl:∀g u,fH gl g=some u->OL ⟨W.heap,λb _=>b<W.heap.size,nom⟩ g u.1 u.2)
  (hval:∀(j:Nat) t v,fn.params[j]? =some t->args[j]? =some v->Value.okWide P W .any base t v)
  (hW:DataW.Whole enc P fn.params.toList s.vars apart W args.toList ds gs before)
  (hz:(DataW.weightsEach P (fn.params.toList++s.plain.varTypes P) (ds++gs)).all (·<=reachBytes)=true):
  Calls P f args W λe W' =>∃v,e= .returned v/\s.post enc P fn apart fresh handsOn again W args v W' :=by
 have hW' :=hW;obtain⟨p,q,hA,hV,rfl,hfz,hnd⟩:=hW;rw[hvars]at hV;obtain⟨rfl,rfl⟩:=trodVars_none hV;have hlen:ds.length=ms.length:=by
  have:∀{ts:List TypeId} {ms:List MG} {vs:List Value} {ds:List (DataW H)} {ps:List MemPlace},tJ P 30 ts ms=true->DataW.TrodAll enc P W 0 (λ_=>true) true ts vs ds ps->ds.length=ms.length:=by
   intro ts;induction ts with
   |nil=>
    intro ms vs ds ps h hd;obtain⟨rfl,rfl,rfl⟩:=trodAll_nil hd;cases ms with
    |nil=>rfl|cons _ _=>simp[tJ]at h
   |cons t ts ih=>
    intro ms vs ds ps h hd;obtain⟨v,vs',d,ds',p,q,rfl,rfl,rfl,h4,h5⟩:=trodAll_cons hd;cases ms with
    |nil=>simp[tJ]at h|cons m ms=>
     obtain⟨g,m⟩:=m;cases m<;>simp only[tJ,C9]at h<;>try (cases h;done)
     simp[ih h.2 h5]
  exact this hpars hA
 have hvt:s.plain.varTypes P=[]:=by simp[ChangeSpec.plain,DataSpec.varTypes,hvars]
 rw[hvt]at hz;simp only[H9,ja,decide_eq_true_eq]at hz;obtain⟨x,hx,wx⟩:=ZQ (ok:=λb _=>b<W.heap.size) (λb t hb=>hb) hpars hA (λj t v hj hv=>hval j t v (by simpa using hj) (by simpa using hv)) hz;have hc:=hF W (λb _=>b<W.heap.size) [] args.toList x true (λb t hb=>hb) fK (λb hb=>by cases hb) hgl hx (law x wx);simp only[Array.toArray_toList]at hc;refine hc.mono λe W' ⟨v,ok',O',rs,os,B,he,hfr,_,_,_,_,hrv,hos,hrel⟩=>?_;subst he;have hnoos:os=[]:=by
  have:∀{ms:List MG} {vs:List Value} {ts:List TypeId},tJ P 30 ts ms=true->zT W'.heap ms vs os B->os=[]:=by
   intro ms;induction ms with
   |nil=>
    intro vs ts h ho;cases vs with
    |nil=>exact ho.1|cons _ _=>exact absurd ho (by simp[zT])
   |cons m ms ih=>
    intro vs ts h ho;obtain⟨g,m⟩:=m;cases ts with
    |nil=>simp[tJ]at h|cons t ts=>
     cases m<;>simp only[tJ,C9]at h<;>try (cases h;done)
     cases vs with
     |nil=>exact absurd ho (by simp[zT])|cons v vs=>exact ih h.2 ho
  exact this hpars hos
 subst hnoos;obtain⟨v1,cs,hvs,hg,⟨hrep,_⟩⟩:=hrel;simp only[H9]at hvs;subst hvs;have hv1:v1= .bool true:=by have h1:cs=[v1]:=hg;have h2:cs=[.bool true]:=hrep;rw[h1]at h2;exact(Y4 h2).1
 subst hv1;have hv:v= .bool true:=hrv.2;subst hv;have hbel:Below W.heap.size W W' :=⟨hfr.os,hfr.tape,hfr.output,hfr.size,λk hk=>hfr.block k hk A7⟩;simp only[H9]at hW' hfz;have hlt:∀x∈p,x.block<W.heap.size:=λx hx=>by simpa using hW'.lt x hx
 have hres1:∀(b:Nat) (sp:Nat->Bool) (hd:Bool),DataW.TrodAll enc P W' b sp hd fn.resultTypes.toList ((Value.bool true).resultList fn.resultTypes.size) (s.fn H (ds++[])).results []:=λb sp hd=>by rw[H9,hsfn ds hlen,hres];exact trodAll_cons_mk (shut_bool hbool _) trodAll_mk0
 have hargs1:∀sp:Nat->Bool,(∀x∈p,sp x.block=true)->DataW.TrodAll enc P W' 0 sp true fn.params.toList args.toList (s.fn H (ds++[])).args p:=λsp hs=>by rw[H9,hsfn ds hlen];exact NW hlaid hbel hpars hA hlt hs
 have hvars1:∀sp:Nat->Bool,DataW.TrodVars enc P W' sp s.vars (s.fn H (ds++[])).vars []:=λsp=>by rw[H9,hsfn ds hlen,hvars];rfl
 refine⟨_,rfl,ds,[],p,[],p,[],hW',hres1 _ _ _,hargs1 _ (λx hx=>by simpa using hlt x hx),hvars1 _,World.keptBut_mono (λx hx=>⟨hx,.inr (.inl hx)⟩) (hbel.frame (·∈p)),λ_=>⟨ok_one hres rfl (okWide_bool_mk hbool _),_,_,([]++p)++[],⟨[]++p,[],trodAll_append (hargs1 _ (λ_ _=>rfl)) (hres1 _ _ _),hvars1 _,rfl,?_,?_⟩,?_⟩⟩
 ·intro b off hp;simp only[H6,H9]at hp;rw[hbel.frozen (hlt _ hp)];exact hfz b off hp
 ·intro ha;obtain⟨_,_,_,_,_,_,hn⟩:=hW';simpa using hn ha
 ·intro x hx _;simpa using hx
end Go.GP
namespace Go.GP
open Go.RowKit
theorem a3z(w:World)(k:Nat)(os:Array Obj):Below w.heap.size w (Sort.grow (w.drewN k) os):=
 ⟨rfl,rfl,rfl,by simp[Sort.grow,World.drewN],λi hi=>by show((w.drewN k).heap++os)[i]? =_;rw[jm (by exact hi)];rfl⟩
theorem WA{P:Program}{w w' :World}(hb:Below w.heap.size w w'){ok:Nat->Ty->Prop}(hlt:∀b t,ok b t->b<w.heap.size){ps:List MG}{vals:List Value}(hps:zT w'.heap ps vals [] []){t:Ty}{x:t.den}{v:Value}(hr:mJ w'.heap ok t x [v]):
  ∃v' ok' O' rs os B,(Ending.returned v)= .returned v' /\Frame' w w' []/\(∀b t,ok b t->ok' b t)/\(∀b t,ok' b t->b<w'.heap.size/\(ok b t\/w.heap.size<=b\/b∈([]:List Nat)))/\
   (O' ++B).Nodup/\(∀b∈O' ++B,(∀t,¬ok' b t)/\b<w'.heap.size/\(w.heap.size<=b\/b∈([]:List Nat)))/\
   a3r 1 v' rs/\zT w'.heap ps vals os B/\wo w'.heap ok' ([(false,.dat t)]++[]) x (rs++os) O' :=
 ⟨v,ok,[],[v],[],[],rfl,⟨hb.os,hb.tape,hb.output,hb.size,λb h _=>hb.block b h⟩,λb t h=>h,λb t h=>⟨c6x (hlt b t h) hb.size,.inl h⟩,A7,A7,⟨rfl,rfl⟩,hps,⟨v,[v],rfl,rfl,hr,rfl⟩⟩
def Iu(n:Int):Option (List UInt8):=if -9223372036854775808<=n/\n<=9223372036854775807 then some (Lib.itoa n)else none
def uh(s:List UInt8)(c:Int):Option (List UInt8):=if 0<=c/\c<=9223372036854775807/\s.length*c.toNat<=140737488355328 then some (Lib.repeatL s c.toNat)else none
theorem a4e{P:Program}{f g:Nat}{gl:List (Nat×(t:Ty)×List t.den)}
  (hC:∀(n:Int) (h0:-9223372036854775808<=n) (h1:n<=9223372036854775807) (w:World) (htab:Lib.TabIs P w "internal/strconv.uint64pow10" .u64 Lib.pow10Tab),
   Calls P f #[.int .i64 n] w λe w' =>e= .returned (.string ⟨(Lib.itoa n).toArray⟩)/\∃k os,w' =Sort.grow (w.drewN k) os)
  (hg:P.globalNamed "internal/strconv.uint64pow10"=some g) (hgl:fH gl g=some ⟨.int .u64,Lib.pow10Tab⟩):
  pR P gl f ⟨[(false,.dat (.int .i64))],[(false,.dat .str)],[],λx=>Iu x⟩:=by
 intro w ok O vals x r hlt _ _ hgls hrel hfn;obtain⟨v,cs,rfl,h1,h2,rfl⟩:=hrel;have h1:cs=[v]:=h1;subst h1;have h2:[v]=[.int .i64 x]:=h2;obtain rfl:=(Y4 h2).1;simp only[Iu]at hfn;split at hfn
 ·rename_i hx;cases hfn;refine(hC x hx.1 hx.2 w (a3b hg (hgls _ _ hgl))).mono λe w' ⟨he,k,os,hw⟩=>?_;subst he;subst hw;exact WA (P:=P) (t:=.str) (x:=Lib.itoa x) (ps:=[(false,.dat (.int .i64))]) (vals:=[.int .i64 x]) (a3z w k os) hlt ⟨rfl,rfl⟩ rfl
 ·cases hfn
theorem a0s{P:Program}{f:Nat}{gl:List (Nat×(t:Ty)×List t.den)}
  (hC:∀(s:ByteArray) (c:Nat) (w:World) (hc:c<=9223372036854775807) (hlen:s.size*c<=140737488355328),
   Calls P f #[.string s,.int .i64 c] w λe w' =>e= .returned (.string ⟨(Lib.repeatL s.data.toList c).toArray⟩)/\Below w.heap.size w w'):
  pR P gl f ⟨[(false,.dat .str),(false,.dat (.int .i64))],[(false,.dat .str)],[],λx=>uh x.1 x.2⟩:=by
 intro w ok O vals x r hlt _ _ _ hrel hfn;obtain⟨v,cs,vs',O1,O2,rfl,rfl,h1,⟨h2,rfl⟩,v2,cs2,rfl,h3,h4,rfl⟩:=hrel;have h1:cs=[v]:=h1;subst h1;have h3:cs2=[v2]:=h3;subst h3;have h2:[v]=[.string ⟨x.1.toArray⟩]:=h2;have h4:[v2]=[.int .i64 x.2]:=h4;obtain rfl:=(Y4 h2).1;obtain rfl:=(Y4 h4).1;simp only[uh]at hfn;split at hfn
 ·rename_i hx;cases hfn;obtain⟨a,c⟩:=x;simp only at hx ⊢;obtain⟨n,rfl⟩:∃n:Nat,c=n:=⟨c.toNat,(X0 hx.1).symm⟩;have hh:=hC ⟨a.toArray⟩ n w (by have:=hx.2.1;omega) (by have h5:=hx.2.2;rw[J5]at h5;simpa[ByteArray.size]using h5);refine Calls.mono hh λe w' ⟨he,hb⟩=>?_;subst he;exact WA (P:=P) (t:=.str) (x:=Lib.repeatL a (n:Int).toNat) (ps:=[(false,.dat .str),(false,.dat (.int .i64))]) (vals:=[.string ⟨a.toArray⟩,.int .i64 n]) hb hlt ⟨rfl,rfl⟩ (by simp[mJ])
 ·cases hfn
end Go.GP
namespace Go.GP
def b4Z(Q:Nat->((t:Ty)×List t.den)->Prop):List (Nat×(t:Ty)×List t.den)->Prop
 |[]=>True|(g,u)::r=>Q g u/\b4Z Q r
theorem Vg{Q:Nat->((t:Ty)×List t.den)->Prop} :∀{l:List (Nat×(t:Ty)×List t.den)},b4Z Q l->∀g u,fH l g=some u->Q g u
 |[],_,g,u,h=>by simp[fH]at h|(k,v)::r,hc,g,u,h=>by
  unfold fH at h;cases hb:Nat.beq k g
  ·simp only[hb,cond_false]at h;exact Vg hc.2 g u h
  ·simp only[hb,cond_true,G8]at h;have:=jy hb;subst this;subst h;exact hc.1
end Go.GP
namespace Go.GP
open Go.RowKit Go.Sort
def a4U(x:Int):List Int->List Int
 |[]=>[x]|y::l=>bif L9 x y then x::y::l else y::a4U x l
def IU:List Int->List Int
 |[]=>[]|x::l=>a4U x (IU l)
def ddp(p:Int):List Int->List Int
 |[]=>[]|y::l=>bif x8 y p then ddp p l else y::ddp y l
def dd:List Int->List Int
 |[]=>[]|x::l=>x::ddp x l
theorem SS(x:Int):∀l,(a4U x l).Perm (x::l)
 |[]=> .refl _|y::l=>by
  unfold a4U;cases L9 x y
  ·exact(List.Perm.cons y (SS x l)).trans (List.Perm.swap x y l)
  ·exact .refl _
theorem FK:∀l,(IU l).Perm l
 |[]=> .refl _|x::l=>(SS x (IU l)).trans ((FK l).cons x)
theorem Us(x:Int):∀{l:List Int},l.Pairwise (·<=·)->(a4U x l).Pairwise (·<=·)
 |[],_=>by simp[a4U]|y::l,h=>by
  have h' :=W9.1 h;unfold a4U;cases hxy:L9 x y
  ·have hxy' :y<x:=by simpa[L9]using hxy
   refine W9.2 ⟨λz hz=>?_,Us x h'.2⟩;rcases A8.1 ((SS x l).mem_iff.1 hz)with rfl|hz
   ·omega
   ·exact h'.1 z hz
  ·have hxy' :x<=y:=by simpa[L9]using hxy
   refine W9.2 ⟨λz hz=>?_,h⟩;rcases A8.1 hz with rfl|hz
   ·exact hxy'
   ·exact Int.le_trans hxy' (h'.1 z hz)
theorem Eu:∀l,(IU l).Pairwise (·<=·)
 |[]=>List.Pairwise.nil|x::l=>Us x (Eu l)
theorem UC(l:List Int):(l.mergeSort λx y=>decide (x<=y))=IU l:=by refine List.Perm.eq_of_pairwise (le:=(·<=·)) (λa b _ _ h1 h2=>Int.le_antisymm h1 h2) ?_ (Eu l) ((List.mergeSort_perm l _).trans (FK l).symm);have:=List.pairwise_mergeSort (le:=λx y:Int=>decide (x<=y)) (λa b c h1 h2=>by simp at*;omega) (λa b=>by simp;omega) l;simpa using this
theorem VG(y:Int):∀(l:List Int) (p:Int),ddp p (l++[y])=ddp p l++(bif x8 y ((p::l).getLast A7)then[]else[y])
 |[],p=>rfl|z::l,p=>by
  have hg:(p::z::l).getLast A7=(z::l).getLast A7:=List.getLast_cons _;rw[hg];simp only[S9,ddp];by_cases h:z=p
  ·subst h;simp only[x8,decide_true,cond_true];exact VG y l z
  ·have h' :x8 z p=false:=by simp[x8,h]
   rw[h'];simp only[cond_false];rw[VG y l z];rfl
theorem QZ(l:List Int)(y:Int)(m:Nat)(hm:m<=l.length):Lib.compactUpTo (l++[y]).toArray m=Lib.compactUpTo l.toArray m:=by
 unfold Lib.compactUpTo;have e:∀j,j<m->(l++[y]).toArray[j]! =l.toArray[j]!:=λj hj=>by rw[getElem!_pos _ j U6,getElem!_pos _ j U6];simp[List.getElem_append_left (show j<l.length by omega)]
 have hf:(List.range m).filter (Lib.keeps (l++[y]).toArray)=(List.range m).filter (Lib.keeps l.toArray):=by apply List.filter_congr;intro j hj;have hj' :=ay.1 hj;unfold Lib.keeps;rw[e j hj',e (j -1) l7]
 rw[hf];apply cu;intro j hj;exact e j (ay.1 (aQ.1 hj).1)
theorem x_(x y:Int)(l:List Int):Lib.compact (x::l++[y])=Lib.compact (x::l)++(bif x8 y ((x::l).getLast A7)then[]else[y]):=by
 have hlen:(x::l++[y]).length=(x::l).length+1:=A7;have h1:Lib.compact (x::l++[y])=Lib.compactUpTo (x::l++[y]).toArray (x::l).length++(if Lib.keeps (x::l++[y]).toArray (x::l).length=true then[(x::l++[y]).toArray[(x::l).length]!]else[]):=by
  unfold Lib.compact;rw[hlen];unfold Lib.compactUpTo;rw[dD,uY,iD];congr 1;by_cases hk:Lib.keeps (x::l++[y]).toArray (x::l).length=true
  ·simp only[fE,hk,if_true,List.filter_nil,jC,Be]
  ·simp only[fE,hk,List.filter_nil,Be];simp
 rw[h1,QZ (x::l) y _ (F9 _)];have e1:(x::l++[y]).toArray[(x::l).length]! =y:=by rw[getElem!_pos _ _ A7];simp
 have e2:(x::l++[y]).toArray[(x::l).length -1]! =(x::l).getLast A7:=by rw[getElem!_pos _ _ U6];rw[List.getLast_eq_getElem];simp only[List.getElem_toArray];rw[List.getElem_append_left]
 have hk:Lib.keeps (x::l++[y]).toArray (x::l).length=decide (y≠(x::l).getLast A7):=by unfold Lib.keeps;rw[e1,e2];simp
 rw[hk,e1];unfold Lib.compact;by_cases h:y=(x::l).getLast A7<;>simp[x8,h]
theorem a2X{motive:List Int->Prop}(h0:motive [])(h1:∀l y,motive l->motive (l++[y])):∀n (l:List Int),l.length=n->motive l
 |0,l,h=>by rw[O9.1 h];exact h0|n+1,l,h=>by
  have hne:l≠[]:=by intro e;subst e;cases h
  rw[←List.dropLast_concat_getLast hne];exact h1 _ _ (a2X h0 h1 n _ U6)
theorem a3G(l:List Int):Lib.compact l=dd l:=by
 cases l with
 |nil=>rfl|cons x l=>
  show _=x::ddp x l;refine a2X (motive:=λl=>Lib.compact (x::l)=x::ddp x l) ?_ (λl y ih=>?_) l.length l rfl
  ·simp[Lib.compact,Lib.compactUpTo,Lib.keeps,dD,ddp]
  ·have:=x_ x y l;rw[S9]at this;rw[this,ih,VG];rfl
def Fe(xs:List Int):Option (List Int):=bif Nat.blt xs.length 4611686018427387904 then some (IU xs)else none
def sQ(xs:List Int):Option (List Int):=bif Nat.blt xs.length 4611686018427387904 then some (dd xs)else none
def yQ(s t:List UInt8):Option Bool:=match t with
 |[c]=>some (decide (0<=Lib.indexByte s c))|_=>none
def uP(a b:Int):Option (Int×Int):=if 0<=a/\a<18446744073709551616/\0<=b/\b<18446744073709551616 then some (a*b / 18446744073709551616,a*b % 18446744073709551616)else none
theorem PH{w:World}{ok:Nat->Ty->Prop}{m:Mp}{xs:List Int}{blk off len cap sz:Nat}(h:arrOk ⟨w.heap,ok,m⟩ (.int .i64) xs (.arr blk off len cap sz)):Holds (Value.int .i64) w blk off xs.toArray:=by
 obtain⟨_,rfl,rfl,hc,c,T,hb,hs,hx⟩:=h;intro j hj;have hj' :j<xs.length:=by simpa using hj
 obtain⟨es,he,hr⟩:=hx j xs[j] (dX hj');have hr:es=[.int .i64 xs[j]]:=hr;subst hr;have hb' :w.heap[blk]? =some (.cells c T (0,0)):=hb;have he' :fD w.heap blk (off+j*1) 1=some [.int .i64 xs[j]]:=he;rw[lQ]at he';refine⟨?_,?_⟩
 ·have:=zn (w:=w) he' (j:=0) (v:=.int .i64 xs[j]) rfl;rw[eP]at this;rw[this,getElem!_pos xs.toArray j hj];simp
 ·simp[World.frozen?,hb']
theorem a7R{w:World}{blk off n:Nat}{c:Array Value}{T:TypeId}{fr:Nat×Nat}(hb:w.heap[blk]? =some (.cells c T fr))(d:Array Int):
  (putRow (Value.int .i64) (Sort.ahead w n) blk off d).heap[blk]? =some (.cells (putCells (Value.int .i64) off d c) T fr):=by
 show(w.heap.modify blk (onCells (putCells (Value.int .i64) off d)))[blk]? =_;rw[qU,if_pos rfl,hb];rfl
theorem a4z{w:World}{blk off n b:Nat}(h:b≠blk)(d:Array Int):(putRow (Value.int .i64) (Sort.ahead w n) blk off d).heap[b]? =w.heap[b]?:=by show(w.heap.modify blk (onCells (putCells (Value.int .i64) off d)))[b]? =_;rw[qU,if_neg (λe=>h e.symm)]
theorem a5F{h:Array Obj}{ok:Nat->Ty->Prop}{m:Mp}{blk off cap:Nat}{c:Array Value}{T:TypeId}{d:Array Int}{ys:List Int}(hb:h[blk]? =some (.cells (putCells (Value.int .i64) off d c) T (0,0)))
  (hfit:off+cap<=c.size) (hd:d.size<=cap) (hl:ys.length<=d.size) (hy:∀(i:Nat) (y:Int),ys[i]? =some y->d[i]? =some y):arrOk ⟨h,ok,m⟩ (.int .i64) ys (.arr blk off ys.length cap 1):=by
 refine⟨rfl,rfl,rfl,l7,_,T,hb,by simp[putCells,Ty.size];omega,λi y hi=>⟨[.int .i64 y],?_,rfl⟩⟩;have hi' :=(Y6.1 hi).1;have hdi:=hy i y hi;obtain⟨hdi',hdy⟩:=aG.1 hdi;show fD h blk (off+i*1) 1=_;rw[lQ,nP hb _ _ (by simp[putCells];omega)];have hk:off+i<c.size:=l7;have:(putCells (Value.int .i64) off d c).toList[off+i]? =some (.int .i64 y):=by unfold putCells;rw[aC,Array.getElem?_mapIdx,P8 hk];simp only[Y2];rw[if_pos l7,Nat.add_sub_cancel_left,getElem!_pos d i hdi',hdy]
 obtain⟨h1,h2⟩:=Y6.1 this;rw[gZ h1,h2];rfl
theorem a6A{P:Program}{w:World}{ok:Nat->Ty->Prop}{blk off n:Nat}{c:Array Value}{T:TypeId}{d:Array Int}{os:Array Obj}(hlt:∀b t,ok b t->b<w.heap.size)(hfree:(∀t,¬ok blk t)/\blk<w.heap.size)
  (hb:w.heap[blk]? =some (.cells c T (0,0))) {w' :World} (hw:w' =Sort.grow (putRow (Value.int .i64) (Sort.ahead w n) blk off d) os):
  w'.heap[blk]? =some (.cells (putCells (Value.int .i64) off d c) T (0,0))/\Frame' w w' [blk]/\(∀b t,ok b t->b<w'.heap.size/\(ok b t\/w.heap.size<=b\/b∈[blk]))/\blk<w'.heap.size:=by
 subst hw;have hsz:(putRow (Value.int .i64) (Sort.ahead w n) blk off d).heap.size=w.heap.size:=by simp[Sort.ahead]
 have hge:w.heap.size<=(Sort.grow (putRow (Value.int .i64) (Sort.ahead w n) blk off d) os).heap.size:=by simp[Sort.grow,Sort.ahead]
 have hold:∀b,b<w.heap.size->(Sort.grow (putRow (Value.int .i64) (Sort.ahead w n) blk off d) os).heap[b]? =(putRow (Value.int .i64) (Sort.ahead w n) blk off d).heap[b]?:=λb hb=>by show((putRow (Value.int .i64) (Sort.ahead w n) blk off d).heap++os)[b]? =_;rw[jm (by rw[hsz];exact hb)]
 refine⟨by rw[hold blk hfree.2];exact a7R hb d,⟨rfl,rfl,rfl,hge,λb h1 h2=>?_⟩,λb t h=>⟨c6x (hlt b t h) hge,.inl h⟩,c6x hfree.2 hge⟩;rw[hold b h1];exact a4z (λe=>h2 (by simp[e])) d
theorem a5f{P:Program}{f:Nat}{gl:List (Nat×(t:Ty)×List t.den)}
  (hC:∀(blk off cap:Nat) (zs:List Int) (w:World) (hH:Holds (Value.int .i64) w blk off zs.toArray) (hblk:blk<w.heap.size) (hsz:zs.length<4611686018427387904),
   Calls P f #[.slice (some ⟨blk,off,none⟩) zs.length cap] w λe w' =>e= .returned (.tuple #[])/\∃n os,w' =Sort.grow (putRow (Value.int .i64) (Sort.ahead w n) blk off (zs.mergeSort λx y=>decide (x<=y)).toArray) os)
  (hN:∀(p:Option Addr) (cap:Nat) (w:World),Calls P f #[.slice p 0 cap] w λe w' =>e= .returned (.tuple #[])/\w' =w):
  pR P gl f ⟨[(false,.ownb (.int .i64))],[],[(false,.own (.int .i64))],λx=>Fe x⟩:=by
 intro w ok O vals x r hlt hnd hO _ hrel hfn;obtain⟨v,cs,rfl,h1,l,v',hcs,hv,ha,rfl⟩:=hrel;have h1:cs=[v]:=h1;rw[h1]at hcs;simp only[H5,and_true]at hcs;subst hcs;simp only[Fe]at hfn;cases hx0:Nat.blt x.length 4611686018427387904<;>rw[hx0]at hfn
 ·cases hfn
 rw[fU]at hx0;have hx:=hx0;rw[←UC]at hfn;cases hfn;cases l with
 |st b=>cases ha|mp b=>cases ha.1|nil=>
  have ha:x=[]:=ha.1;subst ha;have hv:v= .slice none 0 0:=hv;subst hv;refine(hN none 0 w).mono λe w' ⟨he,hw⟩=>?_;subst he;subst hw;exact⟨_,ok,[],[],[.slice none 0 0],[],rfl,Frame'.refl _ _,λ_ _ h=>h,λb t h=>⟨hlt b t h,.inl h⟩,A7,A7,⟨rfl,rfl⟩,⟨[],rfl,rfl,rfl⟩,
   ⟨_,_,rfl,rfl,zg.2 ⟨.nil,_,rfl,rfl,(by simp[arrOk,Ty.isEnt]),rfl⟩⟩⟩
 |arr blk off len cap sz=>
  have hH:=PH ha;obtain⟨_,rfl,rfl,hc,c,T,hb,hs,hx'⟩:=ha;have hv:v= .slice (some ⟨blk,off,none⟩) x.length cap:=hv;subst hv;have hfree:=hO blk (by simp[Loc.blks]);refine(hC blk off cap x w hH hfree.2 hx).mono λe w' ⟨he,n,os,hw⟩=>?_;subst he;obtain⟨g1,g2,g3,g4⟩:=a6A (P:=P) hlt hfree hb hw;have hlen:(x.mergeSort λx y=>decide (x<=y)).length=x.length:=List.length_mergeSort ..;have hfit:off+cap<=c.size:=by simpa[Ty.size]using hs
  have harr:=a5F (ok:=ok) (m:=nom) (cap:=cap) (ys:=x.mergeSort λx y=>decide (x<=y)) g1 hfit (by simp[hlen];exact hc) A7 (λi y hi=>by simpa using hi);rw[hlen]at harr;refine⟨_,ok,[blk],[],[.slice (some ⟨blk,off,none⟩) x.length cap],[],rfl,g2,λ_ _ h=>h,g3,A7,λb hb=>?_,⟨rfl,rfl⟩,⟨[],rfl,rfl,rfl⟩,⟨_,_,rfl,rfl,zg.2 ⟨.arr blk off x.length cap 1,_,rfl,rfl,harr,rfl⟩⟩⟩;have:b=blk:=by simpa using hb
  subst this;exact⟨hfree.1,g4,.inr (by simp[Loc.blks])⟩
theorem a3H(zs:List Int):(Lib.compact zs).length<=zs.length:=by unfold Lib.compact Lib.compactUpTo;rw[X6];exact kE (bz _ _) A7
theorem Ye{P:Program}{f:Nat}{gl:List (Nat×(t:Ty)×List t.den)}
  (hC:∀(blk off cap:Nat) (zs:List Int) (w:World) (hH:Holds (Value.int .i64) w blk off zs.toArray) (hsz:zs.length<=9223372036854775807) (hcap:zs.length<=cap),
   Calls P f #[.slice (some ⟨blk,off,none⟩) zs.length cap] w λe w' =>e= .returned (.slice (some ⟨blk,off,none⟩) (Lib.compact zs).length cap)/\∃q,w' =putRow (Value.int .i64) (Sort.ahead w q) blk off (Lib.compact zs++List.replicate (zs.length -(Lib.compact zs).length) 0).toArray)
  (hN:∀(a:Option Addr) (cap:Nat) (w:World),Calls P f #[.slice a 0 cap] w λe w' =>e= .returned (.slice a 0 cap)/\w' =w):
  pR P gl f ⟨[(false,.own (.int .i64))],[(false,.own (.int .i64))],[],λx=>sQ x⟩:=by
 intro w ok O vals x r hlt hnd hO _ hrel hfn;obtain⟨v,cs,rfl,h1,hrm⟩:=hrel;obtain⟨l,v',hcs,hv,ha,rfl⟩:=zg.1 hrm;have h1:cs=[v]:=h1;rw[h1]at hcs;simp only[H5,and_true]at hcs;subst hcs;simp only[sQ]at hfn;cases hx0:Nat.blt x.length 4611686018427387904<;>rw[hx0]at hfn
 ·cases hfn
 rw[fU]at hx0;have hx:=hx0;rw[←a3G]at hfn;cases hfn;cases l with
 |st b=>cases ha|mp b=>cases ha.1|nil=>
  have ha:x=[]:=ha.1;subst ha;have hv:v= .slice none 0 0:=hv;subst hv;refine(hN none 0 w).mono λe w' ⟨he,hw⟩=>?_;subst he;subst hw;exact⟨_,ok,[],[.slice none 0 0],[],[],rfl,Frame'.refl _ _,λ_ _ h=>h,λb t h=>⟨hlt b t h,.inl h⟩,A7,A7,⟨rfl,rfl⟩,⟨rfl,rfl⟩,
   ⟨_,_,rfl,rfl,zg.2 ⟨.nil,_,rfl,rfl,⟨rfl,rfl⟩,rfl⟩⟩⟩
 |arr blk off len cap sz=>
  have hH:=PH ha;obtain⟨_,rfl,rfl,hc,c,T,hb,hs,hx'⟩:=ha;have hv:v= .slice (some ⟨blk,off,none⟩) x.length cap:=hv;subst hv;have hfree:=hO blk (by simp[Loc.blks]);refine(hC blk off cap x w hH l7 hc).mono λe w' ⟨he,n,hw⟩=>?_;subst he;have hle:=a3H x;obtain⟨g1,g2,g3,g4⟩:=a6A (P:=P) (n:=n) (off:=off) (d:=(Lib.compact x++List.replicate (x.length -(Lib.compact x).length) 0).toArray) (os:=#[]) (w' :=w') hlt hfree hb (by rw[grow_empty];exact hw);have hfit:off+cap<=c.size:=by simpa[Ty.size]using hs
  have harr:=a5F (ok:=ok) (m:=nom) (cap:=cap) (ys:=Lib.compact x) g1 hfit U6 A7 (λi y hi=>by have:=(Y6.1 hi).1;rw[List.getElem?_toArray,J9 this];exact hi)
  refine⟨_,ok,[blk],[.slice (some ⟨blk,off,none⟩) (Lib.compact x).length cap],[],[],rfl,g2,λ_ _ h=>h,g3,A7,λb hb=>?_,⟨rfl,rfl⟩,⟨rfl,rfl⟩,⟨_,_,rfl,rfl,zg.2 ⟨.arr blk off (Lib.compact x).length cap 1,_,rfl,rfl,harr,rfl⟩⟩⟩;have:b=blk:=by simpa using hb
  subst this;exact⟨hfree.1,g4,.inr (by simp[Loc.blks])⟩
theorem Uz{P:Program}{f:Nat}{gl:List (Nat×(t:Ty)×List t.den)}
  (hC:∀(s:ByteArray) (c:UInt8) (w:World),Calls P f #[.string s,.string ⟨#[c]⟩] w λe w' =>e= .returned (.bool (decide (0<=Lib.indexByte s.data.toList c)))/\w' =w):
  pR P gl f ⟨[(false,.dat .str),(false,.dat .str)],[(false,.dat .bool)],[],λx=>yQ x.1 x.2⟩:=by
 intro w ok O vals x r hlt _ _ _ hrel hfn;obtain⟨v,cs,vs',O1,O2,rfl,rfl,h1,⟨h2,rfl⟩,v2,cs2,rfl,h3,h4,rfl⟩:=hrel;have h1:cs=[v]:=h1;subst h1;have h3:cs2=[v2]:=h3;subst h3;have h2:[v]=[.string ⟨x.1.toArray⟩]:=h2;have h4:[v2]=[.string ⟨x.2.toArray⟩]:=h4;obtain rfl:=(Y4 h2).1;obtain rfl:=(Y4 h4).1;simp only[yQ]at hfn;split at hfn
 ·rename_i c hx;cases hfn;rw[hx];refine(hC ⟨x.1.toArray⟩ c w).mono λe w' ⟨he,hw⟩=>?_;subst he;subst hw;exact WA (P:=P) (t:=.bool) (x:=decide (0<=Lib.indexByte x.1 c)) (ps:=[(false,.dat .str),(false,.dat .str)]) (vals:=[_,_]) ⟨rfl,rfl,rfl,F9 _,λ_ _=>rfl⟩ hlt ⟨rfl,rfl⟩ rfl
 ·cases hfn
theorem a2d{P:Program}{f:Nat}{gl:List (Nat×(t:Ty)×List t.den)}
  (hC:∀(x y:Nat) (hx:x<18446744073709551616) (hy:y<18446744073709551616) (w:World),
   Calls P f #[.int .u64 x,.int .u64 y] w λe w' =>e= .returned (.tuple #[.int .u64 ((x*y / 18446744073709551616:Nat):Int),.int .u64 ((x*y % 18446744073709551616:Nat):Int)])/\w' =w):
  pR P gl f ⟨[(false,.dat (.int .u64)),(false,.dat (.int .u64))],[(false,.dat (.int .u64)),(false,.dat (.int .u64))],[],λx=>uP x.1 x.2⟩:=by
 intro w ok O vals x r hlt _ _ _ hrel hfn;obtain⟨v,cs,vs',O1,O2,rfl,rfl,h1,⟨h2,rfl⟩,v2,cs2,rfl,h3,h4,rfl⟩:=hrel;have h1:cs=[v]:=h1;subst h1;have h3:cs2=[v2]:=h3;subst h3;have h2:[v]=[.int .u64 x.1]:=h2;have h4:[v2]=[.int .u64 x.2]:=h4;obtain rfl:=(Y4 h2).1;obtain rfl:=(Y4 h4).1;simp only[uP]at hfn;split at hfn
 ·rename_i hx;cases hfn;obtain⟨a,b⟩:=x;obtain⟨p,rfl⟩:=Int.eq_ofNat_of_zero_le hx.1;obtain⟨q,rfl⟩:=Int.eq_ofNat_of_zero_le hx.2.2.1;refine(hC p q (by have:=hx.2.1;simp only at this;omega) (by have:=hx.2.2.2;simp only at this;omega) w).mono λe w' ⟨he,hw⟩=>?_;subst he;subst hw;refine⟨_,ok,[],[_,_],[],[],rfl,⟨rfl,rfl,rfl,F9 _,λ_ _ _=>rfl⟩,λ_ _ h=>h,λb t h=>⟨hlt b t h,.inl h⟩,A7,A7,⟨rfl,rfl⟩,⟨rfl,rfl⟩,?_⟩;exact⟨_,_,_,[],[],rfl,rfl,rfl,⟨rfl,rfl⟩,_,_,rfl,rfl,rfl,rfl⟩
 ·cases hfn
theorem a2b{P:Program}{t f e:Nat}{n:String}{inf:TypeInfo}{m:Method}(ht:P.info? t=some inf)(hm:inf.methods.find? (·.name==n)=some m)(hp:m.path.toList=[])
  (hf:m.func=some (f,false)) (hu:P.underlying t=some (.pointer e)):Ff P t n f (some e):=by
 intro v w ad h;subst h;have h1:∀d,(method (d+1) t (.pointer (some ad)) n).run P w=((loadVar e ad).run P w).andThen λu w' => .ok (f,u) w' :=by
  intro d;unfold method;have hti:(typeInfo t).run P w= .ok inf w:=by simp[typeInfo,ht]
  rw[G5,hti];simp only[Result.andThen,hm,hp,hf];rw[G5];simp only[follow,Y8,Result.andThen];have hr:∀wr,(receiverAt t (.val (.pointer (some ad))) false wr).run P w=(loadVar e ad).run P w:=by
   intro wr;unfold receiverAt;rw[G5,run_underlying hu];have hw:∀s,Builtin.ssaWrapNilChk_ #[t] t #[.pointer (some ad),strVal "",strVal s]=pure (.pointer (some ad)):=λs=>rfl;cases wr with
   |none=>simp[Result.andThen,Place.get,asAddr]|some s=>simp[Result.andThen,Place.get,asAddr,hw]
  rw[G5,hr];rfl
 exact h1 _
def a6d(P:Program)(t:Nat)(n:String)(f e:Nat):Bool:=match P.info? t with
 |some inf=>match inf.methods.find? (·.name==n)with
  |some m=>match m.path.toList,m.func,P.underlying t with
   |[],some (f',false),some (.pointer e')=>Nat.beq f' f&&Nat.beq e' e|_,_,_=>false
  |none=>false
 |none=>false
theorem Ot{P:Program}{t f e:Nat}{n:String}(h:a6d P t n f e=true):Ff P t n f (some e):=by
 unfold a6d at h;split at h
 ·rename_i inf hi;split at h
  ·rename_i m hm;split at h
   ·rename_i h1 h2 h3;simp only[C9]at h;have e1:=jy h.1;have e2:=jy h.2;subst e1;subst e2;exact a2b hi hm h1 h2 h3
   ·cases h
  ·cases h
 ·cases h
end Go.GP
