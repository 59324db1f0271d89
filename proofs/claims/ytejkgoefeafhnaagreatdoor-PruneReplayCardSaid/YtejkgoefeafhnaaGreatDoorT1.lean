import Derived.Test.YtejkgoefeafhnaaGreatDoorT0
import Derived.MapKept
import Derived.WideKeyRuns
import Derived.Orders
import Derived.LoopN
import Derived.Laws.StructEq
import Derived.ChangeSame
import Derived.Carry
import Derived.SizedLaws
import Derived.Deep.DeepHandedRow
import Derived.Lib.LaidTab
import Derived.Lib.ItoaNum
import Derived.Lib.ItoaMem
import Derived.Lib.Repeat
import Derived.Sort.Grow
import Derived.Lib.SlicesCompact
import Derived.Lib.Bytealg
import Derived.Sort.Row
set_option linter.all false
namespace Go.GP
theorem MQ:∀(vs:d1D) (k off:Nat) (cs:Array Value),off+k+vs.length<=cs.size->
  (vs.zipIdx k).foldl (λcs (x:Value×Nat)=>cs.setIfInBounds (off+x.2) x.1) cs=(cO (off+k) vs cs.toList).toArray
 |[],k,off,cs,h=>by simp[cO]|v::vs,k,off,cs,h=>by
  simp only[List.zipIdx_cons,P6];rw[MQ vs (k+1) off (cs.setIfInBounds (off+k) v) (by simp only[H9]at h;rw[Array.size_setIfInBounds];omega)];congr 1;simp only[H9]at h;have hsz:cs.toList.length=cs.size:=rfl;apply bu;intro i;rw[wI (by rw[Array.toList_setIfInBounds,ji];omega),wI (by rw[H9];omega)];simp only[Array.toList_setIfInBounds,H9,Z9];by_cases h1:i<off+k
  .rw[if_pos (show i<off+(k+1) by omega),if_pos h1,if_neg (show ¬off+k=i by omega)]
  .rw[if_neg h1];by_cases h2:i=off+k
   .subst h2;rw[if_pos (show off+k<off+(k+1) by omega),if_pos rfl,if_pos (show off+k<cs.toList.length by omega),if_pos (show off+k<off+k+(vs.length+1) by omega)];simp
   .rw[if_neg (show ¬i<off+(k+1) by omega)];by_cases h3:i<off+(k+1)+vs.length
    .rw[if_pos h3,if_pos (show i<off+k+(vs.length+1) by omega)];rw[show i -(off+k)=(i -(off+(k+1)))+1 by omega];simp
    .rw[if_neg h3,if_neg (show ¬i<off+k+(vs.length+1) by omega),if_neg (show ¬off+k=i by omega)]
theorem a4u(v:Value)(off:Nat)(cs:Array Value)(h:off+v.cells.size<=cs.size):
  v.cells.zipIdx.foldl (λcs (c,j)=>cs.setIfInBounds (off+j) c) cs=(cO off v.cells.toList cs.toList).toArray:=by
 have:=MQ v.cells.toList 0 off cs (by simpa using h);rw[dW]at this;rw[←this,←Array.foldl_toList,Array.toList_zipIdx]
theorem a1V{place:Nat->Option (Nat×Nat)}{cs:Array Value}{i off size:Nat}{v:Value}{rest:List (Nat×Value)}(hp:place i=some (off,size))(hs:v.cells.size=size)(hf:off+v.cells.size<=cs.size):
  Instr.fill place cs ((i,v)::rest)=Instr.fill place (cO off v.cells.toList cs.toList).toArray rest:=by
 have h2:¬(v.cells.size≠size\/off+v.cells.size>cs.size):=l7;simp only[Instr.fill,hp];rw[if_neg (by simpa using h2),a4u v off cs hf]
theorem f_{size:Nat} :∀(vs:d1D) (n:Nat) (cs:Array Value),(∀v∈vs,v.cells.size=size)->cs.size=(n+vs.length)*size->
  Instr.fill (λi=>some (i*size,size)) cs ((List.range' n vs.length).zip vs)=some (cs.toList.take (n*size)++vs.flatMap (λv=>v.cells.toList)).toArray
 |[],n,cs,_,h=>by simp only[dG,dW]at h;have:cs.toList.take (n*size)=cs.toList:=Y8 (by rw[←h];exact E9 _);simp[Instr.fill,this]|v::vs,n,cs,hv,h=>by
  have h1:=hv v x9;simp only[H9]at h;have e1:(n+(vs.length+1))*size=n*size+size+vs.length*size:=by rw[P5,P5];omega
  simp only[H9,oV,nC];rw[a1V (off:=n*size) (size:=size) rfl h1 l7];rw[f_ vs (n+1) _ (λu hu=>hv u (by simp[hu])) (by have:=yN (p:=n*size) (us:=v.cells.toList) (L:=cs.toList) Z5;simp only[eQ,this];rw[P5,P5];simp;omega)]
  congr 2;simp only[List.flatMap_cons];rw[←G5];congr 1;unfold cO;have hsz:cs.toList.length=cs.size:=rfl;have h1' :v.cells.toList.length=size:=h1;rw[P5,bZ,aH (by rw[F5,bM,h1'];omega)];rw[Y8 (by rw[F5,bM,h1'];omega)]
theorem QD{P:Program}{w:World}{t e:TypeId}{inf:TypeInfo}{z:Value}{n sz:Nat}{parts:Array (Nat×Value)}{F:Array Value}(hu:P.underlying t=some (.slice e))(hi:P.info? e=some inf)(hs:inf.size=sz)(hz:inf.zero=some z)
  (hle:n*sz<=16777216) (hf:∀cs:Array Value,cs.size=n*sz->Instr.fill (λi=>some (i*sz,sz)) cs parts.toList=some F):
  (Instr.buildSlice t n parts).run P w= .ok (.slice (some ⟨w.heap.size,0,none⟩) n n) (w.alloc (.cells F e)):=by
 subst hs;have hsz:(sizeOf e).run P w= .ok inf.size w:=by simp[sizeOf,typeInfo,hi]
 have hnle:¬(n*inf.size>2^24):=by show ¬(n*inf.size>16777216);omega
 unfold Instr.buildSlice;simp only[H8,run_underlying hu,J8,hsz,if_neg hnle];generalize n*inf.size=N at*;have fin:∀zero:Array Value,((match Instr.fill (λi=>some (i*inf.size,inf.size)) ((Array.range N).map (zero[·% zero.size]!)) parts.toList with
   |some cells=>(do pure (Value.slice (some (←newRow e cells)) n n):Sem Value)
   |_=>stuck "buildSlice: a part of the wrong size"):Sem Value).run P w= .ok (.slice (some ⟨w.heap.size,0,none⟩) n n) (w.alloc (.cells F e)):=λzero=>by
  rw[hf _ x9];simp[newRow]
 by_cases hn:N=0
 .rw[if_pos hn];simp only[H8,aI,J8];exact fin _
 .rw[if_neg hn];have hzv:(zeroValue e).run P w= .ok z w:=by simp[zeroValue,typeInfo,hi,hz]
  simp only[H8,hzv,aI,J8];exact fin _
variable {t:TypeId}
section
variable {X:Fx} {cl ch:Nat} {S:Sm} {m:Mp} {ok:Nat->Ty->Prop} {a:Act} {w:World} {o:Oper}
theorem OX{α:Type}{Q:α->Sm->Prop}(u:Ty):∀(is:d1B) (vs:List V) {us:d1D} (n k:Nat) {K:List u.den->Cmd α} {S:Sm} {ok:Nat->Ty->Prop} (R:Rel X cl ch S m ok a w) (hl:is.length=us.length)
  (hv:kK ⟨w.heap,ok,m⟩ vs us)
  (hK:∀S' ok' xs,Rel X cl ch S' m ok' a w->(∀b t,ok b t->ok' b t)->us.length=k->is=List.range' n us.length->(∀v∈us,v.cells.size=u.size)->xs.length=us.length->fM w.heap ok' u xs (us.flatMap λv=>v.cells.toList)->(K xs).post S' Q),
  (Df u (is.zip vs) n k K).post S Q
 |[],vs,us,n,k,K,S,ok,R,hl,hv,hK=>by
  have:us=[]:=by cases us<;>simp at hl ⊢
  subst this;simp only[List.zip_nil_left];cases k with
  |zero=>unfold Df;exact hK S ok [] R (λ_ _ h=>h) rfl rfl x9 rfl fM.nil|succ k=>unfold Df;trivial
 |i::is,vs,us,n,k,K,S,ok,R,hl,hv,hK=>by
  cases us with
  |nil=>simp at hl|cons x us=>
  cases vs with
  |nil=>simp[kK]at hv|cons v vs=>
  obtain⟨x',r,e,h1,h2⟩:=hv;simp only[O0]at e;obtain⟨rfl,rfl⟩:=e;simp only[nC];cases k with
  |zero=>unfold Df;trivial|succ k=>
  unfold Df;refine iD λhi=>zo h1 λcs hcs=>?_;have hi' :=jU hi;subst hi';refine Jg (T:=[]) u R Tk.nil hcs λS1 ok1 y q ws ws' R1 T1 k1 s1 e1 g1 l1=>?_;cases q with
  |cons _ _=>trivial|nil=>
  simp only[jf]at l1;subst l1;simp only[H6]at e1;refine OX u is vs (i+1) k R1 (by simpa using hl) (Qy k1 h2) λS2 ok2 ys R2 k2 c1 c2 c3 c4 c5=>?_;refine hK S2 ok2 (y::ys) R2 (λb t h=>k2 b t (k1 b t h)) (by simp[c1]) ?_ ?_ (by simp[c4]) ?_
  .simp[oV,c2]
  .intro z hz;rcases D6.1 hz with rfl|hz
   .have:=iK g1;rw[←e1]at this;simpa using this
   .exact c3 z hz
  .have:=(fM.one (gQ k2 (λ_ _ _=>rfl) g1)).append c5;simpa[e1]using this
theorem MF{α:Type}{Q:α->Sm->Prop}(md:M):∀(is:d1B) (vs:List V) {us:d1D} (n k:Nat) {K:List md.den->Cmd α} {S:Sm} {ok:Nat->Ty->Prop} {T:d1B} (R:Rel X cl ch S m ok a w) (hT:Tk X S m ok w T) (hl:is.length=us.length)
  (hv:kK ⟨w.heap,ok,m⟩ vs us)
  (hK:∀S' ok' xs Os,Rel X cl ch S' m ok' a w->Tk X S' m ok' w (T++Os.flatten)->(∀b t,ok b t->ok' b t)->us.length=k->is=List.range' n us.length->(∀v∈us,v.cells.size=md.size)->xs.length=us.length->Ad w.heap ok' md xs (us.flatMap λv=>v.cells.toList) Os->(K xs).post S' Q),
  (zl md (is.zip vs) n k K).post S Q
 |[],vs,us,n,k,K,S,ok,T,R,hT,hl,hv,hK=>by
  have:us=[]:=by cases us<;>simp at hl ⊢
  subst this;simp only[List.zip_nil_left];cases k with
  |zero=>unfold zl;exact hK S ok [] [] R (by simpa using hT) (λ_ _ h=>h) rfl rfl x9 rfl Ad.nil|succ k=>unfold zl;trivial
 |i::is,vs,us,n,k,K,S,ok,T,R,hT,hl,hv,hK=>by
  cases us with
  |nil=>simp at hl|cons x us=>
  cases vs with
  |nil=>simp[kK]at hv|cons v vs=>
  obtain⟨x',r,e,h1,h2⟩:=hv;simp only[O0]at e;obtain⟨rfl,rfl⟩:=e;simp only[nC];cases k with
  |zero=>unfold zl;trivial|succ k=>
  unfold zl;refine iL λhi=>zo h1 λcs hcs=>?_;have hi' :=jU hi;subst hi';refine Jq md R hT hcs λS1 ok1 y q ws ws' O R1 T1 k1 s1 e1 g1 l1=>?_;cases q with
  |cons _ _=>trivial|nil=>
  simp only[jf]at l1;subst l1;simp only[H6]at e1;refine MF md is vs (i+1) k R1 T1 (by simpa using hl) (Qy k1 h2) λS2 ok2 ys Os R2 T2 k2 c1 c2 c3 c4 c5=>?_;refine hK S2 ok2 (y::ys) (O::Os) R2 (by simpa[G5]using T2) (λb t h=>k2 b t (k1 b t h)) (by simp[c1]) ?_ ?_ (by simp[c4]) ?_
  .simp[oV,c2]
  .intro z hz;rcases D6.1 hz with rfl|hz
   .have:=gX g1;rw[←e1]at this;simpa using this
   .exact c3 z hz
  .have:=(Ad.one (lL k2 (λ_ _ _=>rfl) (λ_ _=>rfl) g1)).append c5;simpa[e1]using this
theorem a1p(H:FxOk X){q:Nat}(R:Rel X (CB*q) (CB*q+CB) S m ok a w){n:Nat}{ps:Array (Nat×Operand)}(ho:o.op= .buildSlice t n ps):(dY X.E q o).post S (λ_ S' =>jX X (CB*q) (CB*q+CB) o a w m ok S'):=by
 unfold dY;simp only[ho];split<;>try trivial
 rename_i e u het;obtain⟨j,z,inf,hu,hj,h1,h2,h3,h4,h5,h6⟩:=zx H het;have hz:=iK h6;refine iD λhle=>pK R _ λvs hvs=>?_;have hle' :n*u.size<=16777216:=ax hle;split
 rotate_left
 .rename_i md hom;refine iL λhc=>?_;simp only[A8]at hc;have hms:=jU hc.1;refine MF md _ vs 0 n (T:=[]) R Tk.nil x9 hvs λS' ok' xs Os R' T' k c1 c2 c3 c4 c5=>?_;rw[G6]at T';simp only[H7]at c1 c2;have hparts:(ps.map λ(i,x)=>(i,a.eval x)).toList=(List.range' 0 ((ps.toList.map (·.2)).map a.eval).length).zip ((ps.toList.map (·.2)).map a.eval):=by
   simp only[H7];rw[←c2];simp[List.zip_map',List.zip_map,uu,Function.comp_def]
  have hxl:xs.length=n:=by rw[c4];simpa using c1
  have hflat:=c5.1;have hcl:((ps.toList.map (·.2)).map a.eval).length=n:=by simpa using c1
  have hfill:∀cs:Array Value,cs.size=n*u.size->Instr.fill (λi=>some (i*u.size,u.size)) cs (ps.map λ(i,x)=>(i,a.eval x)).toList=some ((((ps.toList.map (·.2)).map a.eval).flatMap λv=>v.cells.toList)).toArray:=λcs hcs=>by rw[hparts,f_ _ 0 cs (by rw[←hms];exact c3) (by rw[hcl,hcs];simp)];simp
  refine P_ (w1:=w) (e:=e) (cap:=xs.length) H R' T' rfl rfl rfl rfl hc.2 c5 T'.nodup (λ_ h=>h) (E9 _) (by rw[←hflat];simp) (c:=((((ps.toList.map (·.2)).map a.eval).flatMap λv=>v.cells.toList)).toArray) (Y8 (by rw[hflat];exact E9 _)) (λ_ _ h=>h) k ?_;have hrun:=QD (w:=w) (n:=n) hu h1 h2 h5 hle' hfill;simp only[execOp,ho,H8,hrun,J8,aI,hxl]
 refine OX u _ vs 0 n R x9 hvs λS' ok' xs R' k c1 c2 c3 c4 c5=>?_;have hsz:(sizeOf e).run X.P w= .ok u.size w:=by simp[sizeOf,typeInfo,h1,h2]
 simp only[H7]at c1 c2;have hparts:(ps.map λ(i,x)=>(i,a.eval x)).toList=(List.range' 0 ((ps.toList.map (·.2)).map a.eval).length).zip ((ps.toList.map (·.2)).map a.eval):=by simp only[H7];rw[←c2];simp[List.zip_map',List.zip_map,uu,Function.comp_def]
 have hxl:xs.length=n:=by rw[c4];simpa using c1
 have hflat:=c5.1;have hcl:((ps.toList.map (·.2)).map a.eval).length=n:=by simpa using c1
 have hfill:∀cs:Array Value,cs.size=n*u.size->Instr.fill (λi=>some (i*u.size,u.size)) cs (ps.map λ(i,x)=>(i,a.eval x)).toList=some ((((ps.toList.map (·.2)).map a.eval).flatMap λv=>v.cells.toList)).toArray:=λcs hcs=>by rw[hparts,f_ _ 0 cs c3 (by rw[hcl,hcs];simp)];simp
 refine Ru (w1:=w) (e:=e) (cap:=xs.length) H R' rfl rfl rfl rfl (Jo het) c5 (E9 _) (by rw[←hflat];simp) (c:=((((ps.toList.map (·.2)).map a.eval).flatMap λv=>v.cells.toList)).toArray) (Y8 (by rw[hflat];exact E9 _)) (λ_ _ h=>h) k ?_;have hrun:=QD (w:=w) (n:=n) hu h1 h2 h5 hle' hfill;simp only[execOp,ho,H8,hrun,J8,aI,hxl]
theorem Zo{E:Env} :∀{fs:List (Nat×Nat)},a9u E fs=true->∀p∈fs,∃i,gB E.tt p.1=some i
 |[],_,p,hp=>by cases hp|(t,o)::r,h,p,hp=>by
  unfold a9u at h;cases hi:gB E.tt t with
  |none=>simp[hi]at h|some i=>
   simp only[hi]at h;rcases D6.1 hp with rfl|hp
   .exact⟨i,hi⟩
   .exact Zo h p hp
def Vs(P:Program)(fields:Array Field):List (Nat×Nat):=fields.toList.map λf=>(f.offset,((P.info? f.type).map (·.size)).getD 0)
theorem Yh{P:Program} :∀(fs:List Field),(∀f∈fs,∃i,P.info? f.type=some i)->
  fs.mapM (λf=>(P.info? f.type).map λi=>(f.offset,i.size))=some (fs.map λf=>(f.offset,((P.info? f.type).map (·.size)).getD 0))
 |[],_=>by simp|f::fs,h=>by obtain⟨i,hi⟩:=h f x9;rw[List.mapM_cons,Yh fs (λg hg=>h g (by simp[hg]))];simp[hi]
theorem Nw{α:Type}{Q:α->Sm->Prop}(H:FxOk X){t:Nat}{fields:Array Field}(hu:X.P.underlying t=some (.struct fields)):
  ∀(is:d1B) (vs:List V) {us:d1D} {cs:List V} {arr:Array Value} {K:List V->Cmd α} (hl:is.length=us.length) (hv:kK ⟨w.heap,ok,m⟩ vs us) (hc:jf ⟨w.heap,ok,m⟩ cs arr.toList)
  (hK:∀cs' arr',Instr.fill ((Vs X.P fields).toArray[·]?) arr (is.zip us)=some arr' ->jf ⟨w.heap,ok,m⟩ cs' arr'.toList->(K cs').post S Q),(Hm X.E t (is.zip vs) cs K).post S Q
 |[],vs,us,cs,arr,K,hl,hv,hc,hK=>by simp only[List.zip_nil_left];unfold Hm;exact hK cs arr (by simp[Instr.fill]) hc|i::is,vs,us,cs,arr,K,hl,hv,hc,hK=>by
  cases us with
  |nil=>simp at hl|cons x us=>
  cases vs with
  |nil=>simp[kK]at hv|cons v vs=>
  obtain⟨x',r,e,h1,h2⟩:=hv;simp only[O0]at e;obtain⟨rfl,rfl⟩:=e;simp only[nC];unfold Hm;split<;>try trivial
  rename_i off n ag hf;obtain⟨fields',fld,j,hu',hfl,hoff,hj,hn,hn0,_⟩:=LH H hf;rw[hu]at hu';cases hu';obtain⟨inf,i1,i2,_⟩:=hj.info;refine zo h1 λws hws=>iD λhb=>Ja off ws cs λhle=>?_;have hb' :=jU hb;have hL:=qA hc;have hLw:=qA hws;have hxs:x.cells.size=n:=by simp at hLw;omega
  have hpl:((Vs X.P fields).toArray[i]?)=some (off,n):=by
   have hfl' :fields.toList[i]? =some fld:=by simpa using hfl
   simp[Vs,hfl,i1,i2,hoff,hn]
  refine Nw H hu is vs (arr:=(cO off x.cells.toList arr.toList).toArray) (by simpa using hl) h2 (by simpa using Ll hws hc) λcs' arr' hfill hrel=>?_;refine hK cs' arr' ?_ hrel;rw[nC,a1V (place:=λk=>(Vs X.P fields).toArray[k]?) (cs:=arr) hpl hxs (by simp at hL;omega)];exact hfill
theorem b4E(H:FxOk X)(R:Rel X cl ch S m ok a w){ps:Array (Nat×Operand)}{q:Nat}(ho:o.op= .build t ps):(dY X.E q o).post S (λ_ S' =>jX X cl ch o a w m ok S'):=by
 unfold dY;simp only[ho];refine pq H λi hi=>?_;split<;>try trivial
 rename_i fs htd';have htd:=hi.td;rw[htd']at htd;obtain⟨fields,hu,hfs⟩:=htd;refine iD λhb=>pK R _ λvs hvs=>?_;simp only[A8]at hb;obtain⟨inf,h1,h2,h3,h4,h5⟩:=hi.info;obtain⟨z,hz1,hz2⟩:=h4 (jU hb.2);refine Nw H hu _ vs (us:=(ps.toList.map (·.2)).map a.eval) (arr:=z.cells) x9 hvs (a0q hz2) λcs' arr' hfill hrel=>?_;refine dh H R (v:=.agg cs') (x:=.agg arr') ⟨arr',rfl,hrel⟩ ?_;have hparts:(ps.map λ(i,x)=>(i,a.eval x)).toList=(ps.toList.map (·.1)).zip ((ps.toList.map (·.2)).map a.eval):=by simp[List.zip_map',List.zip_map,uu,Function.comp_def]
 have hmap:=Yh (P:=X.P) fields.toList (λf hf=>by obtain⟨i',hi'⟩:=Zo hb.1 (f.type,f.offset) (by rw[←hfs];exact U0.2 ⟨f,hf,rfl⟩);obtain⟨inf',q1,_⟩:=(H.tt _ _ hi').info;exact⟨inf',q1⟩)
 have hbuilt:X.P.built t (ps.map λ(i,x)=>(i,a.eval x)).toList=some arr' :=by unfold Program.built;simp only[h1,hu,hz1,hmap];rw[hparts];exact hfill
 have:=run_build (P:=X.P) w t _ arr' hbuilt;simp only[execOp,ho,H8,this,J8,aI]
end
end Go.GP
namespace Go.GP
def Ia(h:Array Obj)(sz:Nat)(v:Value)(n:Nat)(es:d1D):Prop:=
 es.length=n*sz/\((n=0/\∃ad cap,v= .slice ad 0 cap)\/∃blk off cap,v= .slice (some ⟨blk,off,none⟩) n cap/\0<n/\gU h blk off (n*sz)=some es)
variable {v:Value}{h:Array Obj}
theorem b8E{ok:Nat->Ty->Prop}{t:Ty}{ys:List t.den}(ht:t.isEnt=false)(hr:oD h ok (.sl t) ys [v]):∃es,Ia h t.size v ys.length es/\fM h ok t ys es:=by
 obtain⟨ad,cap,e,hc,hel⟩:=(Gm ht).1 hr;simp only[O0,and_true]at e;subst e;rcases jS ys.length with h0|h0
 .have:ys=[]:=U2.1 h0;subst this;exact⟨[],⟨x9,.inl ⟨rfl,ad,cap,rfl⟩⟩,fM.nil⟩
 .obtain⟨y,hy⟩:∃y,ys[ys.length -1]? =some y:=by
   refine⟨ys[ys.length -1]'l7,?_⟩;exact bn _
  obtain⟨blk,off,es,rfl,hok,he,hr⟩:=hel _ y hy;obtain⟨c,T,f,hb,hn,_⟩:=zn he;have hle:off+ys.length*t.size<=c.size:=by
   have:ys.length*t.size=(ys.length -1)*t.size+t.size:=by
    conv=>lhs;rw[show ys.length=(ys.length -1)+1 by omega,P5,bZ]
   omega
  refine⟨(c.toList.drop off).take (ys.length*t.size),⟨by simp;omega,.inr ⟨blk,off,cap,rfl,h0,qQ hb _ _ hle⟩⟩,by simp;omega,λi x hi=>?_⟩;obtain⟨blk',off',es',ha',hok',he',hr'⟩:=hel i x hi;simp only[O8,tu,and_true]at ha';obtain⟨rfl,rfl⟩:=ha';obtain⟨c',T',f',hb',hn',rfl⟩:=zn he';rw[hb]at hb';cases hb';have hlt:=(X6.1 hi).1;have hle2:(i+1)*t.size<=ys.length*t.size:=G9 _ l7;rw[P5,bZ]at hle2;rw[jK,iR,aO,eX l7];exact hr'
variable {C:Cx}{l:Loc}
theorem a0U{t:Ty}{xs:List t.den}(ht:t.isEnt=false)(ha:arrOk C t xs l)(hv:l.view none v):∃es,Ia C.h t.size v xs.length es/\fM C.h C.ok t xs es:=by
 cases l with
 |st b=>cases ha|mp b=>exact absurd ha.1 (by simp[ht])|nil=>obtain⟨ha,_⟩:=ha;subst ha;simp only[Loc.view]at hv;subst hv;exact⟨[],⟨x9,.inl ⟨rfl,none,0,rfl⟩⟩,fM.nil⟩
 |arr blk off len cap sz=>
  obtain⟨c,T,hb,rfl,rfl,hc,hf,hr⟩:=Wp ha;simp only[Loc.view]at hv;subst hv;have hle:xs.length*t.size<=cap*t.size:=G9 _ hc;refine⟨_,⟨hr.1,?_⟩,hr⟩;rcases jS xs.length with h0|h0
  .exact .inl ⟨h0,_,cap,by rw[h0]⟩
  .exact .inr ⟨blk,off,cap,rfl,h0,qQ hb _ _ l7⟩
variable {es:d1D}{P:Program}
theorem zf{w w' :World}{sz n:Nat}(h:Ia w.heap sz v n es)(hh:w'.heap=w.heap):(Builtin.firstCells sz n v).run P w' = .ok es.toArray w' :=by
 obtain⟨hl,h⟩:=h;rcases h with⟨rfl,ad,cap,rfl⟩|⟨blk,off,cap,rfl,hn,hc⟩
 .have:es=[]:=U2.1 (by simpa using hl);subst this;cases ad with
  |none=>simp[Builtin.firstCells]|some b=>have:=run_loadCells_list (P:=P) w' b [] (λj v h=>by simp at h);simp[Builtin.firstCells];simpa using this
 .refine run_firstCells_some w' sz n _ _ cap es hl λj u hu=>?_;rw[jc];exact yz (w:=w') (by rw[hh];exact hc) hu
theorem Ia.lenOf{sz n:Nat}(hs:Ia h sz v n es)(w:World):(Builtin.lenOf v).run P w= .ok n w:=by rcases hs.2 with⟨rfl,ad,cap,rfl⟩|⟨blk,off,cap,rfl,hn,hc⟩<;>rfl
section runs
variable {P:Program} {w:World} {t ty e:TypeId} {i:TypeInfo} {z:Value}
theorem Tj(ht:P.underlying t=some (.slice e))(hi:P.info? e=some i){blk off len cap n:Nat}{c:Array Value}{T:TypeId}(hb:w.heap[blk]? =some (.cells c T (0,0)))(hv:Ia w.heap i.size v n es)
  (h1:∀u∈es,u.oneCell' =true) (hroom:len+n<=cap) (hfit:off+cap*i.size<=c.size):
  (Builtin.append_ #[t,t] ty #[.slice (some ⟨blk,off,none⟩) len cap,v]).run P w= .ok (.slice (some ⟨blk,off,none⟩) (len+n) cap) (w.setRow blk (cO (off+len*i.size) es c.toList).toArray):=by
 have hle:(len+n)*i.size<=cap*i.size:=G9 _ hroom;rw[P5,←hv.1]at hle;have hf:=zf (P:=P) (w' :=w) hv rfl;have hst:=run_storeCells_at P blk (off+len*i.size) T es 0 c w hb l7 h1;simp only[dW]at hst;simp[Builtin.append_,run_underlying ht,sizeOf,typeInfo,hi,hv.lenOf,hroom,hf,jc,hst,cO]
theorem Pm(ht:P.underlying t=some (.slice e))(hi:P.info? e=some i)(hv:Ia w.heap i.size v 0 es):
  (Builtin.append_ #[t,t] ty #[.slice none 0 0,v]).run P w= .ok (.slice none 0 0) w:=by
 have hf:=zf (P:=P) (w' :=w) hv rfl;simp[Builtin.append_,run_underlying ht,sizeOf,typeInfo,hi,hv.lenOf,hf]
theorem QC(ht:P.underlying t=some (.slice e))(hi:P.info? e=some i)(hz:i.zero=some z)(hby:i.bytes<=65536){s v:Value}{sAd:Option Addr}{len cap n:Nat}{olds es:d1D}(hse:s= .slice sAd len cap)
  (hs:Ia w.heap i.size s len olds) (hv:Ia w.heap i.size v n es) (hg:cap<len+n) (hmax:len+n<=1073741824):
  (Builtin.append_ #[t,t] ty #[s,v]).run P w= .ok (.slice (some ⟨w.heap.size,0,none⟩) (len+n) (grownCap w (len+n) cap e))
   (w.drew.alloc (.cells ((olds++es).toArray++Builtin.zeroCells z.cells (grownCap w (len+n) cap e -(len+n))) e)):=by
 subst hse;have hn:¬(len+n<=cap):=l7;have h63' :¬(9223372036854775807<((len:Int)+(n:Int))):=l7;have hb2:(len+n)*i.bytes<=1073741824*65536:=Nat.mul_le_mul hmax hby;have h48' :¬(281474976710656<Builtin.nextslicecap (len+n) cap*i.bytes):=by have:=growslice_fits hg (show(len+n)*i.bytes<=140737488355328 by omega);omega
 have hf:=zf (P:=P) (w' :=w.drew) hv rfl;have hfo:=zf (P:=P) (w' :=w.drew) hs rfl;simp[Builtin.append_,run_underlying ht,sizeOf,typeInfo,zeroValue,hi,hz,hv.lenOf,hn,h63',h48',Question.forced,hf,hfo,newRow,grownCap];generalize Builtin.zeroCells _ _=Z;congr 2;apply lX;simp
end runs
variable {α:Type}{q:Nat}{t:TypeId}{Q:α->Sm->Prop}{u:Ty}{z:Value}{e:TypeId}{inf:TypeInfo}
section
variable {X:Fx} {cl ch:Nat} {S:Sm} {m:Mp} {ok:Nat->Ty->Prop} {a:Act} {w:World} {o:Oper}
theorem Tn(R:Rel X cl ch S m ok a w)(ht:u.isEnt=false){y:V}{vy:Value}{K:List u.den->Cmd α}(hy:pg ⟨w.heap,ok,m⟩ y vy)
  (hK:∀ys es,Ia w.heap u.size vy ys.length es->fM w.heap ok u ys es->(K ys).post S Q):(a5X u y K).post S Q:=by
 unfold a5X;split<;>try trivial
 .have hy' :vy= .slice none 0 0:=hy;subst hy';simp only[ht,cond_false];exact hK [] [] ⟨x9,.inl ⟨rfl,none,0,rfl⟩⟩ fM.nil
 .obtain⟨ad,c,rfl,_⟩:=(show ∃a c,vy=Value.slice a 0 c/\a.isNone=_ from hy);simp only[ht,cond_false];exact hK [] [] ⟨x9,.inl ⟨rfl,ad,c,rfl⟩⟩ fM.nil
 .rename_i t' xs;refine iq λe=>?_;subst e;obtain⟨es,h1,h2⟩:=b8E ht (show oD w.heap ok (.sl t') xs [vy]from hy);exact hK xs es h1 h2
 .rename_i bx vw;obtain⟨l,hm,hv⟩:=hy;refine gZ ?_;split<;>try trivial
  .rename_i t' xs hS;obtain⟨l',hm',ha⟩:=R.own_arr hS;simp only at hm;rw[hm]at hm';cases hm';refine iq λe=>?_;subst e;obtain⟨a1,a2,_⟩:=NC ha hv;obtain⟨es,h1,h2⟩:=a0U ht a1 a2;exact hK _ es h1 h2
  .rename_i t' xs hS;obtain⟨l',hm',ha,_⟩:=R.own_frz hS;simp only at hm;rw[hm]at hm';cases hm';refine iq λe=>?_;subst e;obtain⟨a1,a2,_⟩:=NC ha hv;obtain⟨es,h1,h2⟩:=a0U ht a1 a2;exact hK _ es h1 h2
theorem XK{T:d1B}(R:Rel X cl ch S m ok a w)(hT:Tk X S m ok w T){md:M}{y:V}{vy:Value}{K:List md.den->List V->Cmd α}(hy:pg ⟨w.heap,ok,m⟩ y vy)
  (hK:∀S' ok' ys r O,Rel X cl ch S' m ok' a w->Tk X S' m ok' w (T++O)->(∀b t,ok b t->ok' b t)->fO S S' ->sH w.heap ok' (.owns md) none ys [vy] O->(K ys r).post S' Q):
  (exM FD (.owns md) [y] K).post S Q:=by
 have key:Bv ⟨w.heap,ok,m⟩ y vy->vy.oneCell' =true->(exM FD (.owns md) [y] K).post S Q:=λh1 h2=>by
  refine Jq (.owns md) R hT (vs:=[vy]) ⟨vy,[],rfl,h1,h2,rfl⟩ λS' ok' ys r us us' O R' T' k s e hr l=>?_;have:us=[vy]:=by obtain⟨v,e',_⟩:=hr;subst e';simp at e;simp[e.1]
  subst this;exact hK S' ok' ys r O R' T' k s hr
 cases y<;>try (unfold exM;trivial)
 .exact key hy (by have h:vy= .slice none 0 0:=hy;subst h;rfl)
 .refine key hy ?_;obtain⟨l,_,hv⟩:=hy;exact rM hv
theorem a2O{ok:Nat->Ty->Prop}{md:M}{xs:List md.den}{Os:List d1B}(ha:Ho h md.size (λ_ x es O=>sH h ok md none x es O) xs Os l)(hv:l.view none v):∃es,Ia h md.size v xs.length es/\Ad h ok md xs es Os:=by
 cases l with
 |st b=>cases ha|mp b=>cases ha|nil=>obtain⟨rfl,rfl⟩:=ha;simp only[Loc.view]at hv;subst hv;exact⟨[],⟨x9,.inl ⟨rfl,none,0,rfl⟩⟩,Ad.nil⟩
 |arr blk off len cap sz=>
  obtain⟨c,T,hb,rfl,rfl,hc,hf,hr⟩:=a4G ha;simp only[Loc.view]at hv;subst hv;have hle:xs.length*md.size<=cap*md.size:=G9 _ hc;refine⟨_,⟨hr.1,?_⟩,hr⟩;rcases jS xs.length with h0|h0
  .exact .inl ⟨h0,_,cap,by rw[h0]⟩
  .exact .inr ⟨blk,off,cap,rfl,h0,qQ hb _ _ l7⟩
theorem WL{xs ys zs:List α}(h:cu xs ys=some zs):xs.length+ys.length<=1073741824/\zs=xs++ys:=by
 unfold cu at h;split at h
 .cases h;exact⟨by assumption,rfl⟩
 .cases h
theorem QR(z:Array Value)(n:Nat):(Builtin.zeroCells z n).size=n*z.size:=by simp[Builtin.zeroCells]
theorem SB(H:FxOk X)(R:Rel X (CB*q) (CB*q+CB) S m ok a w)(ht:u.isEnt=false){j:TI}(hu:X.P.underlying t=some (.slice e))(h1:X.P.info? e=some inf)(h2:inf.size=u.size)(h4:inf.bytes<=65536)
  (h5:inf.zero=some z) (hz:z.cells.size=u.size) {xs ys:List u.den} {s v:Value} {sAd:Option Addr} {cap:Nat} {olds es:d1D} (hse:s= .slice sAd xs.length cap)
  (hs:Ia w.heap u.size s xs.length olds) (hv:Ia w.heap u.size v ys.length es) (r1:fM w.heap ok u xs olds) (r2:fM w.heap ok u ys es) (hg:cap<xs.length+ys.length) (hmax:xs.length+ys.length<=1073741824)
  (run:∀r w',(Builtin.append_ #[t,t] o.type #[s,v]).run X.P w= .ok r w' ->(execOp a.eval o).run X.P w= .ok (.value r) w'):
  (Bo (V7 q o.dst) (.barr u (xs++ys)) (gY X.E o.dst (.own (V7 q o.dst) none))).post S (λ_ S' =>jX X (CB*q) (CB*q+CB) o a w m ok S'):=by
 have hrun:=QC (P:=X.P) (w:=w) (t:=t) (ty:=o.type) hu h1 h5 h4 (s:=s) (v:=v) hse (by rw[h2];exact hs) (by rw[h2];exact hv) hg hmax;have hge:=grownCap_ge w (xs.length+ys.length) cap e;have r:=r1.append r2;rw[←F5]at hrun hge;refine Ru H R (w1:=w.drew) rfl rfl rfl rfl ht r hge ?_ ?_ (λ_ _ h=>h) (λ_ _ h=>h) (run _ _ hrun)
 .have hl:=r.1;simp only[Array.size_append,eQ,hl,QR,hz,←P5];exact G9 _ l7
 .have hl:=r.1;simp only[Array.toList_append];rw[aH (by rw[hl];exact E9 _),←hl];exact aQ
theorem SC(H:FxOk X)(R:Rel X (CB*q) (CB*q+CB) S m ok a w)(ht:u.isEnt=false)(hu:X.P.underlying t=some (.slice e))(h1:X.P.info? e=some inf)(h2:inf.size=u.size)(h4:inf.bytes<=65536)
  (h5:inf.zero=some z) (hz:z.cells.size=u.size) {ys:List u.den} {s v:Value} {es:d1D} (hse:s= .slice none 0 0)
  (hv:Ia w.heap u.size v ys.length es) (r2:fM w.heap ok u ys es) (hmax:ys.length<=1073741824)
  (run:∀r w',(Builtin.append_ #[t,t] o.type #[s,v]).run X.P w= .ok r w' ->(execOp a.eval o).run X.P w= .ok (.value r) w'):
  (Bo (V7 q o.dst) (.barr u ys) (gY X.E o.dst (.own (V7 q o.dst) none))).post S (λ_ S' =>jX X (CB*q) (CB*q+CB) o a w m ok S'):=by
 rcases jS ys.length with h0|h0
 .have hy:ys=[]:=U2.1 h0;subst hy;have hrun:=Pm (P:=X.P) (w:=w) (t:=t) (ty:=o.type) hu h1 (v:=v) (by rw[h2];exact hv);rw[←hse]at hrun;refine JA H λn e1 g1 g2 hn=>?_;rw[←e1];clear e1;generalize CB*q=Z at*;have R' :Rel X Z (Z+CB) (upd S (bV+n) (.barr u [])) (qh m n .nil []) ok a w:=by
   refine R.lay hn g1 (by show n<Z+1000000;change n+64<=Z+1000000 at g2;omega) x9 rfl rfl rfl (E9 _) (λ_ _ _=>rfl) (by simp[aC]) (λb hb=>by simp[aC]at hb) ⟨.nil,fE _ _ _ _,rfl,ht⟩
  refine xK H R' (λk l h=>?_) (λ_ _ h=>h) ⟨.nil,fE _ _ _ _,hse⟩ (run _ _ hrun);by_cases ek:k=n
  .subst ek;have:=R.fresh k g1 hn;rw[this]at h;cases h
  .rw[lC _ _ _ ek];exact h
 .have:=SB (j:=⟨0,0,.bool,none,[]⟩) H R ht hu h1 h2 h4 h5 hz (xs:=[]) (ys:=ys) (s:=s) (v:=v) (sAd:=none) (cap:=0) (olds:=[]) (es:=es) hse ⟨x9,.inl ⟨rfl,none,0,hse⟩⟩ hv fM.nil r2 (by simpa using h0) (by simpa using hmax) run;simpa using this
theorem a7i(H:FxOk X)(R:Rel X (CB*q) (CB*q+CB) S m ok a w){md:M}{j:TI}(hu:X.P.underlying t=some (.slice e))(h1:X.P.info? e=some inf)(h2:inf.size=md.size)(h4:inf.bytes<=65536)
  (h5:inf.zero=some z) (hz:z.cells.size=md.size) {x y:V} {s v:Value} (hx:pg ⟨w.heap,ok,m⟩ x s) (hy:pg ⟨w.heap,ok,m⟩ y v)
  (run:∀r w',(Builtin.append_ #[t,t] o.type #[s,v]).run X.P w= .ok r w' ->(execOp a.eval o).run X.P w= .ok (.value r) w'):
  (exM FD (.owns md) [y] λys _=>exM FD (.owns md) [x] λxs _=>Cmd.opt (cu xs ys) λzs=>Bo (V7 q o.dst) (.barrs md zs none) (gY X.E o.dst (.own (V7 q o.dst) none))).post S (λ_ S' =>jX X (CB*q) (CB*q+CB) o a w m ok S'):=by
 refine XK (T:=[]) R Tk.nil hy λS1 ok1 ys _ O1 R1 T1 k1 s1 g1=>?_;refine XK R1 T1 (RV k1 hx) λS2 ok2 xs _ O2 R2 T2 k2 s2 g2=>?_;have k12:∀b t,ok b t->ok2 b t:=λb t h=>k2 b t (k1 b t h);have g1:=lL k2 (λ_ _ _=>rfl) (λ_ _=>rfl) g1;obtain⟨hel,ly,vy,Oy,ey,hvy,hay,rfl⟩:=DU.1 g1;obtain⟨_,lx,vx,Ox,ex,hvx,hax,rfl⟩:=DU.1 g2;simp only[O0,and_true]at ey ex;subst ey;subst ex;refine jl λzs hzs=>?_;obtain⟨hmax,rfl⟩:=WL hzs;obtain⟨es,hv,ry⟩:=a2O hay hvy;obtain⟨olds,hs,rx⟩:=a2O hax hvx;have hnd2:=T2.nodup;have rr:=rx.append ry;have hT3:∀b∈(Ox++Oy).flatten,b∈[]++(ly.blks++Oy.flatten)++(lx.blks++Ox.flatten):=λb hb=>by
  simp only[lS,C9]at hb ⊢;rcases hb with hb|hb
  .exact .inr (.inr hb)
  .exact .inl (.inr (.inr hb))
 have hnd3:(Ox++Oy).flatten.Nodup:=by rw[lS];have h:=O7.1 hnd2;simp only[G6]at h;refine O7.2 ⟨(O7.1 h.2.1).2.1,(O7.1 h.1).2.1,λp hp r hr e=>h.2.2 r (by simp[hr]) p (by simp[hp]) e.symm⟩
 have fresh:∀{sAd:Option Addr} {cap:Nat},s= .slice sAd xs.length cap->cap<xs.length+ys.length->(Bo (V7 q o.dst) (.barrs md (xs++ys) none) (gY X.E o.dst (.own (V7 q o.dst) none))).post S2 (λ_ S' =>jX X (CB*q) (CB*q+CB) o a w m ok S'):=λ{sAd cap} hse hg=>by
  have hrun:=QC (P:=X.P) (w:=w) (t:=t) (ty:=o.type) hu h1 h5 h4 (s:=s) (v:=v) hse (by rw[h2];exact hs) (by rw[h2];exact hv) hg hmax;have hge:=grownCap_ge w (xs.length+ys.length) cap e;rw[←F5]at hrun hge;refine P_ H R2 T2 (w1:=w.drew) rfl rfl rfl rfl hel rr hnd3 hT3 hge ?_ ?_ (λ_ _ h=>h) k12 (run _ _ hrun)
  .have hl:=rr.1;simp only[Array.size_append,eQ,hl,QR,hz,←P5];exact G9 _ l7
  .have hl:=rr.1;simp only[Array.toList_append];rw[aH (by rw[hl];exact E9 _),←hl];exact aQ
 cases lx with
 |st b=>cases hax|mp b=>cases hax|nil=>
  obtain⟨rfl,rfl⟩:=hax;simp only[Loc.view]at hvx;rcases jS ys.length with h0|h0
  .have hy0:ys=[]:=U2.1 h0;subst hy0;have hO0:Oy=[]:=U2.1 ry.2.1;subst hO0;have hrun:=Pm (P:=X.P) (w:=w) (t:=t) (ty:=o.type) hu h1 (v:=v) (by rw[h2];exact hv);rw[←hvx]at hrun;refine JA H λn e1 g1 g2 hn=>?_;rw[←e1];clear e1;generalize CB*q=Z at*;have R' :Rel X Z (Z+CB) (upd S2 (bV+n) (.barrs md ([]++[]) none)) (qh m n .nil []) ok2 a w:=by
    refine R2.lay hn g1 (by show n<Z+1000000;change n+64<=Z+1000000 at g2;omega) x9 rfl rfl rfl (E9 _) (λ_ _ _=>rfl) (by simp[aC]) (λb hb=>by simp[aC]at hb) ⟨hel,.nil,[],fE _ _ _ _,⟨⟨rfl,rfl⟩,trivial⟩,x9⟩
   refine xK H R' (λk l h=>?_) k12 ⟨.nil,fE _ _ _ _,hvx⟩ (run _ _ hrun);by_cases ek:k=n
   .subst ek;have:=R2.fresh k g1 hn;rw[this]at h;cases h
   .rw[lC _ _ _ ek];exact h
  .exact fresh (sAd:=none) (cap:=0) hvx (by simpa using h0)
 |arr blk off len cap sz=>
  obtain⟨c,T,hb,rfl,rfl,hcap,hfit,r1⟩:=a4G hax;simp only[Loc.view]at hvx;by_cases hroom:xs.length+ys.length<=cap
  .have hrun:=Tj (P:=X.P) (w:=w) (t:=t) (ty:=o.type) (off:=off) (cap:=cap) hu h1 hb (v:=v) (n:=ys.length) (es:=es) (by rw[h2];exact hv) ry.one_cell hroom (by rw[h2];exact hfit);rw[←hvx]at hrun;obtain⟨q1,q2,q3,q4⟩:=T2.free blk (by simp[Loc.blks]);have hle:(xs.length+ys.length)*md.size<=cap*md.size:=G9 _ hroom;rw[P5]at hle;have hesl:=hv.1;have hcl:c.toList.length=c.size:=rfl;have hsp:(cO (off+xs.length*md.size) es c.toList).length=c.size:=by rw[yN l7];rfl
   have hblk:∀b∈(Ox++Oy).flatten,b≠blk:=λb hbm e=>by
    subst e;rw[lS]at hbm;have h:=O7.1 hnd2;simp only[G6]at h;rcases C9.1 hbm with hbm|hbm
    .exact(O7.1 h.2.1).2.2 b (by simp[Loc.blks]) b hbm rfl
    .exact h.2.2 b (by simp[hbm]) b (by simp[Loc.blks]) rfl
   refine JA H λn e1 g1 g2 hn=>?_;rw[←e1];clear e1;generalize CB*q=Z at*;have hoth:∀b,b≠blk->(w.setRow blk (cO (off+xs.length*md.size) es c.toList).toArray).heap[b]? =w.heap[b]?:=λb hb=>setRow_other w blk b _ hb;have hown1:aC (qh m n (.arr blk off (xs.length+ys.length) cap md.size) (Ox++Oy).flatten) n (.barrs md (xs++ys) none)=blk::(Ox++Oy).flatten:=by simp[aC]
   have R' :Rel X Z (Z+CB) (upd S2 (bV+n) (.barrs md (xs++ys) none)) (qh m n (.arr blk off (xs.length+ys.length) cap md.size) (Ox++Oy).flatten) ok2 a (w.setRow blk (cO (off+xs.length*md.size) es c.toList).toArray):=by
    refine R2.lay hn g1 (by show n<Z+1000000;change n+64<=Z+1000000 at g2;omega) x9 rfl rfl rfl x9 (λb _ hne=>hoth b (λe=>hne (by rw[hown1,e];simp))) (by rw[hown1];exact iF.2 ⟨λh=>hblk blk h rfl,hnd3⟩) (λb hbb=>?_) ⟨hel,_,Ox++Oy,fE _ _ _ _,?_,x9⟩
    .rw[hown1]at hbb;obtain⟨q1,q2,q3,q4⟩:=T2.free b (by
      rcases D6.1 hbb with rfl|h
      .simp[Loc.blks]
      .exact hT3 b h)
     exact⟨q1,by simpa using q2,q3,q4⟩
    .refine⟨?_,trivial⟩;have:=Ad.arrs (h:=(w.setRow blk (cO (off+xs.length*md.size) es c.toList).toArray).heap) (ok:=ok2) (cs:=((c.toList.drop off).take (xs.length*md.size))++es) (cap:=cap) (off:=off) ((r1.append ry).mono (λ_ _ h=>h) (λb t hb=>hoth b (λe=>q1 t (e▸hb))) (λb hb=>hoth b (hblk b hb))) (setRow_heap w blk c _ T (0,0) hb) (by rw[F5];exact hroom) (by rw[eQ,hsp];exact hfit) ?_
     .rw[F5]at this;exact this
     .simp only[F5,P5];rw[RY (n:=xs.length*md.size+ys.length*md.size) l7 l7];unfold cO;have hd:((c.toList.drop off).take (xs.length*md.size+ys.length*md.size)).drop (xs.length*md.size+es.length)=[]:=dV (by rw[bM,oU];omega);rw[iR,eX (lK _ _),hd,H6]
   refine xK H R' (λk l h=>?_) k12 ⟨_,fE _ _ _ _,rfl⟩ (run _ _ (by rw[h2]at hrun;exact hrun));by_cases ek:k=n
   .subst ek;have:=R2.fresh k g1 hn;rw[this]at h;cases h
   .rw[lC _ _ _ ek];exact h
  .exact fresh hvx l7
theorem b1M(H:FxOk X)(R:Rel X (CB*q) (CB*q+CB) S m ok a w){c:Call}(ho:o.op= .call c)(hc:c.callee= .builtin .append):(dY X.E q o).post S (λ_ S' =>jX X (CB*q) (CB*q+CB) o a w m ok S'):=by
 obtain⟨cal,args,ats⟩:=c;simp only at hc;subst hc;unfold dY;simp only[ho];refine pK R _ λvs hvs=>?_;split<;>try trivial
 rename_i t t' x y hat
 obtain⟨u1,r,he,hx,u2,r',he',hy,hr⟩:=hvs;simp only[kK]at hr;subst hr;rw[he']at he;obtain⟨p,p',rfl,rfl,rfl⟩:=z_ he;refine iD λhtt=>?_;have htt' :=jU htt;subst htt';have hats:ats=#[t,t]:=by
  obtain⟨l⟩:=ats;simp only at hat
  rw[hat]
 have run:∀(s v:Value),a.eval p=s->a.eval p' =v->∀r w',(Builtin.append_ #[t,t] o.type #[s,v]).run X.P w= .ok r w' ->(execOp a.eval o).run X.P w= .ok (.value r) w' :=λs v e1 e2 r w' h=>by subst e1;subst e2;simp[execOp,ho,resolve,invoke,builtin,hats,h]
 unfold a9z;split
 .trivial
 rename_i e u het;obtain⟨j,z,inf,hu,hj,h1,h2,h3,h4,h5,h6⟩:=zx H het;have hz:z.cells.size=u.size:=by have:=iK h6;simpa using this
 split
 rotate_left
 .rename_i md hom;refine iL λhms=>?_;have hms:=jU hms;exact a7i (j:=j) H R hu h1 (by rw[h2,hms]) h4 h5 (by rw[hz,hms]) hx hy (run _ _ rfl rfl)
 have ht:=Jo het;refine Tn R ht hy λys es hv r2=>?_;split<;>try trivial
 ·
  refine jl λzs hzs=>?_;obtain⟨hmax,rfl⟩:=WL hzs;have hx' :a.eval p= .slice none 0 0:=hx;simp only[G6];exact SC H R ht hu h1 h2 h4 h5 hz hx' hv r2 (by simpa using hmax) (run _ _ rfl rfl)
 .rename_i bx vw;obtain⟨loc,hm,hview⟩:=hx;refine gZ ?_;split<;>try trivial
  rename_i u' xs hS;refine iq λeu=>?_;subst eu;refine jl λzs hzs=>nJ ?_;obtain⟨hmax,rfl⟩:=WL hzs;obtain⟨loc',hm',ha⟩:=R.own_arr hS;simp only at hm;rw[hm]at hm';cases hm';have R1:=R.kill bx;obtain⟨a1,a2,a3⟩:=NC ha hview;generalize hl2:OV loc vw=l2 at*;generalize kN vw xs=xs' at*;cases l2 with
  |st b=>cases a1|mp b=>exact absurd a1.1 (by simp[ht])|nil=>obtain⟨a1,_⟩:=a1;subst a1;simp only[Loc.view]at a2;simp only[G6];exact SC H R1 ht hu h1 h2 h4 h5 hz a2 hv r2 (by simpa using hmax) (run _ _ rfl rfl)
  |arr blk off len cap sz=>
   obtain⟨c,T,hb,rfl,rfl,hcap,hfit,r1⟩:=Wp a1;simp only[Loc.view]at a2;simp only at hb r1;by_cases hroom:xs'.length+ys.length<=cap
   ·
    have hrun:=Tj (P:=X.P) (w:=w) (t:=t) (ty:=o.type) (off:=off) (cap:=cap) hu h1 hb (v:=a.eval p') (n:=ys.length) (es:=es) (by rw[h2];exact hv) r2.one_cell hroom (by rw[h2];exact hfit);rw[←a2]at hrun;have hown:aC m bx (S (bV+bx))=[blk]:=by
     cases loc with
     |nil=>simp[Loc.blks]at a3|st _=>cases ha|mp b=>exact absurd ha.1 (by simp[ht])|arr b2 _ _ _ _=>simp[Loc.blks]at a3;simp[aC,hS,hm,a3]
    obtain⟨s1,s2,s3⟩:=R.sep bx blk (by rw[hown];simp);have hle:(xs'.length+ys.length)*u'.size<=cap*u'.size:=G9 _ hroom;rw[P5]at hle;have hel:=hv.1;have hcl:c.toList.length=c.size:=rfl;have hsp:(cO (off+xs'.length*u'.size) es c.toList).length=c.size:=by rw[yN l7];rfl
    refine JA H λn e1 g1 g2 hn=>?_;rw[←e1];clear e1;generalize CB*q=Z at*;have hkeep:∀b t,ok b t->(w.setRow blk (cO (off+xs'.length*u'.size) es c.toList).toArray).heap[b]? =w.heap[b]?:=λb t hb=>setRow_other w blk b _ (λe=>s1 t (e▸hb));have R' :Rel X Z (Z+CB) (upd (upd S (bV+bx) .dead) (bV+n) (.barr u' (xs' ++ys))) (qh m n (.arr blk off (xs'.length+ys.length) cap u'.size) []) ok a (w.setRow blk (cO (off+xs'.length*u'.size) es c.toList).toArray):=by
     refine R1.lay hn g1 (by show n<Z+1000000;change n+64<=Z+1000000 at g2;omega) x9 rfl rfl rfl x9 (λb _ hne=>?_) (by simp[aC]) (λb hbb=>?_) ⟨_,fE _ _ _ _,?_⟩
     .refine setRow_other w blk b _ (λe=>hne ?_);subst e;simp[aC]
     .simp[aC]at hbb;subst hbb;refine⟨s1,by simpa using s2,s3,λk e=>?_⟩;obtain⟨k1,k2⟩:=DI rfl e;exact k1 (R.inj k bx b k2 (by rw[hown];simp))
     .rw[←F5];refine fM.arrOk ht (cs:=((c.toList.drop off).take (xs'.length*u'.size))++es) ((r1.append r2).mono (λ_ _ h=>h) hkeep) (setRow_heap w blk c _ T (0,0) hb) (by rw[F5];exact hroom) (by rw[eQ,hsp];exact hfit) ?_;simp only[F5,P5];rw[RY (n:=xs'.length*u'.size+ys.length*u'.size) l7 l7];unfold cO;have hd:((c.toList.drop off).take (xs'.length*u'.size+ys.length*u'.size)).drop (xs'.length*u'.size+es.length)=[]:=dV (by rw[bM,oU];omega);rw[iR,eX (lK _ _),hd,H6]
    refine xK H R' (λk l h=>?_) (λ_ _ h=>h) ⟨_,fE _ _ _ _,rfl⟩ (run _ _ rfl rfl _ _ (by rw[h2]at hrun;exact hrun))
    .by_cases ek:k=n
     .subst ek;have:=R1.fresh k g1 hn;rw[this]at h;cases h
     .rw[lC _ _ _ ek];exact h
   .obtain⟨olds,q1,q2⟩:=a0U (C:=⟨w.heap,ok,m⟩) ht a1 a2;exact SB (j:=j) H R1 ht hu h1 h2 h4 h5 hz a2 q1 hv q2 r2 l7 hmax (run _ _ rfl rfl)
end
def xq{α β:Type}(eq:α->α->Bool):List (α×β)->α->Option Nat
 |[],_=>none|p::r,k=>bif eq k p.1 then some 0 else(xq eq r k).map (·+1)
theorem TU{α β:Type}{eq:α->α->Bool} :∀{xs:List (α×β)} {k:α} {i:Nat},xq eq xs k=some i->∃p,xs[i]? =some p/\eq k p.1=true
 |[],_,_,h=>by cases h|p::r,k,i,h=>by
  unfold xq at h;cases he:eq k p.1<;>rw[he]at h
  .simp only[cond_false,Option.map_eq_some_iff]at h;obtain⟨j,h1,rfl⟩:=h;obtain⟨q,h2,h3⟩:=TU h1;exact⟨q,by simpa using h2,h3⟩
  .cases h;exact⟨p,rfl,he⟩
theorem J_{α β:Type}(eq:α->α->Bool):∀(xs:List (α×β)) (k:α) (z:β),Qi eq xs k z=(match xq eq xs k with|some i=>(match xs[i]? with|some p=>p.2|none=>z)|none=>z)
 |[],_,_=>rfl|p::r,k,z=>by
  unfold Qi xq;cases he:eq k p.1
  .simp only[cond_false];rw[J_ eq r k z];cases xq eq r k<;>simp
  .rfl
variable {β:Type}
theorem b1B(eq:α->α->Bool):∀(xs:List (α×β)) (k:α) (z:β),a5I eq xs k z=(match xq eq xs k with|some i=>(match xs[i]? with|some p=>p.2|none=>z)|none=>z):=
 J_ eq
theorem K_{α β:Type}(eq:α->α->Bool):∀(xs:List (α×β)) (k:α),Qj eq xs k=(xq eq xs k).isSome
 |[],_=>rfl|p::r,k=>by
  unfold Qj xq;cases he:eq k p.1
  .simp only[cond_false];rw[K_ eq r k];cases xq eq r k<;>simp
  .rfl
theorem b1C(eq:α->α->Bool):∀(xs:List (α×β)) (k:α),a3w eq xs k=(xq eq xs k).isSome:=
 K_ eq
theorem O_{α β:Type}(eq:α->α->Bool):∀(xs:List (α×β)) (k:α) (x:β),SX eq xs k x=(match xq eq xs k with|some i=>xs.set i (k,x)|none=>xs++[(k,x)])
 |[],_,_=>rfl|p::r,k,x=>by
  unfold SX xq;cases he:eq k p.1
  .simp only[cond_false];rw[O_ eq r k x];cases xq eq r k<;>simp
  .rfl
theorem a2s(eq:α->α->Bool):∀(xs:List (α×β)) (k:α) (x:β),N_ eq xs k x=(match xq eq xs k with|some i=>xs.set i (k,x)|none=>xs++[(k,x)]):=
 O_ eq
theorem YQ:∀{k:Ty} (hf:k.flat=true) (a b:k.den),keq k a b=true↔a=b
 | .bool,_,a,b=>by cases a<;>cases b<;>simp[keq,jY]| .int _,_,a,b=>by simp[keq,x8]| .str,_,a,b=>by simp[keq,seq]| .unit,_,a,b=>⟨λ_=>rfl,λ_=>rfl⟩| .prod p q,hf,a,b=>by simp only[Ty.flat,A8]at hf;simp only[keq,iV,A8,YQ hf.1,YQ hf.2];exact⟨λh=>fH h.1 h.2,λh=>by subst h;exact⟨rfl,rfl⟩⟩| .sl _,hf,_,_=>by cases hf| .ent ..,hf,_,_=>by cases hf
theorem YX{h h' :Array Obj}{ok ok' :Nat->Ty->Prop} :∀{t:Ty} (hf:t.flat=true) {x:t.den} {c d:d1D},oD h ok t x c->oD h' ok' t x d->c=d
 | .bool,_,_,_,_,h1,h2=>by simp only[oD]at h1 h2;rw[h1,h2]| .int _,_,_,_,_,h1,h2=>by simp only[oD]at h1 h2;rw[h1,h2]| .str,_,_,_,_,h1,h2=>by simp only[oD]at h1 h2;rw[h1,h2]| .unit,_,_,_,_,h1,h2=>by simp only[oD]at h1 h2;rw[h1,h2]| .prod p q,hf,_,_,_,h1,h2=>by simp only[Ty.flat,A8]at hf;obtain⟨a,b,rfl,a1,a2⟩:=h1;obtain⟨a',b',rfl,b1,b2⟩:=h2;rw[YX hf.1 a1 b1,YX hf.2 a2 b2]
 | .sl _,hf,_,_,_,_,_=>by cases hf| .ent ..,hf,_,_,_,_,_=>by cases hf
theorem a4d{h h' :Array Obj}{ok ok' :Nat->Ty->Prop} :∀{t:Ty} (hf:t.flat=true) {x y:t.den} {c:d1D},oD h ok t x c->oD h' ok' t y c->x=y
 | .bool,_,_,_,_,h1,h2=>by simp only[oD]at h1 h2;rw[h1]at h2;simpa using h2| .int _,_,_,_,_,h1,h2=>by simp only[oD]at h1 h2;rw[h1]at h2;simpa using h2
 | .str,_,_,_,_,h1,h2=>by simp only[oD]at h1 h2;rw[h1]at h2;injection h2 with h2 _;injection h2 with h2;injection h2 with h2;have:=congrArg Array.toList h2;simpa using this
 | .unit,_,_,_,_,_,_=>rfl| .prod p q,hf,_,_,_,h1,h2=>by simp only[Ty.flat,A8]at hf;obtain⟨a,b,rfl,a1,a2⟩:=h1;obtain⟨a',b',e,b1,b2⟩:=h2;obtain⟨rfl,rfl⟩:=List.append_inj e ((iK a1).trans (iK b1).symm);exact fH (a4d hf.1 a1 b1) (a4d hf.2 a2 b2)
 | .sl _,hf,_,_,_,_,_=>by cases hf| .ent ..,hf,_,_,_,_,_=>by cases hf
theorem Xn{h:Array Obj}{ok:Nat->Ty->Prop} :∀{k:Ty} (hf:k.flat=true) {x:k.den} {c:d1D},oD h ok k x c->∀{sh:List Ty} {d:d1D},kZ sh d->kZ (k.leaves++sh) (c++d)
 | .bool,_,x,_,h1,_,_,hd=>by simp only[oD]at h1;subst h1;exact⟨_,_,rfl,hd⟩| .int _,_,x,_,h1,_,_,hd=>by simp only[oD]at h1;subst h1;exact⟨_,_,rfl,hd⟩| .str,_,x,_,h1,_,_,hd=>by simp only[oD]at h1;subst h1;exact⟨_,_,rfl,hd⟩| .unit,_,x,_,h1,_,_,hd=>by simp only[oD]at h1;subst h1;exact hd| .prod p q,hf,_,_,h1,_,_,hd=>by simp only[Ty.flat,A8]at hf;obtain⟨a,b,rfl,a1,a2⟩:=h1;simp only[Ty.leaves,G5];exact Xn hf.1 a1 (Xn hf.2 a2 hd)
 | .sl _,hf,_,_,_,_,_,_=>by cases hf| .ent ..,hf,_,_,_,_,_,_=>by cases hf
theorem a2J:∀{a b:List Ty},Xr a b=true->a=b
 |[],[],_=>rfl|[],_::_,h=>by cases h|_::_,[],h=>by cases h|a::r,b::q,h=>by
  unfold Xr at h;cases hb:Ty.beq a b<;>rw[hb]at h
  .cases h
  .rw[Ty.beq_eq hb,a2J (show Xr r q=true from h)]
def GM(ag:Bool)(k:Ty)(x:k.den)(kv:Value):Prop:=gok ag kv/\oD #[] (λ_ _=>False) k x (xg ag kv)
variable {ag:Bool}
theorem a7G{u v:Value}(hu:gok ag u)(hv:gok ag v)(h:xg ag u=xg ag v):u=v:=by
 cases ag
 .simpa[xg]using h
 .obtain⟨a,rfl⟩:=hu;obtain⟨b,rfl⟩:=hv;have:a.toList=b.toList:=h;rw[Array.toList_inj.1 this]
variable {k:Ty}{x:k.den}
theorem GM.det(hf:k.flat=true){u v:Value}(h1:GM ag k x u)(h2:GM ag k x v):u=v:=
 a7G h1.1 h2.1 (YX hf h1.2 h2.2)
theorem Tm:∀(v:Value),(∃b,v= .bool b)\/(∃k n,v= .int k n)\/(∃s,v= .string s)->∀n,Instr.sameBits n v v=true:=by rintro v (⟨b,rfl⟩|⟨k,n,rfl⟩|⟨s,rfl⟩) m<;>simp[Instr.sameBits,MapKept.bytes_beq]
theorem Xm{h:Array Obj}{ok:Nat->Ty->Prop} :∀{k:Ty} (hf:k.flat=true) {x:k.den} {c:d1D},oD h ok k x c->∀v∈c,(∃b,v= .bool b)\/(∃k n,v= .int k n)\/(∃s,v= .string s)
 | .bool,_,x,_,h1,v,hv=>by simp only[oD]at h1;subst h1;simp at hv;exact .inl ⟨_,hv⟩| .int _,_,x,_,h1,v,hv=>by simp only[oD]at h1;subst h1;simp at hv;exact .inr (.inl ⟨_,_,hv⟩)| .str,_,x,_,h1,v,hv=>by simp only[oD]at h1;subst h1;simp at hv;exact .inr (.inr ⟨_,hv⟩)| .unit,_,x,_,h1,v,hv=>by simp only[oD]at h1;subst h1;cases hv| .prod p q,hf,_,_,h1,v,hv=>by
  simp only[Ty.flat,A8]at hf;obtain⟨a,b,rfl,a1,a2⟩:=h1;rcases C9.1 hv with hv|hv
  .exact Xm hf.1 a1 v hv
  .exact Xm hf.2 a2 v hv
 | .sl _,hf,_,_,_,_,_=>by cases hf| .ent ..,hf,_,_,_,_,_=>by cases hf
theorem GM.stays{w:World}(hf:k.flat=true)(h:GM ag k x v):(Instr.keyThatStays v v).run P w= .ok v w:=by
 have hs:Instr.sameBits 10000 v v=true:=by
  have hc:=Xm hf h.2;cases ag
  .exact Tm v (hc v (by simp[xg])) _
  .obtain⟨arr,rfl⟩:=h.1;show Instr.sameBits (9999+1) (.agg arr) (.agg arr)=true;simp only[Instr.sameBits,beq_self_eq_true,fK,lJ];intro p hp;obtain⟨i,hi,e⟩:=X7 hp;rw[List.getElem_zip]at e;rw[←e];exact Tm _ (hc _ (G8 _)) _
 simp[Instr.keyThatStays,hs]
variable {M:MT}
section
variable {X:Fx} {cl ch:Nat} {S:Sm} {m:Mp} {ok:Nat->Ty->Prop} {a:Act} {w:World} {T:d1B} {o:Oper}
theorem a5u(H:FxOk X){ke:Nat}{i:TI}(hi:TiOk X.P ke i)(hk:a5s X.E ke i.td k=true)(hf:k.flat=true){u:Value}(hu:GM (dN i.td) k x u)(w:World):
  (∀em,(Instr.checkKey em 10000 ke u).run X.P w= .ok () w)/\
  ∀{β:Type} (es:List MapEntry) (xs:List (k.den×β)),es.length=xs.length->(∀(j:Nat) (p:k.den×β),xs[j]? =some p->∃e:MapEntry,es[j]? =some e/\GM (dN i.td) k p.1 e.key)->
   (Instr.findKey ke u es).run X.P w= .ok ((xq (keq k) xs x).bind λj=>(es[j]?).map λe=>(j,e.val)) w:=by
 have htd:=hi.td;have scal:∀d,X.P.underlying ke=some d->dN i.td=false->(∀y v,GM (dN i.td) k y v->Instr.sameNow d u v=some (keq k x y))->
   ∀{β:Type} (es:List MapEntry) (xs:List (k.den×β)),es.length=xs.length->(∀(j:Nat) (p:k.den×β),xs[j]? =some p->∃e:MapEntry,es[j]? =some e/\GM (dN i.td) k p.1 e.key)->
   (Instr.findKey ke u es).run X.P w= .ok ((xq (keq k) xs x).bind λj=>(es[j]?).map λe=>(j,e.val)) w:=by
  intro d hd _ hs β es xs hl he;refine MapKept.run_findKey hd ?_;have:∀(es:List MapEntry) (xs:List (k.den×β)) (n:Nat),es.length=xs.length->(∀(j:Nat) (p:k.den×β),xs[j]? =some p->∃e:MapEntry,es[j]? =some e/\GM (dN i.td) k p.1 e.key)->
    Instr.findNow d u es n=some ((xq (keq k) xs x).bind λj=>(es[j]?).map λe=>(n+j,e.val)):=by
   intro es;induction es with
   |nil=>
    intro xs n hl he;cases xs with
    |nil=>rfl|cons _ _=>cases hl
   |cons e es ih=>
    intro xs n hl he;cases xs with
    |nil=>cases hl|cons p xs=>
     obtain⟨e',h1,h2⟩:=he 0 p rfl;simp only[lZ,O8]at h1;subst h1;unfold Instr.findNow xq;rw[hs _ _ h2];cases hq:keq k x p.1
     .simp only[cond_false];rw[ih xs (n+1) (by simpa using hl) (λj q hj=>by simpa using he (j+1) q (by simpa using hj))];cases xq (keq k) xs x with
      |none=>rfl|some j=>simp[jw,Nat.add_comm 1 j]
     .simp
  simpa using this es xs 0 hl he
 have one:∀{v:Value} {y:k.den},dN i.td=false->GM (dN i.td) k y v->oD #[] (λ_ _=>False) k y [v]:=λha h=>by have:=h.2;rw[ha]at this;exact this
 unfold a5s at hk;split at hk
 .rename_i htd';rw[htd']at htd;have ha:dN i.td=false:=by rw[htd'];rfl
  have hu1:=one ha hu;simp only[oD,O0,and_true]at hu1;subst hu1;refine⟨λem=>uF htd (by simp[MapKept.IsKey]) em 9999,scal _ htd ha λy v hv=>?_⟩;have hv1:=one ha hv;simp only[oD,O0,and_true]at hv1;subst hv1;rfl
 .rename_i p q htd';have:=of_decide_eq_true hk;subst this;rw[htd']at htd;have ha:dN i.td=false:=by rw[htd'];rfl
  have hu1:=one ha hu;simp only[oD,O0,and_true]at hu1;subst hu1;refine⟨λem=>uF htd (by simp[MapKept.IsKey]) em 9999,scal _ htd ha λy v hv=>?_⟩;have hv1:=one ha hv;simp only[oD,O0,and_true]at hv1;subst hv1;simp[Instr.sameNow,keq,x8];rfl
 .rename_i htd';rw[htd']at htd;have ha:dN i.td=false:=by rw[htd'];rfl
  have hu1:=one ha hu;simp only[oD,O0,and_true]at hu1;subst hu1;refine⟨λem=>uF htd (by simp[MapKept.IsKey]) em 9999,scal _ htd ha λy v hv=>?_⟩;have hv1:=one ha hv;simp only[oD,O0,and_true]at hv1;subst hv1;simp only[Instr.sameNow,keq,seq,O8];rw[fV];simp[MapKept.bytes_beq]
 .rename_i k _ _ fs htd';cases hkf:k.flat<;>rw[hkf]at hk
  .cases hk
  simp only[cond_true]at hk;cases hq:gB X.E.eqs ke with
  |none=>rw[hq]at hk;cases hk|some sh=>
  rw[hq]at hk;have hsh:=a2J (show Xr sh k.leaves=true from hk);subst hsh;obtain⟨⟨fields,hund⟩,hks⟩:=(H.eqs ke _ hq).2;have ha:dN i.td=true:=by rw[htd'];rfl
  rw[ha]at hu;obtain⟨xs0,rfl⟩:=hu.1;have shp:∀{y:k.den} {arr:Array Value},GM true k y (.agg arr)->kZ k.leaves arr.toList:=λ{y arr} h=>by have:=Xn hf (show oD #[] (λ_ _=>False) k y arr.toList from h.2) (sh:=[]) (d:=[]) rfl;simpa using this
  obtain⟨c1,c2⟩:=hks w xs0 (shp hu);refine⟨c1,λ{β} es xs hl he=>?_⟩;rw[run_findKey_eq w (by rw[hund])];rw[ha]at he;have:∀(es:List MapEntry) (xs:List (k.den×β)) (n:Nat),es.length=xs.length->(∀(j:Nat) (p:k.den×β),xs[j]? =some p->∃e:MapEntry,es[j]? =some e/\GM true k p.1 e.key)->
    (Instr.findAsking ke (.agg xs0) es n).run X.P w= .ok ((xq (keq k) xs x).bind λj=>(es[j]?).map λe=>(n+j,e.val)) w:=by
   intro es;induction es with
   |nil=>
    intro xs n hl he;cases xs with
    |nil=>rfl|cons _ _=>cases hl
   |cons e es ih=>
    intro xs n hl he;cases xs with
    |nil=>cases hl|cons p xs=>
     obtain⟨e',h1,h2⟩:=he 0 p rfl;simp only[lZ,O8]at h1;subst h1;obtain⟨ys,hys⟩:=h2.1;rw[hys]at h2;obtain⟨r,hr,hre⟩:=c2 ys (shp h2);have hrq:r=keq k x p.1:=by
      rw[fV,hre,YQ hf];constructor
      .intro h;have h3:=h2.2;rw[show xg true (Value.agg ys)=ys.toList from rfl,←h]at h3;exact a4d hf hu.2 h3
      .intro h;have h3:=h2.2;rw[←h]at h3;exact YX hf hu.2 h3
     subst hrq;unfold Instr.findAsking xq;simp only[hys,H8,hr,J8];cases hq:keq k x p.1
     .simp only[cond_false,dL,if_false];rw[ih xs (n+1) (by simpa using hl) (λj q hj=>by simpa using he (j+1) q (by simpa using hj))];cases xq (keq k) xs x with
      |none=>rfl|some j=>simp[jw,Nat.add_comm 1 j]
     .simp
  simpa using this es xs 0 hl he
 .cases hk
theorem TP(H:FxOk X){t:Nat}(h:UZ X.E t=some M):X.P.underlying t=some (.map M.ke M.el)/\M.k.flat=true/\
  (∃i,TiOk X.P M.ke i/\a5s X.E M.ke i.td M.k=true/\M.ka=dN i.td)/\(∃j,TiOk X.P M.el j/\j.ty=some M.v/\M.va=dN j.td):=by
 unfold UZ at h;split at h<;>try (cases h;done)
 rename_i i hi;split at h<;>try (cases h;done)
 rename_i ke el htd;split at h<;>try (cases h;done)
 rename_i p q hp hq;split at h<;>try (cases h;done)
 rename_i k v hk hv;cases hc:(a5s X.E ke p.td k&&k.flat)<;>rw[hc]at h
 .cases h
 .simp only[cond_true,O8]at h;subst h;simp only[A8]at hc;have h1:=(H.tt t i hi).td;rw[htd]at h1;exact⟨h1,hc.2,⟨p,H.tt _ p hp,hc.1,rfl⟩,⟨q,H.tt _ q hq,hv,rfl⟩⟩
theorem Wv{t:Ty}{v:V}{x:Value}{K:t.den->Cmd α}(R:Rel X cl ch S m ok a w)(hT:Tk X S m ok w T)(hv:pg ⟨w.heap,ok,m⟩ v x)
  (hK:∀S' ok' y,Rel X cl ch S' m ok' a w->Tk X S' m ok' w T->(∀b t,ok b t->ok' b t)->fO S S' ->gok ag x->oD w.heap ok' t y (xg ag x)->(K y).post S' Q):
  (b3w ag t v K).post S Q:=by
 unfold b3w;refine KE hv λcs us hg hl=>?_;refine Jg t R hT hl λS1 ok1 y q us1 us' R1 T1 k1 s1 e1 h1 l1=>?_;cases q with
 |cons _ _=>trivial|nil=>
 simp only[jf]at l1;subst l1;simp only[H6]at e1;subst e1;have hgc:gok ag x/\xg ag x=us:=by
  cases ag
  .simp only[Xj]at hg;subst hg;exact⟨zS h1 x x9,rfl⟩
  .obtain⟨arr,rfl,rfl⟩:=hg;exact⟨⟨arr,rfl⟩,rfl⟩
 refine hK _ _ _ R1 T1 k1 s1 hgc.1 ?_;rw[hgc.2];exact h1
def PD(h:Array Obj)(ok:Nat->Ty->Prop)(t:Ty)(xs:List t.den)(v:Value):Prop:=
 ∃mv,v= .map mv/\(mv=none->xs=[])/\∀blk,mv=some blk->∃(es:Array MapEntry) (ck:Nat),h[blk]? =some (.map es ck)/\es.size=(xs:List t.den).length/\
  ∀(i:Nat) (x:t.den),(xs:List t.den)[i]? =some x->∃e:MapEntry,es[i]? =some e/\UF t e/\oD h ok t x (Eg t e)
theorem PD.of_rep{ok:Nat->Ty->Prop}{t:Ty}{xs:List t.den}(ht:t.isEnt=true)(hr:oD h ok (.sl t) xs [v]):PD h ok t xs v:=by obtain⟨mv,e,h1,h2⟩:=(a8s ht).1 hr;exact⟨mv,by simpa using e,h1,λblk hb=>(h2 blk hb).2⟩
theorem PD.of_arr{t:Ty}{xs:List t.den}(ht:t.isEnt=true)(ha:arrOk C t xs l)(hv:l.view none v):PD C.h C.ok t xs v:=by
 cases l with
 |nil=>have:=ha.2;rw[ht]at this;cases this|st b=>cases ha|arr blk off len cap sz=>have:=ha.1;rw[ht]at this;cases this|mp b=>simp only[Loc.view]at hv;subst hv;exact⟨_,rfl,(λh=>nomatch h),λblk hb=>by cases hb;exact ha.2⟩
theorem a8g(R:Rel X cl ch S m ok a w)(hu:u.isEnt=true){v:V}{x:Value}{K:List u.den->Cmd α}(hv:pg ⟨w.heap,ok,m⟩ v x)
  (hK:∀xs,PD w.heap ok u xs x->(K xs).post S Q):(b4S u v K).post S Q:=by
 unfold b4S;split<;>try trivial
 .refine iq λe=>?_;subst e;exact hK _ (PD.of_rep hu hv)
 .rename_i bx;obtain⟨l,hm,hvw⟩:=hv;refine gZ ?_;split<;>try trivial
  .rename_i t xs hS;obtain⟨l',hm',ha⟩:=R.own_arr hS;simp only at hm;rw[hm]at hm';cases hm';refine iq λe=>?_;subst e;exact hK _ (PD.of_arr hu ha hvw)
  .rename_i t xs hS;obtain⟨l',hm',ha,_⟩:=R.own_frz hS;simp only at hm;rw[hm]at hm';cases hm';refine iq λe=>?_;subst e;exact hK _ (PD.of_arr hu ha hvw)
theorem Rf{ok:Nat->Ty->Prop}{x:M.k.den×M.v.den}{e:MapEntry}(h1:UF M.ent e)(h2:oD h ok M.ent x (Eg M.ent e)):
  gok M.ka e.key/\gok M.va e.val/\oD h ok M.k x.1 (xg M.ka e.key)/\oD h ok M.v x.2 (xg M.va e.val):=by
 obtain⟨g1,g2,g3⟩:=h1;obtain⟨c,d,e1,r1,r2⟩:=h2;obtain⟨rfl,rfl⟩:=List.append_inj (show xg M.ka e.key++xg M.va e.val=c++d from e1) (g3.trans (iK r1).symm);exact⟨g1,g2,r1,r2⟩
theorem b3D{ok:Nat->Ty->Prop}{x:M.k.den}{y:M.v.den}{e:MapEntry}(g1:gok M.ka e.key)(g2:gok M.va e.val)(r1:oD h ok M.k x (xg M.ka e.key))(r2:oD h ok M.v y (xg M.va e.val)):
  UF M.ent e/\oD h ok M.ent (x,y) (Eg M.ent e):=⟨⟨g1,g2,iK r1⟩,_,_,rfl,r1,r2⟩
theorem a4a{c:V}(h:Bv C c v):a0o C c v:=by
 cases c<;>simp only[Bv]at h<;>try exact h
 all_goals exact h.elim
theorem b5H{cs:List V}{us:d1D}{x:Value}(hg:Xj ag x us)(hl:jf C cs us):a0o C (mkV ag cs) x:=by
 cases ag
 .simp only[Xj]at hg;subst hg;cases cs with
  |nil=>simp[jf]at hl|cons c r=>
   obtain⟨v,r',e,h1,h2,h3⟩:=hl;simp at e;obtain⟨rfl,rfl⟩:=e;cases r with
   |nil=>exact a4a h1|cons d r=>obtain⟨_,_,e,_⟩:=h3;cases e
 .obtain⟨arr,rfl,rfl⟩:=hg;exact⟨arr,rfl,hl⟩
theorem a6m(h:gok ag v):Xj ag v (xg ag v):=by
 cases ag
 .rfl
 .obtain⟨arr,rfl⟩:=h;exact⟨arr,rfl,rfl⟩
theorem YJ{w:World}{t ke el:TypeId}{mv:Option Nat}{es:Array MapEntry}{key z:Value}{ok:Bool}(hund:P.underlying t=some (.map ke el))
  (hes:mv=none/\es=#[]\/∃r ck,mv=some r/\w.heap[r]? =some (.map es ck)) (hck:∀em,(Instr.checkKey em 10000 ke key).run P w= .ok () w) {r:Option (Nat×Value)}
  (hfind:(Instr.findKey ke key es.toList).run P w= .ok r w) (hz:(zeroValue el).run P w= .ok z w):
  (Instr.lookup t (.map mv) key ok).run P w= .ok (if ok then .tuple #[(r.map (·.2)).getD z,.bool r.isSome]else(r.map (·.2)).getD z) w:=by
 rcases hes with⟨rfl,rfl⟩|⟨b,ck,rfl,hb⟩
 .simp only[Instr.lookup,H8,run_underlying hund,J8,aI,hck,hfind];cases r with
  |none=>cases ok<;>simp[hz]|some p=>cases ok<;>simp
 .simp only[Instr.lookup,H8,run_underlying hund,NW hb,J8,aI,hck,hfind];cases r with
  |none=>cases ok<;>simp[hz]|some p=>cases ok<;>simp
theorem b1Q(H:FxOk X)(R:Rel X cl ch S m ok a w){x ix:Operand}{okk:Bool}(ho:o.op= .lookup t x ix okk):(dY X.E q o).post S (λ_ S' =>jX X cl ch o a w m ok S'):=by
 unfold dY;simp only[ho];refine bU R λu hu=>bU R λkv hk=>?_;unfold a9Z;cases hM:UZ X.E t with
 |none=>trivial|some M=>
 obtain⟨hund,hf,⟨i,hi,hko,hka⟩,⟨j,hj,hjt,hva⟩⟩:=TP H hM;simp only[];refine Wv (T:=[]) R Tk.nil hk λS1 ok1 key R1 T1 k1 s1 hg hr=>?_;refine a8g R1 rfl (RV k1 hu) λxs hxs=>?_;obtain⟨mv,hx,hnil,hmap⟩:=hxs;have hkey:GM (dN i.td) M.k key (a.eval ix):=by rw[←hka];exact⟨hg,EY hf hr⟩
 obtain⟨c1,c2⟩:=a5u H hi hko hf hkey w;obtain⟨inf,hinf,_,_,_,hzero⟩:=hj.info;obtain⟨_,z,hz,hzr⟩:=hzero _ hjt;have hzrun:(zeroValue M.el).run X.P w= .ok z w:=by simp[zeroValue,typeInfo,hinf,hz]
 have hzg:gok M.va z/\oD w.heap ok1 M.v M.v.zero (xg M.va z):=by
  have hr0:oD w.heap ok1 M.v M.v.zero z.cells.toList:=gQ (λ_ _ h=>h.elim) (λ_ _ h=>h.elim) hzr;have hag:=hj.agg inf z hinf hz;rw[←hva]at hag;cases hva' :M.va
  .have h1:=hag.2 hva';have hcz:z.cells.toList=[z]:=by cases z<;>first|rfl|cases h1
   rw[hcz]at hr0;exact⟨h1,hr0⟩
  .exact⟨hag.1 hva',hr0⟩
 have hE:∃es:Array MapEntry,(mv=none/\es=#[]\/∃r ck,mv=some r/\w.heap[r]? =some (.map es ck))/\es.size=xs.length/\
   ∀(i:Nat) (x:M.k.den×M.v.den),xs[i]? =some x->∃e:MapEntry,es[i]? =some e/\UF M.ent e/\oD w.heap ok1 M.ent x (Eg M.ent e):=by
  cases mv with
  |none=>have:=hnil rfl;subst this;exact⟨#[],.inl ⟨rfl,rfl⟩,rfl,λi x h=>by simp at h⟩|some blk=>obtain⟨es,ck,h1,h2,h3⟩:=hmap blk rfl;exact⟨es,.inr ⟨blk,ck,rfl,h1⟩,h2,h3⟩
 obtain⟨es,hes,hsz,hent⟩:=hE;have hfind:=c2 (β:=M.v.den) es.toList xs (by rw[eG];exact hsz) (λj p hp=>by obtain⟨e,h1,h2,h3⟩:=hent j p hp;obtain⟨g1,g2,r1,r2⟩:=Rf h2 h3;exact⟨e,by simpa using h1,by rw[←hka];exact⟨g1,EY hf r1⟩⟩)
 have run:=YJ (ok:=okk) hund hes c1 hfind hzrun;have hval:∃val,(((xq (keq M.k) xs key).bind λj=>(es.toList[j]?).map λe=>(j,e.val)).map (·.2)).getD z=val/\gok M.va val/\
   oD w.heap ok1 M.v (a5I (keq M.k) xs key M.v.zero) (xg M.va val)/\(((xq (keq M.k) xs key).bind λj=>(es.toList[j]?).map λe=>(j,e.val))).isSome=a3w (keq M.k) xs key:=by
  rw[b1B,b1C];cases hfi:xq (keq M.k) xs key with
  |none=>exact⟨z,rfl,hzg.1,hzg.2,rfl⟩|some j=>
   obtain⟨p,hp,_⟩:=TU hfi;obtain⟨e,h1,h2,h3⟩:=hent j p hp;obtain⟨g1,g2,r1,r2⟩:=Rf h2 h3;have h1' :es.toList[j]? =some e:=by simpa using h1
   refine⟨e.val,by rw[oZ,h1'];rfl,g2,?_,by rw[oZ,h1'];rfl⟩;simp only[hp];exact r2
 obtain⟨val,e1,g,r,e2⟩:=hval;rw[e1,e2]at run;have hrel:=a6m g;have hL:=uY (C:=⟨w.heap,ok1,m⟩) r;cases okk
 .simp only[cond_false];refine xK H R1 (λ_ _ h=>h) k1 (VE hrel hL) ?_;simp only[execOp,ho,hx,H8,run];rfl
 .simp only[cond_true];refine xK H R1 (λ_ _ h=>h) k1 (v:=.tup _) (x:=.tuple #[val,.bool (a3w (keq M.k) xs key)]) ⟨_,rfl,⟨_,_,rfl,b5H hrel hL,_,_,rfl,rfl,rfl⟩⟩ ?_;simp only[execOp,ho,hx,H8,run];rfl
theorem a8e(H:FxOk X)(R:Rel X (CB*q) (CB*q+CB) S m ok a w){r:Option Operand}(ho:o.op= .makeMap t r):(dY X.E q o).post S (λ_ S' =>jX X (CB*q) (CB*q+CB) o a w m ok S'):=by
 have go:((Instr.makeMap t (r.map a.eval)).run X.P w= .ok (.map (some w.heap.size)) (w.alloc (.map #[] 0)))->
   (Qe X.E (V7 q o.dst) t λv=>gY X.E o.dst v).post S (λ_ S' =>jX X (CB*q) (CB*q+CB) o a w m ok S'):=λrun=>by
  unfold Qe;cases hM:UZ X.E t with
  |none=>trivial|some M=>
  refine WW (l:=.mp w.heap.size) (obj:=.map #[] 0) (x:=.map (some w.heap.size)) H R x9 (by simp[aC]) (λhn hc=>?_) ⟨.mp w.heap.size,x9,rfl⟩ ?_
  .exact⟨.mp w.heap.size,x9,rfl,#[],0,heap_alloc_new w _,rfl,λi x h=>by simp at h⟩
  .simp only[execOp,ho,H8,run];rfl
 unfold dY;simp only[ho];cases r with
 |none=>exact go (by simp[Instr.makeMap])|some hd=>
  refine bU R λv hv=>?_;split<;>try trivial
  rename_i k n;cases hM:UZ X.E t with
  |none=>unfold Qe;rw[hM];trivial|some M=>
  refine go ?_;simp[Instr.makeMap,xE hv,run_underlying (TP H hM).1,asInt,asIntOf]
theorem Vo(H:FxOk X)(R:Rel X cl ch S m ok a w){x ix y:Operand}(ho:o.op= .mapUpdate t x ix y\/o.op= .insert t x ix y):(dY X.E q o).post S (λ_ S' =>jX X cl ch o a w m ok S'):=by
 suffices h:((match o.dst with|none=>uG x λm=>uG ix λk=>uG y λv=>a4r X.E t m k v|some _=> .fail:Cmd Unit)).post S (λ_ S' =>jX X cl ch o a w m ok S') by unfold dY;rcases ho with ho|ho<;>simp only[ho]<;>exact h
 cases hd:o.dst with
 |some _=>trivial|none=>
 refine bU R λu hu=>bU R λkv hk=>bU R λyv hy=>?_;unfold a4r;cases hM:UZ X.E t with
 |none=>trivial|some M=>
 obtain⟨hund,hf,⟨i,hi,hko,hka⟩,⟨j,hj,hjt,hva⟩⟩:=TP H hM;simp only[];refine Wv (T:=[]) R Tk.nil hk λS1 ok1 key R1 T1 k1 s1 hg hr=>?_;refine Wv R1 T1 (RV k1 hy) λS2 ok2 z R2 T2 k2 s2 hg2 hr2=>?_;have hkey:GM (dN i.td) M.k key (a.eval ix):=by rw[←hka];exact⟨hg,EY hf hr⟩
 obtain⟨c1,c2⟩:=a5u H hi hko hf hkey w;split<;>try trivial
 rename_i bx;obtain⟨l0,hm0,hvw⟩:=hu;simp only at hm0;refine gZ ?_;split<;>try trivial
 rename_i u xs hS;refine iq λe=>?_;subst e;refine nJ ?_;obtain⟨l,hm,ha⟩:=R2.own_arr hS;rw[hm0]at hm;cases hm;cases l0 with
 |nil=>exact absurd ha.2 (by simp[MT.ent,Ty.isEnt])|st b=>cases ha|arr blk off len cap sz=>exact absurd ha.1 (by simp[MT.ent,Ty.isEnt])|mp blk=>
 simp only[Loc.view]at hvw;obtain⟨_,es,ck,hb,hsz,hent⟩:=ha;simp only at hb hent;have hown:aC m bx (S2 (bV+bx))=[blk]:=by rw[hS];simp[aC,hm0]
 have hsep:=R2.sep bx blk (by rw[hown];simp);have hfind:=c2 (β:=M.v.den) es.toList xs (by rw[eG];exact hsz) (λj p hp=>by obtain⟨e,h1,h2,h3⟩:=hent j p hp;obtain⟨g1,g2,r1,r2⟩:=Rf h2 h3;exact⟨e,by simpa using h1,by rw[←hka];exact⟨g1,EY hf r1⟩⟩)
 have fin:∀(es' :Array MapEntry) (ck' :Nat) (xs' :List (M.k.den×M.v.den)),xs' =N_ (keq M.k) xs key z->
   (Instr.mapUpdate t (a.eval x) (a.eval ix) (a.eval y)).run X.P w= .ok () { w with heap:=w.heap.setIfInBounds blk (.map es' ck') }->es'.size=xs'.length->
   (∀(i:Nat) (x:M.k.den×M.v.den),xs'[i]? =some x->∃e:MapEntry,es'[i]? =some e/\UF M.ent e/\oD w.heap ok2 M.ent x (Eg M.ent e))->
   jX X cl ch o a w m ok (upd S2 (bV+bx) (.barr M.ent (N_ (keq M.k) xs key z))):=by
  intro es' ck' xs' hxs' run hsz' hent';subst hxs';obtain⟨q1,q2⟩:=MapKept.heap_set (o' :=.map es' ck') hb;have R3:Rel X cl ch (upd S2 (bV+bx) (.barr M.ent (N_ (keq M.k) xs key z))) m ok2 a { w with heap:=w.heap.setIfInBounds blk (.map es' ck') }:=by refine R2.mod (by rw[hown];simp[aC,hm0]) x9 rfl rfl rfl x9 (λb hb=>q2 b (by rw[hown]at hb;simpa using hb)) ?_;refine⟨.mp blk,hm0,rfl,es',ck',q1,hsz',λi x hx=>?_⟩;obtain⟨e,h1,h2,h3⟩:=hent' i x hx;exact⟨e,h1,h2,gQ (λ_ _ h=>h) (λb t hb=>q2 b (λe=>hsep.1 t (e▸hb))) h3⟩
  intro next Q hn
  unfold Oper.wp;have e:(execOp a.eval o).run X.P w= .ok .skip { w with heap:=w.heap.setIfInBounds blk (.map es' ck') }:=by rcases ho with ho|ho<;>simp[execOp,ho,run]
  rw[e,Oper.upon_skip,hd];exact hn m ok2 a _ R3 (λ_ _ h=>h) (λb t h=>k2 b t (k1 b t h))
 have hnew:∀n,UF M.ent { key:=a.eval ix,val:=a.eval y,born:=n }/\oD w.heap ok2 M.ent (key,z) (Eg M.ent { key:=a.eval ix,val:=a.eval y,born:=n }):=λn=>
  b3D (e:={ key:=a.eval ix,val:=a.eval y,born:=n }) hg hg2 (EY hf hr) hr2
 show jX X cl ch o a w m ok (upd S2 (bV+bx) (.barr M.ent (N_ (keq M.k) xs key z)));cases hfi:xq (keq M.k) xs key with
 |none=>
  rw[hfi]at hfind;refine fin (es.push { key:=a.eval ix,val:=a.eval y,born:=ck }) (ck+1) (xs++[(key,z)]) (by rw[a2s,hfi]) ?_ (by simp[hsz]) λi x hx=>?_
  .rw[hvw];simp only[Instr.mapUpdate,H8,run_underlying hund,NW hb,J8,c1,hfind,Option.bind_none];exact MapKept.run_setObj_map _ hb
  .rw[List.getElem?_append]at hx;split at hx
   .rename_i hlt;obtain⟨e,h1,h2,h3⟩:=hent i x hx;refine⟨e,?_,h2,gQ (λ_ _ h=>h) (λ_ _ _=>rfl) h3⟩;rw[Array.getElem?_push_lt l7];rw[←h1,Y2 l7]
   .rename_i hge;have hi0:i=xs.length:=by
     have:=(X6.1 hx).1;simp at this;omega
    subst hi0;simp at hx;subst hx;exact⟨_,by rw[←hsz];simp,hnew ck⟩
 |some j=>
  obtain⟨p,hp,hpk⟩:=TU hfi;obtain⟨e,h1,h2,h3⟩:=hent j p hp;obtain⟨g1,g2,r1,r2⟩:=Rf h2 h3;have h1' :es.toList[j]? =some e:=by simpa using h1
  have hpe:=(YQ hf _ _).1 hpk;have hke:e.key=a.eval ix:=GM.det hf (ag:=M.ka) (x:=key) ⟨g1,by rw[hpe];exact EY hf r1⟩ ⟨hg,EY hf hr⟩;rw[hfi]at hfind;simp only[oZ,h1',eY]at hfind;refine fin (es.modify j λe=> { e with key:=a.eval ix,val:=a.eval y }) ck (xs.set j (key,z)) (by rw[a2s,hfi]) ?_ (by simp[hsz]) λi x hx=>?_
  .rw[hvw];simp only[Instr.mapUpdate,H8,run_underlying hund,NW hb,J8,c1,hfind,h1,eY,dP,hke,GM.stays (P:=X.P) (w:=w) hf hkey];exact MapKept.run_setObj_map _ hb
  .rw[Z9]at hx;rw[tC];split at hx
   .rename_i hij;subst hij;split at hx
    .cases hx;simp only[if_true,h1,eY];exact⟨_,rfl,hnew e.born⟩
    .cases hx
   .rename_i hij;simp only[hij,if_false];obtain⟨e',a1,a2,a3⟩:=hent i x hx;exact⟨e',a1,a2,gQ (λ_ _ h=>h) (λ_ _ _=>rfl) a3⟩
end
end Go.GP
namespace Go.GP
theorem a2M:∀(n:Nat) (vs a b:List V),OL n vs=some (a,b)->vs=a++b/\a.length=n
 |0,vs,a,b,h=>by simp[OL]at h;obtain⟨rfl,rfl⟩:=h;simp
 |n+1,[],a,b,h=>by simp[OL]at h|n+1,v::vs,a,b,h=>by
  unfold OL at h;cases hs:OL n vs with
  |none=>simp[hs]at h|some p=>obtain⟨a',b'⟩:=p;simp only[hs,O8,mM]at h;obtain⟨rfl,rfl⟩:=h;obtain⟨rfl,hl⟩:=a2M n vs _ _ hs;exact⟨rfl,by simp[hl]⟩
theorem Yn{C:Cx} :∀{a b:List V} {xs ys:d1D},a.length=xs.length->kK C (a++b) (xs++ys)->kK C a xs/\kK C b ys
 |[],b,xs,ys,hl,h=>by
  have:xs=[]:=by cases xs<;>simp at hl ⊢
  subst this;exact⟨rfl,h⟩
 |c::a,b,xs,ys,hl,h=>by
  cases xs with
  |nil=>simp at hl|cons x xs=>obtain⟨v,r,e,h1,h2⟩:=h;simp only[aG,O0]at e;obtain⟨rfl,rfl⟩:=e;obtain⟨h3,h4⟩:=Yn (by simpa using hl) h2;exact⟨⟨_,_,rfl,h1,h3⟩,h4⟩
theorem b0w{C:Cx} :∀{a:List V} {xs:d1D},LG a=false->kK C a xs->a4b C a xs
 |[],xs,_,h=>h|c::a,xs,ht,⟨v,r,e,h1,h2⟩=>by
  have ht2:LG a=false:=by cases c<;>first|exact ht|(simp[LG]at ht)
  refine⟨v,r,e,?_,b0w ht2 h2⟩;cases c<;>first|exact h1|(simp[LG]at ht)
variable {v:Value}
theorem b5M{C:Cx}{a:List V}{xs:d1D}{n:Nat}(ht:LG a=false)(h:kK C a xs)(hr:a7f n v xs):pg C (b8G a) v:=by
 obtain⟨_,hv⟩:=hr;cases a with
 |nil=>simp only[kK]at h;subst h;simp only at hv;subst hv;exact⟨_,rfl,rfl⟩|cons c a=>
  obtain⟨x,r,rfl,h1,h2⟩:=h;cases a with
  |nil=>simp only[kK]at h2;subst h2;simp only at hv;subst hv;exact h1|cons d a=>obtain⟨y,r',rfl,h3,h4⟩:=h2;simp only at hv;subst hv;exact⟨_,rfl,b0w ht ⟨_,_,rfl,h1,_,_,rfl,h3,h4⟩⟩
theorem Zz{h:Array Obj}{ok ok' :Nat->Ty->Prop} :∀{ts:List Ty} {x:XA ts} {vs:d1D},(∀b u,ok b u->Yb u ts=true->ok' b u)->Jk h ok (Xz ts x) vs->Jk h ok' (Xz ts x) vs
 |[],_,_,_,hr=>hr|[t],x,_,f,hr=>by obtain⟨v,r,e,⟨b,o,es,hv,hb,hc,hp⟩,h2⟩:=hr;exact⟨v,r,e,⟨b,o,es,hv,f _ _ hb (by simp[Yb]),hc,CX (λb u h k=>f b u h (by simp[Yb,k])) hp⟩,h2⟩
 |t::t' ::ts,x,_,f,hr=>by obtain⟨v,r,e,⟨b,o,es,hv,hb,hc,hp⟩,h2⟩:=hr;exact⟨v,r,e,⟨b,o,es,hv,f _ _ hb (by simp[Yb]),hc,CX (λb u h k=>f b u h (by simp[Yb,k])) hp⟩,Zz (ts:=t' ::ts) (λb u h k=>f b u h (by rw[Yb,k];simp)) h2⟩
theorem Wn{h:Array Obj}{ok ok' :Nat->Ty->Prop}{m:Mp}{t:Ty}{xs:List t.den}{l:Loc}(f:∀b u,ok b u->Ty.occ u t=true->ok' b u)(hr:arrOk ⟨h,ok,m⟩ t xs l):arrOk ⟨h,ok',m⟩ t xs l:=by
 cases l with
 |nil=>exact hr|st b=>exact hr|mp b=>obtain⟨h1,es,ck,h2,h3,h4⟩:=hr;refine⟨h1,es,ck,h2,h3,λi y hi=>?_⟩;obtain⟨e,a1,a2,a3⟩:=h4 i y hi;exact⟨e,a1,a2,CX f a3⟩
 |arr blk off len cap sz=>obtain⟨h0,h1,h2,h3,c,T,h4,h5,h6⟩:=hr;refine⟨h0,h1,h2,h3,c,T,h4,h5,λi y hi=>?_⟩;obtain⟨es,he,hp⟩:=h6 i y hi;exact⟨es,he,CX f hp⟩
theorem JR{h:Array Obj}{ok ok' :Nat->Ty->Prop} :∀{m:M} {ho:Option Nat} {x:m.den} {cs:d1D} {O:d1B},(∀b u,ok b u->m.occ u=true->ok' b u)->sH h ok m ho x cs O->sH h ok' m ho x cs O
 | .dat t,_,_,_,_,f,hr=>⟨CX f hr.1,hr.2⟩| .unit,_,_,_,_,_,hr=>hr| .pair a b,_,_,_,_,f,⟨c,d,O1,O2,e,eo,h1,h2⟩=>⟨c,d,O1,O2,e,eo,JR (λb u h k=>f b u h (by simp[M.occ,k])) h1,JR (λb u h k=>f b u h (by simp[M.occ,k])) h2⟩| .box m,_,_,_,_,f,⟨blk,arr,T,O',e,hh,hr,eo⟩=>⟨blk,arr,T,O',e,hh,JR f hr,eo⟩| .own t,ho,_,_,_,f,⟨v,e,h1,ha⟩=>by
  refine⟨v,e,h1,?_⟩;split at ha
  .exact ha
  .obtain⟨l,hv,ha,hO⟩:=ha;exact⟨l,hv,Wn f ha,hO⟩
 | .owns m,ho,_,_,_,f,⟨v,e,h1,ha⟩=>by
  refine⟨v,e,h1,?_⟩;split at ha
  .exact ha
  .obtain⟨he,l,Os,hv,ha,hO⟩:=ha;exact⟨he,l,Os,hv,KD (λ_ _=>rfl) (λi x es O _ hr=>JR f hr) ha,hO⟩
 | .ownb t,_,_,_,_,f,⟨l,v,e,hv,ha,hO⟩=>⟨l,v,e,hv,Wn f ha,hO⟩| .rp t,_,_,_,_,f,⟨v,e,⟨b,o,es,hv,hb,hc,hp⟩,h2⟩=>⟨v,e,⟨b,o,es,hv,f _ _ hb (by simp[M.occ]),hc,CX (λb u h k=>f b u h (by simp[M.occ,k])) hp⟩,h2⟩| .fn g ts,_,_,_,_,f,⟨vs,e,h1,h2⟩=>⟨vs,e,Zz f h1,h2⟩| .ifc t m,_,_,_,_,f,⟨u,e,h1⟩=>⟨u,e,JR f h1⟩| .cell _,_,_,_,_,_,h=>h
theorem a0s{h:Array Obj}{ok ok' :Nat->Ty->Prop} :∀{ms:List MG} {x:dR ms} {vs:d1D} {O:d1B},(∀b u,ok b u->Qm u ms=true->ok' b u)->yj h ok ms x vs O->yj h ok' ms x vs O
 |[],_,_,_,_,e=>e|[m],_,_,_,f,⟨v,cs,e,hg,hr⟩=>⟨v,cs,e,hg,JR (λb u h k=>f b u h (by simp[Qm,k])) hr⟩|m::m' ::r,_,_,_,f,⟨v,cs,vs',O1,O2,e,eo,hg,h1,h2⟩=>
  ⟨v,cs,vs',O1,O2,e,eo,hg,JR (λb u h k=>f b u h (by simp[Qm,k])) h1,a0s (λb u h k=>f b u h (by rw[Qm,k];simp)) h2⟩
theorem Vh{u:Ty} :∀{a b:List MG},Qm u (a++b)=(Qm u a || Qm u b)
 |[],_=>rfl|m::a,b=>by simp[Qm,Vh,Bool.or_assoc]
theorem a2A:∀{fs:List (Nat×FSpec)} {f:Nat} {vs:List V} {s:FSpec},a5Y fs f vs=some s->(f,s)∈fs
 |[],_,_,_,h=>by simp[a5Y]at h|(g,s')::r,f,vs,s,h=>by
  unfold a5Y at h;cases hb:(Nat.beq g f&&WE s'.ps vs)
  .rw[hb]at h;exact V4 _ (a2A h)
  .rw[hb]at h;simp only[cond_true,O8]at h;subst h;simp only[A8]at hb;have:=jU hb.1;subst this;exact nz
theorem b9p{l l0:Loc}(h:l.view none v)(h0:l0.view none v)(hs:∀b o n c s b' o' n' c' s',l= .arr b o n c s->l0= .arr b' o' n' c' s' ->s=s'):l=l0:=by
 cases l<;>cases l0<;>simp only[Loc.view]at h h0
 .rfl
 .rw[h]at h0;cases h0
 .rw[h]at h0;cases h0
 .rw[h]at h0;cases h0
 .rw[h]at h0;simp only[Value.slice.injEq,O8,tu,and_true]at h0;obtain⟨⟨rfl,rfl⟩,rfl,rfl⟩:=h0;have:=hs _ _ _ _ _ _ _ _ _ _ rfl rfl;subst this;rfl
 .rw[h]at h0;cases h0
 .rw[h]at h0;cases h0
 .rw[h]at h0;cases h0
 .rw[h]at h0;cases h0;rfl
theorem Ti{h:Array Obj}{ok:Nat->Ty->Prop} :∀{ms:List MG} {x:dR ms} {vs:d1D} {O:d1B},yj h ok ms x vs O->vs.length=ms.length
 |[],_,_,_,e=>by simp[e.1]|[m],_,_,_,⟨v,cs,e,hg,hr⟩=>by simp[e]|m::m' ::r,_,_,_,⟨v,cs,vs',O1,O2,e,eo,hg,h1,h2⟩=>by have:=Ti h2;subst e;simp[this]
variable {q:Nat}{f:FuncId}{c:Call}
section
variable {X:Fx} {cl ch:Nat} {S:Sm} {m:Mp} {ok:Nat->Ty->Prop} {a:Act} {w:World} {o:Oper}
theorem fJ{α:Type}{Q:α->Sm->Prop}{h0:Array Obj}{ok0:Nat->Ty->Prop}{m0:Mp} :∀(ms:List MG) {vs:List V} {vals:d1D} {ws:List V} {os:d1D} {B:d1B} {K:Cmd α} {S:Sm}
  (R:Rel X cl ch S m ok a w) (hm:∀k l,m0 k=some l->m k=some l) (hT:Tk X S m ok w B) (hv:kK ⟨h0,ok0,m0⟩ vs vals) (ho:Dc w.heap ms vals os B) (hw:kK ⟨w.heap,ok,m⟩ ws os)
  (hK:∀S',Rel X cl ch S' m ok a w->K.post S' Q),(dU ms vs ws K).post S Q
 |[],vs,vals,ws,os,B,K,S,R,hm,hT,hv,ho,hw,hK=>by
  cases vs with
  |cons _ _=>unfold dU;trivial|nil=>
   cases ws with
   |cons _ _=>unfold dU;trivial|nil=>unfold dU;exact hK S R
 |(g,.dat t)::ms,vs,vals,ws,os,B,K,S,R,hm,hT,hv,ho,hw,hK=>by
  cases vs with
  |nil=>unfold dU;trivial|cons v vs=>obtain⟨x,r,rfl,h1,h2⟩:=hv;unfold dU;exact fJ ms R hm hT h2 ho hw hK
 |(g,.own t)::ms,vs,vals,ws,os,B,K,S,R,hm,hT,hv,ho,hw,hK=>by
  cases vs with
  |nil=>unfold dU;trivial|cons v vs=>obtain⟨x,r,rfl,h1,h2⟩:=hv;unfold dU;exact fJ ms R hm hT h2 ho hw hK
 |(g,.pair p q)::ms,vs,vals,ws,os,B,K,S,R,hm,hT,hv,ho,hw,hK=>by
  cases vs with
  |nil=>unfold dU;trivial|cons v vs=>obtain⟨x,r,rfl,h1,h2⟩:=hv;unfold dU;exact fJ ms R hm hT h2 ho hw hK
 |(g,.unit)::ms,vs,vals,ws,os,B,K,S,R,hm,hT,hv,ho,hw,hK=>by
  cases vs with
  |nil=>unfold dU;trivial|cons v vs=>obtain⟨x,r,rfl,h1,h2⟩:=hv;unfold dU;exact fJ ms R hm hT h2 ho hw hK
 |(g,.cell _)::ms,vs,vals,ws,os,B,K,S,R,hm,hT,hv,ho,hw,hK=>by
  cases vs with
  |nil=>unfold dU;trivial|cons v vs=>obtain⟨x,r,rfl,h1,h2⟩:=hv;unfold dU;exact fJ ms R hm hT h2 ho hw hK
 |(g,.box md)::ms,vs,vals,ws,os,B,K,S,R,hm,hT,hv,ho,hw,hK=>by
  cases vs with
  |nil=>unfold dU;trivial|cons v0 vs=>
  cases v0<;>try (unfold dU;trivial)
  case ptr bx off=>
  cases ws with
  |nil=>unfold dU;trivial|cons o0 ws=>
  cases o0<;>try (unfold dU;trivial)
  case agg cs=>
   unfold dU;refine gZ ?_;split<;>try trivial
   rename_i hS;refine nJ ?_;obtain⟨x,r,rfl,h1,h2⟩:=hv;obtain⟨y,r',rfl,h3,h4⟩:=hw;obtain⟨b,arr,T,os',B',e1,hh,e2,rfl,ho'⟩:=ho;simp only[O0]at e2;obtain⟨rfl,rfl⟩:=e2;obtain⟨blk,hmb,e3⟩:=h1;subst e1;simp only[Value.pointer.injEq,O8,tu,and_true]at e3;obtain⟨rfl,rfl⟩:=e3;obtain⟨arr',e4,hl⟩:=h3;simp only[Value.agg.injEq]at e4;subst e4;have hmb' :=hm _ _ hmb;obtain⟨R',T'⟩:=R.backV (n:=bx) (v:=.bcells cs) (O1:=[b]) (B:=B') x9 (by simpa using hT) (by simp[aC,hmb']) ⟨b,_,T,hmb',hh,hl⟩;exact fJ ms R' hm T' h2 ho' h4 hK
 |(g,.ifc t (.box md))::ms,vs,vals,ws,os,B,K,S,R,hm,hT,hv,ho,hw,hK=>by
  cases vs with
  |nil=>unfold dU;trivial|cons v0 vs=>
  cases v0<;>try (unfold dU;trivial)
  case ifc t' v1=>
  cases v1<;>try (unfold dU;trivial)
  case ptr bx off=>
  cases ws with
  |nil=>unfold dU;trivial|cons o0 ws=>
  cases o0<;>try (unfold dU;trivial)
  case agg cs=>
   unfold dU;refine gZ ?_;split<;>try trivial
   rename_i hS;refine nJ ?_;obtain⟨x,r,rfl,h1,h2⟩:=hv;obtain⟨y,r',rfl,h3,h4⟩:=hw;obtain⟨t2,b,arr,T,os',B',e1,hh,e2,rfl,ho'⟩:=ho;simp only[O0]at e2;obtain⟨rfl,rfl⟩:=e2;obtain⟨u,e5,_,h1⟩:=h1;obtain⟨blk,hmb,e3⟩:=h1;subst e1;subst e3;simp only[Value.iface.injEq,Value.pointer.injEq,O8,tu,and_true]at e5;obtain⟨rfl,rfl,rfl⟩:=e5;obtain⟨arr',e4,hl⟩:=h3;simp only[Value.agg.injEq]at e4;subst e4;have hmb' :=hm _ _ hmb;obtain⟨R',T'⟩:=R.backV (n:=bx) (v:=.bcells cs) (O1:=[b]) (B:=B') x9 (by simpa using hT) (by simp[aC,hmb']) ⟨b,_,T,hmb',hh,hl⟩;exact fJ ms R' hm T' h2 ho' h4 hK
 |(g,.ownb t)::ms,vs,vals,ws,os,B,K,S,R,hm,hT,hv,ho,hw,hK=>by
  cases vs with
  |nil=>unfold dU;trivial|cons v0 vs=>
  obtain⟨x,r,rfl,h1,h2⟩:=hv;obtain⟨os',rfl,ho'⟩:=ho;cases v0<;>try (unfold dU;trivial)
  case nl=>
   cases ws with
   |nil=>unfold dU;trivial|cons o0 ws=>
   cases o0<;>try (unfold dU;trivial)
   case own nm vw=>
   cases vw with
   |some _=>unfold dU;trivial|none=>
   unfold dU;obtain⟨y,r',e,h3,h4⟩:=hw;simp only[O0]at e;obtain⟨rfl,rfl⟩:=e;refine nJ ?_;have T1:=Tk.kill R hT nm (bs:=[]) (λb h=>by cases h) fP;rw[H6]at T1;exact fJ ms (R.kill nm) hm T1 h2 ho' h4 hK
  case own bx vw=>
   cases vw with
   |some _=>unfold dU;trivial|none=>
   cases ws with
   |nil=>unfold dU;trivial|cons o0 ws=>
   cases o0<;>try (unfold dU;trivial)
   case own nm vw=>
   cases vw with
   |some _=>unfold dU;trivial|none=>
   unfold dU;obtain⟨y,r',e,h3,h4⟩:=hw;simp only[O0]at e;obtain⟨rfl,rfl⟩:=e;obtain⟨l0,hm0,hv0⟩:=h1;obtain⟨l,hml,hvl⟩:=h3;have hm0' :=hm _ _ hm0;refine gZ ?_;split<;>try trivial
   rename_i u xs hS;refine nJ (gZ ?_);split<;>try trivial
   rename_i t' hS2;refine iq λe=>?_;subst e;refine nJ ?_;obtain⟨l',hml',ha⟩:=R.own_arr hS;simp only at hml;rw[hml]at hml';cases hml';have R1:=R.kill nm;have hob:aC m nm (S (bV+nm))=l.blks:=by rw[hS];cases l<;>first|(simp[aC,hml,Loc.blks];done)|cases ha
   have T1:=Tk.kill R hT nm (bs:=l.blks) (λb h=>by rw[hob];exact h) (Loc.blks_nodup l);have hg:=R1.box bx;rw[hS2]at hg;obtain⟨l1,hm1,hsz⟩:=hg;simp only at hm1;rw[hm0']at hm1;cases hm1;have hll:l=l0:=b9p hvl hv0 (λb o n c s b' o' n' c' s' e1 e2=>by subst e1;rw[hsz _ _ _ _ _ e2];exact ha.2.1);subst hll;obtain⟨R',T'⟩:=R1.backV (n:=bx) (v:=.barr u xs) (O1:=l.blks) (B:=B) x9 (T1.perm tV) (by cases l<;>first|(simp[aC,hm0',Loc.blks];done)|cases ha) ⟨l,hm0',ha⟩;exact fJ ms R' hm T' h2 ho' h4 hK
 |(g,.owns md)::ms,vs,vals,ws,os,B,K,S,R,hm,hT,hv,ho,hw,hK=>by
  cases vs with
  |nil=>unfold dU;trivial|cons v vs=>obtain⟨x,r,rfl,h1,h2⟩:=hv;unfold dU;exact fJ ms R hm hT h2 ho hw hK
 |(g,.rp t)::ms,vs,vals,ws,os,B,K,S,R,hm,hT,hv,ho,hw,hK=>by
  cases vs with
  |nil=>unfold dU;trivial|cons v vs=>obtain⟨x,r,rfl,h1,h2⟩:=hv;unfold dU;exact fJ ms R hm hT h2 ho hw hK
 |(g,.fn f ts)::ms,vs,vals,ws,os,B,K,S,R,hm,hT,hv,ho,hw,hK=>by
  cases vs with
  |nil=>unfold dU;trivial|cons v vs=>obtain⟨x,r,rfl,h1,h2⟩:=hv;unfold dU;exact fJ ms R hm hT h2 ho hw hK
 |(g,.ifc t (.dat u))::ms,vs,vals,ws,os,B,K,S,R,hm,hT,hv,ho,hw,hK=>by
  cases vs with
  |nil=>unfold dU;trivial|cons v vs=>obtain⟨x,r,rfl,h1,h2⟩:=hv;unfold dU;exact fJ ms R hm hT h2 ho hw hK
 |(g,.ifc t (.own u))::ms,vs,vals,ws,os,B,K,S,R,hm,hT,hv,ho,hw,hK=>by
  cases vs with
  |nil=>unfold dU;trivial|cons v vs=>obtain⟨x,r,rfl,h1,h2⟩:=hv;unfold dU;exact fJ ms R hm hT h2 ho hw hK
 |(g,.ifc t (.pair p q))::ms,vs,vals,ws,os,B,K,S,R,hm,hT,hv,ho,hw,hK=>by
  cases vs with
  |nil=>unfold dU;trivial|cons v vs=>obtain⟨x,r,rfl,h1,h2⟩:=hv;unfold dU;exact fJ ms R hm hT h2 ho hw hK
 |(g,.ifc t (.unit))::ms,vs,vals,ws,os,B,K,S,R,hm,hT,hv,ho,hw,hK=>by
  cases vs with
  |nil=>unfold dU;trivial|cons v vs=>obtain⟨x,r,rfl,h1,h2⟩:=hv;unfold dU;exact fJ ms R hm hT h2 ho hw hK
 |(g,.ifc t (.cell _))::ms,vs,vals,ws,os,B,K,S,R,hm,hT,hv,ho,hw,hK=>by
  cases vs with
  |nil=>unfold dU;trivial|cons v vs=>obtain⟨x,r,rfl,h1,h2⟩:=hv;unfold dU;exact fJ ms R hm hT h2 ho hw hK
 |(g,.ifc t (.owns md))::ms,vs,vals,ws,os,B,K,S,R,hm,hT,hv,ho,hw,hK=>by
  cases vs with
  |nil=>unfold dU;trivial|cons v vs=>obtain⟨x,r,rfl,h1,h2⟩:=hv;unfold dU;exact fJ ms R hm hT h2 ho hw hK
 |(g,.ifc t (.ownb u))::ms,vs,vals,ws,os,B,K,S,R,hm,hT,hv,ho,hw,hK=>by
  cases vs with
  |nil=>unfold dU;trivial|cons v vs=>obtain⟨x,r,rfl,h1,h2⟩:=hv;unfold dU;exact fJ ms R hm hT h2 ho hw hK
 |(g,.ifc t (.rp u))::ms,vs,vals,ws,os,B,K,S,R,hm,hT,hv,ho,hw,hK=>by
  cases vs with
  |nil=>unfold dU;trivial|cons v vs=>obtain⟨x,r,rfl,h1,h2⟩:=hv;unfold dU;exact fJ ms R hm hT h2 ho hw hK
 |(g,.ifc t (.fn f ts))::ms,vs,vals,ws,os,B,K,S,R,hm,hT,hv,ho,hw,hK=>by
  cases vs with
  |nil=>unfold dU;trivial|cons v vs=>obtain⟨x,r,rfl,h1,h2⟩:=hv;unfold dU;exact fJ ms R hm hT h2 ho hw hK
 |(g,.ifc t (.ifc t2 md))::ms,vs,vals,ws,os,B,K,S,R,hm,hT,hv,ho,hw,hK=>by
  cases vs with
  |nil=>unfold dU;trivial|cons v vs=>obtain⟨x,r,rfl,h1,h2⟩:=hv;unfold dU;exact fJ ms R hm hT h2 ho hw hK
theorem OH{P:Program}{w:World}{fn:Func}(hf:P.funcs[f]? =some fn)(hb:fn.body.isSome=true)(hn:(fn.name== "runtime.NumGoroutine")=false)(args:Array Value):
  (callFunc f args).run P w= .ok (.enter f args) w:=by
 have hb' :¬fn.body=none:=by intro e;rw[e]at hb;cases hb
 have hn' :¬fn.name= "runtime.NumGoroutine":=by intro e;rw[e]at hn;simp at hn
 simp[callFunc,hf,hn',hb']
theorem b0V(H:FxOk X)(R:Rel X (CB*q) (CB*q+CB) S m ok a w){h0:Array Obj}{ok0:Nat->Ty->Prop}{s:FSpec}{vs:List V}{vals:d1D}{r:dR (s.rs++s.outs)}{rs os:d1D}{O' B:d1B}
  (hT:Tk X S m ok w (O' ++B)) (hv:kK ⟨h0,ok0,m⟩ vs vals) (hret:a7f s.rs.length v rs) (ho:Dc w.heap s.ps vals os B) (hr:yj w.heap ok (s.rs++s.outs) r (rs++os) O') {Q:Unit->Sm->Prop}
  (hK:∀S' m',Rel X (CB*q) (CB*q+CB) S' m' ok (a.put o.dst v) w->(∀k l,m k=some l->m' k=some l)->Q () S'):
  (SL (s.rs++s.outs) r (V7 q o.dst) λws n' =>bif Nat.ble n' (V7 q o.dst+64)then(match OL s.rs.length ws with
    |some (a,o')=>bif LG a then .fail else dU s.ps vs o' (gY X.E o.dst (b8G a))
    |none=> .fail)else .fail).post S Q:=by
 have hcl:CB*q<=V7 q o.dst:=by
  cases o.dst with
  |none=>exact lK _ _|some t=>exact lK _ _
 refine NQ (T:=B) _ R hcl hT hr λS1 m1 ws n1 ch1 R1 c1 T1 k1 s1 l1 e1=>iD λhle=>?_;have hle' :=ax hle;split<;>try trivial
 rename_i p p' hsp;obtain⟨rfl,hpl⟩:=a2M _ _ _ _ hsp;obtain⟨l2,l3⟩:=Yn (by rw[hpl,hret.1]) l1;cases ht:LG p
 .simp only[cond_false];refine fJ s.ps R1 k1 T1 hv ho l3 λS2 R2=>?_;have hres:=b5M ht l2 hret;cases hd:o.dst with
  |none=>have hin:=vZ H (q:=q) none (λt h=>by cases h);rw[hd]at hle' hK;exact hK S2 m1 (R2.chmono (by generalize CB*q=Z at*;generalize V7 q none=N at*;omega)) k1
  |some t=>unfold gY;refine iD λhb=>?_;have hin:=vZ H (q:=q) (some t) (λt' h=>by cases h;exact(Gh hb).1);rw[hd]at hle' hK;have R3:Rel X (CB*q) (CB*q+CB) S2 m1 ok a w:=R2.chmono (by generalize CB*q=Z at*;generalize V7 q (some t)=N at*;omega);exact hK _ m1 (R3.put H.ntB hb hres) k1
 .trivial
theorem UB(H:FxOk X)(R:Rel X (CB*q) (CB*q+CB) S m ok a w){vs:List V}{vals:d1D}(hvs:kK ⟨w.heap,ok,m⟩ vs vals)
  (run:∀fn,X.P.funcs[f]? =some fn->fn.body.isSome=true->(fn.name== "runtime.NumGoroutine")=false->(execOp a.eval o).run X.P w= .ok (.enter f vals.toArray) w):
  (a1L X.E q o.dst f vs).post S (λ_ S' =>jX X (CB*q) (CB*q+CB) o a w m ok S'):=by
 unfold a1L;split
 .trivial
 rename_i s hs;have hmem:=a2A hs;have hF:=H.fs _ hmem;obtain⟨fn,hf,hb,hnm⟩:=H.fn _ hmem;have hrun:=run fn hf hb hnm;refine NU (ln:=a3r s) (T:=[]) s.ps R Tk.nil hvs λS1 ok1 x O R1 T1 k1 s1 hrel=>jl λr hr=>?_;simp only[G6]at T1;generalize hokc:okL (a3r s) S1 m ok1=okc at hrel;have c1:∀b t,ok1 b t->okc b t:=λb t h=>by rw[←hokc];exact .inl h
 have hsep1:∀b t,ok1 b t->∀n,b∉aC m n (S1 (bV+n)):=λb t h n e=>(R1.sep n b e).1 t h;have hlt:∀b t,okc b t->b<w.heap.size:=λb t h=>by
  rw[←hokc]at h;rcases h with h|⟨_,n,h,_⟩
  .exact R1.okLt b t h
  .exact(R1.sep n b h).2.1
 have hfree:∀b∈O,(∀t,¬okc b t)/\b<w.heap.size:=λb hb=>by
  obtain⟨f1,f2,f3,f4⟩:=T1.free b hb;refine⟨λt h=>?_,f2⟩;rw[←hokc]at h;rcases h with h|⟨_,n,h,_⟩
  .exact f1 t h
  .exact f4 n h
 have hC:=hF w okc O _ x r hlt T1.nodup hfree (λg u hg=>by obtain⟨g1,g3,g2⟩:=R1.gl g u hg;refine⟨c1 _ _ g1,g3,λi y hi=>?_⟩;obtain⟨es,he,hr⟩:=g2 i y hi;exact⟨es,he,gQ c1 (λ_ _ _=>rfl) hr⟩) hrel hr
 have hown:∀b,(w.heap.size<=b\/b∈O)->(X.w0.heap.size<=b\/b∈X.O)/\∀n,b∉aC m n (S1 (bV+n)):=λb hb=>by
  rcases hb with hb|hb
  .have:=R1.frame.size;exact⟨.inl l7,λn e=>by have:=(R1.sep n b e).2.1;omega⟩
  .exact(T1.free b hb).2.2
 revert hC;generalize hPost:(λ(e:Ending) (w' :World)=>∃v ok' O' rs os B,e= .returned v/\Frame' w w' O/\(∀b t,okc b t->ok' b t)/\(∀b t,ok' b t->b<w'.heap.size/\(okc b t\/w.heap.size<=b\/b∈O))/\
  (O' ++B).Nodup/\(∀b∈O' ++B,(∀t,¬ok' b t)/\b<w'.heap.size/\(w.heap.size<=b\/b∈O))/\
  a7f s.rs.length v rs/\Dc w'.heap s.ps vals os B/\yj w'.heap ok' (s.rs++s.outs) r (rs++os) O')=Post
 intro hC;have hall:∀p: { p:Ending×World // Post p.1 p.2 },(SL (s.rs++s.outs) r (V7 q o.dst) λws n' =>bif Nat.ble n' (V7 q o.dst+64)then(match OL s.rs.length ws with
   |some (a,o')=>bif LG a then .fail else dU s.ps vs o' (gY X.E o.dst (b8G a))
   |none=> .fail)else .fail).post S1 (λ_ S' =>∃v m' okf,p.1.1= .returned v/\Rel X (CB*q) (CB*q+CB) S' m' okf (a.put o.dst v) p.1.2/\(∀k l,m k=some l->m' k=some l)/\(∀b t,ok b t->okf b t)):=by
  rintro⟨⟨e,w'⟩,hp⟩;rw[←hPost]at hp;obtain⟨v,ok',O',rs,os,B,rfl,fr,k2,hok',hnd,hfr,hret,houts,hrel'⟩:=hp;have k3:∀b t,ok1 b t->(ok' b t/\∀n,b∉aC m n (S1 (bV+n))):=λb t h=>⟨k2 b t (c1 b t h),hsep1 b t h⟩;have R2:Rel X (CB*q) (CB*q+CB) S1 m (λb t=>ok' b t/\∀n,b∉aC m n (S1 (bV+n))) a w' :=by
   refine R1.world fr.os fr.tape fr.output fr.size (λb hb h=>fr.block b hb λhO=>?_) k3 (λb t h=>⟨(hok' b t h.1).1,?_⟩)
   .obtain⟨f1,f2,f3,f4⟩:=T1.free b hO;rcases h with⟨t,h⟩|⟨n,h⟩|h
    .exact f1 t h
    .exact f4 n h
    .exact h f3
   .rcases(hok' b t h.1).2 with h'|h'
    .rw[←hokc]at h';rcases h' with h'|⟨_,n,h',_⟩
     .exact .inl h'
     .exact absurd h' (h.2 n)
    .exact .inr (hown b h')
  have hrel2:yj w'.heap (λb t=>ok' b t/\∀n,b∉aC m n (S1 (bV+n))) (s.rs++s.outs) r (rs++os) O' :=by
   refine a0s (λb u h k=>⟨h,λn e=>?_⟩) hrel';rcases(hok' b u h).2 with h'|h'
   .rw[←hokc]at h';rcases h' with h'|⟨hl,_⟩
    .exact hsep1 b u h' n e
    .rw[Vh]at k;unfold a3r at hl;rw[k]at hl;cases hl
   .exact(hown b h').2 n e
  refine b0V H R2 (h0:=w.heap) (ok0:=ok) (vals:=vals) (rs:=rs) (os:=os) (O' :=O') (B:=B) (v:=v) ⟨hnd,λb hb=>?_⟩ hvs hret houts hrel2 λS' m' R' km=>⟨v,m',_,rfl,R',km,λb t hb=>k3 b t (k1 b t hb)⟩;obtain⟨g1,g2,g3⟩:=hfr b hb;obtain⟨f2,f3⟩:=hown b g3;exact⟨λt h=>g1 t h.1,g2,f2,f3⟩
 refine Gi ?_ (Nl hall);intro _ S' hS' next Q hn
 unfold Oper.wp;rw[hrun,Oper.upon_enter];refine Calls.mono hC λe w' hp=>?_;obtain⟨v,m',okf,he,R',km,kok⟩:=hS' ⟨(e,w'),hp⟩;simp only at he;subst he;exact hn m' okf _ w' R' km kok
theorem b8u(H:FxOk X)(R:Rel X (CB*q) (CB*q+CB) S m ok a w)(ho:o.op= .call c)(hc:c.callee= .value (.func f)):(dY X.E q o).post S (λ_ S' =>jX X (CB*q) (CB*q+CB) o a w m ok S'):=by
 obtain⟨cal,args,ats⟩:=c;simp only at hc;subst hc;unfold dY;simp only[ho];refine pK R _ λvs hvs=>UB H R hvs λfn hf hb hnm=>?_;have:=OH (P:=X.P) (w:=w) hf hb hnm (args.map a.eval);have e:args.map a.eval=(args.toList.map a.eval).toArray:=by apply lX;simp
 rw[e]at this;simp[execOp,ho,resolve,Deferred.ofValue,Act.eval,invoke,e,this]
theorem OE{C:Cx} :∀{a b:List V} {xs ys:d1D},kK C a xs->kK C b ys->kK C (a++b) (xs++ys)
 |[],_,_,_,h,k=>by simp only[kK]at h;subst h;exact k|c::a,b,_,_,⟨v,r,e,h1,h2⟩,k=>by subst e;exact⟨v,r++_,rfl,h1,OE h2 k⟩
theorem a0t{C:Cx} :∀{caps:List ((t:Ty)×t.den)} {vs:d1D},Jk C.h C.ok caps vs->kK C (caps.map c3B) vs
 |[],_,h=>h|c::cs,_,⟨v,r,e,h1,h2⟩=>⟨v,r,e,h1,a0t h2⟩
theorem b4F(H:FxOk X)(R:Rel X (CB*q) (CB*q+CB) S m ok a w){x:Operand}(ho:o.op= .call c)(hc:c.callee= .value x)(hx:∀f,x≠.func f):(dY X.E q o).post S (λ_ S' =>jX X (CB*q) (CB*q+CB) o a w m ok S'):=by
 obtain⟨cal,args,ats⟩:=c;simp only at hc;subst hc;unfold dY;simp only[ho];refine pK R _ λvs hvs=>?_;refine bU R λu hu=>?_;split<;>try trivial
 rename_i f caps;obtain⟨cs,hv,hcaps⟩:=hu;refine UB H R (OE hvs (a0t hcaps)) λfn hf hb hnm=>?_;have:=OH (P:=X.P) (w:=w) hf hb hnm (args.map a.eval++cs);have e:args.map a.eval++cs=(args.toList.map a.eval++cs.toList).toArray:=by apply lX;simp
 rw[e]at this;simp[execOp,ho,resolve,Deferred.ofValue,hv,invoke,e,this]
theorem TS:∀{l:List ((Nat×String)×Nat×Option Nat)} {t:Nat} {n:String} {r:Nat×Option Nat},I_ l t n=some r->((t,n),r)∈l
 |[],_,_,_,h=>by simp[I_]at h|((u,k),r')::l,t,n,r,h=>by
  unfold I_ at h;cases hb:(Nat.beq u t&&(k==n))<;>rw[hb]at h
  .exact V4 _ (TS h)
  .simp only[cond_true,O8]at h;subst h;simp only[A8,beq_iff_eq]at hb;have:=jU hb.1;subst this;rw[hb.2];exact nz
theorem b1P(H:FxOk X)(R:Rel X (CB*q) (CB*q+CB) S m ok a w){x:Operand}{n:String}(ho:o.op= .call c)(hc:c.callee= .invoke x n):(dY X.E q o).post S (λ_ S' =>jX X (CB*q) (CB*q+CB) o a w m ok S'):=by
 obtain⟨cal,args,ats⟩:=c;simp only at hc;subst hc;unfold dY;simp only[ho];refine pK R _ λvs hvs=>bU R λu hu=>?_;split<;>try trivial
 rename_i t v;obtain⟨z,hz,hz1,hzv⟩:=hu;have e2:(#[a.eval x]++args.map a.eval).extract 1 (#[a.eval x]++args.map a.eval).size=args.map a.eval:=by apply lX;simp;exact Y8 (Nat.le_of_eq (by rw[H7];rfl))
 have e3:(#[a.eval x]++args.map a.eval)[0]? =some (a.eval x):=by rw[oL (by show 0<1;omega)];rfl
 have e4:(args.map a.eval).extract 0 args.size=args.map a.eval:=by
  have h:args.size=(args.map a.eval).size:=by rw[Array.size_map]
  rw[h,Array.extract_size]
 have fin:∀(f:Nat) (r:Value) (fn:Func),X.P.funcs[f]? =some fn->fn.body.isSome=true->(fn.name== "runtime.NumGoroutine")=false->(method (X.P.types.size+Made.depth) t z n).run X.P w= .ok (f,r) w->
   (execOp a.eval o).run X.P w= .ok (.enter f (r::args.toList.map a.eval).toArray) w:=λf r fn hf hb hnm hM=>by
  have:=OH (P:=X.P) (w:=w) hf hb hnm (#[r]++args.map a.eval);have e:#[r]++args.map a.eval=(r::args.toList.map a.eval).toArray:=by apply lX;simp
  rw[←e];simp only[execOp,ho,resolve,H8,aI,J8,invoke,e3];simp[hz,callMethod,hM,e4,this]
 split<;>try trivial
 .rename_i f hmt;have hM:=H.ms _ (TS hmt);exact UB H R (vals:=z::args.toList.map a.eval) ⟨z,_,rfl,IK hzv,hvs⟩ λfn hf hb hnm=>fin f z fn hf hb hnm (hM z w)
 .rename_i f e0 hmt;have hM:=H.ms _ (TS hmt);refine NZ H R (IK hzv) λv' u ad hv' hp hr=>?_;refine UB H R (vals:=u::args.toList.map a.eval) ⟨u,_,rfl,hv',hvs⟩ λfn hf hb hnm=>fin f u fn hf hb hnm ?_;rw[hM z w ad hp,hr];rfl
end
end Go.GP
namespace Go.GP
variable {q:Nat}
section
variable {X:Fx} {S:Sm} {m:Mp} {ok:Nat->Ty->Prop} {a:Act} {w:World} {o:Oper}
theorem Zy{α:Type}{Q:α->Sm->Prop}{cl ch:Nat} :∀(ms:List MG) {vs:List V} {xs:d1D} {K:List ((t:Ty)×t.den)->Cmd α} {S:Sm} {ok:Nat->Ty->Prop} (R:Rel X cl ch S m ok a w)
  (hv:kK ⟨w.heap,ok,m⟩ vs xs)
  (hK:∀S' ok' cs,Rel X cl ch S' m ok' a w->(∀b t,ok b t->ok' b t)->Jk w.heap ok' cs xs->(K cs).post S' Q),(Ec ms vs K).post S Q
 |[],vs,xs,K,S,ok,R,hv,hK=>by
  cases vs with
  |cons _ _=>unfold Ec;trivial|nil=>unfold Ec;exact hK S ok [] R (λ_ _ h=>h) hv
 |(g,.rp t)::ms,vs,xs,K,S,ok,R,hv,hK=>by
  cases vs with
  |nil=>unfold Ec;trivial|cons v vs=>
   obtain⟨x,r,rfl,h1,h2⟩:=hv;unfold Ec;have key:Bv ⟨w.heap,ok,m⟩ v x->(rpC t v λx=>Ec ms vs λcs=>K (⟨t,x⟩::cs)).post S Q:=λh1=>by refine a6v (T:=[]) t R Tk.nil h1 λS1 ok1 y R1 T1 k1 s1 d1=>?_;refine Zy ms R1 (Qy k1 h2) λS2 ok2 cs R2 k2 d2=>?_;exact hK S2 ok2 _ R2 (λb t h=>k2 b t (k1 b t h)) ⟨x,r,rfl,QZ k2 (λ_ _ _=>rfl) d1,d2⟩
   cases v<;>first|exact key h1|(unfold rpC;trivial)
 |(g,.dat t)::ms,vs,xs,K,S,ok,R,hv,hK=>by cases vs<;>(unfold Ec;trivial)|(g,.own t)::ms,vs,xs,K,S,ok,R,hv,hK=>by cases vs<;>(unfold Ec;trivial)|(g,.pair p q)::ms,vs,xs,K,S,ok,R,hv,hK=>by cases vs<;>(unfold Ec;trivial)|(g,.unit)::ms,vs,xs,K,S,ok,R,hv,hK=>by cases vs<;>(unfold Ec;trivial)|(g,.cell _)::ms,vs,xs,K,S,ok,R,hv,hK=>by cases vs<;>(unfold Ec;trivial)|(g,.box p)::ms,vs,xs,K,S,ok,R,hv,hK=>by cases vs<;>(unfold Ec;trivial)|(g,.owns p)::ms,vs,xs,K,S,ok,R,hv,hK=>by cases vs<;>(unfold Ec;trivial)|(g,.ownb p)::ms,vs,xs,K,S,ok,R,hv,hK=>by cases vs<;>(unfold Ec;trivial)|(g,.fn f ts)::ms,vs,xs,K,S,ok,R,hv,hK=>by cases vs<;>(unfold Ec;trivial)|(g,.ifc t p)::ms,vs,xs,K,S,ok,R,hv,hK=>by cases vs<;>(unfold Ec;trivial)
theorem a5S(H:FxOk X)(R:Rel X (CB*q) (CB*q+CB) S m ok a w){f:FuncId}{first caps:Array Operand}(ho:o.op= .makeFunc (.func f) first caps):(dY X.E q o).post S (λ_ S' =>jX X (CB*q) (CB*q+CB) o a w m ok S'):=by
 unfold dY;simp only[ho];refine iL λhb=>?_;have hb' :=jU hb;have hf:first=#[]:=by simpa using hb'
 split<;>try trivial
 refine pK R _ λvs hvs=>Zy _ R hvs λS' ok' cs R' k hc=>?_;refine xK H R' (λ_ _ h=>h) k (v:=.clos f cs) (x:=.func (.func f) #[] (caps.map a.eval)) ⟨caps.map a.eval,rfl,by simpa using hc⟩ ?_;simp[execOp,ho,Instr.makeFunc,hf]
theorem WY(H:FxOk X)(R:Rel X (CB*q) (CB*q+CB) S m ok a w){t:TypeId}{x:Operand}(ho:o.op= .makeInterface t x):(dY X.E q o).post S (λ_ S' =>jX X (CB*q) (CB*q+CB) o a w m ok S'):=by
 unfold dY;simp only[ho];refine pq H λi hi=>?_;have htd:=hi.td;have key:∀d,X.P.underlying t=some d->(∀ms,d≠.interface ms)->(uG x λv=>(match v with
   | .b ..| .i ..| .s ..| .ptr ..=>gY X.E o.dst (.ifc t v)
   |_=> .fail:Cmd Unit)).post S (λ_ S' =>jX X (CB*q) (CB*q+CB) o a w m ok S'):=λd hd hne=>by
  refine bU R λv hv=>?_;have run:(execOp a.eval o).run X.P w= .ok (.value (.iface t (a.eval x))) w:=by simp only[execOp,ho,Instr.makeInterface,H8,run_underlying hd,J8];cases d<;>first|rfl|exact absurd rfl (hne _)
  cases v<;>try trivial
  case b y=>exact dh H R (v:=.ifc t (.b y)) ⟨_,rfl,by rw[Xk hv];rfl,hv⟩ run
  case i k n=>exact dh H R (v:=.ifc t (.i k n)) ⟨_,rfl,by rw[xE hv];rfl,hv⟩ run
  case s l=>exact dh H R (v:=.ifc t (.s l)) ⟨_,rfl,by rw[Qx hv];rfl,hv⟩ run
  case ptr bx off=>obtain⟨blk,h1,h2⟩:=hv;exact dh H R (v:=.ifc t (.ptr bx off)) ⟨_,rfl,by rw[h2];rfl,⟨blk,h1,h2⟩⟩ run
 cases htd' :i.td<;>rw[htd']at htd<;>try trivial
 all_goals exact key _ htd (λ_ e=>by cases e)
theorem a1q(H:FxOk X)(R:Rel X (CB*q) (CB*q+CB) S m ok a w){xt t:TypeId}{x:Operand}{okk:Bool}(ho:o.op= .typeAssert x xt t okk):(dY X.E q o).post S (λ_ S' =>jX X (CB*q) (CB*q+CB) o a w m ok S'):=by
 unfold dY;simp only[ho];refine pq H λi hi=>?_;have htd:=hi.td;have key:∀d,X.P.underlying t=some d->(∀ms,d≠.interface ms)->(uG x λv=>(match v with
   | .ifc t' v=>bif Nat.beq t' t then gY X.E o.dst (bif okk then .tup [v,.b true]else v)else .fail
   |_=> .fail:Cmd Unit)).post S (λ_ S' =>jX X (CB*q) (CB*q+CB) o a w m ok S'):=λd hd hne=>by
  refine bU R λv hv=>?_;cases v<;>try trivial
  case ifc t' c=>
  obtain⟨u,hx,h1,hc⟩:=hv;refine iL λhb=>?_;have hb' :=jU hb;subst hb';have run:(execOp a.eval o).run X.P w= .ok (.value (if okk then .tuple #[u,.bool true]else u)) w:=by simp only[execOp,ho,Instr.typeAssert,H8,run_underlying hd,J8,hx];cases d<;>first|(simp;done)|exact absurd rfl (hne _)
  cases okk
  .exact dh H R (IK hc) run
  .refine dh H R (v:=.tup [c,.b true]) ⟨_,rfl,⟨_,_,rfl,?_,_,_,rfl,rfl,rfl⟩⟩ run;cases c<;>first|exact hc|cases hc
 cases htd' :i.td<;>rw[htd']at htd<;>try trivial
 case struct fs=>obtain⟨fields,hu,_⟩:=htd;exact key _ hu (λ_ e=>by cases e)
 all_goals exact key _ htd (λ_ e=>by cases e)
theorem c0P(H:FxOk X)(R:Rel X (CB*q) (CB*q+CB) S m ok a w)(o:Oper):(dY X.E q o).post S (λ_ S' =>jX X (CB*q) (CB*q+CB) o a w m ok S'):=by
 have fin:∀{α:Type} {Q:α->Sm->Prop},(Cmd.fail:Cmd α).post S Q:=trivial;cases ho:o.op
 case move x=>have h:=b0m H R (o:=o) (x:=x) (.inl ho);unfold dY;simp only[ho];exact h
 case assign x=>have h:=b0m H R (o:=o) (x:=x) (.inr ho);unfold dY;simp only[ho];exact h
 case pick c x y=>exact b8x H R ho
 case alloc t=>exact b4C H R ho
 case box t x=>exact c0Q H R ho
 case build t ps=>exact b4E H R ho
 case buildSlice t n ps=>exact a1p H R ho
 case load t x=>exact b8w H R ho
 case store t x y=>exact b4J H R ho
 case binOp op t x y yt=>exact b4D H R ho
 case unOp op t x=>exact b8y H R ho
 case convert s t x=>exact a8c H R ho
 case makeSlice t l c=>exact a3D H R ho
 case slice t x lo hi mx=>
  cases mx with
  |none=>exact b4I H R ho|some _=>unfold dY;simp only[ho];exact fin
 case fieldAddr t x f=>exact a3B H R ho
 case field t x f=>exact b4G H R ho
 case indexAddr t x ix=>exact a3C H R ho
 case index t x ix=>exact b4H H R ho
 case extract x n=>exact a8d H R ho
 case nilCheck x=>exact a5T H R ho
 case call c=>
  cases hc:c.callee
  case builtin b=>
   cases b
   case len=>exact c0S H R ho hc
   case append=>exact b1M H R ho hc
   case min=>exact a2w H R ho (.inl hc)
   case max=>exact a2w H R ho (.inr hc)
   all_goals
    unfold dY;simp only[ho];exact pK R _ λvs hvs=>by simp only[hc];exact fin
  case value f=>
   cases f
   case func f=>exact b8u H R ho hc
   all_goals exact b4F H R ho hc (λf e=>by cases e)
  case invoke x n=>exact b1P H R ho hc
 case makeFunc f first caps=>
  cases f
  case func f=>exact a5S H R ho
  all_goals
   unfold dY;simp only[ho];exact fin
 case makeInterface t x=>exact WY H R ho
 case typeAssert x xt t ok=>exact a1q H R ho
 case makeMap t r=>exact a8e H R ho
 case lookup t x ix ok=>exact b1Q H R ho
 case mapUpdate t x ix y=>exact Vo H R (.inl ho)
 case insert t x ix y=>exact Vo H R (.inr ho)
 all_goals
  unfold dY;simp only[ho];exact fin
def a2T(X:Fx)(cl ch:Nat)(ops:Array Oper)(i:Nat)(a:Act)(w:World)(m:Mp)(ok:Nat->Ty->Prop)(S' :Sm):Prop:=
 ∀(next:Act->World->Prop) (Q:Exit->Act->World->Prop),
  (∀m' ok' a' w',Rel X cl ch S' m' ok' a' w' ->(∀k l,m k=some l->m' k=some l)->(∀b t,ok b t->ok' b t)->next a' w')->wpOp X.P ops Q i next a w
theorem a0I(H:FxOk X){cl ch:Nat}(R:Rel X cl ch S m ok a w){ops:Array Oper}{i:Nat}(hi:ops[i]? =some o)(hw:Region.wanted o (yielded ops a.tmps)=false):
  (gY X.E o.dst .un).post S (λ_ S' =>a2T X cl ch ops i a w m ok S'):=by
 have h:∀S',Rel X cl ch S' m ok (a.put o.dst Go.undef) w->a2T X cl ch ops i a w m ok S' :=λS' R' next Q hn=>by unfold wpOp;simp only[hi,hw,dL,if_false];exact hn m ok _ w R' (λ_ _ h=>h) (λ_ _ h=>h)
 unfold gY;cases hd:o.dst with
 |none=>rw[hd]at h;exact h S R
 |some d=>rw[hd]at h;exact iD λhb=>h _ (R.put H.ntB hb rfl)
theorem a1f{tmps:Array Value}{t:Nat}{v:Value}(h:tmps.getD t Go.undef=v)(hv:v≠Go.undef):tmps[t]? =some v:=by
 rw[aT]at h;cases hx:tmps[t]? with
 |none=>rw[hx]at h;exact absurd h.symm hv|some x=>rw[hx]at h;simpa using h
theorem b2A(H:FxOk X)(R:Rel X (CB*q) (CB*q+CB) S m ok a w){ops:Array Oper}{i:Nat}(hi:ops[i]? =some o):
  (qN X.E q ops.toList o).post S (λ_ S' =>a2T X (CB*q) (CB*q+CB) ops i a w m ok S'):=by
 have yes:Region.wanted o (yielded ops a.tmps)=true->(dY X.E q o).post S (λ_ S' =>a2T X (CB*q) (CB*q+CB) ops i a w m ok S'):=λhw=>by
  refine Gi ?_ (c0P H R o);intro _ S' h next Q hn
  unfold wpOp;simp only[hi,hw,if_true];exact .inl (h next Q hn)
 unfold qN;cases hg:o.guard with
 |none=>exact yes (by simp[Region.wanted,hg])|some p=>
  obtain⟨j,want⟩:=p;cases hj:ops.toList[j]? with
  |none=>simp only[hj];trivial|some p=>
   simp only[hj];have hj' :ops[j]? =some p:=by simpa using hj
   cases hd:p.dst with
   |none=>trivial|some t=>
    simp only[];refine iD λhlt=>gZ ?_;have hsl:=R.slot t (Tz hlt);have hyd:yielded ops a.tmps j=match a.tmps[t]? with|some (.bool b)=>some b|_=>none:=by unfold yielded;rw[hj'];simp only[oZ,hd];rfl
    split<;>try trivial
    .rename_i y hS;rw[hS]at hsl;have hb:a.tmps.getD t Go.undef= .bool y:=hsl;have hy:yielded ops a.tmps j=some y:=by
      rw[hyd,a1f hb (by simp[Go.undef])]
     have hwt:Region.wanted o (yielded ops a.tmps)=(bif want then y else !y):=by unfold Region.wanted;rw[hg];simp only[hy];cases want<;>cases y<;>rfl
     cases hc:(bif want then y else !y)
     .simp only[cond_false];exact a0I H R hi (hwt.trans hc)
     .simp only[cond_true];exact yes (hwt.trans hc)
    .rename_i hS;rw[hS]at hsl;have hb:a.tmps.getD t Go.undef=Go.undef:=hsl;have hwt:Region.wanted o (yielded ops a.tmps)=false:=by
      unfold Region.wanted;rw[hg];simp only[hyd];rw[aT]at hb;cases hx:a.tmps[t]? with
      |none=>rfl|some x=>rw[hx]at hb;simp only[dP]at hb;subst hb;rfl
     exact a0I H R hi hwt
end
end Go.GP
namespace Go.GP
def XG(E:Env)(q:Nat)(all l:List Oper)(S:Nat->Sm)(T:Nat->Tr):Prop:=
 ∀i o,l[i]? =some o->(qN E q all o).eval (S i) ([],[])=some ((),S (i+1),T i)
def b6D(s:Sm)(S:Nat->Sm):Nat->Sm|0=>s|i+1=>S i
def b6E(t:Tr)(T:Nat->Tr):Nat->Tr|0=>t|i+1=>T i
theorem Vz{R:Type}{t:Nat}{s:St}{K:St->Option R}{r:R}(h:YV t s K=some r):∃s0,gV s0=gV s/\K s0=some r:=by
 unfold YV at h;rw[MR]at h;split at h<;>try (simp at h;done)
 .rename_i y hy;have key:∀b:Bool,y=b->gV (.kv t (.b b)::s)=gV s:=λb hb=>by
   subst hb;rw[a9Y];funext k;by_cases e:k=t
   .subst e;simp[hy]
   .rw[dZ _ _ e]
  cases y
  .exact⟨_,key false rfl,h⟩
  .exact⟨_,key true rfl,h⟩
 .exact⟨s,rfl,h⟩
theorem Yp{R:Type}{E:Env}{q:Nat}{all:List Oper} :∀(l:List Oper) {s:St} {t:Trs} {K:St->Trs->Option R} {r:R},Ui E q all l s t K=some r->
  ∃s' S T,S 0=gV s/\S l.length=gV s' /\XG E q all l S T/\K s' (((List.range l.length).map T).reverse++t)=some r
 |[],s,t,K,r,h=>⟨s,λ_=>gV s,λ_=>([],[]),rfl,rfl,λi o hi=>by simp at hi,by simpa[Ui]using h⟩|o::l,s,t,K,r,h=>by
  have key:∀s0,gV s0=gV s->(qN E q all o).runK s0 ([],[]) (λ_ s' tr=>Ui E q all l s' (tr::t) K)=some r->
    ∃s' S T,S 0=gV s/\S (o::l).length=gV s' /\XG E q all (o::l) S T/\K s' (((List.range (o::l).length).map T).reverse++t)=some r:=λs0 hs0 h=>by
   obtain⟨x,s1,tr,e,hk⟩:=sU h;obtain⟨s',S,T,h0,h1,h2,h3⟩:=Yp l hk;refine⟨s',b6D (gV s) S,b6E tr T,rfl,h1,λi o' hi=>?_,?_⟩
   .cases i with
    |zero=>simp at hi;subst hi;show(qN E q all o).eval (gV s) ([],[])=some ((),S 0,tr);rw[←hs0,e,h0]|succ i=>exact h2 i o' (by simpa using hi)
   .rw[H9,List.range_succ_eq_map,jv,List.reverse_cons,G5,qL];exact h3
  unfold Ui at h;split at h
  .exact key s rfl h
  .obtain⟨s0,e,h⟩:=Vz h;exact key s0 e h
theorem wE{α:Type}(T:Nat->α)(n:Nat):((List.range (n+1)).map T).reverse=T n::((List.range n).map T).reverse:=by rw[X3,bY,List.reverse_append];rfl
theorem Dw{a b:d1B}(h:YE a b=true):∀k∈a,k∉b:=by
 induction a with
 |nil=>intro k hk;cases hk|cons x a ih=>
  unfold YE at h;cases hm:Jz x b
  .simp only[hm,cond_false]at h;intro k hk hkb;rcases D6.1 hk with rfl|hk
   .have:∀(l:d1B),Jz k l=false->k∉l:=by
     intro l;induction l with
     |nil=>intro _ h;cases h|cons y l ih=>
      intro hm hk;unfold Jz at hm;cases hb:Nat.beq y k
      .simp only[hb,cond_false]at hm;rcases D6.1 hk with rfl|hk
       .simp at hb
       .exact ih hm hk
      .simp[hb]at hm
    exact this b hm hkb
   .exact ih h k hk hkb
  .simp[hm]at h
theorem H_{k:Nat} :∀{l:d1B},Jz k l=true->k∈l
 |[],h=>by simp[Jz]at h|y::l,h=>by
  unfold Jz at h;cases hb:Nat.beq y k
  .simp only[hb,cond_false]at h;exact V4 _ (H_ h)
  .have:=jU hb;subst this;simp
def b2P(x y:Tr):Prop:=(∀k∈x.2,k∉y.1/\k∉y.2)/\∀k∈x.1,k∉y.2
theorem a5Q{b:Bool}{x y:Tr}(h:a7Y b x y=true):b=true\/b2P x y:=by
 unfold a7Y at h;cases b
 .simp only[cond_false,A8]at h;exact .inr ⟨λk hk=>⟨Dw h.1.1 k hk,Dw h.1.2 k hk⟩,λk hk=>Dw h.2 k hk⟩
 .exact .inl rfl
theorem Vk{mask:Nat}{y:Tr}{T:Nat->Tr} :∀n,YU mask y ((List.range n).map T).reverse n=true->∀i,i<n->Nat.testBit mask i=true\/b2P (T i) y
 |0,_,i,hi=>by omega|n+1,h,i,hi=>by
  rw[wE]at h;unfold YU at h;simp only[Nat.add_sub_cancel,A8]at h;by_cases e:i=n
  .subst e;exact a5Q h.1
  .exact Vk n h.2 i l7
theorem Yc{M:Nat->Nat}{T:Nat->Tr} :∀n,V_ ((List.range n).map M).reverse ((List.range n).map T).reverse=true->∀i j,i<j->j<n->Nat.testBit (M j) i=true\/b2P (T i) (T j)
 |0,_,i,j,_,hj=>by omega|n+1,h,i,j,hi,hj=>by
  rw[wE,wE]at h;unfold V_ at h;simp only[A8,List.length_reverse,H7,bz]at h;by_cases e:j=n
  .subst e;exact Vk j h.1 i hi
  .exact Yc n h.2 i j hi l7
theorem a9J{α:Type}{eq:α->α->Bool}(h:∀a b,eq a b=true->a=b):∀{l m:List α},b1d eq l m=true->l=m
 |[],[],_=>rfl|[],_::_,e=>by cases e|_::_,[],e=>by cases e|a::l,b::m,e=>by simp only[b1d,A8]at e;rw[h _ _ e.1,a9J h e.2]
theorem QY:∀{t:Ty} (a b:t.den),Pv t a b=true->a=b
 | .bool,a,b,e=>a9a e| .int _,a,b,e=>of_decide_eq_true e| .str,a,b,e=>of_decide_eq_true e| .sl t,a,b,e=>a9J (λx y h=>QY x y h) e| .prod p q,a,b,e=>by have e:(Pv p a.1 b.1&&Pv q a.2 b.2)=true:=e;rw[A8]at e;exact fH (QY _ _ e.1) (QY _ _ e.2)| .unit,a,b,e=>rfl| .ent _ _ p q,a,b,e=>by have e:(Pv p a.1 b.1&&Pv q a.2 b.2)=true:=e;rw[A8]at e;exact fH (QY _ _ e.1) (QY _ _ e.2)
theorem a9g{R:Type}{a b:V}{K:Option R}{r:R}(h:b7N a b K=some r):a=b/\K=some r:=by
 unfold b7N at h;rw[MR,MR]at h;cases a with
 |i k n=>
  cases b with
  |i k' n' =>
   cases hk:decide (k=k')
   .simp[hk]at h
   .have e:=of_decide_eq_true hk;subst e;simp only[hk,cond_true]at h;cases hi:x8 n n'<;>rw[hi]at h
    .cases h
    .have e:=of_decide_eq_true (show decide (n=n')=true from hi);subst e;exact⟨rfl,h⟩
  |_=>cases h
 |sl t xs=>
  cases b with
  |sl u ys=>
   simp only[Ty.castL]at h;by_cases e:u=t
   .subst e;simp only[dif_pos]at h;cases hi:deq (.sl u) xs ys<;>rw[hi]at h
    .cases h
    .rw[QY (t:=.sl u) xs ys hi];exact⟨rfl,h⟩
   .rw[dif_neg e]at h;cases h
  |_=>cases h
 |b x=>
  cases b with
  |b y=>
   cases hi:jY x y<;>simp only[hi,l9]at h
   .cases h
   .have e:x=y:=by simpa[jY]using hi
    subst e;exact⟨rfl,h⟩
  |_=>cases h
 |s x=>
  cases b with
  |s y=>
   cases hi:seq x y<;>simp only[hi,l9]at h
   .cases h
   .have e:x=y:=by simpa[seq]using hi
    subst e;exact⟨rfl,h⟩
  |_=>cases h
 |_=>cases h
theorem QG:∀{a b:d1B},QF a b=true->a=b
 |[],[],_=>rfl|[],_::_,h=>by cases h|_::_,[],h=>by cases h|a::l,b::m,h=>by
  unfold QF at h;cases hb:Nat.beq a b
  .simp[hb]at h
  .simp only[hb,cond_true]at h;rw[jU hb,QG h]
def Rp(E:Env)(q:Nat)(all:List Oper)(o:Oper)(tr:Tr)(v:V)(S:Sm):Prop:=
 ∃d S',o.dst=some d/\tr.2=[d]/\(qN E q all o).eval S ([],[])=some ((),S',tr)/\S' d=v
theorem a0m{R:Type}{E:Env}{q:Nat}{all:List Oper}{s:St} :∀{p:b0M} {K:Option R} {r:R},a2D E q all s p K=some r->
  (∀x∈p,Rp E q all x.1 x.2.1 x.2.2 (gV s))/\K=some r
 |[],K,r,h=>⟨λx hx=>by(cases hx),h⟩|(o,tr,v)::p,K,r,h=>by
  unfold a2D at h;obtain⟨x,s2,tr2,e,hk⟩:=sU h;cases hd:o.dst with
  |none=>simp[hd]at hk|some d=>
   simp only[hd]at hk;cases hc:(QF tr.1 tr2.1&&QF tr.2 tr2.2&&QF tr2.2 [d])
   .simp[hc]at hk
   .simp only[hc,cond_true]at hk;simp only[A8]at hc;obtain⟨⟨h1,h2⟩,h3⟩:=hc;have h1:=QG h1;have h2:=QG h2;have h3:=QG h3;have etr:tr=tr2:=fH h1 h2;subst etr;obtain⟨hv,hk⟩:=a9g hk;obtain⟨g1,g2⟩:=a0m hk;refine⟨λy hy=>?_,g2⟩;rcases D6.1 hy with rfl|hy
    .exact⟨d,_,hd,h3,e,hv.symm⟩
    .exact g1 y hy
theorem VI{R:Type}{E:Env}{q:Nat}{all:List Oper} :∀(l:List Oper) {s:St} {t:Trs} {p:b0M} {K:St->Trs->Option R} {r:R},EZ E q all l s t p K=some r->
  ∃s' S T,S 0=gV s/\S l.length=gV s' /\XG E q all l S T/\K s' (((List.range l.length).map T).reverse++t)=some r/\
   (∀x∈p,∀j o',l[j]? =some o' ->rD o' =true->Rp E q all x.1 x.2.1 x.2.2 (S (j+1)))/\
   (∀i j o o',i<j->l[i]? =some o->l[j]? =some o' ->a3h E o=true->rD o' =true->∃d,o.dst=some d/\Rp E q all o (T i) (S (i+1) d) (S (j+1)))
 |[],s,t,p,K,r,h=>⟨s,λ_=>gV s,λ_=>([],[]),rfl,rfl,λi o hi=>by simp at hi,by simpa[EZ]using h,λx _ j o' hj=>by simp at hj,λi j o o' _ hi=>by simp at hi⟩|o::l,s,t,p,K,r,h=>by
  have key:∀s0,gV s0=gV s->(qN E q all o).runK s0 ([],[]) (λ_ s' tr=>bif rD o then a2D E q all s' p (EZ E q all l s' (tr::t) p K)else EZ E q all l s' (tr::t) (Z_ E o s' tr p) K)=some r->
    ∃s' S T,S 0=gV s/\S (o::l).length=gV s' /\XG E q all (o::l) S T/\K s' (((List.range (o::l).length).map T).reverse++t)=some r/\
   (∀x∈p,∀j o',(o::l)[j]? =some o' ->rD o' =true->Rp E q all x.1 x.2.1 x.2.2 (S (j+1)))/\
   (∀i j o1 o',i<j->(o::l)[i]? =some o1->(o::l)[j]? =some o' ->a3h E o1=true->rD o' =true->∃d,o1.dst=some d/\Rp E q all o1 (T i) (S (i+1) d) (S (j+1))):=λs0 hs0 h=>by
   obtain⟨x,s1,tr,e,hk⟩:=sU h;have fin:∀p',(∀y∈p,y∈p')->(a3h E o=true->rD o=false->∃d,o.dst=some d/\(o,tr,gV s1 d)∈p')->(rD o=true->∀y∈p,Rp E q all y.1 y.2.1 y.2.2 (gV s1))->EZ E q all l s1 (tr::t) p' K=some r->
     ∃s' S T,S 0=gV s/\S (o::l).length=gV s' /\XG E q all (o::l) S T/\K s' (((List.range (o::l).length).map T).reverse++t)=some r/\
   (∀x∈p,∀j o',(o::l)[j]? =some o' ->rD o' =true->Rp E q all x.1 x.2.1 x.2.2 (S (j+1)))/\
   (∀i j o1 o',i<j->(o::l)[i]? =some o1->(o::l)[j]? =some o' ->a3h E o1=true->rD o' =true->∃d,o1.dst=some d/\Rp E q all o1 (T i) (S (i+1) d) (S (j+1))):=λp' hp' hex hcall hk=>by
    obtain⟨s',S,T,h0,h1,h2,h3,h4,h5⟩:=VI l hk;refine⟨s',b6D (gV s) S,b6E tr T,rfl,h1,λi o' hi=>?_,?_,λy hy j o' hj hc=>?_,λi j o1 o' hij hi hj he hc=>?_⟩
    .cases i with
     |zero=>simp at hi;subst hi;show(qN E q all o).eval (gV s) ([],[])=some ((),S 0,tr);rw[←hs0,e,h0]|succ i=>exact h2 i o' (by simpa using hi)
    .rw[H9,List.range_succ_eq_map,jv,List.reverse_cons,G5,qL];exact h3
    .cases j with
     |zero=>simp at hj;subst hj;show Rp E q all y.1 y.2.1 y.2.2 (S 0);rw[h0];exact hcall hc y hy|succ j=>exact h4 y (hp' y hy) j o' (by simpa using hj) hc
    .cases j with
     |zero=>omega|succ j=>
      cases i with
      |zero=>
       simp at hi;subst hi;have hnc:rD o=false:=by
        unfold a3h at he;cases hcc:rD o
        .rfl
        .simp[hcc]at he
       obtain⟨d,hd,hm⟩:=hex he hnc;refine⟨d,hd,?_⟩;have:=h4 _ hm j o' (by simpa using hj) hc;show Rp E q all o tr (S 0 d) (S (j+1));rw[h0];exact this
      |succ i=>exact h5 i j o1 o' l7 (by simpa using hi) (by simpa using hj) he hc
   cases hc:rD o
   .simp only[hc,cond_false]at hk;refine fin _ (λy hy=>?_) (λhe _=>?_) (λh=>by rw[hc]at h;cases h) hk
    .unfold Z_;cases hx:a3h E o
     .exact hy
     .simp only[cond_true];cases hd:o.dst with
      |none=>exact hy|some d=>exact V4 _ hy
    .cases hd:o.dst with
     |none=>simp[a3h,hd]at he|some d=>exact⟨d,rfl,by simp[Z_,he,hd]⟩
   .simp only[hc,cond_true]at hk;obtain⟨g1,g2⟩:=a0m hk;exact fin p (λ_ h=>h) (λ_ h=>by rw[hc]at h;cases h) (λ_=>g1) g2
  unfold EZ at h;split at h
  .exact key s rfl h
  .obtain⟨s0,e,h⟩:=Vz h;exact key s0 e h
def a9n(ord:Nat->Nat->Prop)(ex:Nat->Nat->Prop)(T:Nat->Tr)(i j:Nat):Prop:=
 ord i j\/((∀k∈(T i).2,k∉(T j).1/\k∉(T j).2)/\((∀k∈(T i).1,k∉(T j).2)\/
  (ex i j/\(∀k∈(T i).2,k∉(T i).1)/\∀m,i<m->m<j->ord m j\/∀k∈(T i).1,k∉(T m).2)))
theorem L_{mask:Nat}{x:Tr} :∀{l:List (Nat×Tr)},b0f mask x l=true->∀y∈l,Nat.testBit mask y.1=true\/∀k∈x.1,k∉y.2.2
 |[],_,y,hy=>by cases hy|(m,z)::l,h,y,hy=>by
  unfold b0f at h;simp only[A8,kD]at h;rcases D6.1 hy with rfl|hy
  .exact h.1.imp id (λh=>Dw h)
  .exact L_ h.2 y hy
theorem SY{E:Env}{all:List Oper}{mask:Nat}{y:Tr}{cy:Bool}{T:Nat->Tr}{N:Nat} :∀n (mids:List (Nat×Tr)),(∀m,n<=m->m<N->(m,T m)∈mids)->Vj E all mask y cy ((List.range n).map T).reverse n mids=true->
  ∀i,i<n->Nat.testBit mask i=true\/((∀k∈(T i).2,k∉y.1/\k∉y.2)/\((∀k∈(T i).1,k∉y.2)\/((cy=true/\b3F E all i=true)/\(∀k∈(T i).2,k∉(T i).1)/\∀m,i<m->m<N->Nat.testBit mask m=true\/∀k∈(T i).1,k∉(T m).2)))
 |0,_,_,_,i,hi=>by omega|n+1,mids,hm,h,i,hi=>by
  rw[wE]at h;unfold Vj at h;simp only[Nat.add_sub_cancel,A8]at h;by_cases e:i=n
  .subst e;have h:=h.1;unfold b0l at h;cases hb:Nat.testBit mask i
   .simp only[hb,cond_false,A8]at h;refine .inr ⟨λk hk=>⟨Dw h.1.1 k hk,Dw h.1.2 k hk⟩,?_⟩;have h2:=h.2;cases hdj:YE (T i).1 y.2
    .simp only[hdj,cond_false,A8]at h2;exact .inr ⟨h2.1.1,Dw h2.1.2,λm h3 h4=>L_ h2.2 _ (hm m l7 h4)⟩
    .exact .inl (Dw hdj)
   .exact .inl rfl
  .refine SY n _ (λm h1 h2=>?_) h.2 i l7;by_cases e2:m=n
   .subst e2;simp
   .exact V4 _ (hm m l7 h2)
theorem Vm{E:Env}{all:List Oper}{M:Nat->Nat}{T:Nat->Tr} :∀n,Vl E all ((List.range n).map M).reverse ((List.range n).map T).reverse=true->∀i j,i<j->j<n->
  a9n (λi j=>Nat.testBit (M j) i=true) (λi j=>a2Z all j=true/\b3F E all i=true) T i j
 |0,_,i,j,_,hj=>by omega|n+1,h,i,j,hi,hj=>by
  rw[wE,wE]at h;unfold Vl at h;simp only[A8,List.length_reverse,H7,bz]at h;by_cases e:j=n
  .subst e;exact SY (N:=j) j [] (λm h1 h2=>by omega) h.1 i hi
  .exact Vm n h.2 i j hi l7
theorem b4i{P:Nat->Prop} :∀(n:Nat),(∃j,j<n/\P j)->∃j,j<n/\P j/\∀m,j<m->m<n->¬P m
 |0,⟨j,h,_⟩=>by omega|n+1,⟨j,h,hp⟩=>by
  by_cases e:P n
  .exact⟨n,l7,e,λm h1 h2=>by omega⟩
  .have:j≠n:=λe2=>e (e2▸hp);obtain⟨j',h1,h2,h3⟩:=b4i n ⟨j,l7,hp⟩;refine⟨j',l7,h2,λm h4 h5=>?_⟩;by_cases e2:m=n
   .subst e2;exact e
   .exact h3 m h4 l7
variable {n:Nat}
theorem b2X{c:Nat->Cmd Unit}{S:Nat->Sm}{T:Nat->Tr}(hs:∀i,i<n->(c i).eval (S i) ([],[])=some ((),S (i+1),T i)){ord ex:Nat->Nat->Prop}
  (hc:∀i j,i<j->j<n->a9n ord ex T i j) (hex:∀i j,i<j->j<n->ex i j->∃S',(c i).eval (S (j+1)) ([],[])=some ((),S',T i)/\∀k∈(T i).2,S' k=S (i+1) k)
  {D:d1B} {i:Nat} (hi:i<n) (hD:i∉D) (hlt:∀j∈D,j<n) (hp:∀j,ord j i->j∈D) (hdown:∀j∈D,∀k,ord k j->k∈D):
  (c i).eval (SD S T D n) ([],[])=some ((),SD S T (i::D) n,T i):=by
 have before:∀k,(k∈(T i).1\/k∈(T i).2)->∀j,j<i->k∈(T j).2->j∈D:=λk hk j hj hw=>by
  rcases hc j i hj hi with h|⟨h1,_⟩
  .exact hp j h
  .rcases hk with hk|hk
   .exact absurd hk (h1 k hw).1
   .exact absurd hk (h1 k hw).2
 have afterW:∀k,k∈(T i).2->∀j,i<j->j<n->k∈(T j).2->j∉D:=λk hk j hj hjn hw hjD=>by
  rcases hc i j hj hjn with h|⟨h1,h2⟩
  .exact hD (hdown j hjD i h)
  .exact(h1 k hk).2 hw
 have fin:∀S0 S1:Sm,(c i).eval S0 ([],[])=some ((),S1,T i)->(∀k∈(T i).2,S1 k=S (i+1) k)->(∀k∈(T i).1,SD S T D n k=S0 k)->(c i).eval (SD S T D n) ([],[])=some ((),SD S T (i::D) n,T i):=λS0 S1 he hv hr=>by
  obtain⟨T',h1,_,h3,h4⟩:=Di he (SD S T D n) hr;rw[h1];have:T' =SD S T (i::D) n:=by
   funext k;by_cases hk:k∈(T i).2
   .rw[h4 k hk x9,hv k hk];rw[Zj (i::D) k (i+1) n l7 (λj h1 h2 hw=>by
     simp only[D6,not_or];exact⟨l7,afterW k hk j l7 h2 hw⟩)]
    simp[SD,hk]
   .rw[h3 k hk,a9p D i k hk]
  rw[this]
 by_cases hx:∃j,j<n/\(i<j/\j∈D/\∃k∈(T i).1,k∈(T j).2)
 .obtain⟨j,hjn,⟨hij,hjD,k0,hk0,hk1⟩,hmax⟩:=b4i n hx;rcases hc i j hij hjn with h|⟨_,h2⟩
  .exact absurd (hdown j hjD i h) hD
  .rcases h2 with h2|⟨h3,h4,h5⟩
   .exact absurd hk1 (h2 k0 hk0)
   .obtain⟨S',he,hv⟩:=hex i j hij hjn h3;refine fin (S (j+1)) S' he hv λk hk=>?_;rw[Zj D k (j+1) n l7 (λm g1 g2 hw hmD=>hmax m l7 g2 ⟨l7,hmD,k,hk,hw⟩)];refine QT hs D k (j+1) l7 λm hm hw=>?_;rcases Nat.lt_trichotomy m i with g|g|g
    .exact before k (.inl hk) m g hw
    .subst g;exact absurd hk (h4 k hw)
    .by_cases e:m=j
     .subst e;exact hjD
     .rcases h5 m g l7 with g2|g2
      .exact hdown j hjD m g2
      .exact absurd hw (g2 k hk)
 .refine fin (S i) (S (i+1)) (hs i hi) (λ_ _=>rfl) λk hk=>?_;rw[Zj D k i n l7 (λj h1 h2 hw hjD=>by
   by_cases e:j=i
   .subst e;exact hD hjD
   .exact hx ⟨j,h2,l7,hjD,k,hk,hw⟩)]
  exact QT hs D k i l7 (before k (.inl hk))
def wW(e:Edge):Prop:=match e.ground with| .textOnly _=>False| .gcOnly _=>False|_=>True
theorem wW.binds{e:Edge}(h:wW e)(md:Region.Mode):Region.binds md e=true:=by unfold wW at h;unfold Region.binds;split<;>simp_all
theorem b0T{e:Edge}(h:Region.binds .any e=true):wW e:=by unfold Region.binds at h;unfold wW;split<;>simp_all
theorem LM{M:Nat->Nat}{n k:Nat}(hk:k<n):(((List.range n).map M).reverse).getD (n -1 -k) 0=M k:=by rw[qY,List.getElem?_reverse Z5];simp only[H7,bz,I8];rw[show n -1 -(n -1 -k)=k by omega];simp[hk]
theorem TF{M:Nat->Nat}{n:Nat} :∀(es:List Edge) {m m' :Nat},SK ((List.range n).map M).reverse n es m=some m' ->
  (∀e∈es,wW e->e.on<n)/\∀j,Nat.testBit m' j=true->Nat.testBit m j=true\/∃e∈es,wW e/\(j=e.on\/Nat.testBit (M e.on) j=true)
 |[],m,m',h=>by simp[SK]at h;subst h;exact⟨λ_ h=>absurd h x9,λj hj=> .inl hj⟩|e::es,m,m',h=>by
  have plain:(bif Nat.blt e.on n then SK ((List.range n).map M).reverse n es (m ||| 2^e.on ||| (((List.range n).map M).reverse).getD (n -1 -e.on) 0)else none)=some m' ->wW e->
    (∀e' ∈e::es,wW e' ->e'.on<n)/\∀j,Nat.testBit m' j=true->Nat.testBit m j=true\/∃e' ∈e::es,wW e' /\(j=e'.on\/Nat.testBit (M e'.on) j=true):=λh hp=>by
   cases hb:Nat.blt e.on n
   .simp[hb]at h
   .simp only[hb,cond_true]at h;have hlt:=Tz hb;rw[LM hlt]at h;obtain⟨h1,h2⟩:=TF es h;refine⟨λe' he' hp' =>?_,λj hj=>?_⟩
    .rcases D6.1 he' with rfl|he'
     .exact hlt
     .exact h1 e' he' hp'
    .rcases h2 j hj with h3|⟨e',he',hp',h3⟩
     .rw[Nat.testBit_or,Nat.testBit_or,kD,kD]at h3;rcases h3 with(h3|h3)|h3
      .exact .inl h3
      .rw[Nat.testBit_two_pow]at h3;exact .inr ⟨e,x9,hp,.inl (of_decide_eq_true h3).symm⟩
      .exact .inr ⟨e,x9,hp,.inr h3⟩
     .exact .inr ⟨e',by simp[he'],hp',h3⟩
  have skip:SK ((List.range n).map M).reverse n es m=some m' ->¬wW e->
    (∀e' ∈e::es,wW e' ->e'.on<n)/\∀j,Nat.testBit m' j=true->Nat.testBit m j=true\/∃e' ∈e::es,wW e' /\(j=e'.on\/Nat.testBit (M e'.on) j=true):=λh hp=>by
   obtain⟨h1,h2⟩:=TF es h;refine⟨λe' he' hp' =>?_,λj hj=>?_⟩
   .rcases D6.1 he' with rfl|he'
    .exact absurd hp' hp
    .exact h1 e' he' hp'
   .rcases h2 j hj with h3|⟨e',he',hp',h3⟩
    .exact .inl h3
    .exact .inr ⟨e',by simp[he'],hp',h3⟩
  unfold SK at h;cases hg:e.ground<;>simp only[hg]at h
  case textOnly=>exact skip h (by simp[wW,hg])
  case gcOnly=>exact skip h (by simp[wW,hg])
  all_goals exact plain h (by simp[wW,hg])
theorem RG:∀(l:List Oper) {n:Nat} {M:Nat->Nat} {ms:d1B},a3J l n ((List.range n).map M).reverse=some ms->
  ∃M' :Nat->Nat,ms=((List.range (n+l.length)).map M').reverse/\(∀k,k<n->M' k=M k)/\
   ∀i o,l[i]? =some o->(∀e∈o.after.toList,wW e->e.on<n+i)/\∀j,Nat.testBit (M' (n+i)) j=true->∃e∈o.after.toList,wW e/\(j=e.on\/Nat.testBit (M' e.on) j=true)
 |[],n,M,ms,h=>by simp only[a3J,O8]at h;subst h;exact⟨M,rfl,λ_ _=>rfl,λi o hi=>by simp at hi⟩|o::l,n,M,ms,h=>by
  unfold a3J at h;cases he:SK ((List.range n).map M).reverse n o.after.toList 0 with
  |none=>simp[he]at h|some m=>
   simp only[he]at h;obtain⟨h1,h2⟩:=TF _ he;have hM:m::((List.range n).map M).reverse=((List.range (n+1)).map (λk=>if k=n then m else M k)).reverse:=by rw[wE];simp only[if_true];congr 2;apply dn;intro k hk;rw[if_neg];have:=P8.1 hk;omega
   rw[hM]at h;obtain⟨M',e1,e2,e3⟩:=RG l h;have hMn:M' n=m:=by rw[e2 n l7];simp
   have hMk:∀k,k<n->M' k=M k:=λk hk=>by rw[e2 k l7,if_neg l7]
   refine⟨M',by rw[e1];congr 3;simp;omega,hMk,λi o' hi=>?_⟩;cases i with
   |zero=>
    simp at hi;subst hi;refine⟨h1,λj hj=>?_⟩;rw[dW,hMn]at hj;rcases h2 j hj with h3|⟨e,hem,hp,h3⟩
    .simp at h3
    .exact⟨e,hem,hp,by rwa[hMk _ (h1 e hem hp)]⟩
   |succ i=>have:=e3 i o' (by simpa using hi);rwa[show n+1+i=n+(i+1) by omega]at this
theorem U_:∀(n:Nat) {D:d1B},D.Nodup->(∀x∈D,x<n)->D.length<=n
 |0,D,_,h=>by
  cases D with
  |nil=>simp|cons x D=>have:=h x x9;omega
 |n+1,D,hD,h=>by
  by_cases hn:n∈D
  .have h1:=U_ n (D:=D.erase n) (hD.erase n) (λx hx=>by
    have:=(hD.mem_erase_iff).1 hx;have:=h x this.2;omega)
   rw[List.length_erase_of_mem hn]at h1;omega
  .have h1:=U_ n hD (λx hx=>by
    have:=h x hx;have:x≠n:=λe=>hn (e▸hx);omega)
   omega
theorem b1L{D:d1B}(hD:D.Nodup)(h:∀x∈D,x<n)(hl:n<=D.length):∀i,i<n->i∈D:=λi hi=>by
 refine bW λhn=>?_;have:=U_ n (D:=i::D) (iF.2 ⟨hn,hD⟩) (λx hx=>by
  rcases D6.1 hx with rfl|hx
  .exact hi
  .exact h x hx)
 simp at this;omega
def Tu(md:Region.Mode)(ops:Array Oper):Prop:=∃rk:Nat->Nat,∀i o,ops[i]? =some o->∀e∈o.after.toList,Region.binds md e=true->e.on<ops.size/\rk e.on<rk i
theorem Yi:∀{es:List Edge},Xa es=true->∀e∈es,wW e
 |[],_,e,he=>by cases he|e::es,h,e',he' =>by
  unfold Xa at h;have hp:wW e:=by cases hg:e.ground<;>simp[hg]at h<;>simp[wW,hg]
  have hr:Xa es=true:=by cases hg:e.ground<;>simp[hg]at h<;>exact h
  rcases D6.1 he' with rfl|he'
  .exact hp
  .exact Yi hr e' he'
theorem Tc:∀{l:List Oper},JD l=true->∀o∈l,∀e∈o.after.toList,wW e
 |[],_,o,ho=>by cases ho|o::l,h,o',ho' =>by
  unfold JD at h;cases hp:Xa o.after.toList
  .simp[hp]at h
  .simp only[hp,cond_true]at h;rcases D6.1 ho' with rfl|ho'
   .exact Yi hp
   .exact Tc h o' ho'
theorem Yk{md:Region.Mode}{done:d1B} :∀{es:List Edge},Ub md done es=true->∀e∈es,Region.binds md e=true->e.on∈done
 |[],_,e,he,_=>by cases he|e::es,h,e',he',hb=>by
  unfold Ub at h;cases hc:(!Region.binds md e || Jz e.on done)
  .simp[hc]at h
  .simp only[hc,cond_true]at h;rcases D6.1 he' with rfl|he'
   .rw[hb]at hc;simp at hc;exact H_ hc
   .exact Yk h e' he' hb
theorem OY{md:Region.Mode}{done:d1B} :∀{l:List Oper} {n i:Nat},zB md done l n=some i->∃o,l[i -n]? =some o/\n<=i/\i<n+l.length/\Ub md done o.after.toList=true
 |[],n,i,h=>by simp[zB]at h|o::l,n,i,h=>by
  unfold zB at h;have rec' :zB md done l (n+1)=some i->∃o',(o::l)[i -n]? =some o' /\n<=i/\i<n+(o::l).length/\Ub md done o'.after.toList=true:=λh=>by obtain⟨o',h1,h2,h3,h4⟩:=OY h;refine⟨o',?_,l7,by simp;omega,h4⟩;rw[show i -n=(i -(n+1))+1 by omega];simpa using h1
  cases hm:Jz n done
  .simp only[hm,cond_false]at h;cases hr:Ub md done o.after.toList
   .simp only[hr,cond_false]at h;exact rec' h
   .simp only[hr,cond_true,O8]at h;subst h;exact⟨o,x9,E9 _,x9,hr⟩
  .simp only[hm,cond_true]at h;exact rec' h
theorem Zn:∀{n:Nat} {d:d1B},a9t n d=true->∀i,i<n->i∈d
 |0,d,_,i,hi=>by omega|n+1,d,h,i,hi=>by
  unfold a9t at h;simp only[A8]at h;by_cases e:i=n
  .subst e;exact H_ h.1
  .exact Zn h.2 i l7
theorem LC{md:Region.Mode}{ops:Array Oper} :∀(k:Nat) {done:d1B} {rk:Nat->Nat},a4p md ops.toList k done=true->
  (∀x∈done,rk x<done.length)->(∀i∈done,∀o,ops[i]? =some o->∀e∈o.after.toList,Region.binds md e=true->e.on∈done/\e.on<ops.size/\rk e.on<rk i)->(∀x∈done,x<ops.size)->Tu md ops
 |0,done,rk,h,h1,h2,h3=>by have hall:=Zn h;simp only[eG]at hall;exact⟨rk,λi o hi e he hb=>(h2 i (hall i (bT.1 hi).1) o hi e he hb).2⟩|k+1,done,rk,h,h1,h2,h3=>by
  unfold a4p at h;cases hf:zB md done ops.toList 0 with
  |none=>simp[hf]at h|some n=>
   simp only[hf]at h;obtain⟨o,e1,_,e2,e3⟩:=OY hf;simp only[Nat.sub_zero,dC,iH,eG]at e1 e2;by_cases hn:n∈done
   .refine LC k (rk:=rk) h (λx hx=>?_) (λi hi o' ho' e he hb=>?_) (λx hx=>?_)
    .rcases D6.1 hx with rfl|hx
     .have:=h1 x hn;simp;omega
     .have:=h1 x hx;simp;omega
    .have hi' :i∈done:=by rcases D6.1 hi with rfl|hi;exact hn;exact hi
     obtain⟨g1,g2,g3⟩:=h2 i hi' o' ho' e he hb;exact⟨by simp[g1],g2,g3⟩
    .rcases D6.1 hx with rfl|hx
     .exact e2
     .exact h3 x hx
   .refine LC k (rk:=λx=>if x=n then done.length else rk x) h (λx hx=>?_) (λi hi o' ho' e he hb=>?_) (λx hx=>?_)
    .show(if x=n then done.length else rk x)<_;rcases D6.1 hx with rfl|hx
     .simp
     .have:=h1 x hx;rw[if_neg (show ¬x=n from λe=>hn (by rw[←e];exact hx))];simp;omega
    .show _/\_/\(if e.on=n then done.length else rk e.on)<(if i=n then done.length else rk i);rcases D6.1 hi with rfl|hi
     .rw[e1]at ho';cases ho';have hd:=Yk e3 e he hb;refine⟨by simp[hd],h3 _ hd,?_⟩;rw[if_neg (show ¬e.on=i from λe' =>hn (by rw[←e'];exact hd)),if_pos rfl];exact h1 _ hd
     .obtain⟨g1,g2,g3⟩:=h2 i hi o' ho' e he hb;refine⟨by simp[g1],g2,?_⟩;rw[if_neg (show ¬e.on=n from λe' =>hn (by rw[←e'];exact g1)),if_neg (show ¬i=n from λe' =>hn (by rw[←e'];exact hi))];exact g3
    .rcases D6.1 hx with rfl|hx
     .exact e2
     .exact h3 x hx
end Go.GP
namespace Go.GP
section
variable {X:Fx} {q:Nat} {ops:Array Oper} {S:Nat->Sm} {T:Nat->Tr} {m0:Mp} {ok0:Nat->Ty->Prop} {Q:Exit->Act->World->Prop}
theorem ZG(H:FxOk X){i:Nat}{o:Oper}(hi:ops[i]? =some o){S1 S2:Sm}{t:Tr}(he:(qN X.E q ops.toList o).eval S1 ([],[])=some ((),S2,t)){m:Mp}{ok:Nat->Ty->Prop}{a:Act}{w:World}
  (R:Rel X (CB*q) (CB*q+CB) S1 m ok a w) {next:Act->World->Prop}
  (hn:∀m' ok' a' w',Rel X (CB*q) (CB*q+CB) S2 m' ok' a' w' ->(∀k l,m k=some l->m' k=some l)->(∀b t,ok b t->ok' b t)->next a' w'):wpOp X.P ops Q i next a w:=
 xu (b2A H R hi) he next Q hn
theorem Yz(H:FxOk X)(hc:XG X.E q ops.toList ops.toList S T)
  (hQ:∀m' ok' a' w',Rel X (CB*q) (CB*q+CB) (S ops.size) m' ok' a' w' ->(∀k l,m0 k=some l->m' k=some l)->(∀b t,ok0 b t->ok' b t)->Q .normal a' w'):
  ∀(n k:Nat) {m:Mp} {ok:Nat->Ty->Prop} {a:Act} {w:World},k+n=ops.size->Rel X (CB*q) (CB*q+CB) (S k) m ok a w->(∀k l,m0 k=some l->m k=some l)->(∀b t,ok0 b t->ok b t)->wpOps X.P ops Q (List.range' k n) a w
 |0,k,m,ok,a,w,hk,R,hm,hok=>by have:k=ops.size:=l7;subst this;exact hQ m ok a w R hm hok
 |n+1,k,m,ok,a,w,hk,R,hm,hok=>by rw[oV,wpOps_cons];have hi:ops[k]? =some (ops[k]'l7):=Y2 _;refine ZG H hi (hc k _ (by rw[dC];exact hi)) R λm' ok' a' w' R' k1 k2=>?_;exact Yz H hc hQ n (k+1) l7 R' (λk l h=>k1 k l (hm k l h)) (λb t h=>k2 b t (hok b t h))
theorem b0Q(H:FxOk X){md:Region.Mode}(hc:XG X.E q ops.toList ops.toList S T){M:Nat->Nat}
  {ex:Nat->Nat->Prop} (hpair:∀i j,i<j->j<ops.size->a9n (λi j=>Nat.testBit (M j) i=true) ex T i j)
  (hex:∀i j,i<j->j<ops.size->ex i j->∃S',(qN X.E q ops.toList (ops.getD i default)).eval (S (j+1)) ([],[])=some ((),S',T i)/\∀k∈(T i).2,S' k=S (i+1) k)
  (hM:∀i o,ops[i]? =some o->∀j,Nat.testBit (M i) j=true->∃e∈o.after.toList,wW e/\(j=e.on\/Nat.testBit (M e.on) j=true)) (hrk:Tu md ops)
  (hQ:∀m' ok' a' w',Rel X (CB*q) (CB*q+CB) (S ops.size) m' ok' a' w' ->(∀k l,m0 k=some l->m' k=some l)->(∀b t,ok0 b t->ok' b t)->Q .normal a' w'):
  ∀(jb:Nat) {D:d1B} {Ew:Array Bool} {m:Mp} {ok:Nat->Ty->Prop} {a:Act} {w:World},jb+D.length=ops.size->D.Nodup->(∀j∈D,j<ops.size)->Ew.size=ops.size->(∀i,i<ops.size->(Ew.getD i false=true↔i∈D))->
   (∀j∈D,∀k,Nat.testBit (M j) k=true->k∈D)->Rel X (CB*q) (CB*q+CB) (SD S T D ops.size) m ok a w->(∀k l,m0 k=some l->m k=some l)->(∀b t,ok0 b t->ok b t)->
   wpAny X.P md ops Q jb Ew a w:=by
 have hs:∀i,i<ops.size->(qN X.E q ops.toList (ops.getD i default)).eval (S i) ([],[])=some ((),S (i+1),T i):=λi hi=>by refine hc i _ ?_;simp[Array.getD,hi]
 obtain⟨rk,hrk⟩:=hrk;intro jb;induction jb with
 |zero=>
  intro D Ew m ok a w hf hD hlt hsz hl hdown R hm hok;have hall:=b1L hD hlt l7;refine⟨?_,?_⟩
  .cases hr:Region.ready md ops Ew with
   |nil=>rfl|cons x xs=>
    have hx:x∈Region.ready md ops Ew:=by rw[hr];simp
    obtain⟨h1,o,ho,_⟩:=mem_ready.1 hx;have hxl:=(bT.1 ho).1;have:=(hl x hxl).2 (hall x hxl);rw[aT]at h1 this;cases hg:Ew[x]? with
    |none=>rw[hg]at this;cases this|some y=>rw[hg]at h1 this;simp only[dP]at h1 this;rw[h1]at this;cases this
  .refine hQ m ok a w ?_ hm hok;rwa[b2W (c:=λi=>qN X.E q ops.toList (ops.getD i default)) hs hall]at R
 |succ jb ih=>
  intro D Ew m ok a w hf hD hlt hsz hl hdown R hm hok;refine⟨λhr=>?_,λi hi=>?_⟩
  .have hall:∀n i,rk i<n->i<ops.size->i∈D:=by
    intro n;induction n with
    |zero=>intro i hi _;omega|succ n ihn=>
     intro i hi hil;refine bW λhni=>?_;have hin:i∈Region.ready md ops Ew:=by
      refine mem_ready.2 ⟨?_,ops[i],Y2 hil,λe he hb=>?_⟩
      .have h1:¬Ew.getD i false=true:=λh=>hni ((hl i hil).1 h);rw[aT]at h1 ⊢;rw[Y2 l7]at h1 ⊢;simpa using h1
      .obtain⟨g1,g2⟩:=hrk i _ (Y2 hil) e (by simpa using he) hb;exact(hl e.on g1).2 (ihn e.on l7 g1)
     rw[hr]at hin;cases hin
   refine hQ m ok a w ?_ hm hok;rwa[b2W (c:=λi=>qN X.E q ops.toList (ops.getD i default)) hs (λi hi=>hall _ i (Nat.lt_succ_self _) hi)]at R
  .obtain⟨h1,o,ho,h2⟩:=mem_ready.1 hi;have hil:=(bT.1 ho).1;have hnD:i∉D:=λh=>by
    have:=(hl i hil).2 h;rw[aT]at h1 this;rw[Y2 l7]at h1 this;simp only[dP]at h1 this;rw[h1]at this;cases this
   have hp:∀j,Nat.testBit (M i) j=true->j∈D:=λj hj=>by
    obtain⟨e,he,hpl,h3⟩:=hM i o ho j hj;have hlst:=h2 e (by simpa using he) (hpl.binds md);have hon:e.on<ops.size:=(hrk i o ho e he (hpl.binds md)).1;have honD:=(hl e.on hon).1 hlst;rcases h3 with rfl|h3
    .exact honD
    .exact hdown e.on honD j h3
   have hgd:ops.getD i default=o:=by rw[aT,ho];rfl
   have hstep:=b2X (c:=λi=>qN X.E q ops.toList (ops.getD i default)) (S:=S) (T:=T) (n:=ops.size) hs (ord:=λi j=>Nat.testBit (M j) i=true) (ex:=ex)
    hpair hex hil hnD hlt hp hdown
   simp only[hgd]at hstep;refine ZG H ho hstep R λm' ok' a' w' R' k1 k2=>?_;refine ih (D:=i::D) Z5 (iF.2 ⟨hnD,hD⟩) (λj hj=>?_) (by simp[hsz]) (λj hj=>?_) (λj hj k hk=>?_) R' (λk l h=>k1 k l (hm k l h)) (λb t h=>k2 b t (hok b t h))
   .rcases D6.1 hj with rfl|hj
    .exact hil
    .exact hlt j hj
   .by_cases e:i=j
    .subst e;simp[Array.getD,hsz,hil]
    .rw[getD_set_ne false e,hl j hj];simp[Ne.symm e]
   .rcases D6.1 hj with rfl|hj
    .exact V4 _ (hp k hk)
    .exact V4 _ (hdown j hj k hk)
theorem Yl(H:FxOk X){s s' :St}(h0:S 0=gV s)(h1:S ops.size=gV s')(hc:XG X.E q ops.toList ops.toList S T){draw:Bool}{ex:Nat->Nat->Prop}
  (hex:∀i j,i<j->j<ops.size->ex i j->∃S',(qN X.E q ops.toList (ops.getD i default)).eval (S (j+1)) ([],[])=some ((),S',T i)/\∀k∈(T i).2,S' k=S (i+1) k)
  (hdraw:draw=true->∃M:Nat->Nat,a3J ops.toList 0 []=some ((List.range ops.size).map M).reverse/\(∀i j,i<j->j<ops.size->a9n (λi j=>Nat.testBit (M j) i=true) ex T i j)/\
   (bif JD ops.toList then true else a4p .text ops.toList ops.toList.length []&&a4p .gc ops.toList ops.toList.length [])=true):
  (∀k,(∀x∈((List.range ops.size).map T).reverse,k∉x.2)->gV s' k=gV s k)/\
   ∀{m:Mp} {ok:Nat->Ty->Prop} {a:Act} {w:World} {id:Nat} {Q:Exit->Act->World->Prop},Rel X (CB*q) (CB*q+CB) (gV s) m ok a w->
    (∀m' ok' a' w',Rel X (CB*q) (CB*q+CB) (gV s') m' ok' a' w' ->(∀k l,m k=some l->m' k=some l)->(∀b t,ok b t->ok' b t)->Q .normal a' w')->(Code.region id ops draw).wp X.P Q a w:=by
 have hfr:∀k,(∀x∈((List.range ops.size).map T).reverse,k∉x.2)->gV s' k=gV s k:=λk hk=>by
  have:∀n,n<=ops.size->S n k=S 0 k:=by
   intro n;induction n with
   |zero=>intro _;rfl|succ n ih=>intro hn;have hi:ops[n]? =some (ops[n]'l7):=Y2 _;rw[NT (hc n (ops[n]'l7) (by rw[dC];exact hi)) k (hk (T n) (by simp;exact⟨n,l7,rfl⟩)),ih l7]
  rw[←h1,←h0];exact this ops.size (E9 _)
 cases draw with
 |false=>refine⟨hfr,λ{m ok a w id Q} R hQ=>wp_region ?_⟩;rw[List.range_eq_range'];rw[←h0]at R;refine Yz H hc (m0:=m) (ok0:=ok) (by rw[h1];exact hQ) ops.size 0 l7 R (λ_ _ h=>h) (λ_ _ h=>h)|true=>
  obtain⟨M0,hp,hpair,hd⟩:=hdraw rfl;obtain⟨M,hMM,_,hM⟩:=RG (M:=λ_=>0) ops.toList (n:=0) hp;simp only[iH,eG]at hd hM hMM;have hMM:∀k,k<ops.size->M0 k=M k:=λk hk=>by have e1:=LM (M:=M0) hk;rw[hMM,LM hk]at e1;exact e1.symm
  have hM:∀i o,ops[i]? =some o->(∀e∈o.after.toList,wW e->e.on<i)/\∀j,Nat.testBit (M0 i) j=true->∃e∈o.after.toList,wW e/\(j=e.on\/Nat.testBit (M0 e.on) j=true):=λi o ho=>by have hil:=(bT.1 ho).1;obtain⟨g1,g2⟩:=hM i o (by simpa using ho);refine⟨g1,λj hj=>?_⟩;rw[hMM i hil]at hj;obtain⟨e,he,hpl,h3⟩:=g2 j hj;exact⟨e,he,hpl,by rw[hMM e.on (by have:=g1 e he hpl;omega)];exact h3⟩
  have hidr:∀md,(∀(i:Nat) (o:Oper),ops[i]? =some o->∀e∈o.after.toList,Region.binds md e=true->wW e)->Tu md ops:=λmd hpl=>by refine⟨λi=>i,λi o ho e he hb=>?_⟩;have hil:=(bT.1 ho).1;have:=(hM i o ho).1 e he (hpl i o ho e he hb);exact⟨l7,this⟩
  have hany:Tu .any ops:=hidr .any λi o ho e he hb=>b0T hb;have hboth:Tu .text ops/\Tu .gc ops:=by
   cases hpo:JD ops.toList
   .simp only[hpo,cond_false,A8]at hd;exact⟨LC (rk:=λ_=>0) _ hd.1 x9 x9 x9,LC (rk:=λ_=>0) _ hd.2 x9 x9 x9⟩
   .have hpl:∀(i:Nat) (o:Oper),ops[i]? =some o->∀e∈o.after.toList,wW e:=λi o ho e he=>Tc hpo o (by simpa using Array.mem_of_getElem? ho) e he;exact⟨hidr _ λi o ho e he _=>hpl i o ho e he,hidr _ λi o ho e he _=>hpl i o ho e he⟩
  refine⟨hfr,λ{m ok a w id Q} R hQ=>wp_region_draw λt=>?_⟩;have R' :Rel X (CB*q) (CB*q+CB) (SD S T [] ops.size) m ok a { w with drawn:=w.drawn+1 }:=by rw[c0f,h0];exact R.same rfl rfl rfl rfl
  have main:∀md,Tu md ops->∀t,wpOps X.P ops Q (Region.linearise md ops t) a { w with drawn:=w.drawn+1 }:=λmd hr t=>by unfold Region.linearise;refine wpAny_sound ops.size t _ a _ ?_;refine b0Q H hc hpair hex (λi o ho=>(hM i o ho).2) hr (m0:=m) (ok0:=ok) (by rw[h1];exact hQ) ops.size (D:=[]) x9 fP x9 x9 (λi hi=>?_) x9 R' (λ_ _ h=>h) (λ_ _ h=>h);simp[Array.getD,hi]
  unfold Region.schedule;split
  .exact main _ hany t
  .split
   .exact main _ hboth.1 _
   .exact main _ hboth.2 _
theorem a3Z(H:FxOk X){R:Type}{s:St}{wr:Rgs}{K:St->Rgs->Option R}{r:R}{draw:Bool}(h:a3Y X.E q ops draw s wr K=some r):
  ∃s' w',K s' w' =some r/\(∃t:Trs,w' =Hz t wr/\∀k,(∀x∈t,k∉x.2)->gV s' k=gV s k)/\
   ∀{m:Mp} {ok:Nat->Ty->Prop} {a:Act} {w:World} {id:Nat} {Q:Exit->Act->World->Prop},Rel X (CB*q) (CB*q+CB) (gV s) m ok a w->
    (∀m' ok' a' w',Rel X (CB*q) (CB*q+CB) (gV s') m' ok' a' w' ->(∀k l,m k=some l->m' k=some l)->(∀b t,ok b t->ok' b t)->Q .normal a' w')->(Code.region id ops draw).wp X.P Q a w:=by
 unfold a3Y at h;have pick:∀(dr:Bool) (s' :St) (T:Nat->Tr),(bif draw then(bif dr then K s' (Hz ((List.range ops.size).map T).reverse wr)else none)else K s' (Hz ((List.range ops.size).map T).reverse wr))=some r->
   K s' (Hz ((List.range ops.size).map T).reverse wr)=some r/\(draw=true->dr=true):=λdr s' T h=>by
  cases draw
  .exact⟨h,λh=>by cases h⟩
  .cases dr
   .cases h
   .exact⟨h,λ_=>rfl⟩
 split at h
 .obtain⟨s',S,T,h0,h1,hc,hk⟩:=Yp _ h;simp only[eG,H6]at h1 hk;obtain⟨hk,hd⟩:=pick _ s' T hk;obtain⟨hfr,hwp⟩:=Yl H h0 h1 hc (draw:=draw) (ex:=λ_ _=>False) (λ_ _ _ _ h=>h.elim) λhdr=>by
   have hd:=hd hdr;unfold b3B at hd;cases hp:a3J ops.toList 0 []with
   |none=>simp[hp]at hd|some ms=>
   simp only[hp]at hd;obtain⟨M,hms,_,_⟩:=RG (M:=λ_=>0) ops.toList (n:=0) hp;simp only[iH,eG]at hms;subst hms;cases hod:V_ ((List.range ops.size).map M).reverse ((List.range ops.size).map T).reverse
   .simp[hod]at hd
   simp only[hod,cond_true]at hd;exact⟨M,rfl,λi j hi hj=>(Yc _ hod i j hi hj).imp id λh=>⟨h.1,.inl h.2⟩,hd⟩
  exact⟨s',_,hk,⟨_,rfl,hfr⟩,hwp⟩
 .obtain⟨s',S,T,h0,h1,hc,hk,_,h5⟩:=VI _ h;simp only[eG,H6]at h1 hk;obtain⟨hk,hd⟩:=pick _ s' T hk;obtain⟨hfr,hwp⟩:=Yl H h0 h1 hc (draw:=draw) (ex:=λi j=>a2Z ops.toList j=true/\b3F X.E ops.toList i=true) (λi j hij hj ⟨e1,e2⟩=>by
   have hi:ops[i]? =some (ops[i]'l7):=Y2 _;have hj' :ops[j]? =some (ops[j]'l7):=Y2 _;unfold a2Z at e1;unfold b3F at e2;rw[dC,hj']at e1;rw[dC,hi]at e2;obtain⟨d,hd,d',S',g1,g2,g3,g4⟩:=h5 i j _ _ hij (by rw[dC];exact hi) (by rw[dC];exact hj') e2 e1;rw[hd]at g1;cases g1;have hgd:ops.getD i default=ops[i]'l7:=by rw[aT,hi];rfl
   refine⟨S',by rw[hgd];exact g3,λk hk=>?_⟩;rw[g2]at hk;simp only[D6,uw,or_false]at hk;subst hk;exact g4) λhdr=>by
   have hd:=hd hdr;unfold a9M at hd;cases hp:a3J ops.toList 0 []with
   |none=>simp[hp]at hd|some ms=>
   simp only[hp]at hd;obtain⟨M,hms,_,_⟩:=RG (M:=λ_=>0) ops.toList (n:=0) hp;simp only[iH,eG]at hms;subst hms;cases hod:Vl X.E ops.toList ((List.range ops.size).map M).reverse ((List.range ops.size).map T).reverse
   .simp[hod]at hd
   simp only[hod,cond_true]at hd;exact⟨M,rfl,Vm _ hod,hd⟩
  exact⟨s',_,hk,⟨_,rfl,hfr⟩,hwp⟩
end
end Go.GP
namespace Go.GP
def Wr(w:Rgs)(k:Nat):Prop:=∃p∈w,p.1<=k/\k<p.2
theorem a7h{k:Nat} :¬Wr [] k:=λ⟨p,h,_⟩=>by cases h
theorem QU{p:Nat×Nat}{w:Rgs}{k:Nat} :Wr (p::w) k↔(p.1<=k/\k<p.2)\/Wr w k:=by
 constructor
 .rintro⟨x,h,h1⟩;rcases D6.1 h with rfl|h
  .exact .inl h1
  .exact .inr ⟨x,h,h1⟩
 .rintro(h|⟨x,h,h1⟩)
  .exact⟨p,x9,h⟩
  .exact⟨x,by simp[h],h1⟩
theorem PE{w:Rgs}{k:Nat} :∀{ks:d1B},Wr (UT ks w) k↔k∈ks\/Wr w k
 |[]=>by simp[UT]|x::ks=>by
  unfold UT;rw[QU,PE];simp only[D6];constructor
  .rintro(⟨h1,h2⟩|h|h)
   .exact .inl (.inl l7)
   .exact .inl (.inr h)
   .exact .inr h
  .rintro((rfl|h)|h)
   .simp
   .exact .inr (.inl h)
   .exact .inr (.inr h)
theorem a2U{b:Rgs}{k:Nat} :∀{a:Rgs},Wr (Zp a b) k↔Wr a k\/Wr b k
 |[]=>by simp[Zp,a7h]|x::a=>by unfold Zp;rw[QU,QU,a2U,or_assoc]
theorem Wi{w:Rgs}{k:Nat} :∀{t:Trs},Wr (Hz t w) k↔(∃x∈t,k∈x.2)\/Wr w k
 |[]=>by simp[Hz]|x::t=>by unfold Hz;rw[PE,Wi,←or_assoc];simp
theorem a2g{lo hi:Nat} :∀{rs:Rgs},b1s lo hi rs=true->∃p∈rs,p.1<=lo/\hi<=p.2
 |[],h=>by simp[b1s]at h|(a,b)::r,h=>by
  unfold b1s at h;cases hb:(Nat.ble a lo&&Nat.ble hi b)
  .simp only[hb,cond_false]at h;obtain⟨p,h1,h2⟩:=a2g h;exact⟨p,by simp[h1],h2⟩
  .simp only[A8]at hb;exact⟨(a,b),x9,ax hb.1,ax hb.2⟩
theorem XJ{lim:Nat}{rs:Rgs} :∀{w:Rgs},ZM lim rs w=true->∀k,Wr w k->lim<=k\/Wr rs k
 |[],_,k,h=>absurd h a7h|(a,b)::w,h,k,hk=>by
  unfold ZM at h;cases hc:(Nat.ble lim a || b1s a b rs)
  .simp[hc]at h
  .simp only[hc,cond_true]at h;rcases QU.1 hk with⟨h1,h2⟩|hk
   .simp only[kD]at hc;rcases hc with hc|hc
    .have:=ax hc;exact .inl (by simp only at h1;omega)
    .obtain⟨p,h3,h4,h5⟩:=a2g hc;exact .inr ⟨p,h3,by simp only at h1;omega,by simp only at h2;omega⟩
   .exact XJ h k hk
theorem WP{s:St}{k:Nat} :∀{rs:Rgs},¬Wr rs k->gV (Jy rs s) k=gV s k
 |[],_=>rfl|(a,b)::r,h=>by
  rw[QU,not_or]at h;show(bif Nat.ble a k&&Nat.blt k b then V.undef else gV (Jy r s) k)=gV s k;cases hb:(Nat.ble a k&&Nat.blt k b)
  .simp only[cond_false];exact WP h.2
  .simp only[A8]at hb;exact absurd ⟨ax hb.1,Tz hb.2⟩ h.1
theorem a5D{s:St}{k:Nat} :∀{rs:Rgs},Wr rs k->gV (Jy rs s) k= .undef
 |[],h=>absurd h a7h|(a,b)::r,h=>by
  show(bif Nat.ble a k&&Nat.blt k b then V.undef else gV (Jy r s) k)=V.undef;cases hb:(Nat.ble a k&&Nat.blt k b)
  .simp only[cond_false];rcases QU.1 h with⟨h1,h2⟩|h
   .simp only at h1 h2;have e1:Nat.ble a k=true:=Nat.ble_eq_true_of_le h1;have e2:Nat.blt k b=true:=by rw[iC];exact h2
    simp[e1,e2]at hb
   .exact a5D h
  .simp
variable {h0:Array Obj}{h1:Array Obj}{ok0:Nat->Ty->Prop}{ok1:Nat->Ty->Prop}{m:Mp}{m1:Mp}{m2:Mp}
theorem a6k(hm:∀k l,m k=some l->m2 k=m1 k):∀{c:V} {v0 v1:Value} (a:Bv ⟨h0,ok0,m⟩ c v0) (b:Bv ⟨h1,ok1,m1⟩ c v1),Bv ⟨h1,ok1,m2⟩ c v1:=by
 intro c;induction c using V.rec (motive_2:=λ_=>True)<;>try trivial
 all_goals
  intro v0 v1 a b;simp only[Bv]at a b ⊢
  try exact b
 case own bx vw=>obtain⟨l0,e0,_⟩:=a;obtain⟨l,e,hv⟩:=b;exact⟨l,by rw[hm _ _ e0];exact e,hv⟩
 case ptr bx o=>obtain⟨l0,e0,_⟩:=a;obtain⟨l,e,hv⟩:=b;exact⟨l,by rw[hm _ _ e0];exact e,hv⟩
 case ep bx ix o=>obtain⟨_,_,_,_,_,e0,_⟩:=a;obtain⟨x1,x2,x3,x4,x5,e,hv⟩:=b;exact⟨x1,x2,x3,x4,x5,by rw[hm _ _ e0];exact e,hv⟩
 case ifc t c ih=>obtain⟨u0,_,_,a⟩:=a;obtain⟨u,e,h,b⟩:=b;exact⟨u,e,h,ih a b⟩
theorem a0r{h0 h1:Array Obj}{ok0 ok1:Nat->Ty->Prop}{m m1 m2:Mp}(hm:∀k l,m k=some l->m2 k=m1 k):∀{cs:List V} {v0 v1:d1D},jf ⟨h0,ok0,m⟩ cs v0->jf ⟨h1,ok1,m1⟩ cs v1->jf ⟨h1,ok1,m2⟩ cs v1
 |[],_,_,_,b=>b|_::_,_,_,⟨_,_,_,a1,_,a3⟩,⟨v,r,e,b1,b2,b3⟩=>⟨v,r,e,a6k hm a1 b1,b2,a0r hm a3 b3⟩
variable {c:V}
theorem a6j(hm:∀k l,m k=some l->m2 k=m1 k){v0 v1:Value}(a:a0o ⟨h0,ok0,m⟩ c v0)(b:a0o ⟨h1,ok1,m1⟩ c v1):a0o ⟨h1,ok1,m2⟩ c v1:=by
 cases c<;>simp only[a0o]at a b ⊢<;>try exact a6k hm a b
 case agg cs=>obtain⟨_,_,a⟩:=a;obtain⟨arr,e,b⟩:=b;exact⟨arr,e,a0r hm a b⟩
theorem a6n{h0 h1:Array Obj}{ok0 ok1:Nat->Ty->Prop}{m m1 m2:Mp}(hm:∀k l,m k=some l->m2 k=m1 k):∀{cs:List V} {v0 v1:d1D},a4b ⟨h0,ok0,m⟩ cs v0->a4b ⟨h1,ok1,m1⟩ cs v1->a4b ⟨h1,ok1,m2⟩ cs v1
 |[],_,_,_,b=>b|_::_,_,_,⟨_,_,_,a1,a3⟩,⟨v,r,e,b1,b3⟩=>⟨v,r,e,a6j hm a1 b1,a6n hm a3 b3⟩
theorem b5J(hm:∀k l,m k=some l->m2 k=m1 k){v0 v1:Value}(a:pg ⟨h0,ok0,m⟩ c v0)(b:pg ⟨h1,ok1,m1⟩ c v1):pg ⟨h1,ok1,m2⟩ c v1:=by
 cases c<;>simp only[pg]at a b ⊢<;>try exact a6j hm a b
 case tup cs=>obtain⟨_,_,a⟩:=a;obtain⟨arr,e,b⟩:=b;exact⟨arr,e,a6n hm a b⟩
theorem a7K(hm:∀k l,m k=some l->m2 k=m1 k){sz:Nat}{l0 l1:Loc}{hole:Option (Nat×Nat×Option Nat)}(a:r_ ⟨h0,ok0,m⟩ sz l0 hole)(b:r_ ⟨h1,ok1,m1⟩ sz l1 hole):r_ ⟨h1,ok1,m2⟩ sz l1 hole:=by
 obtain _|⟨i,o,_|n⟩:=hole
 .trivial
 .trivial
 .obtain⟨_,_,_,_,_,l',_,_,e,_⟩:=a;obtain⟨b1,b2,b3,b4,b5,l2,c1,c2,c3,c4⟩:=b;exact⟨b1,b2,b3,b4,b5,l2,c1,c2,by rw[hm _ _ e];exact c3,c4⟩
theorem b5I(hm:∀k l,m k=some l->m2 k=m1 k)(hk:m2.kid=m1.kid)(km:∀k l,m k=some l->m1 k=some l){n:Nat}(a:JQ ⟨h0,ok0,m⟩ n c)(b:∀l,m n=some l->JQ ⟨h1,ok1,m1⟩ n c):JQ ⟨h1,ok1,m2⟩ n c:=by
 cases c<;>simp only[JQ]at a b ⊢
 case bcells cs=>obtain⟨_,_,_,e0,_,a⟩:=a;obtain⟨blk,arr,T,e,hh,b⟩:=b _ e0;exact⟨blk,arr,T,by rw[hm _ _ e0];exact e,hh,a0r hm a b⟩
 case barr t xs=>obtain⟨_,e0,_⟩:=a;obtain⟨l,e,b⟩:=b _ e0;exact⟨l,by rw[hm _ _ e0];exact e,qP (λ_ _ h=>h) (λ_ _ _=>rfl) (λ_ _=>rfl) b⟩
 case bfrz t xs=>obtain⟨_,e0,_⟩:=a;obtain⟨l,e,b,hb⟩:=b _ e0;exact⟨l,by rw[hm _ _ e0];exact e,qP (λ_ _ h=>h) (λ_ _ _=>rfl) (λ_ _=>rfl) b,hb⟩
 case barrs md xs hole=>obtain⟨he,_,_,e0,⟨_,ha⟩,_⟩:=a;obtain⟨_,l,Os,e,⟨b,hl⟩,hb⟩:=b _ e0;exact⟨he,l,Os,by rw[hm _ _ e0];exact e,⟨b,a7K hm ha hl⟩,by rw[hk];exact hb⟩
 case bfc t x=>obtain⟨_,_,e0,_⟩:=a;obtain⟨blk,es,e,b⟩:=b _ e0;exact⟨blk,es,by rw[hm _ _ e0];exact e,b⟩
 case gone t=>obtain⟨_,e0,_⟩:=a;obtain⟨l,e,b⟩:=b _ e0;exact⟨l,by rw[hm _ _ e0];exact e,b⟩
 case blen ln sz=>obtain⟨k,l,e,e0,h⟩:=a;exact⟨k,l,e,by rw[hm _ _ e0];exact km _ _ e0,h⟩
def cut(m:Mp)(N:Nat):Mp:=⟨λn=>if n<N then m n else none,m.kid⟩
section
variable {X:Fx} {cl ch N:Nat} {S S1 S2:Sm} {m m1:Mp} {ok ok1:Nat->Ty->Prop} {a a1:Act} {w w1:World}
theorem Rel.climb(R:Rel X cl ch S m ok a w){cl' :Nat}(h:cl<=cl'):Rel X cl' ch S m ok a w:={ R with fresh:=λn h1 h2=>R.fresh n l7 h2 }
theorem Rel.rebase(R0:Rel X cl N S m ok a w){cl1 ch1:Nat}(R1:Rel X cl1 ch1 S1 m1 ok1 a1 w1)(km:∀k l,m k=some l->m1 k=some l)
  (hS:∀k,S2 k= .undef\/(S2 k=S k/\(k<bV+N->S1 k=S k))):
  Rel X N N S2 (cut m1 N) ok1 a1 w1/\(∀T,Tk X S1 m1 ok1 w1 T->Tk X S2 (cut m1 N) ok1 w1 T)/\(∀k l,m k=some l->cut m1 N k=some l):=by
 have hdom:∀k l,m k=some l->k<N:=λk l h=>by
  rcases Nat.lt_or_ge k N with h1|h1
  .exact h1
  .rw[R0.strict k h1]at h;cases h
 have hagree:∀k l,m k=some l->cut m1 N k=m1 k:=λk l h=>by simp[cut,hdom k l h]
 have hown:∀n,aC (cut m1 N) n (S2 (bV+n))=aC m1 n (S1 (bV+n))\/aC (cut m1 N) n (S2 (bV+n))=[]:=λn=>by
  rcases hS (bV+n)with h1|⟨h1,h2⟩
  .right;rw[h1];rfl
  .rcases Nat.lt_or_ge n N with hn|hn
   .left;rw[h2 l7,←h1];exact Oi (by simp[cut,hn]) rfl
   .right;have hc:m n=none:=R0.strict n hn;have hb:=R0.box n;rw[h1];cases hv:S (bV+n)<;>rw[hv]at hb<;>try rfl
    .obtain⟨_,_,_,e,_⟩:=hb;simp only at e;rw[hc]at e;cases e
    .obtain⟨_,e,_⟩:=hb;simp only at e;rw[hc]at e;cases e
    .obtain⟨_,_,_,e,_⟩:=hb;simp only at e;rw[hc]at e;cases e
 have hownM:∀n b,b∈aC (cut m1 N) n (S2 (bV+n))->b∈aC m1 n (S1 (bV+n)):=λn b h=>by
  rcases hown n with e|e
  .rw[←e];exact h
  .rw[e]at h;cases h
 refine⟨{ kept:=R1.kept,size:=R1.size,nodef:=R1.nodef,okLt:=R1.okLt,okIn:=R1.okIn,okOut:=R1.okOut,frame:=R1.frame,gl:=R1.gl,slot:=λn hn=>?_,box:=λn=>?_,inj:=λn n' b h h' =>R1.inj n n' b (hownM n b h) (hownM n' b h'),nd:=λn=>(hown n).elim (λe=>by rw[e];exact R1.nd n) (λe=>by rw[e];exact fP),sep:=λn b h=>R1.sep n b (hownM n b h),fresh:=λn h1 _=>?_,strict:=λn h=>?_ },λT hT=>⟨hT.nodup,λb hb=>?_⟩,λk l h=>by rw[hagree k l h];exact km k l h⟩
 .rcases hS n with h1|⟨h1,h2⟩
  .rw[h1];trivial
  .rw[h1];refine b5J hagree (R0.slot n hn) ?_;rw[←h2 l7];exact R1.slot n hn
 .rcases hS (bV+n)with h1|⟨h1,h2⟩
  .rw[h1];trivial
  .rw[h1];refine b5I hagree rfl km (R0.box n) λl hl=>?_;rw[←h2 (by have:=hdom n l hl;omega)];exact R1.box n
 .simp[cut];omega
 .simp[cut];omega
 .obtain⟨f1,f2,f3,f4⟩:=hT.free b hb;exact⟨f1,f2,f3,λn e=>f4 n (hownM n b e)⟩
theorem lF{R:Type}{q:Nat}{sg:Sig}{rs:Rgs}{s:St}{wr:Rgs}{K:ul sg->Option R}{r:R}(h:SS q sg rs s wr K=some r):
  ∃x,K x=some r/\∀{s0:St} {cl cl1 ch1:Nat} {m m1:Mp} {ok ok1:Nat->Ty->Prop} {a a1:Act} {w w1:World},Rel X cl (CB*q) (gV s0) m ok a w->Rel X cl1 ch1 (gV s) m1 ok1 a1 w1->(∀k l,m k=some l->m1 k=some l)->
   (∀k,¬Wr wr k->gV s k=gV s0 k)->∃m2 ok2 O,Rel X (CB*q) (CB*q) (gV (Jy rs s0)) m2 ok2 a1 w1/\Tk X (gV (Jy rs s0)) m2 ok2 w1 O/\
    a7g w1.heap ok2 sg x a1.tmps O/\(∀k l,m k=some l->m2 k=some l):=by
 unfold SS at h;obtain⟨x,s1,tr,he,hk⟩:=sU h;cases hc:ZM (bV+CB*q) rs (UT tr.2 wr)
 .simp[hc]at hk
 simp only[hc,cond_true]at hk;refine⟨x,hk,λ{s0 cl cl1 ch1 m m1 ok ok1 a a1 w w1} R0 R1 km hun=>?_⟩;have key:=xu (a7C R1 (Q:=λy S' =>∃ok' O,Rel X cl1 ch1 S' m1 ok' a1 w1/\Tk X S' m1 ok' w1 O/\a7g w1.heap ok' sg y a1.tmps O)
  λS' ok' y O R' T' _ _ hr=>⟨ok',O,R',T',hr⟩) he
 obtain⟨ok',O,R',T',hr⟩:=key;have hcov:=XJ hc;obtain⟨R2,hT2,hm2⟩:=R0.rebase (S2:=gV (Jy rs s0)) R' km (λk=>by
  by_cases hw:Wr rs k
  .exact .inl (a5D hw)
  .refine .inr ⟨WP hw,λhlt=>?_⟩;have hnw:¬Wr (UT tr.2 wr) k:=λh=>by
    rcases hcov k h with h1|h1
    .omega
    .exact hw h1
   rw[PE,not_or]at hnw;rw[NT he k hnw.1];exact hun k hnw.2)
 exact⟨_,ok',O,R2,hT2 O T',hr,hm2⟩
theorem vz{R:Type}{q:Nat}{sg:Sig}{rs:Rgs}{s:St}{x:ul sg}{K:St->Rgs->Option R}{r:R}(h:enter q sg rs s x K=some r):
  ∃s' w',K s' w' =some r/\(∀k,Wr rs k->Wr w' k)/\(∀k,¬Wr w' k->gV s' k=gV s k)/\
   ∀{N:Nat} {m:Mp} {ok:Nat->Ty->Prop} {a:Act} {w:World} {O:d1B},N<=CB*q->Rel X N N (gV (Jy rs s)) m ok a w->Tk X (gV (Jy rs s)) m ok w O->
    a7g w.heap ok sg x a.tmps O->
    ∃m',Rel X (CB*(q+1)) (CB*(q+1)) (gV s') m' ok a w/\(∀k l,m k=some l->m' k=some l):=by
 unfold enter at h;obtain⟨u,s',tr,he,hk⟩:=sU h;refine⟨s',_,hk,λk hk=>PE.2 (.inr hk),λk hk=>?_,λ{N m ok a w O} hN R1 T1 hr=>?_⟩
 .rw[PE,not_or]at hk;rw[NT he k hk.1,WP hk.2]
 .have key:=xu (a7w (x:=x) (nb:=CB*q) (lim:=CB*q+CB) (Q:=λ_ S' =>∃m',Rel X N (max N (CB*q+CB)) S' m' ok a w/\(∀k l,m k=some l->m' k=some l)) R1 hN T1 hr
   λS' m' R' k=>⟨m',R',k⟩) he
  obtain⟨m',R',k⟩:=key;have e:CB*(q+1)=CB*q+CB:=by rw[Nat.mul_add,nH]
  rw[e];generalize CB*q=Z at*;exact⟨m',(R'.climb l7).chmono l7,k⟩
end
end Go.GP
namespace Go.GP
variable {q:Nat}{m:Mp}{a:Act}{w:World}{s:St}{wr:Rgs}{q':Nat}{n:Nat}
section
variable {X:Fx} {rt:Ret} {mE:Mp} {RetP:rt.den->Act->World->Prop}
def Ur(X:Fx)(q:Nat)(m:Mp)(s:St)(wr:Rgs)(s' :St)(w' :Rgs)(a:Act)(w:World):Prop:=
 ∃m' ok',Rel X (CB*q) (CB*q) (gV s') m' ok' a w/\(∀k l,m k=some l->m' k=some l)/\(∀k,Wr wr k->Wr w' k)/\(∀k,¬Wr w' k->gV s' k=gV s k)
def a7e(X:Fx)(RetP:rt.den->Act->World->Prop)(q:Nat)(m:Mp)(s:St)(wr:Rgs)(fl:Flow rt.den)(s' :St)(w' :Rgs)(e:Exit)(a:Act)(w:World):Prop:=
 match fl with
 | .nm=>e= .normal/\Ur X q m s wr s' w' a w| .ex id=>e= .exit id/\Ur X q m s wr s' w' a w| .rt x=>e= .ret/\RetP x a w
def a9m(X:Fx)(RetP:rt.den->Act->World->Prop)(q:Nat)(m:Mp)(s:St)(wr:Rgs){R:Type}(K:Flow rt.den->St->Rgs->Option R)(r:R)(e:Exit)(a:Act)(w:World):Prop:=
 ∃fl s' w',K fl s' w' =some r/\a7e X RetP q m s wr fl s' w' e a w
structure DOk (X:Fx) (mE:Mp) (RetP:rt.den->Act->World->Prop) (D:Den rt.den) (c:Code) (n:Nat):Prop where
 run:∀{q:Nat} {an:Ann} {s:St} {wr:Rgs} {R:Type} {K:Flow rt.den->St->Rgs->Option R} {r:R},D q an s wr R K=some r->
  ∀{m:Mp} {ok:Nat->Ty->Prop} {a:Act} {w:World},Rel X (CB*q) (CB*q) (gV s) m ok a w->(∀k l,mE k=some l->m k=some l)->
   c.wp X.P (a9m X RetP (q+n) m s wr K r) a w
def b2V(X:Fx)(rt:Ret)(mE:Mp)(RetP:rt.den->Act->World->Prop):Prop:=
 ∀{s:St} {R:Type} {K:rt.den->Option R} {r:R},(b8M X.E rt).runK s ([],[]) (λx _ _=>K x)=some r->
  ∃x,K x=some r/\∀{cl ch:Nat} {m:Mp} {ok:Nat->Ty->Prop} {a:Act} {w:World},Rel X cl ch (gV s) m ok a w->(∀k l,mE k=some l->m k=some l)->RetP x a w
theorem a9F{p q:Nat}(h:p<=q):CB*p<=CB*q:=Nat.mul_le_mul_left _ h
theorem Rel.upq{p q:Nat}{S:Sm}{ok:Nat->Ty->Prop}(R:Rel X (CB*p) (CB*p) S m ok a w)(h:p<=q):Rel X (CB*q) (CB*q) S m ok a w:=
 (R.climb (a9F h)).chmono (a9F h)
theorem Ur.here{ok:Nat->Ty->Prop}(R:Rel X (CB*q) (CB*q) (gV s) m ok a w)(h:q<=q'):Ur X q' m s wr s wr a w:=
 ⟨m,ok,R.upq h,λ_ _ h=>h,λ_ h=>h,λ_ _=>rfl⟩
theorem Ur.up{s s' :St}{wr w' :Rgs}(h:Ur X q m s wr s' w' a w)(hq:q<=q'):Ur X q' m s wr s' w' a w:=by obtain⟨m',ok',R,h1,h2,h3⟩:=h;exact⟨m',ok',R.upq hq,h1,h2,h3⟩
theorem Ur.trans{m m1:Mp}{s s1 s2:St}{wr w1 w2:Rgs}(k1:∀k l,m k=some l->m1 k=some l)(k2:∀k,Wr wr k->Wr w1 k)(k3:∀k,¬Wr w1 k->gV s1 k=gV s k)
  (h:Ur X q m1 s1 w1 s2 w2 a w) (hq:q<=q'):Ur X q' m s wr s2 w2 a w:=by
 obtain⟨m',ok',R,h1,h2,h3⟩:=h;exact⟨m',ok',R.upq hq,λk l h=>h1 k l (k1 k l h),λk h=>h2 k (k2 k h),λk h=>(h3 k h).trans (k3 k λh' =>h (h2 k h'))⟩
theorem a7e.up{s s' :St}{wr w' :Rgs}{fl:Flow rt.den}{e:Exit}(h:a7e X RetP q m s wr fl s' w' e a w)(hq:q<=q'):a7e X RetP q' m s wr fl s' w' e a w:=by
 cases fl with
 |nm=>exact⟨h.1,h.2.up hq⟩|ex id=>exact⟨h.1,h.2.up hq⟩|rt x=>exact h
theorem a7e.trans{m m1:Mp}{s s1 s2:St}{wr w1 w2:Rgs}{fl:Flow rt.den}{e:Exit}(k1:∀k l,m k=some l->m1 k=some l)(k2:∀k,Wr wr k->Wr w1 k)(k3:∀k,¬Wr w1 k->gV s1 k=gV s k)
  (h:a7e X RetP q m1 s1 w1 fl s2 w2 e a w) (hq:q<=q'):a7e X RetP q' m s wr fl s2 w2 e a w:=by
 cases fl with
 |nm=>exact⟨h.1,h.2.trans k1 k2 k3 hq⟩|ex id=>exact⟨h.1,h.2.trans k1 k2 k3 hq⟩|rt x=>exact h
theorem QX(hq:q+1<=n){s s3:St}{wr w3:Rgs}{m m2:Mp}{ok2:Nat->Ty->Prop}
  (km:∀k l,m k=some l->m2 k=some l) (hout:∀k,¬Wr w3 k->gV s3 k=gV s k)
  (hR:∃m',Rel X (CB*(q+1)) (CB*(q+1)) (gV s3) m' ok2 a w/\(∀k l,m2 k=some l->m' k=some l)):Ur X n m s wr s3 (Zp w3 wr) a w:=by
 obtain⟨m',R,k⟩:=hR;exact⟨m',ok2,R.upq hq,λk' l h=>k _ _ (km _ _ h),λk h=>a2U.2 (.inr h),λk h=>hout k λh' =>h (a2U.2 (.inl h'))⟩
theorem yx{core:Den rt.den}{c:Code}(hc:DOk X mE RetP core c n):DOk X mE RetP (Po core) c (n+1):=by
 refine⟨?_⟩;intro q an s wr R K r h m ok a w Rl hE;have plain:core (q+1) an s wr R K=some r->c.wp X.P (a9m X RetP (q+(n+1)) m s wr K r) a w:=λh=>by have:=hc.run h (Rl.upq (Nat.le_succ q)) hE;rwa[show q+1+n=q+(n+1) by omega]at this
 cases an
 case join rs nm an=>
  unfold Po at h;simp only at h;obtain⟨x,h1,h2⟩:=JB h;obtain⟨s3,w3,hk3,hrs,hout,hR⟩:=vz (X:=X) h2;refine wp_mono (hc.run h1 (Rl.upq (Nat.le_succ q)) hE) ?_;rintro e a' w' ⟨fl,s',wr',hk,hfl⟩;cases fl with
  |ex id=>cases hk|rt x=>cases hk|nm=>obtain⟨rfl,m',ok',R1,k1,k2,k3⟩:=hfl;obtain⟨x',hx,hL⟩:=lF (X:=X) hk;cases hx;obtain⟨m2,ok2,O,R2,T2,hr,km⟩:=hL Rl R1 k1 k3;exact⟨.nm,s3,_,hk3,rfl,QX (q:=q) l7 km hout (hR (E9 _) R2 T2 hr)⟩
 case joinR rs nm an=>
  unfold Po at h;simp only at h;obtain⟨o,h1,h2⟩:=JB h;refine wp_mono (hc.run h1 (Rl.upq (Nat.le_succ q)) hE) ?_;rintro e a' w' ⟨fl,s',wr',hk,hfl⟩;cases fl with
  |ex id=>cases hk|rt x=>cases hk;exact⟨.rt x,_,_,h2,hfl⟩|nm=>obtain⟨rfl,m',ok',R1,k1,k2,k3⟩:=hfl;obtain⟨x',hx,hL⟩:=lF (X:=X) hk;cases hx;obtain⟨s3,w3,hk3,hrs,hout,hR⟩:=vz (X:=X) (show enter q nm rs s x' (λs' w' =>K .nm s' (Zp w' wr))=some r from h2);obtain⟨m2,ok2,O,R2,T2,hr,km⟩:=hL Rl R1 k1 k3;exact⟨.nm,s3,_,hk3,rfl,QX (q:=q) l7 km hout (hR (E9 _) R2 T2 hr)⟩
 all_goals exact plain h
theorem a7Q{core:Den rt.den}{c:Code}(hc:DOk X mE RetP core c n):DOk X mE RetP (a5C core) (.loop c) (2+n):=by
 refine⟨?_⟩;intro q an s wr R K r h m ok a w Rl hE;cases an
 case loop rs hd xid xs an=>
  unfold a5C at h;simp only at h;obtain⟨x0,hk0,hL0⟩:=lF (X:=X) h;obtain⟨m2,ok2,O,R2,T2,hr,km⟩:=hL0 Rl Rl (λ_ _ h=>h) (λ_ _=>rfl);obtain⟨y,hl,hen⟩:=JB hk0;clear hk0 h hL0;obtain⟨s3,w3,hk3,hrs,hout,hR⟩:=vz (X:=X) hen;refine wp_loop_rounds jb ?_;unfold aB at hl;have key:∀(f:Nat) {x:ul hd} {m2:Mp} {ok2:Nat->Ty->Prop} {O:d1B} {a:Act} {w:World},
    lU (λx=>b5S core q rs hd xid xs an s x) f x=some y->
    Rel X (CB*q) (CB*q) (gV (Jy rs s)) m2 ok2 a w->Tk X (gV (Jy rs s)) m2 ok2 w O->a7g w.heap ok2 hd x a.tmps O->(∀k l,m k=some l->m2 k=some l)->
    Code.rounds X.P c (a9m X RetP (q+(2+n)) m s wr K r) f a w:=by
   intro f;induction f with
   |zero=>intro x m2 ok2 O a w h;simp[lU]at h|succ f ih=>
    intro x m2 ok2 O a w h R2 T2 hr km;rw[rounds_succ];unfold lU at h;split at h
    .rename_i x' hf;obtain⟨s1,w1,hcore,_,hout1,hR1⟩:=vz (X:=X) (show enter q hd rs s x _=some _ from hf);obtain⟨m1,R1,km1⟩:=hR1 (E9 _) R2 T2 hr;refine wp_mono (hc.run hcore (R1.upq l7) (λk l h=>km1 _ _ (km _ _ (hE _ _ h)))) ?_;rintro e a' w' ⟨fl,s',wr',hk,hfl⟩;cases fl with
     |rt x=>cases hk|ex id=>
      simp only at hk;cases hb:Nat.beq id xid
      .simp[hb]at hk
      .simp only[hb,cond_true]at hk;obtain⟨y',hx,_⟩:=lF (X:=X) hk;cases hx
     |nm=>obtain⟨rfl,m',ok',R1',k1,k2,k3⟩:=hfl;obtain⟨y',hx,hL⟩:=lF (X:=X) hk;cases hx;obtain⟨m4,ok4,O4,R4,T4,hr4,km4⟩:=hL Rl R1' (λk l h=>k1 _ _ (km1 _ _ (km _ _ h))) (λk h=>(k3 k h).trans (hout1 k λh' =>h (k2 k h')));exact ih h R4 T4 hr4 km4
    .rename_i y' hf;cases h;obtain⟨s1,w1,hcore,_,hout1,hR1⟩:=vz (X:=X) (show enter q hd rs s x _=some _ from hf);obtain⟨m1,R1,km1⟩:=hR1 (E9 _) R2 T2 hr;refine wp_mono (hc.run hcore (R1.upq l7) (λk l h=>km1 _ _ (km _ _ (hE _ _ h)))) ?_;rintro e a' w' ⟨fl,s',wr',hk,hfl⟩;cases fl with
     |rt x=>cases hk|nm=>simp only at hk;obtain⟨y',hx,_⟩:=lF (X:=X) hk;cases hx
     |ex id=>
      simp only at hk;cases hb:Nat.beq id xid
      .simp[hb]at hk
      .simp only[hb,cond_true]at hk;have hid:=jU hb;subst hid;obtain⟨rfl,m',ok',R1',k1,k2,k3⟩:=hfl;obtain⟨y',hx,hL⟩:=lF (X:=X) hk;cases hx;obtain⟨m4,ok4,O4,R4,T4,hr4,km4⟩:=hL Rl R1' (λk l h=>k1 _ _ (km1 _ _ (km _ _ h))) (λk h=>(k3 k h).trans (hout1 k λh' =>h (k2 k h')));exact⟨.ex id,s3,_,hk3,rfl,QX (q:=q+1) l7 km4 hout (hR (a9F (Nat.le_succ q)) R4 T4 hr4)⟩
    .cases h
  exact key jb (x:=x0) hl R2 T2 hr km
 case loopR rs hd xid xs an=>
  unfold a5C at h;simp only at h;obtain⟨x0,hk0,hL0⟩:=lF (X:=X) h;obtain⟨m2,ok2,O,R2,T2,hr,km⟩:=hL0 Rl Rl (λ_ _ h=>h) (λ_ _=>rfl);obtain⟨y,hl,hen⟩:=JB hk0;clear hk0 h hL0;refine wp_loop_rounds jb ?_;unfold ah at hl;have key:∀(f:Nat) {x:ul hd} {m2:Mp} {ok2:Nat->Ty->Prop} {O:d1B} {a:Act} {w:World},
    rH (λx=>b5T core q rs hd xid xs an s x) f x=some y->
    Rel X (CB*q) (CB*q) (gV (Jy rs s)) m2 ok2 a w->Tk X (gV (Jy rs s)) m2 ok2 w O->a7g w.heap ok2 hd x a.tmps O->(∀k l,m k=some l->m2 k=some l)->
    Code.rounds X.P c (a9m X RetP (q+(2+n)) m s wr K r) f a w:=by
   intro f;induction f with
   |zero=>intro x m2 ok2 O a w h;simp[rH]at h|succ f ih=>
    intro x m2 ok2 O a w h R2 T2 hr km;rw[rounds_succ];unfold rH at h;split at h
    .rename_i x' hf;obtain⟨s1,w1,hcore,_,hout1,hR1⟩:=vz (X:=X) (show enter q hd rs s x _=some _ from hf);obtain⟨m1,R1,km1⟩:=hR1 (E9 _) R2 T2 hr;refine wp_mono (hc.run hcore (R1.upq l7) (λk l h=>km1 _ _ (km _ _ (hE _ _ h)))) ?_;rintro e a' w' ⟨fl,s',wr',hk,hfl⟩;cases fl with
     |rt x=>cases hk|ex id=>
      simp only at hk;cases hb:Nat.beq id xid
      .simp[hb]at hk
      .simp only[hb,cond_true]at hk;obtain⟨y',hx,_⟩:=lF (X:=X) hk;cases hx
     |nm=>obtain⟨rfl,m',ok',R1',k1,k2,k3⟩:=hfl;obtain⟨y',hx,hL⟩:=lF (X:=X) hk;cases hx;obtain⟨m4,ok4,O4,R4,T4,hr4,km4⟩:=hL Rl R1' (λk l h=>k1 _ _ (km1 _ _ (km _ _ h))) (λk h=>(k3 k h).trans (hout1 k λh' =>h (k2 k h')));exact ih h R4 T4 hr4 km4
    .rename_i y' hf;cases h;obtain⟨s3,w3,hk3,hrs,hout,hR⟩:=vz (X:=X) (show enter (q+1) xs rs s y' (λs' w' =>K (.ex xid) s' (Zp w' wr))=some r from hen);obtain⟨s1,w1,hcore,_,hout1,hR1⟩:=vz (X:=X) (show enter q hd rs s x _=some _ from hf);obtain⟨m1,R1,km1⟩:=hR1 (E9 _) R2 T2 hr;refine wp_mono (hc.run hcore (R1.upq l7) (λk l h=>km1 _ _ (km _ _ (hE _ _ h)))) ?_;rintro e a' w' ⟨fl,s',wr',hk,hfl⟩;cases fl with
     |rt x=>cases hk|nm=>simp only at hk;obtain⟨y',hx,_⟩:=lF (X:=X) hk;cases hx
     |ex id=>
      simp only at hk;cases hb:Nat.beq id xid
      .simp[hb]at hk
      .simp only[hb,cond_true]at hk;have hid:=jU hb;subst hid;obtain⟨rfl,m',ok',R1',k1,k2,k3⟩:=hfl;obtain⟨y',hx,hL⟩:=lF (X:=X) hk;cases hx;obtain⟨m4,ok4,O4,R4,T4,hr4,km4⟩:=hL Rl R1' (λk l h=>k1 _ _ (km1 _ _ (km _ _ h))) (λk h=>(k3 k h).trans (hout1 k λh' =>h (k2 k h')));exact⟨.ex id,s3,_,hk3,rfl,QX (q:=q+1) l7 km4 hout (hR (a9F (Nat.le_succ q)) R4 T4 hr4)⟩
    .rename_i r' hf;cases h;obtain⟨s1,w1,hcore,_,hout1,hR1⟩:=vz (X:=X) (show enter q hd rs s x _=some _ from hf);obtain⟨m1,R1,km1⟩:=hR1 (E9 _) R2 T2 hr;refine wp_mono (hc.run hcore (R1.upq l7) (λk l h=>km1 _ _ (km _ _ (hE _ _ h)))) ?_;rintro e a' w' ⟨fl,s',wr',hk,hfl⟩;cases fl with
     |rt x=>cases hk;obtain⟨rfl,hp⟩:=hfl;exact⟨.rt r',[],[],hen,rfl,hp⟩
     |nm=>simp only at hk;obtain⟨y',hx,_⟩:=lF (X:=X) hk;cases hx
     |ex id=>
      simp only at hk;cases hb:Nat.beq id xid
      .simp[hb]at hk
      .simp only[hb,cond_true]at hk;obtain⟨y',hx,_⟩:=lF (X:=X) hk;cases hx
    .cases h
  exact key jb (x:=x0) hl R2 T2 hr km
 all_goals (unfold a5C at h;cases h)
theorem FM(H:FxOk X)(hret:b2V X rt mE RetP):∀c:Code,DOk X mE RetP (den X.E rt c) c (Dl c)
 | .skip=>yx (n:=0) ⟨λ{q an s wr R K r} h {m ok a w} Rl hE=>wp_skip ⟨.nm,s,wr,h,rfl,Ur.here Rl l7⟩⟩| .label l=>yx (n:=0) ⟨λ{q an s wr R K r} h {m ok a w} Rl hE=>wp_label ⟨.nm,s,wr,h,rfl,Ur.here Rl l7⟩⟩| .exit id=>yx (n:=0) ⟨λ{q an s wr R K r} h {m ok a w} Rl hE=>wp_exit ⟨.ex id,s,wr,h,rfl,Ur.here Rl l7⟩⟩| .ret=>yx (n:=0) ⟨λ{q an s wr R K r} h {m ok a w} Rl hE=>by obtain⟨x,hk,hp⟩:=hret (K:=λx=>K (.rt x) [] []) h;exact wp_ret ⟨.rt x,[],[],hk,rfl,hp Rl hE⟩⟩
 | .region id ops draw=>yx (n:=1) ⟨λ{q an s wr R K r} h {m ok a w} Rl hE=>by
  obtain⟨s',w',hk,⟨t,rfl,hfr⟩,hR⟩:=a3Z H h;refine hR (Rl.chmono (lK _ _)) λm' ok' a' w2 R' k1 k2=>⟨.nm,s',_,hk,rfl,m',ok',?_,k1,λk h=>Wi.2 (.inr h),λk h=>hfr k λx hx hkx=>h (Wi.2 (.inl ⟨x,hx,hkx⟩))⟩;have e:CB*(q+1)=CB*q+CB:=by rw[Nat.mul_add,nH]
  rw[e];exact R'.climb (lK _ _)⟩
 | .seq x y=>by
  have hx:=FM H hret x;have hy:=FM H hret y;have:=yx (X:=X) (mE:=mE) (RetP:=RetP) (c:=.seq x y) (n:=Dl x+Dl y) (core:=λq a s w R K=>den X.E rt x q a.l s w R λfl s' w' =>match fl with
   | .nm=>den X.E rt y (q+Dl x) a.r s' w' R K| .ex id=>K (.ex id) s' w'
   | .rt r=>K (.rt r) s' w') (DOk.mk λ{q an s wr R K r} h {m ok a w} Rl hE=>by
    refine wp_seq (wp_mono (hx.run h Rl hE) ?_);rintro e a' w' ⟨fl,s',wr',hk,hfl⟩;cases fl with
    |nm=>obtain⟨rfl,m',ok',R1,k1,k2,k3⟩:=hfl;refine wp_mono (hy.run hk R1 (λk l h=>k1 _ _ (hE _ _ h))) ?_;rintro e a2 w2 ⟨fl,s2,wr2,hk2,hfl2⟩;exact⟨fl,s2,wr2,hk2,hfl2.trans k1 k2 k3 l7⟩
    |ex id=>obtain⟨rfl,hs⟩:=hfl;exact⟨.ex id,s',wr',hk,rfl,hs.up l7⟩
    |rt x=>obtain⟨rfl,hs⟩:=hfl;exact⟨.rt x,s',wr',hk,rfl,hs⟩)
  rw[show Dl (.seq x y)=Dl x+Dl y+1 by simp only[Dl];omega];exact this
 | .block id x=>by
  have hx:=FM H hret x;have:=yx (X:=X) (mE:=mE) (RetP:=RetP) (c:=.block id x) (n:=Dl x) (core:=λq a s w R K=>den X.E rt x q a.l s w R λfl s' w' =>match fl with
   | .nm=>K .nm s' w'| .ex j=>bif Nat.beq j id then K .nm s' w' else K (.ex j) s' w'
   | .rt r=>K (.rt r) s' w') (DOk.mk λ{q an s wr R K r} h {m ok a w} Rl hE=>by
    refine wp_block (wp_mono (hx.run h Rl hE) ?_);rintro e a' w' ⟨fl,s',wr',hk,hfl⟩;cases fl with
    |nm=>obtain⟨rfl,hs⟩:=hfl;exact⟨.nm,s',wr',hk,rfl,hs⟩
    |ex j=>
     obtain⟨rfl,hs⟩:=hfl;simp only at hk;cases hb:Nat.beq j id
     .simp only[hb,cond_false]at hk;have hne:j≠id:=λe=>by subst e;simp at hb
      simp only[Exit.inBlock,hne,if_false];exact⟨.ex j,s',wr',hk,rfl,hs⟩
     .simp only[hb,cond_true]at hk;have:=jU hb;subst this;simp only[Exit.inBlock,if_true];exact⟨.nm,s',wr',hk,rfl,hs⟩
    |rt x=>obtain⟨rfl,hs⟩:=hfl;exact⟨.rt x,s',wr',hk,rfl,hs⟩)
  rw[show Dl (.block id x)=Dl x+1 by simp only[Dl];omega];exact this
 | .cond c x y=>by
  have hx:=FM H hret x;have hy:=FM H hret y;have:=yx (X:=X) (mE:=mE) (RetP:=RetP) (c:=.cond c x y) (n:=Dl x+Dl y) (core:=λq a s w R K=>(uG c λv=>Cmd.ret v:Cmd V).runK s ([],[]) λv s' _=>match v with
   | .b t=>l9 t (den X.E rt x q a.l s' w R K) (den X.E rt y (q+Dl x) a.r s' w R K)
   |_=>none) (DOk.mk λ{q an s wr R K r} h {m ok a w} Rl hE=>by
    obtain⟨v,s',tr,he,hk⟩:=sU h;obtain⟨hv,hs⟩:=xu (bU Rl (K:=λv=>Cmd.ret v) (x:=c) (Q:=λv S' =>pg ⟨w.heap,ok,m⟩ v (a.eval c)/\S' =gV s) λv hv=>⟨hv,rfl⟩) he;cases v<;>try (simp at hk;done)
    case b t=>
     have R1:Rel X (CB*q) (CB*q) (gV s') m ok a w:=by rw[hs];exact Rl
     refine wp_cond_split (Xk hv) (λht=>?_) (λht=>?_)
     .subst ht;refine wp_mono (hx.run (show den X.E rt x q an.l s' wr R K=some r from hk) R1 hE) ?_;rintro e a2 w2 ⟨fl,s2,wr2,hk2,hfl2⟩;exact⟨fl,s2,wr2,hk2,hfl2.trans (λ_ _ h=>h) (λ_ h=>h) (λk _=>by rw[hs]) l7⟩
     .subst ht;refine wp_mono (hy.run (show den X.E rt y (q+Dl x) an.r s' wr R K=some r from hk) (R1.upq l7) hE) ?_;rintro e a2 w2 ⟨fl,s2,wr2,hk2,hfl2⟩;exact⟨fl,s2,wr2,hk2,hfl2.trans (λ_ _ h=>h) (λ_ h=>h) (λk _=>by rw[hs]) l7⟩)
  rw[show Dl (.cond c x y)=Dl x+Dl y+1 by simp only[Dl];omega];exact this
 | .loop x=>by have hx:=FM H hret x;have:=yx (a7Q hx);rw[show Dl (.loop x)=2+Dl x+1 by simp only[Dl];omega];exact this| .goto l=>⟨λh=>by simp[den]at h⟩| .scope x=>⟨λh=>by simp[den]at h⟩| .rangeFunc ..=>⟨λh=>by simp[den]at h⟩| .refuse ..=>⟨λh=>by simp[den]at h⟩
end
end Go.GP
namespace Go.GP
structure EnvOk (P:Program) (E:Env):Prop where
 nt:64*E.nt<=999936
 tt:∀t i,gB E.tt t=some i->TiOk P t i
 fs:∀p∈E.fs,nX P E.gl p.1 p.2
 eqs:∀t sh,gB E.eqs t=some sh->QS P t sh
 ms:∀p∈E.ms,Ji P p.1.1 p.1.2 p.2.1 p.2.2
 fn:∀p∈E.fs,∃fn,P.funcs[p.1]? =some fn/\fn.body.isSome=true/\(fn.name== "runtime.NumGoroutine")=false
theorem VF{C:Cx} :∀{a:List V} {xs:d1D},kK C a xs->a.length=xs.length
 |[],_,h=>by simp only[kK]at h;simp[h]|c::a,_,⟨v,r,e,h1,h2⟩=>by subst e;simp[VF h2]
def Xp(tmps:Array Value):ResultVar->Sem Value
 | .tmp t=>pure (tmps.getD t undef)| .cell a t=>do loadVar t (←asAddr (tmps.getD a undef))
def b2T(h:Array Obj)(tm:Nat->Value):d1B->d1D->d1B->Prop
 |[],os,B=>os=[]/\B=[]|n::ns,os,B=>(∃b arr T os' B',tm n= .pointer (some ⟨b,0,none⟩)/\h[b]? =some (.cells arr T (0,0))/\os= .agg arr::os' /\B=b::B' /\b2T h tm ns os' B')\/
  (∃t b arr T os' B',tm n= .iface t (.pointer (some ⟨b,0,none⟩))/\h[b]? =some (.cells arr T (0,0))/\os= .agg arr::os' /\B=b::B' /\b2T h tm ns os' B')\/
  (∃l os',Loc.view l none (tm n)/\os=tm n::os' /\b2T h tm ns os' B)
def a2Q(h:Array Obj)(ok:Nat->Ty->Prop):List MG->d1D->Prop
 |[],vs=>vs=[]|m::ms,vs=>∃v r cs x O,vs=v::r/\Xj m.1 v cs/\sH h ok m.2 none x cs O/\a2Q h ok ms r
theorem a1G{h:Array Obj}{ok:Nat->Ty->Prop} :∀{ms:List MG} {x:dR ms} {vs:d1D} {O:d1B},yj h ok ms x vs O->a2Q h ok ms vs
 |[],_,_,_,e=>e.1|[m],x,_,_,⟨v,cs,e,hg,hr⟩=>⟨v,[],cs,x,_,e,hg,hr,rfl⟩|m::m' ::r,x,_,_,⟨v,cs,vs',O1,O2,e,eo,hg,h1,h2⟩=>⟨v,vs',cs,x.1,O1,e,hg,h1,a1G h2⟩
section
variable {X:Fx} {cl ch:Nat} {m:Mp} {a:Act} {w:World}
theorem QA{α:Type}{Q:α->Sm->Prop}(H:FxOk X){S:Sm}{ok:Nat->Ty->Prop}(R:Rel X cl ch S m ok a w):∀(l:List ResultVar) {K:List V->Cmd α}
  (hK:∀vs rvs,kK ⟨w.heap,ok,m⟩ vs rvs->rvs.length=l.length->(l.mapM (Xp a.tmps)).run X.P w= .ok rvs w->(K vs).post S Q),(Xo X.E l K).post S Q
 |[],K,hK=>hK [] [] rfl rfl x9
 | .tmp t::l,K,hK=>by unfold Xo;refine iD λhb=>gZ ?_;refine QA H R l λvs rvs hr hl hrun=>?_;refine hK _ (a.tmps.getD t undef::rvs) ⟨_,_,rfl,R.slot t (Tz hb),hr⟩ (by simp[hl]) ?_;simp only[List.mapM_cons,H8,Xp,aI,J8,hrun]
 | .cell p t::l,K,hK=>by unfold Xo;refine iD λhb=>gZ ?_;refine NZ H R (R.slot p (Tz hb)) λv u ad hv hx hload=>?_;refine QA H R l λvs rvs hr hl hrun=>?_;refine hK _ (u::rvs) ⟨_,_,rfl,hv,hr⟩ (by simp[hl]) ?_;simp only[List.mapM_cons,H8,Xp,hx,asAddr,aI,J8,hload,hrun]
theorem La{α:Type}{Q:α->Sm->Prop} :∀(ns:d1B) {S:Sm} {ok:Nat->Ty->Prop} {T:d1B} {K:List V->Cmd α} (R:Rel X cl ch S m ok a w) (hT:Tk X S m ok w T)
  (hK:∀S' ws os B,Rel X cl ch S' m ok a w->Tk X S' m ok w (T++B)->b2T w.heap (λn=>a.tmps.getD n Go.undef) ns os B->kK ⟨w.heap,ok,m⟩ ws os->(K ws).post S' Q),(WZ ns K).post S Q
 |[],S,ok,T,K,R,hT,hK=>hK S [] [] [] R (by simpa using hT) ⟨rfl,rfl⟩ rfl|n::ns,S,ok,T,K,R,hT,hK=>by
  unfold WZ;refine iL λhb=>gZ ?_;have hsl:=R.slot n (by rw[iC]at hb;exact hb);split<;>try trivial
  .rename_i bx hSn;rw[hSn]at hsl;obtain⟨blk,hm,hv⟩:=hsl;refine gZ ?_;split<;>try trivial
   rename_i cs hS;obtain⟨blk',arr,Ty,hm',hh,hl⟩:=R.own_cells hS;simp only at hm;rw[hm]at hm';cases hm';refine nJ ?_;have hT1:Tk X (upd S (bV+bx) .dead) m ok w (T++[blk]):=hT.kill R bx (λb hb=>by simp at hb;subst hb;simp[aC,hS,hm]) x9;refine La ns (R.kill bx) hT1 λS' ws os B R' T' ho hw=>?_;exact hK S' _ (.agg arr::os) (blk::B) R' (by simpa using T') (.inl ⟨blk,arr,Ty,os,B,hv,hh,rfl,rfl,ho⟩) ⟨_,_,rfl,⟨arr,rfl,hl⟩,hw⟩
  .rename_i t u hSn;rw[hSn]at hsl;obtain⟨z,hz,_,hsl⟩:=hsl;split<;>try trivial
   rename_i bx;obtain⟨blk,hm,hv⟩:=hsl;refine gZ ?_;split<;>try trivial
   rename_i cs hS;obtain⟨blk',arr,Ty,hm',hh,hl⟩:=R.own_cells hS;simp only at hm;rw[hm]at hm';cases hm';refine nJ ?_;have hT1:Tk X (upd S (bV+bx) .dead) m ok w (T++[blk]):=hT.kill R bx (λb hb=>by simp at hb;subst hb;simp[aC,hS,hm]) x9;refine La ns (R.kill bx) hT1 λS' ws os B R' T' ho hw=>?_;exact hK S' _ (.agg arr::os) (blk::B) R' (by simpa using T') (.inr (.inl ⟨t,blk,arr,Ty,os,B,hv▸hz,hh,rfl,rfl,ho⟩)) ⟨_,_,rfl,⟨arr,rfl,hl⟩,hw⟩
  .rename_i bx hSn;rw[hSn]at hsl;obtain⟨l,hm,hv⟩:=hsl;refine La ns R hT λS' ws os B R' T' ho hw=>?_;exact hK S' _ (a.tmps.getD n Go.undef::os) B R' T' (.inr (.inr ⟨l,os,hv,rfl,ho⟩)) ⟨_,_,rfl,⟨l,hm,hv⟩,hw⟩
end
theorem Um{l:Loc}{v:Value}(h:l.view none v):(∃a n c,v= .slice a n c)\/∃b,v= .map (some b):=by
 cases l with
 |nil=>exact .inl ⟨_,_,_,h⟩|st b=>cases h|mp b=>exact .inr ⟨_,h⟩|arr blk off len cap sz=>exact .inl ⟨_,_,_,h⟩
theorem b1S{h h0:Array Obj}{ok0:Nat->Ty->Prop}{tm:Nat->Value} :∀(ms:List MG) (k:Nat) {vals:d1D} {os:d1D} {B:d1B},
  a2Q h0 ok0 ms vals->(∀i v,k+i∈oz ms k->vals[i]? =some v->tm (k+i)=v)->b2T h tm (oz ms k) os B->Dc h ms vals os B:=by
 have tail:∀{m:List MG} {k:Nat} {v:Value} {r:d1D},(∀i u,k+i∈oz m (k+1)->(v::r)[i]? =some u->tm (k+i)=u)->∀i u,(k+1)+i∈oz m (k+1)->r[i]? =some u->tm ((k+1)+i)=u:=by intro m k v r h i u hi hu;have e:k+(i+1)=k+1+i:=l7;have:=h (i+1) u (by rw[e];exact hi) (by simpa using hu);rwa[e]at this
 have tail2:∀{m:List MG} {k:Nat} {v:Value} {r:d1D},(∀i u,k+i∈k::oz m (k+1)->(v::r)[i]? =some u->tm (k+i)=u)->(tm k=v)/\∀i u,(k+1)+i∈oz m (k+1)->r[i]? =some u->tm ((k+1)+i)=u:=λh=>
  ⟨by have:=h 0 _ x9 rfl;simpa using this,tail (λi u hi hu=>h i u (V4 _ hi) hu)⟩
 intro ms;induction ms with
 |nil=>intro k vals os B hs ht ho;simp only[a2Q]at hs;subst hs;exact ho|cons m ms ih=>
  intro k vals os B hs ht ho;obtain⟨v,r,cs,x,O,rfl,hg,hr,hs⟩:=hs;obtain⟨g,m⟩:=m;cases m
  case box md=>
   unfold oz at ht ho;obtain⟨htv,ht⟩:=tail2 ht;obtain⟨blk,arr,T,O',hc,_⟩:=hr;have hv:v= .pointer (some ⟨blk,0,none⟩)\/∃ar,v= .agg ar:=by
    cases g
    .left;have hg:cs=[v]:=hg;rw[hg]at hc;simpa using hc
    .right;obtain⟨ar,e,_⟩:=hg;exact⟨ar,e⟩
   rcases ho with⟨b,arr,T,os',B',e,hh,e1,e2,ho'⟩|⟨t,b,arr,T,os',B',e,_⟩|⟨l,os',e,_⟩
   .exact⟨b,arr,T,os',B',htv.symm.trans e,hh,e1,e2,ih (k+1) hs ht ho'⟩
   .rw[htv]at e;rcases hv with rfl|⟨_,rfl⟩<;>cases e
   .rcases Um e with⟨_,_,_,e⟩|⟨_,e⟩<;>rw[htv]at e<;>rcases hv with rfl|⟨_,rfl⟩<;>cases e
  case ownb u=>
   unfold oz at ht ho;obtain⟨htv,ht⟩:=tail2 ht;obtain⟨l,v',hc,hvv,_⟩:=hr;have hv:((∃a n c,v= .slice a n c)\/∃b,v= .map (some b))\/∃ar,v= .agg ar:=by
    cases g
    .left;have hg:cs=[v]:=hg;rw[hg]at hc;simp only[O0,and_true]at hc;subst hc;exact Um hvv
    .right;obtain⟨ar,e,_⟩:=hg;exact⟨ar,e⟩
   rcases ho with⟨b,arr,T,os',B',e,_⟩|⟨t,b,arr,T,os',B',e,_⟩|⟨l,os',e,rfl,ho'⟩
   .rw[htv]at e;rcases hv with(⟨_,_,_,rfl⟩|⟨_,rfl⟩)|⟨_,rfl⟩<;>cases e
   .rw[htv]at e;rcases hv with(⟨_,_,_,rfl⟩|⟨_,rfl⟩)|⟨_,rfl⟩<;>cases e
   .rw[htv];exact⟨os',rfl,ih (k+1) hs ht ho'⟩
  case ifc t md=>
   cases md
   case box md=>
    unfold oz at ht ho;obtain⟨htv,ht⟩:=tail2 ht;obtain⟨u,hc,blk,arr,T,O',hu,_⟩:=hr;have hv:v= .iface t u\/∃ar,v= .agg ar:=by
     cases g
     .left;have hg:cs=[v]:=hg;rw[hg]at hc;simpa using hc
     .right;obtain⟨ar,e,_⟩:=hg;exact⟨ar,e⟩
    rcases ho with⟨b,arr,T,os',B',e,_⟩|⟨t,b,arr,T,os',B',e,hh,e1,e2,ho'⟩|⟨l,os',e,_⟩
    .rw[htv]at e;rcases hv with rfl|⟨_,rfl⟩<;>cases e
    .exact⟨t,b,arr,T,os',B',htv.symm.trans e,hh,e1,e2,ih (k+1) hs ht ho'⟩
    .rcases Um e with⟨_,_,_,e⟩|⟨_,e⟩<;>rw[htv]at e<;>rcases hv with rfl|⟨_,rfl⟩<;>cases e
   all_goals
    unfold oz at ht ho;exact ih (k+1) hs (tail ht) ho
  all_goals
   unfold oz at ht ho;exact ih (k+1) hs (tail ht) ho
theorem a6P:∀{a b:d1B},b7z a b=true->∀n∈a,n∈b
 |[],_,_,_,h=>by cases h|a::r,b,h,n,hn=>by
  unfold b7z at h;cases hb:Jz a b<;>rw[hb]at h
  .cases h
  .rcases D6.1 hn with rfl|hn
   .exact a2o hb
   .exact a6P h n hn
theorem Yf:∀{ms:List MG} {k n:Nat},n∈oz ms k->k<=n/\n<k+ms.length
 |[],k,n,h=>by cases h|(g,m)::ms,k,n,h=>by
  have key:n∈k::oz ms (k+1)->k<=n/\n<k+(ms.length+1):=λh=>by
   rcases D6.1 h with rfl|h
   .omega
   .have:=Yf h;omega
  cases m
  case box md=>exact key h
  case ownb u=>exact key h
  case ifc t md=>
   cases md
   case box md=>exact key h
   all_goals exact key (V4 _ h)
  all_goals exact key (V4 _ h)
variable {P:Program}
theorem a6x{w:World}{fn:Func}{tmps:Array Value}{rvs:d1D}(h:(fn.results.toList.mapM (Xp tmps)).run P w= .ok rvs w):
  ∃v,(results fn tmps).run P w= .ok v w/\a7f rvs.length v rvs:=by
 have hm:(fn.results.mapM (Xp tmps)).run P w= .ok rvs.toArray w:=by rw[Array.mapM_eq_mapM_toList];simp[h]
 have e:results fn tmps=(do let vs ←fn.results.mapM (Xp tmps);pure (if h:vs.size=1 then vs[0]else .tuple vs):Sem Value):=by unfold results;congr 1
 rw[e,H8,hm];clear h hm e;rcases rvs with _|⟨x,_|⟨y,r⟩⟩
 .exact⟨.tuple #[],rfl,rfl,rfl⟩
 .exact⟨x,rfl,rfl,rfl⟩
 .exact⟨.tuple (x::y::r).toArray,x9,rfl,rfl⟩
theorem TE{E:Env}{f:FuncId}{fn:Func}{c:Code}{ps:List MG}{rt:Ret}{an:Ann}{F:dR ps->Option rt.den}(hf:P.funcs[f]? =some fn)(hb:fn.body=some c)(hnt:fn.ntmps=E.nt)
  (hres:fn.results.toList=rt.rs.map (·.1)) (hE:EnvOk P E) (hF:∀x r,F x=some r->b1c E ps rt c an x=some r):
  nX P E.gl f ⟨ps,rt.rs.map (·.2),rt.outs.map (·.2),F⟩:=by
 intro w ok O vals x r hlt hnd hO hgl hrel hfn;have hden:=hF x r hfn;clear hfn hF;let X:Fx:=⟨P,E,w,O,ok,vals.toArray++Array.replicate (E.nt -vals.length) undef⟩;have H:FxOk X:=⟨hE.nt,hE.tt,hE.fs,hE.eqs,hE.ms,hE.fn⟩;refine calls_of_wp hf hb ?_;simp only[eQ];rw[hnt];generalize hact:({ tmps:=vals.toArray++Array.replicate (E.nt -vals.length) undef,defers:=[] } :Act)=act;have hvl:vals.length=ps.length:=Ti hrel;unfold b1c at hden;cases hle00:(Nat.ble ps.length E.nt&&QF (rt.outs.map (·.1)) (oz ps 0)&&b7z (rt.outs.map (·.1)) E.kp)
 .simp only[hle00,cond_false]at hden;cases hden
 simp only[hle00,cond_true]at hden;simp only[A8]at hle00;obtain⟨⟨hle0,hsame⟩,hsub⟩:=hle00;have hsame:=QG hsame;have hsub:=a6P hsub;have hle1:=ax hle0;obtain⟨u,s,tr,he,hk⟩:=sU hden;have hsize:act.tmps.size=E.nt:=by subst hact;simp;omega
 have hslots:∀n,n<vals.length->act.tmps.getD n undef=vals.getD n undef:=λn hn=>by subst hact;simp only[aT];rw[oL (by simpa using hn)];simp[qY]
 have R0:Rel X 0 0 (gV []) nom ok act w:={ size:=hsize,nodef:=(by subst hact;rfl),slot:=λn _=>trivial,box:=λn=>trivial,inj:=λn n' b h=>(by simp[gV,aC]at h),nd:=λn=>(by simp[gV,aC]),sep:=λn b h=>(by simp[gV,aC]at h),okLt:=hlt,okIn:=λb t h=>h,okOut:=λb t h=> .inl h,frame:=Frame'.refl w O,fresh:=λ_ _ _=>rfl,strict:=λ_ _=>rfl,gl:=hgl,kept:=λn _=>by subst hact;rfl };have T0:Tk X (gV []) nom ok w (O++[]):=⟨by simpa using hnd,λb hb=>by simp only[H6]at hb;obtain⟨h1,h2⟩:=hO b hb;exact⟨h1,h2,.inr hb,λn e=>by simp[gV,aC]at e⟩⟩
 have key:=xu (NQ (T:=[]) ps (Q:=λ_ S' =>∃m' vs,Rel X 0 CB S' m' ok act w/\kK ⟨w.heap,ok,m'⟩ vs vals) R0 (E9 0) T0 hrel
  (K:=λvs n=>bif Nat.ble n CB then a0C (List.range vs.length) vs else .fail) λS1 m1 vs n1 ch1 R1 c1 T1 k1 s1 l1 e1=>iD λhb=>by
   have hn1:=ax hb;have hvs:=VF l1;have hr:vals=(List.range vs.length).map λn=>act.tmps.getD n Go.undef:=by
    apply oQ
    .simp[hvs]
    .intro i h1 h2;simp only[List.getElem_map,List.getElem_range];rw[hslots i h1,qY,bn h1];rfl
   refine Yr _ (R1.chmono (ch' :=CB) l7) (by rw[←hr];exact l1) λS' R' =>⟨m1,vs,R',l1⟩) he
 obtain⟨mE,vs,RE,hvs⟩:=key;have Rq:Rel X (CB*1) (CB*1) (gV s) mE ok act w:=(RE.climb (pI _)).chmono (by rw[nH];exact E9 _);let RetP:rt.den->Act->World->Prop:=λr a' w' =>a'.defers=[]/\∃v,(results fn a'.tmps).run P w' = .ok v w' /\
  ∃v' ok' O' rs os B,(Ending.returned v)= .returned v' /\Frame' w w' O/\(∀b t,ok b t->ok' b t)/\(∀b t,ok' b t->b<w'.heap.size/\(ok b t\/w.heap.size<=b\/b∈O))/\
   (O' ++B).Nodup/\(∀b∈O' ++B,(∀t,¬ok' b t)/\b<w'.heap.size/\(w.heap.size<=b\/b∈O))/\
   a7f (rt.rs.map (·.2)).length v' rs/\Dc w'.heap ps vals os B/\yj w'.heap ok' (rt.rs.map (·.2)++rt.outs.map (·.2)) r (rs++os) O'
 have hret:b2V X rt mE RetP:=by
  intro s R K r h;obtain⟨x,s',tr,he,hk⟩:=sU h;refine⟨x,hk,λ{cl ch m ok1 a1 w1} R1 km=>?_⟩;refine xu (Q:=λx _=>RetP x a1 w1) ?_ he;unfold b8M;refine QA H R1 _ λvs1 rvs hv1 hl1 hrun=>La (T:=[]) _ R1 Tk.nil λS2 ws os B R2 T2 hout hws=>?_;refine a5c _ R2 T2 (OE hv1 hws) λS3 ok3 y O3 R3 T3 k3 s3 hy=>?_;simp only[G6]at T3;have hp:(B++O3).Perm (O3++B):=tV;rw[←hres]at hrun;obtain⟨v,hv,hrv⟩:=a6x hrun;refine⟨R3.nodef,v,hv,v,ok3,O3,rvs,os,B,rfl,R3.frame,R3.okIn,λb t hb=>⟨R3.okLt b t hb,R3.okOut b t hb⟩,hp.nodup_iff.1 T3.nodup,λb hb=>?_,?_,b1S ps 0 (a1G hrel) (λi v hi hv=>?_) (by rw[hsame]at hout;exact hout),hy⟩
  .obtain⟨f1,f2,f3,_⟩:=T3.free b (hp.mem_iff.2 hb);exact⟨f1,f2,f3⟩
  .refine⟨by rw[hl1];simp,hrv.2⟩
  .have h1:=R1.kept (0+i) (hsub _ (by rw[hsame];exact hi));have hlt:=(Yf hi).2;rw[h1];have h2:=hslots (0+i) (by rw[hvl];omega);rw[←hact]at h2;refine h2.trans ?_;rw[qY,iH,hv];rfl
 have hwp:=(FM H hret c).run hk Rq (λ_ _ h=>h);refine wp_mono hwp ?_;rintro e a' w' ⟨fl,s',wr',hk2,hfl⟩;cases fl with
 |ex id=>cases hk2|rt y=>cases hk2;obtain⟨rfl,h1,v,h2,h3⟩:=hfl;exact⟨h1,v,h2,h3⟩
 |nm=>obtain⟨rfl,m',ok',R',k1,_,_⟩:=hfl;obtain⟨y,hy,hp⟩:=hret (K:=some) hk2;cases hy;obtain⟨h1,v,h2,h3⟩:=hp R' k1;exact⟨h1,v,h2,h3⟩
def zV:V->Value->Bool
 | .undef,v=>v.oneCell'| .b x,.bool y=>x==y| .i k n,.int k' n' =>decide (k=k')&&decide (n=n')| .s l,.string s=>decide (l=s.data.toList)| .nl,.slice none 0 0=>true| .sl t xs,.map none=>t.isEnt&&xs.isEmpty|_,_=>false
def zL:List V->d1D->Bool
 |[],[]=>true|c::cs,v::vs=>zV c v&&zL cs vs|_,_=>false
theorem b9u{C:Cx}{c:V}{v:Value}(h:zV c v=true):Bv C c v/\v.oneCell' =true:=by
 unfold zV at h;split at h
 .exact⟨trivial,h⟩
 .simp at h;subst h;exact⟨rfl,rfl⟩
 .simp at h;obtain⟨rfl,rfl⟩:=h;exact⟨rfl,rfl⟩
 .rename_i l s;have:=of_decide_eq_true h;subst this;exact⟨rfl,rfl⟩
 .exact⟨rfl,rfl⟩
 .rename_i t xs;simp only[A8,List.isEmpty_iff]at h;obtain⟨h1,rfl⟩:=h;exact⟨(a8s h1).2 ⟨none,rfl,λ_=>rfl,λ_ h=>nomatch h⟩,rfl⟩
 .cases h
theorem b0H{C:Cx} :∀{cs:List V} {vs:d1D},zL cs vs=true->jf C cs vs
 |[],[],_=>rfl|[],_::_,h=>by simp[zL]at h|_::_,[],h=>by simp[zL]at h|c::cs,v::vs,h=>by unfold zL at h;simp only[A8]at h;obtain⟨h1,h2⟩:=b9u (C:=C) h.1;exact⟨v,vs,rfl,h1,h2,b0H h.2⟩
def VG:(t:Ty)->d1D->Option d1D
 | .bool,.bool b::r=>bif b then none else some r| .int k,.int k' n::r=>bif decide (k=k')&&decide (n=0)then some r else none| .str,.string s::r=>bif decide (s.data.toList=[])then some r else none| .sl t,.slice none 0 0::r=>bif t.isEnt then none else some r| .sl t,.map none::r=>bif t.isEnt then some r else none
 | .prod a b,vs=>match VG a vs with|some r=>VG b r|none=>none
 | .unit,vs=>some vs|_,_=>none
theorem Xl:∀{t:Ty} {vs r:d1D},VG t vs=some r->∃cs,vs=cs++r/\oD #[] (λ_ _=>False) t t.zero cs
 | .bool,vs,r,h=>by
  cases vs with
  |nil=>cases h|cons v vs=>
   cases v<;>try (cases h;done)
   case bool b=>
    cases b
    .simp only[VG,cond_false,O8]at h;subst h;exact⟨[.bool false],rfl,rfl⟩
    .simp[VG]at h
 | .int k,vs,r,h=>by
  cases vs with
  |nil=>cases h|cons v vs=>
   cases v<;>try (cases h;done)
   case int k' n=>
    unfold VG at h;cases hc:(decide (k=k')&&decide (n=0))
    .simp[hc]at h
    .simp only[hc,cond_true,O8]at h;simp only[A8,decide_eq_true_eq]at hc;obtain⟨rfl,rfl⟩:=hc;subst h;exact⟨[.int k 0],rfl,rfl⟩
 | .str,vs,r,h=>by
  cases vs with
  |nil=>cases h|cons v vs=>
   cases v<;>try (cases h;done)
   case string s=>
    unfold VG at h;cases hc:decide (s.data.toList=[])
    .simp only[hc,cond_false]at h;cases h
    .simp only[hc,cond_true,O8]at h;subst h;have he:=of_decide_eq_true hc;refine⟨[.string s],rfl,?_⟩;show[Value.string s]=[Value.string ⟨(Ty.zero .str).toArray⟩];congr 2;obtain⟨⟨l⟩⟩:=s;simp only at he;subst he;rfl
 | .sl t,vs,r,h=>by
  cases vs with
  |nil=>cases h|cons v vs=>
   cases v<;>try (cases h;done)
   case slice a n c=>
    cases a<;>try (cases h;done)
    cases n<;>try (cases h;done)
    cases c<;>try (cases h;done)
    cases ht:t.isEnt<;>simp only[VG,ht,cond_true,cond_false,O8]at h
    .subst h;exact⟨[.slice none 0 0],rfl,.inl ⟨ht,none,0,rfl,E9 _,λi x hi=>by simp[Ty.zero]at hi⟩⟩
    .cases h
   case map mv=>
    cases mv<;>try (cases h;done)
    cases ht:t.isEnt<;>simp only[VG,ht,cond_true,cond_false,O8]at h
    .cases h
    .subst h;exact⟨[.map none],rfl,.inr ⟨ht,none,rfl,λ_=>rfl,λ_ h=>nomatch h⟩⟩
 | .ent ..,vs,r,h=>by
  cases vs with
  |nil=>cases h|cons v vs=>cases v<;>cases h
 | .unit,vs,r,h=>by
  have:vs=r:=by cases vs<;>(simp only[VG,O8]at h;exact h)
  subst this;exact⟨[],rfl,rfl⟩
 | .prod a b,vs,r,h=>by
  have h' :(match VG a vs with|some r=>VG b r|none=>none)=some r:=by cases vs<;>exact h
  cases ha:VG a vs with
  |none=>simp[ha]at h'|some r1=>simp only[ha]at h';obtain⟨c,rfl,h1⟩:=Xl ha;obtain⟨d,rfl,h2⟩:=Xl h';exact⟨c++d,x9,c,d,rfl,h1,h2⟩
def b1f:List (Nat×Nat)->List Field->Bool
 |[],[]=>true|(t,o)::r,f::fs=>Nat.beq f.type t&&Nat.beq f.offset o&&b1f r fs|_,_=>false
theorem a1R:∀{a:List (Nat×Nat)} {b:List Field},b1f a b=true->b.map (λf=>(f.type,f.offset))=a
 |[],[],_=>rfl|[],_::_,h=>by simp[b1f]at h|_::_,[],h=>by simp[b1f]at h|(t,o)::r,f::fs,h=>by unfold b1f at h;simp only[A8]at h;have h1:=jU h.1.1;have h2:=jU h.1.2;simp[a1R h.2,←h1,←h2]
def b7E(P:Program)(t:TypeId)(td:TD):Bool:=
 match P.underlying t with
 |none=>false
 |some d=>match td,d with
  | .bool,.bool=>true| .int k,.int k' =>decide (k=k')| .str,.string=>true| .sl e,.slice e' =>Nat.beq e e'| .ptr e,.pointer e' =>Nat.beq e e'| .struct fs,.struct fields=>b1f fs fields.toList| .arr n e,.array n' e' =>Nat.beq n n' &&Nat.beq e e'| .map k e,.map k' e' =>Nat.beq k k' &&Nat.beq e e'| .other,.struct _=>false| .other,.array _ _=>false| .other,_=>true|_,_=>false
theorem a9b{t:TypeId}{td:TD}(h:b7E P t td=true):b7F P t td:=by
 unfold b7E at h;split at h
 .cases h
 .rename_i d hd;split at h<;>try (cases h;done)
  .exact hd
  .have:=of_decide_eq_true h;subst this;exact hd
  .exact hd
  .have:=jU h;subst this;exact hd
  .have:=jU h;subst this;exact hd
  .rename_i fs fields;exact⟨fields,hd,a1R h⟩
  .simp only[A8]at h;have h1:=jU h.1;have h2:=jU h.2;subst h1;subst h2;exact hd
  .simp only[A8]at h;have h1:=jU h.1;have h2:=jU h.2;subst h1;subst h2;exact hd
  .rename_i h1 h2;refine⟨d,hd,?_⟩;cases d<;>first|trivial|exact absurd rfl (h1 _)|exact absurd rfl (h2 _ _)
def b0I(inf:TypeInfo)(i:TI):Bool:=
 bif Nat.beq i.zero.length i.size then(match inf.zero with|some z=>zL i.zero z.cells.toList|none=>false)else true
def c0d(inf:TypeInfo)(i:TI):Bool:=
 match i.ty with
 |none=>true|some u=>Nat.beq u.size i.size&&(match inf.zero with|some z=>(match VG u z.cells.toList with|some []=>true|_=>false)|none=>false)
def b9y(inf:TypeInfo)(i:TI):Bool:=
 match inf.zero with
 |none=>true|some z=>bif dN i.td then(match z with| .agg _=>true|_=>false)else z.oneCell'
def b7G(P:Program)(t:TypeId)(i:TI):Bool:=
 match P.info? t with
 |none=>false|some inf=>Nat.beq inf.size i.size&&Nat.beq inf.bytes i.bytes&&b0I inf i&&c0d inf i&&b7E P t i.td&&(dN i.td || Nat.beq i.size 1)&&b9y inf i
theorem a9c{t:TypeId}{i:TI}(h:b7G P t i=true):TiOk P t i:=by
 unfold b7G at h;split at h
 .cases h
 .rename_i inf hi;simp only[A8,kD]at h;obtain⟨⟨⟨⟨⟨⟨h1,h2⟩,h3⟩,h4⟩,h5⟩,h6⟩,h8⟩:=h;refine⟨⟨inf,hi,jU h1,jU h2,λhl=>?_,λu hu=>?_⟩,a9b h5,λha=>?_,λinf' z hinf hz=>?_⟩
  .unfold b0I at h3;rw[hl,show Nat.beq i.size i.size=true from Nat.beq_refl _]at h3;simp only[cond_true]at h3;split at h3
   .rename_i z hz;exact⟨z,hz,b0H h3⟩
   .cases h3
  .unfold c0d at h4;simp only[hu,A8]at h4;refine⟨jU h4.1,?_⟩;have h7:=h4.2;split at h7
   .rename_i z hz;split at h7
    .rename_i hr;obtain⟨cs,e,hrep⟩:=Xl hr;rw[H6]at e;exact⟨z,hz,by rw[e];exact hrep⟩
    .cases h7
   .cases h7
  .rcases h6 with h6|h6
   .rw[ha]at h6;cases h6
   .exact jU h6
  .rw[hi]at hinf;cases hinf;unfold b9y at h8;rw[hz]at h8;refine⟨λha=>?_,λha=>?_⟩<;>simp only[ha,cond_true,cond_false]at h8
   .split at h8
    .exact⟨_,rfl⟩
    .cases h8
   .exact h8
def a6U(P:Program):List (Nat×TI)->Bool
 |[]=>true|(t,i)::r=>b7G P t i&&a6U P r
theorem a0P{P:Program} :∀{tt:List (Nat×TI)},a6U P tt=true->∀t i,gB tt t=some i->TiOk P t i
 |[],_,t,i,h=>by simp[gB]at h|(k,v)::r,hc,t,i,h=>by
  unfold a6U at hc;simp only[A8]at hc;unfold gB at h;cases hb:Nat.beq k t
  .simp only[hb,cond_false]at h;exact a0P hc.2 t i h
  .simp only[hb,cond_true,O8]at h;have:=jU hb;subst this;subst h;exact a9c hc.1
def a2c(P:Program):List (Nat×FSpec)->Bool
 |[]=>true|(f,_)::r=>(match P.funcs[f]? with|some fn=>fn.body.isSome&&!(fn.name== "runtime.NumGoroutine")|none=>false)&&a2c P r
theorem m_{P:Program} :∀{l:List (Nat×FSpec)},a2c P l=true->∀p∈l,∃fn,P.funcs[p.1]? =some fn/\fn.body.isSome=true/\(fn.name== "runtime.NumGoroutine")=false
 |[],_,p,h=>by cases h|(k,v)::r,hc,p,h=>by
  unfold a2c at hc;simp only[A8]at hc;rcases D6.1 h with rfl|h
  .have h1:=hc.1;split at h1
   .rename_i fn hf;simp only[A8,eH]at h1;exact⟨fn,hf,h1.1,h1.2⟩
   .cases h1
  .exact m_ hc.2 p h
end Go.GP
namespace Go.GP
def b2O(P:Program)(gl:List (Nat×(t:Ty)×List t.den)):List (Nat×FSpec)->Prop
 |[]=>True|(f,s)::r=>nX P gl f s/\b2O P gl r
theorem a1E{P:Program}{gl:List (Nat×(t:Ty)×List t.den)} :∀{l:List (Nat×FSpec)},b2O P gl l->∀p∈l,nX P gl p.1 p.2
 |[],_,p,h=>by cases h|(k,v)::r,hc,p,h=>by
  rcases D6.1 h with rfl|h
  .exact hc.1
  .exact a1E hc.2 p h
def a4w(P:Program):List ((Nat×String)×Nat×Option Nat)->Prop
 |[]=>True|(k,r)::l=>Ji P k.1 k.2 r.1 r.2/\a4w P l
theorem Zd{P:Program} :∀{l:List ((Nat×String)×Nat×Option Nat)},a4w P l->∀p∈l,Ji P p.1.1 p.1.2 p.2.1 p.2.2
 |[],_,p,h=>by cases h|(k,v)::r,hc,p,h=>by
  rcases D6.1 h with rfl|h
  .exact hc.1
  .exact Zd hc.2 p h
theorem PQ{P:Program}{E:Env}(hnt:Nat.ble (64*E.nt) 999936=true)(htt:a6U P E.tt=true)(heq:∀t sh,gB E.eqs t=some sh->QS P t sh)(hfn:a2c P E.fs=true)(hms:a4w P E.ms)(hfs:b2O P E.gl E.fs):EnvOk P E:=
 ⟨ax hnt,a0P htt,a1E hfs,heq,Zd hms,m_ hfn⟩
end Go.GP
namespace Go.GP
def NR(rec:TypeId->List Ty->Bool)(cells:TypeId->Nat):Nat->List Field->List Ty->Bool
 |_,[],sh=>sh.isEmpty|off,f::r,sh=>(f.name != "_")&&Nat.beq f.offset off&&Nat.ble (cells f.type) sh.length&&rec f.type (sh.take (cells f.type))&&NR rec cells (off+cells f.type) r (sh.drop (cells f.type))
def BV(P:Program):Nat->TypeId->List Ty->Bool
 |0,_,_=>false
 |n+1,t,sh=>match P.underlying t with
  |some .bool=>(match sh with|[.bool]=>true|_=>false)|some (.int k)=>(match sh with|[.int k']=>decide (k=k')|_=>false)|some .string=>(match sh with|[.str]=>true|_=>false)|some (.struct fs)=> !P.stoodInHeld t&&(P.info? t).isSome&&Nat.beq (P.cellsOf t) sh.length&&NR (BV P n) P.cellsOf 0 fs.toList sh|_=>false
theorem kZ.length:∀{sh:List Ty} {vs:d1D},kZ sh vs->vs.length=sh.length
 |[],_,h=>by simp only[kZ]at h;subst h;rfl| .bool::ts,_,⟨_,_,rfl,h⟩=>by simp[kZ.length h]| .int _::ts,_,⟨_,_,rfl,h⟩=>by simp[kZ.length h]| .str::ts,_,⟨_,_,rfl,h⟩=>by simp[kZ.length h]| .sl _::_,_,h=>h.elim| .prod _ _::_,_,h=>h.elim| .unit::_,_,h=>h.elim
theorem kZ.take_drop:∀{sh:List Ty} {vs:d1D} (n:Nat),kZ sh vs->kZ (sh.take n) (vs.take n)/\kZ (sh.drop n) (vs.drop n)
 |sh,vs,0,h=>⟨by simp[kZ],h⟩|[],_,n+1,h=>by simp only[kZ]at h;subst h;exact⟨rfl,rfl⟩| .bool::ts,_,n+1,⟨b,r,rfl,h⟩=>by have:=kZ.take_drop n h;exact⟨⟨b,_,rfl,this.1⟩,this.2⟩| .int _::ts,_,n+1,⟨b,r,rfl,h⟩=>by have:=kZ.take_drop n h;exact⟨⟨b,_,rfl,this.1⟩,this.2⟩| .str::ts,_,n+1,⟨b,r,rfl,h⟩=>by have:=kZ.take_drop n h;exact⟨⟨b,_,rfl,this.1⟩,this.2⟩| .sl _::_,_,_+1,h=>h.elim| .prod _ _::_,_,_+1,h=>h.elim| .unit::_,_,_+1,h=>h.elim
theorem Nu{C:Cx} :∀{sh:List Ty} {cs:List V} {vs:d1D},Fe sh cs=true->jf C cs vs->kZ sh vs
 |[],[],vs,_,h=>h|[],_::_,_,h,_=>by simp[Fe]at h|t::ts,[],_,h,_=>by cases t<;>simp[Fe]at h|t::ts,c::cs,_,h,⟨v,r,rfl,h1,_,h3⟩=>by
  cases t<;>cases c<;>simp only[Fe,A8,decide_eq_true_eq]at h<;>try (cases h;done)
  case bool.b x=>have h1:v= .bool x:=h1;subst h1;exact⟨_,_,rfl,Nu h h3⟩
  case int.i k k' n=>have h1:v= .int k' n:=h1;obtain⟨rfl,h⟩:=h;subst h1;exact⟨_,_,rfl,Nu h h3⟩
  case str.s l=>have h1:v= .string ⟨l.toArray⟩:=h1;subst h1;exact⟨_,_,rfl,Nu h h3⟩
theorem a3e{a b:V}{r q:List V}{e:Bool}(h:Eh (a::r) (b::q)=some e):∃e1 e2,eq1 a b=some e1/\Eh r q=some e2/\e=(e1&&e2):=by
 unfold Eh at h;split at h
 .cases h
 .rename_i e1 h1;split at h
  .cases h;exact⟨_,true,h1,rfl,x9⟩
  .split at h
   .rename_i e2 h2;cases h;exact⟨_,_,h1,h2,rfl⟩
   .cases h
theorem UG{C:Cx} :∀{cs ds:List V} {xs ys:d1D} {e:Bool},jf C cs xs->jf C ds ys->Eh cs ds=some e->(e=true↔xs=ys)
 |[],[],xs,ys,e,h1,h2,h=>by
  simp only[jf]at h1 h2;subst h1;subst h2;have:e=true:=by simpa[Eh]using h.symm
  simp[this]
 |[],_::_,_,_,_,_,_,h=>by simp[Eh]at h|_::_,[],_,_,_,_,_,h=>by simp[Eh]at h|a::r,b::q,xs,ys,e,hx,hy,h=>by
  obtain⟨v,vs,rfl,hv,_,hvs⟩:=hx;obtain⟨u,us,rfl,hu,_,hus⟩:=hy;obtain⟨e1,e2,k1,k2,rfl⟩:=a3e h;have ih:=UG hvs hus k2;have hd:e1=true↔v=u:=by
   cases a<;>cases b<;>simp only[eq1]at k1<;>try (cases k1;done)
   case b.b x y=>have hv:v= .bool x:=hv;have hu:u= .bool y:=hu;subst hv;subst hu;cases k1;simp[jY]
   case i.i j x k y=>
    have hv:v= .int j x:=hv;have hu:u= .int k y:=hu;subst hv;subst hu;by_cases hk:j=k
    .subst hk;simp only[decide_true,cond_true,O8]at k1;subst k1;simp[x8]
    .simp[hk]at k1
   case s.s x y=>have hv:v= .string ⟨x.toArray⟩:=hv;have hu:u= .string ⟨y.toArray⟩:=hu;subst hv;subst hu;cases k1;simp[seq]
  simp only[A8,O0,hd,ih]
def VOf(P:Program)(t:TypeId)(xs:d1D)(v:Value):Prop:=match P.underlying t with
 |some (.struct _)=>v= .agg xs.toArray|_=>xs=[v]
variable {P:Program}{t:TypeId}
theorem a7k{i:TypeInfo}(h:P.info? t=some i):P.cellsOf t=i.size:=by simp[Program.cellsOf,h]
variable {n:Nat}{sh:List Ty}
theorem Y_(hc:BV P n t sh=true)(hcs:P.cellsOf t=sh.length){cs:Array Value}{off:Nat}(hl:off+sh.length<=cs.size)(w:World):
  ∃v,(part t cs off).run P w= .ok v w/\VOf P t ((cs.toList.drop off).take sh.length) v:=by
 cases n with
 |zero=>cases hc|succ n=>
  unfold BV at hc;split at hc
  all_goals try (cases hc;done)
  .rename_i ht;split at hc<;>try (cases hc;done)
   simp only[H9,dG]at hl ⊢;refine⟨cs[off]'l7,?_,?_⟩
   .have h1:=Je (P:=P) (t:=t) (d:=.bool) ht w;simp only[part,H8,h1,J8,dN,dL,if_false,Y2 (show off<cs.size by omega),aI]
   .simp only[VOf,ht];apply oQ
    .simp;omega
    .intro i h1 h2;simp at h1 h2;simp[show i=0 by omega]
  .rename_i k ht;split at hc<;>try (cases hc;done)
   simp only[H9,dG]at hl ⊢;refine⟨cs[off]'l7,?_,?_⟩
   .have h1:=Je (P:=P) (t:=t) (d:=.int k) ht w;simp only[part,H8,h1,J8,dN,dL,if_false,Y2 (show off<cs.size by omega),aI]
   .simp only[VOf,ht];apply oQ
    .simp;omega
    .intro i h1 h2;simp at h1 h2;simp[show i=0 by omega]
  .rename_i ht;split at hc<;>try (cases hc;done)
   simp only[H9,dG]at hl ⊢;refine⟨cs[off]'l7,?_,?_⟩
   .have h1:=Je (P:=P) (t:=t) (d:=.str) ht w;simp only[part,H8,h1,J8,dN,dL,if_false,Y2 (show off<cs.size by omega),aI]
   .simp only[VOf,ht];apply oQ
    .simp;omega
    .intro i h1 h2;simp at h1 h2;simp[show i=0 by omega]
  .rename_i fs ht;simp only[A8]at hc;obtain⟨⟨⟨_,h2⟩,_⟩,_⟩:=hc;obtain⟨inf,hinf⟩:=GY.1 h2;have hsz:=a7k hinf;refine⟨.agg (cs.extract off (off+inf.size)),?_,?_⟩
   .have h1:=Je (P:=P) (t:=t) (d:=.struct (fs.toList.map λf=>(f.type,f.offset))) ⟨fs,ht,rfl⟩ w;have h3:(sizeOf t).run P w= .ok inf.size w:=by
     simp[sizeOf,typeInfo,hinf]
    simp only[part,H8,h1,J8,dN,if_true,h3,aI]
   .simp only[VOf,ht];congr 1;apply lX;rw[←hsz,hcs];simp[pF,Array.toList_extract]
theorem WB{P:Program} :∀(n:Nat) (t:TypeId) (sh:List Ty),BV P n t sh=true->∀(d:Nat),n<=d->∀(xs ys:d1D) (v u:Value),kZ sh xs->kZ sh ys->VOf P t xs v->VOf P t ys u->∀w:World,
  ∃r,(Op.equalIn d t v u).run P w= .ok r w/\(r=true↔xs=ys)
 |0,_,_,h,_,_,_,_,_,_,_,_,_,_,_=>by cases h|n+1,t,sh,h,d,hd,xs,ys,v,u,hx,hy,hv,hu,w=>by
  obtain⟨d,rfl⟩:∃k,d=k+1:=⟨d -1,l7⟩;unfold BV at h;split at h
  all_goals try (cases h;done)
  .rename_i ht;split at h<;>try (cases h;done)
   obtain⟨a,r1,rfl,h1⟩:=hx;obtain⟨b,r2,rfl,h2⟩:=hy;simp only[kZ]at h1 h2;subst h1;subst h2;simp only[VOf,ht]at hv hu;obtain rfl:=(aP hv).1;obtain rfl:=(aP hu).1;exact⟨a==b,run_equalIn_bool w d t a b ht,x9⟩
  .rename_i k ht;split at h<;>try (cases h;done)
   have:=of_decide_eq_true h;subst this;obtain⟨a,r1,rfl,h1⟩:=hx;obtain⟨b,r2,rfl,h2⟩:=hy;simp only[kZ]at h1 h2;subst h1;subst h2;simp only[VOf,ht]at hv hu;obtain rfl:=(aP hv).1;obtain rfl:=(aP hu).1;exact⟨a==b,run_equalIn_int w d t k k a b ht,x9⟩
  .rename_i ht;split at h<;>try (cases h;done)
   obtain⟨a,r1,rfl,h1⟩:=hx;obtain⟨b,r2,rfl,h2⟩:=hy;simp only[kZ]at h1 h2;subst h1;subst h2;simp only[VOf,ht]at hv hu;obtain rfl:=(aP hv).1;obtain rfl:=(aP hu).1;refine⟨a.toList==b.toList,run_equalIn_string w d t a b ht,?_⟩;constructor
   .intro h;have h:=eq_of_beq h;rw[ByteArray.toList_eq,ByteArray.toList_eq]at h;obtain⟨⟨x⟩⟩:=a;obtain⟨⟨y⟩⟩:=b;simp only at h;rw[h]
   .intro h;injection h with h;injection h with h;rw[h];simp
  .rename_i fs ht;simp only[A8,eH]at h;obtain⟨⟨⟨h1,h2⟩,h3⟩,h4⟩:=h;have hlen:=jU h3;simp only[VOf,ht]at hv hu;subst hv;subst hu;have hfo:P.fieldsOf t=fs:=by simp[Program.fieldsOf,ht]
   rw[run_equalIn_struct w d t _ _ (by rw[hfo];exact ht) h1,hfo];have hxl:=hx.length;have hyl:=hy.length;have key:∀(l:List Field) (off:Nat) (s:List Ty),NR (BV P n) P.cellsOf off l s=true->s=sh.drop off->off<=sh.length->∃r,(Op.eqFields d xs.toArray ys.toArray l).run P w= .ok r w/\(r=true↔xs.drop off=ys.drop off):=by
    intro l;induction l with
    |nil=>
     intro off s hs he ho;unfold NR at hs;have:s=[]:=by simpa using hs
     have hoff:off=sh.length:=by have:=congrArg List.length (he.symm.trans this);simp at this;omega
     refine⟨true,rfl,?_⟩;rw[dV l7,dV l7];simp
    |cons f r ih=>
     intro off s hs he ho;unfold NR at hs;simp only[A8]at hs;obtain⟨⟨⟨⟨g1,g2⟩,g3⟩,g4⟩,g5⟩:=hs;have g2:=jU g2;have g3:=ax g3;subst he;simp only[oU]at g3;have hsl:((sh.drop off).take (P.cellsOf f.type)).length=P.cellsOf f.type:=by simp;omega
     obtain⟨v1,e1,o1⟩:=Y_ g4 hsl.symm (cs:=xs.toArray) (off:=off) (by rw[hsl];simp;omega) w;obtain⟨u1,e2,o2⟩:=Y_ g4 hsl.symm (cs:=ys.toArray) (off:=off) (by rw[hsl];simp;omega) w;rw[hsl]at o1 o2;obtain⟨b1,e3,q1⟩:=WB n f.type _ g4 d l7 _ _ v1 u1 (((hx.take_drop off).2).take_drop _).1 (((hy.take_drop off).2).take_drop _).1 o1 o2 w;obtain⟨b2,e4,q2⟩:=ih (off+P.cellsOf f.type) _ g5 (by rw[aO]) l7;have hne:f.name≠ "_":=by simpa using g1
     have split:(xs.drop off=ys.drop off)↔((xs.drop off).take (P.cellsOf f.type)=(ys.drop off).take (P.cellsOf f.type)/\xs.drop (off+P.cellsOf f.type)=ys.drop (off+P.cellsOf f.type)):=by
      constructor
      .intro h;rw[h];exact⟨rfl,by rw[←aO,←aO,h]⟩
      .rintro⟨p1,p2⟩;rw[←gI (P.cellsOf f.type) (xs.drop off),←gI (P.cellsOf f.type) (ys.drop off),p1,aO,aO,p2]
     simp only[Op.eqFields,if_pos hne,H8,g2,e1,e2,e3,J8];cases b1 with
     |false=>
      refine⟨false,x9,?_⟩;have:¬((xs.drop off).take (P.cellsOf f.type)=(ys.drop off).take (P.cellsOf f.type)):=λh=>by have:=q1.2 h;cases this
      simp only[dL,false_iff];intro h;exact this (split.1 h).1
     |true=>refine⟨b2,by simpa using e4,?_⟩;rw[q2,split];exact⟨λh=>⟨q1.1 rfl,h⟩,λh=>h.2⟩
   have:=key fs.toList 0 sh h4 x9 l7;simpa using this
theorem a1O{P:Program}(em:Bool):∀(n:Nat) (t:TypeId) (sh:List Ty),BV P n t sh=true->∀(d:Nat),n<=d->∀(xs:d1D) (v:Value),kZ sh xs->VOf P t xs v->∀w:World,
  (Instr.checkKey em d t v).run P w= .ok () w
 |0,_,_,h,_,_,_,_,_,_,_=>by cases h|n+1,t,sh,h,d,hd,xs,v,hx,hv,w=>by
  obtain⟨d,rfl⟩:∃k,d=k+1:=⟨d -1,l7⟩;unfold BV at h;split at h
  all_goals try (cases h;done)
  .rename_i ht;split at h<;>try (cases h;done)
   obtain⟨a,r1,rfl,h1⟩:=hx;simp only[kZ]at h1;subst h1;simp only[VOf,ht]at hv;obtain rfl:=(aP hv).1;simp[Instr.checkKey,run_underlying ht]
  .rename_i k ht;split at h<;>try (cases h;done)
   have:=of_decide_eq_true h;subst this;obtain⟨a,r1,rfl,h1⟩:=hx;simp only[kZ]at h1;subst h1;simp only[VOf,ht]at hv;obtain rfl:=(aP hv).1;simp[Instr.checkKey,run_underlying ht]
  .rename_i ht;split at h<;>try (cases h;done)
   obtain⟨a,r1,rfl,h1⟩:=hx;simp only[kZ]at h1;subst h1;simp only[VOf,ht]at hv;obtain rfl:=(aP hv).1;simp[Instr.checkKey,run_underlying ht]
  .rename_i fs ht;simp only[A8,eH]at h;obtain⟨⟨⟨h1,h2⟩,h3⟩,h4⟩:=h;have hlen:=jU h3;simp only[VOf,ht]at hv;subst hv;have hxl:=hx.length;have key:∀(l:List Field) (off:Nat) (s:List Ty),NR (BV P n) P.cellsOf off l s=true->s=sh.drop off->off<=sh.length->
     (forIn l PUnit.unit (λ(f:Field) (_:PUnit)=>(do
      if f.name≠ "_" then Instr.checkKey em d f.type (←part f.type xs.toArray f.offset)
      pure (ForInStep.yield PUnit.unit):Sem (ForInStep PUnit)))).run P w= .ok PUnit.unit w:=by
    intro l;induction l with
    |nil=>intro off s hs he ho;rfl|cons f r ih=>
     intro off s hs he ho;unfold NR at hs;simp only[A8]at hs;obtain⟨⟨⟨⟨g1,g2⟩,g3⟩,g4⟩,g5⟩:=hs;have g2:=jU g2;have g3:=ax g3;subst he;simp only[oU]at g3;have hsl:((sh.drop off).take (P.cellsOf f.type)).length=P.cellsOf f.type:=by simp;omega
     obtain⟨v1,e1,o1⟩:=Y_ g4 hsl.symm (cs:=xs.toArray) (off:=off) (by rw[hsl];simp;omega) w;rw[hsl]at o1;have e3:=a1O em n f.type _ g4 d l7 _ v1 (((hx.take_drop off).2).take_drop _).1 o1 w;have e4:=ih (off+P.cellsOf f.type) _ g5 (by rw[aO]) l7;have hne:f.name≠ "_":=by simpa using g1
     simp only[List.forIn_cons,H8,hne,ne_eq,not_false_eq_true,if_true,g2,e1,e3,J8,aI];exact e4
   have:=key fs.toList 0 sh h4 x9 l7;simp only[Instr.checkKey,H8,run_underlying ht,J8];simp at this;simp[this]
theorem a5t(hn:n<=10000)(h:BV P n t sh=true)(hs:(match P.underlying t with|some (.struct _)=>true|_=>false)=true):a4y P t sh:=by
 have hv:∀zs:Array Value,VOf P t zs.toList (.agg zs):=λzs=>by
  unfold VOf;split
  .simp
  .rename_i hh;exfalso;split at hs
   .rename_i fs hf;exact hh fs hf
   .cases hs
 refine⟨?_,λw xs hx=>⟨λem=>a1O em n t sh h 10000 hn _ _ hx (hv xs) w,λys hy=>WB n t sh h 10000 hn _ _ _ _ hx hy (hv xs) (hv ys) w⟩⟩;split at hs
 .rename_i fs hf;exact⟨fs,hf⟩
 .cases hs
theorem a7x(hn:n<=10000)(h:BV P n t sh=true)(hs:(match P.underlying t with|some (.struct _)=>true|_=>false)=true)(hg:P.eqGuardType P.depth t=false):QS P t sh:=by
 refine⟨?_,a5t hn h hs⟩;intro w C cs ds xs ys e op x y s1 s2 h1 h2 he hop;have hv:∀zs:Array Value,VOf P t zs.toList (.agg zs):=λzs=>by
  unfold VOf;split
  .simp
  .rename_i hh;exfalso;split at hs
   .rename_i fs hf;exact hh fs hf
   .cases hs
 obtain⟨r,hr,hq⟩:=WB n t sh h 10000 hn _ _ _ _ (Nu s1 h1) (Nu s2 h2) (hv xs) (hv ys) w;have hre:r=e:=by have:=UG h1 h2 he;cases r<;>cases e<;>simp_all
 subst hre;rcases hop with rfl|rfl
 .rw[H8,run_eqGuard_agg w .eql t x y xs ys hg];simp only[J8,run_eql_struct,hr,if_pos]
 .rw[H8,run_eqGuard_agg w .neq t x y xs ys hg];simp[run_neq_struct,hr]
def a7y(P:Program):List (Nat×List Ty)->Bool
 |[]=>true|(t,sh)::r=>BV P 20 t sh&&(match P.underlying t with|some (.struct _)=>true|_=>false)&&!P.eqGuardType P.depth t&&a7y P r
theorem a4Y{P:Program} :∀{l:List (Nat×List Ty)},a7y P l=true->∀t sh,gB l t=some sh->QS P t sh
 |[],_,t,sh,h=>by simp[gB]at h|(k,v)::r,hc,t,sh,h=>by
  unfold a7y at hc;simp only[A8,eH]at hc;unfold gB at h;cases hb:Nat.beq k t
  .simp only[hb,cond_false]at h;exact a4Y hc.2 t sh h
  .simp only[hb,cond_true,O8]at h;have:=jU hb;subst this;subst h;exact a7x l7 hc.1.1.1 hc.1.1.2 hc.1.2
end Go.GP
namespace Go.GP
open Go.ChangeShapes Go.WideShapes Go.RowKit
def wf:(t:Ty)->t.den->Prop
 | .bool,_=>True| .int k,n=>(Lit.int k n).wf=true| .str,l=>l.length<=reachBytes| .sl t,xs=>xs.length<=reachBytes/\∀x∈xs,wf t x| .prod a b,x=>wf a x.1/\wf b x.2| .unit,_=>True| .ent _ _ a b,x=>wf a x.1/\wf b x.2
def IW(rec:TypeId->Ty->Bool)(cells:TypeId->Nat):Nat->List Field->Ty->Bool
 |off,fs,u=>match fs with
  |[]=>false
  |f::r=>match r with
   |[]=>Nat.beq f.offset off&&rec f.type u&&Nat.beq (cells f.type) u.size
   |g::r' =>match u with
    | .prod a b=>Nat.beq f.offset off&&rec f.type a&&Nat.beq (cells f.type) a.size&&IW rec cells (off+a.size) (g::r') b|_=>false
termination_by _ fs _=>fs.length
def a4q(P:Program):Nat->TypeId->Ty->Bool
 |0,_,_=>false
 |n+1,t,u=>match P.underlying t with
  |some .bool=>(match u with| .bool=>true|_=>false)|some (.int k)=>(match u with| .int k' =>decide (k=k')|_=>false)|some .string=>(match u with| .str=>true|_=>false)|some (.slice e)=>(match u with| .sl v=>a4q P n e v&&Nat.beq (P.cellsOf e) v.size&&Nat.blt 0 v.size&&Nat.blt 0 (P.bytesOf e)&&!v.isEnt|_=>false)|some (.struct fs)=>IW (a4q P n) P.cellsOf 0 fs.toList u&&Nat.beq (P.cellsOf t) u.size|_=>false
theorem UX{α:Type}{Q:Nat->α->Prop} :∀(n:Nat),(∀i,i<n->∃x,Q i x)->∃xs:List α,xs.length=n/\∀i x,xs[i]? =some x->Q i x
 |0,_=>⟨[],rfl,λi x h=>by simp at h⟩|n+1,h=>by
  obtain⟨xs,hl,hx⟩:=UX n λi hi=>h i l7;obtain⟨y,hy⟩:=h n l7;refine⟨xs++[y],by simp[hl],λi x hi=>?_⟩;by_cases hin:i<n
  .rw[U5 l7]at hi;exact hx i x hi
  .rw[J4 l7]at hi;have:i -xs.length=0:=by
    rcases Nat.lt_or_ge (i -xs.length) 1 with h1|h1
    .omega
    .rw[bQ (by simpa using h1)]at hi;cases hi
   rw[this]at hi;simp at hi;subst hi;have e:i=n:=l7;subst e;exact hy
theorem ZF{w:World}{a:Addr}{n:Nat}{es:d1D}(hn:0<n)(h:w.cells? 0 a n=some es):
  a.spot=none/\a.block<w.heap.size/\gU w.heap a.block a.off n=some es:=by
 obtain⟨blk,off,spot⟩:=a;simp only[World.cells?,pI,if_true]at h;have hlen:es.length=n:=by simpa using Lib.mapM_length h
 have hat:∀i,i<n->∃b,es[i]? =some b/\w.cell? (Addr.add ⟨blk,off,spot⟩ i)=some b:=λi hi=>Lib.mapM_at h i i (by simp[hi]);obtain⟨b0,_,h0⟩:=hat 0 hn;simp only[Addr.add,if_true,World.cell?]at h0;cases hb:w.heap[blk]? with
 |none=>simp[hb]at h0|some o=>
  cases o<;>simp only[hb]at h0<;>try (cases h0;done)
  rename_i c T f;have hs:spot=none:=by
   cases spot with
   |none=>rfl|some _=>simp at h0
  subst hs;have hat' :∀i,i<n->es[i]? =c[off+i]?/\off+i<c.size:=λi hi=>by
   obtain⟨b,h1,h2⟩:=hat i hi;have h3:c[off+i]? =some b:=by
    by_cases hi0:i=0
    .subst hi0;simpa[Addr.add,World.cell?,hb]using h2
    .simpa[Addr.add,World.cell?,hb,hi0]using h2
   exact⟨h1.trans h3.symm,(bT.1 h3).1⟩
  refine⟨rfl,(bT.1 hb).1,?_⟩;have hle:off+n<=c.size:=by have:=(hat' (n -1) l7).2;omega
  rw[qQ hb _ _ hle];congr 1;apply bu;intro i;by_cases hi:i<n
  .rw[(hat' i hi).1,jh hi,Y7];simp
  .rw[bQ Z5,bQ l7]
section
variable {H:Type} {enc:TypeId×Value->H} {P:Program} {w:World} {sp:Nat->Bool} {held:Bool} {ok:Nat->Ty->Prop}
theorem QO{e:TypeId} :∀{l:List (DataW H)} {d:DataW H},d∈l->∀b∈d.weights P e,b∈DataW.weightsAll P e l
 |x::l,d,h,b,hb=>by
  simp only[DataW.weightsAll,C9];rcases D6.1 h with rfl|h
  .exact .inl hb
  .exact .inr (QO h b hb)
theorem d_{n:Nat}(IH:∀t u,a4q P n t u=true->∀jb cs d ps,DataW.trod enc P w 0 sp held jb t cs=some (d,ps)->(∀b∈d.weights P t,b<=reachBytes)->∃x,oD w.heap ok u x cs/\wf u x){cs:d1D}{m:Nat} :
  ∀(fs:List Field) (off:Nat) (u:Ty),IW (a4q P n) P.cellsOf off fs u=true->∀(xs:List (DataW H×List MemPlace)),xs.length=fs.length->
   (∀(i:Nat) (f:Field),fs[i]? =some f->DataW.trod enc P w 0 sp held m f.type ((cs.drop f.offset).take (P.cellsOf f.type))=xs[i]?)->(∀b∈DataW.weightsEach P (fs.map (·.type)) (xs.map (·.1)),b<=reachBytes)->
   ∃x,oD w.heap ok u x ((cs.drop off).take u.size)/\wf u x
 |[],off,u,h,_,_,_,_=>by unfold IW at h;cases h|[f],off,u,h,xs,hl,hx,hw=>by
  unfold IW at h;simp only[A8]at h;have h1:=jU h.1.1;have h3:=jU h.2;match xs,hl with
  |[y],_=>have h4:=hx 0 f rfl;rw[h1,h3]at h4;refine IH _ _ h.1.2 _ _ y.1 y.2 (by simpa using h4) λb hb=>hw b ?_;simp[DataW.weightsEach,hb]
 |f::g::r,off,u,h,xs,hl,hx,hw=>by
  unfold IW at h;cases u<;>try (cases h;done)
  rename_i a b;simp only[A8]at h;obtain⟨⟨⟨h1,h2⟩,h3⟩,h4⟩:=h;have h1:=jU h1;have h3:=jU h3;match xs,hl with
  |y::ys,hl=>
   have h5:=hx 0 f rfl;rw[h1,h3]at h5;obtain⟨p,hp,wp⟩:=IH _ _ h2 _ _ y.1 y.2 (by simpa using h5) λc hc=>hw c (by simp[DataW.weightsEach,hc]);obtain⟨q,hq,wq⟩:=d_ IH (g::r) (off+a.size) b h4 ys (by simpa using hl) (λi f' hf=>by have:=hx (i+1) f' (by simpa using hf);simpa using this) λc hc=>hw c (by simp only[jv,DataW.weightsEach,C9];simp only[jv]at hc;exact .inr hc)
   refine⟨(p,q),⟨_,_,?_,hp,hq⟩,wp,wq⟩;show(cs.drop off).take (a.size+b.size)=_;rw[List.take_add,aO]
theorem Qz(hok:∀b t,b<w.heap.size->ok b t):∀(n:Nat) (t:TypeId) (u:Ty),a4q P n t u=true->∀(jb:Nat) (cs:d1D) (d:DataW H) (ps:List MemPlace),DataW.trod enc P w 0 sp held jb t cs=some (d,ps)->
  (∀b∈d.weights P t,b<=reachBytes)->∃x,oD w.heap ok u x cs/\wf u x
 |0,_,_,h,_,_,_,_,_,_=>by cases h|n+1,t,u,h,jb,cs,d,ps,hd,hw=>by
  unfold a4q at h;split at h
  .rename_i ht;cases u<;>try (cases h;done)
   obtain⟨b,rfl,hx⟩:=DataW.trod_bool ht hd;exact⟨b,rfl,trivial⟩
  .rename_i k ht;cases u<;>try (cases h;done)
   rename_i k';have:=of_decide_eq_true h;subst this;obtain⟨b,rfl,hx,hwf⟩:=DataW.trod_int ht hd;exact⟨b,rfl,hwf⟩
  .rename_i ht;cases u<;>try (cases h;done)
   obtain⟨s,rfl,hx,hs⟩:=DataW.trod_string ht hd;simp only[mM]at hx;obtain⟨rfl,rfl⟩:=hx;refine⟨s.data.toList,rfl,hw _ ?_⟩;simp[DataW.weights]
  .rename_i e ht;cases u<;>try (cases h;done)
   rename_i v;simp only[A8,eH]at h;obtain⟨⟨⟨⟨h1,h2⟩,h3⟩,h4⟩,hE0⟩:=h;have h2:=jU h2;rw[iC]at h3 h4;rcases DataW.trod_slice ht hd with⟨rfl,hx⟩|⟨a,len,cap,elems,rest,m,rfl,rfl,hx,hb,hl,hm,hlen,hel,_,_⟩
   .exact⟨[],.inl ⟨hE0,none,0,rfl,E9 _,λi x hi=>by simp at hi⟩,x9,λx hx=>by simp at hx⟩
   .simp only[mM]at hx;obtain⟨rfl,rfl⟩:=hx;have hW:DataW.weights P t (.slice (elems.map (·.1)) (rest.map (·.1)):DataW H)=((elems.map (·.1)).length+(rest.map (·.1)).length)*P.bytesOf e::(DataW.weightsAll P e (elems.map (·.1))++DataW.weightsAll P e (rest.map (·.1))):=by
     simp only[DataW.weights,ht]
    rw[hW]at hw;have hsz:=hw _ (nz ..);simp only[H7]at hsz;have hlr:len<=reachBytes:=by have h6:(elems.length+rest.length)*1<=(elems.length+rest.length)*P.bytesOf e:=Nat.mul_le_mul_left _ h4;omega
    have each:∀i,i<len->∃x,wf v x/\a.spot=none/\a.block<w.heap.size/\∃es,gU w.heap a.block (a.off+i*v.size) v.size=some es/\oD w.heap ok v x es:=by
     intro i hi;have h5:=hel i hi;rw[h2]at h5;rw[bn l7]at h5;obtain⟨es,hc,hd2⟩:=Option.bind_eq_some_iff.1 h5;obtain⟨x,hx,wx⟩:=Qz hok n e v h1 m es _ _ hd2 λb hb=>hw b (by refine V4 _ (I5 _ (QO (d:=(elems[i]'l7).1) (U0.2 ⟨_,G8 l7,rfl⟩) b hb)))
     obtain⟨s1,s2,s3⟩:=ZF h3 hc;by_cases hz:i*v.size=0
     .simp only[Addr.add,hz,if_true]at s1 s2 s3;exact⟨x,wx,s1,s2,es,by simpa[hz]using s3,hx⟩
     .simp only[Addr.add,hz,if_false]at s1 s2 s3;obtain⟨es0,hc0,_⟩:=Option.bind_eq_some_iff.1 (show((w.cells? 0 (a.add (0*P.cellsOf e)) (P.cellsOf e)).bind (DataW.trod enc P w 0 sp held m e))=some (elems[0]'l7) by rw[hel 0 l7,bn l7]);rw[h2]at hc0;have s0:=(ZF h3 hc0).1;simp only[Nat.zero_mul,Addr.add,if_true]at s0;exact⟨x,wx,s0,s2,es,s3,hx⟩
    obtain⟨xs,hxl,hxs⟩:=UX len each;refine⟨xs,.inl ⟨hE0,some a,cap,by simp[hxl],l7,λi x hi=>?_⟩,l7,λx hx=>?_⟩
    .obtain⟨_,s1,s2,es,s3,s4⟩:=hxs i x hi;refine⟨a.block,a.off,es,?_,hok _ _ s2,s3,s4⟩;obtain⟨b,o,s⟩:=a;simp only at s1;subst s1;rfl
    .obtain⟨i,hi,rfl⟩:=List.mem_iff_getElem.1 hx;exact(hxs i _ (bn hi)).1
  .rename_i fs ht;simp only[A8]at h;have h2:=jU h.2;obtain⟨xs,m,rfl,hx,hl,hlen,hf⟩:=DataW.trod_struct ht hd;simp only[mM]at hx;obtain⟨rfl,rfl⟩:=hx;have hW:DataW.weights P t (.agg (xs.map (·.1)):DataW H)=DataW.weightsEach P (fs.toList.map (·.type)) (xs.map (·.1)):=by simp only[DataW.weights,ht]
   rw[hW]at hw;have:=d_ (cs:=cs) (m:=m) (λt u hu jb cs d ps hd hw=>Qz hok n t u hu jb cs d ps hd hw) fs.toList 0 u h.1 xs (by simpa using hlen) (λi f hi=>hf i f (by simpa using hi)) hw;rwa[List.drop_zero,Y8 l7]at this
  .cases h
end
def b3a(P:Program)(t:TypeId):Bool:=match P.underlying t with|some (.struct _)=>true|_=>false
variable {P:Program}
theorem b8D{W:World}{base n:Nat}{t:TypeId}{u:Ty}{v:Value}(h:a4q P n t u=true)(hv:Value.okWide P W .any base t v):Xj (b3a P t) v v.cells.toList:=by
 cases n with
 |zero=>cases h|succ n=>
  unfold a4q at h;unfold b3a;split at h
  .rename_i ht;simp only[Value.okWide,ht,Cell.okWide,Cell.ok]at hv ⊢;cases v<;>first|rfl|exact absurd hv x9
  .rename_i ht;simp only[Value.okWide,ht,Cell.okWide,Cell.ok]at hv ⊢;cases v<;>first|rfl|exact absurd hv x9
  .rename_i ht;simp only[Value.okWide,ht,Cell.okWide,Cell.ok]at hv ⊢;cases v<;>first|rfl|exact absurd hv x9
  .rename_i ht;simp only[Value.okWide,ht,Cell.okWide,Cell.ok]at hv ⊢;cases v<;>first|rfl|exact absurd hv x9
  .rename_i ht;simp only[Value.okWide,ht]at hv ⊢;obtain⟨cs,rfl,_,_⟩:=hv;exact⟨cs,rfl,rfl⟩
  .cases h
def vP(P:Program)(n:Nat):List TypeId->List MG->Bool
 |[],[]=>true|t::ts,(g,.dat u)::ms=>a4q P n t u&&(b3a P t==g)&&P.readableRec t&&Nat.blt t P.types.size&&vP P n ts ms|_,_=>false
def wfM:(m:M)->m.den->Prop
 | .dat t,x=>wf t x|_,_=>True
def a7d:(ms:List MG)->dR ms->Prop
 |[],_=>True|[m],x=>wfM m.2 x|m::m' ::r,x=>wfM m.2 x.1/\a7d (m' ::r) x.2
section
variable {H:Type} {enc:TypeId×Value->H} {P:Program} {W:World} {base n:Nat} {ok:Nat->Ty->Prop}
theorem a2G(hok:∀b t,b<W.heap.size->ok b t):∀{ts:List TypeId} {ms:List MG} {vs:d1D} {ds:List (DataW H)} {ps:List MemPlace},vP P n ts ms=true->DataW.TrodAll enc P W 0 (λ_=>true) true ts vs ds ps->
  (∀(j:Nat) t v,ts[j]? =some t->vs[j]? =some v->Value.okWide P W .any base t v)->(∀b∈DataW.weightsEach P ts ds,b<=reachBytes)->∃x,yj W.heap ok ms x vs []/\a7d ms x
 |[],[],vs,ds,ps,h,hd,hv,hw=>by obtain⟨rfl,rfl,rfl⟩:=trodAll_nil hd;exact⟨(),⟨rfl,rfl⟩,trivial⟩
 |[],_::_,_,_,_,h,_,_,_=>by simp[vP]at h|_::_,[],_,_,_,h,_,_,_=>by simp[vP]at h|t::ts,(g,m)::ms,vs,ds,ps,h,hd,hv,hw=>by
  cases m<;>simp only[vP,A8]at h<;>try (cases h;done)
  rename_i u;obtain⟨⟨⟨⟨h1,h2⟩,_⟩,_⟩,h3⟩:=h;have h2:=eq_of_beq h2;subst h2;obtain⟨v,vs',d,ds',p,q,rfl,rfl,rfl,⟨jb,h4⟩,h5⟩:=trodAll_cons hd;have hw' :∀b∈d.weights P t++DataW.weightsEach P ts ds',b<=reachBytes:=by simpa only[DataW.weightsEach]using hw
  obtain⟨x,hx,wx⟩:=Qz (ok:=ok) hok n t u h1 _ _ _ _ h4 λb hb=>hw' b (I5 _ hb);have hg:=b8D h1 (hv 0 t v rfl rfl);obtain⟨y,hy,wy⟩:=a2G hok h3 h5 (λj t v hj hk=>hv (j+1) t v (by simpa using hj) (by simpa using hk)) λb hb=>hw' b (aK _ hb);cases ms with
  |nil=>
   cases ts with
   |cons _ _=>simp[vP]at h3|nil=>obtain⟨rfl,rfl,rfl⟩:=trodAll_nil h5;exact⟨x,⟨v,_,rfl,hg,hx,rfl⟩,wx⟩
  |cons m' ms=>exact⟨(x,y),⟨v,_,vs',[],[],rfl,rfl,hg,⟨hx,rfl⟩,hy⟩,wx,wy⟩
theorem Tq(hl:laidOutB P=true){W' :World}(hb:Below W.heap.size W W'){sp:Nat->Bool} :∀{ts:List TypeId} {ms:List MG} {vs:d1D} {ds:List (DataW H)} {ps:List MemPlace},vP P n ts ms=true->
  DataW.TrodAll enc P W 0 (λ_=>true) true ts vs ds ps->(∀x∈ps,x.block<W.heap.size)->(∀x∈ps,sp x.block=true)->DataW.TrodAll enc P W' 0 sp true ts vs ds ps
 |[],ms,vs,ds,ps,h,hd,_,_=>by obtain⟨rfl,rfl,rfl⟩:=trodAll_nil hd;rfl
 |_::_,[],_,_,_,h,_,_,_=>by simp[vP]at h|t::ts,(g,m)::ms,vs,ds,ps,h,hd,hlt,hsp=>by
  cases m<;>simp only[vP,A8]at h<;>try (cases h;done)
  obtain⟨⟨⟨⟨h1,h2⟩,h6⟩,h7⟩,h3⟩:=h;rw[iC]at h7;obtain⟨v,vs',d,ds',p,q,rfl,rfl,rfl,h4,h5⟩:=trodAll_cons hd;exact⟨p,q,WideElems.Trod_stays hl h6 h7 h4 (λx hx=>hb.same (hlt x (I5 _ hx))) (λx hx=>hsp x (I5 _ hx)),
   Tq hl hb h3 h5 (λx hx=>hlt x (aK _ hx)) (λx hx=>hsp x (aK _ hx)),rfl⟩
end
theorem b3L{W:World}{name:String}{g:Nat}{k:IntKind}{zs:d1A}(hg:P.globalNamed name=some g)(hz:0<zs.length)(h:Lib.TabIs P W name k zs):
  VZ ⟨W.heap,λb _=>b<W.heap.size,nom⟩ g (.int k) zs:=by
 have hc:∀i z,zs[i]? =some z->W.cell? ⟨g,i,none⟩=some (.int k z):=λi z hi=>by have:=World.var?_cell hg h i;rw[this];simp[hi]
 have key:∀i z,zs[i]? =some z->g<W.heap.size/\gU W.heap g i 1=some [.int k z]:=λi z hi=>by
  have h1:=hc i z hi;have h2:W.cells? 0 ⟨g,i,none⟩ 1=some [.int k z]:=by simp[World.cells?,X3,Addr.add,h1]
  obtain⟨_,s2,s3⟩:=ZF l7 h2;exact⟨s2,s3⟩
 refine⟨(key 0 zs[0] (bn hz)).1,?_,λi z hi=>⟨_,?_,rfl⟩⟩
 .unfold Lib.TabIs World.var? at h;simp only[hg,oZ]at h;split at h
  .rename_i cs T f hb;simp only[O8]at h;subst h;exact⟨_,T,f,hb,by simp[Ty.size]⟩
  .cases h
 .have:=(key i z hi).2;simpa[Ty.size]using this
theorem a3q{H:Type}{enc:TypeId×Value->H}{gl:List (Nat×(t:Ty)×List t.den)}{f:FuncId}{fn:Func}{s:ChangeSpec}{ms:List MG}{F:dR ms->d1F}{tb:TypeId}
  (hlaid:laidOutB P=true) (hF:nX P gl f ⟨ms,[(false,.dat .bool)],[],F⟩) (law:∀x,a7d ms x->F x=some true) (hpars:vP P 30 fn.params.toList ms=true) (hres:fn.resultTypes=#[tb]) (hbool:P.underlying tb=some .bool)
  (hvars:s.vars=[]) (hsfn:∀ds:List (DataW H),ds.length=ms.length->s.fn H ds= { results:=[.lit (.bool true)],args:=ds })
  {W:World} {base:Nat} {args:Array Value} {ds gs:List (DataW H)} {before:List MemPlace} {apart fresh handsOn again:Bool}
  (hgl:∀g u,gB gl g=some u->VZ ⟨W.heap,λb _=>b<W.heap.size,nom⟩ g u.1 u.2)
  (hval:∀(j:Nat) t v,fn.params[j]? =some t->args[j]? =some v->Value.okWide P W .any base t v)
  (hW:DataW.Whole enc P fn.params.toList s.vars apart W args.toList ds gs before)
  (hz:(DataW.weightsEach P (fn.params.toList++s.plain.varTypes P) (ds++gs)).all (·<=reachBytes)=true):
  Calls P f args W λe W' =>∃v,e= .returned v/\s.post enc P fn apart fresh handsOn again W args v W' :=by
 have hW' :=hW;obtain⟨p,q,hA,hV,rfl,hfz,hnd⟩:=hW;rw[hvars]at hV;obtain⟨rfl,rfl⟩:=trodVars_none hV;have hlen:ds.length=ms.length:=by
  have:∀{ts:List TypeId} {ms:List MG} {vs:d1D} {ds:List (DataW H)} {ps:List MemPlace},vP P 30 ts ms=true->DataW.TrodAll enc P W 0 (λ_=>true) true ts vs ds ps->ds.length=ms.length:=by
   intro ts;induction ts with
   |nil=>
    intro ms vs ds ps h hd;obtain⟨rfl,rfl,rfl⟩:=trodAll_nil hd;cases ms with
    |nil=>rfl|cons _ _=>simp[vP]at h
   |cons t ts ih=>
    intro ms vs ds ps h hd;obtain⟨v,vs',d,ds',p,q,rfl,rfl,rfl,h4,h5⟩:=trodAll_cons hd;cases ms with
    |nil=>simp[vP]at h|cons m ms=>
     obtain⟨g,m⟩:=m;cases m<;>simp only[vP,A8]at h<;>try (cases h;done)
     simp[ih h.2 h5]
  exact this hpars hA
 have hvt:s.plain.varTypes P=[]:=by simp[ChangeSpec.plain,DataSpec.varTypes,hvars]
 rw[hvt]at hz;simp only[H6,lJ,decide_eq_true_eq]at hz;obtain⟨x,hx,wx⟩:=a2G (ok:=λb _=>b<W.heap.size) (λb t hb=>hb) hpars hA (λj t v hj hv=>hval j t v (by simpa using hj) (by simpa using hv)) hz;have hc:=hF W (λb _=>b<W.heap.size) [] args.toList x true (λb t hb=>hb) fP (λb hb=>by cases hb) hgl hx (law x wx);simp only[Array.toArray_toList]at hc;refine hc.mono λe W' ⟨v,ok',O',rs,os,B,he,hfr,_,_,_,_,hrv,hos,hrel⟩=>?_;subst he;have hnoos:os=[]:=by
  have:∀{ms:List MG} {vs:d1D} {ts:List TypeId},vP P 30 ts ms=true->Dc W'.heap ms vs os B->os=[]:=by
   intro ms;induction ms with
   |nil=>
    intro vs ts h ho;cases vs with
    |nil=>exact ho.1|cons _ _=>exact absurd ho (by simp[Dc])
   |cons m ms ih=>
    intro vs ts h ho;obtain⟨g,m⟩:=m;cases ts with
    |nil=>simp[vP]at h|cons t ts=>
     cases m<;>simp only[vP,A8]at h<;>try (cases h;done)
     cases vs with
     |nil=>exact absurd ho (by simp[Dc])|cons v vs=>exact ih h.2 ho
  exact this hpars hos
 subst hnoos;obtain⟨v1,cs,hvs,hg,⟨hrep,_⟩⟩:=hrel;simp only[H6]at hvs;subst hvs;have hv1:v1= .bool true:=by have h1:cs=[v1]:=hg;have h2:cs=[.bool true]:=hrep;rw[h1]at h2;exact(aP h2).1
 subst hv1;have hv:v= .bool true:=hrv.2;subst hv;have hbel:Below W.heap.size W W' :=⟨hfr.os,hfr.tape,hfr.output,hfr.size,λk hk=>hfr.block k hk x9⟩;simp only[H6]at hW' hfz;have hlt:∀x∈p,x.block<W.heap.size:=λx hx=>by simpa using hW'.lt x hx
 have hres1:∀(b:Nat) (sp:Nat->Bool) (hd:Bool),DataW.TrodAll enc P W' b sp hd fn.resultTypes.toList ((Value.bool true).resultList fn.resultTypes.size) (s.fn H (ds++[])).results []:=λb sp hd=>by rw[H6,hsfn ds hlen,hres];exact trodAll_cons_mk (shut_bool hbool _) trodAll_mk0
 have hargs1:∀sp:Nat->Bool,(∀x∈p,sp x.block=true)->DataW.TrodAll enc P W' 0 sp true fn.params.toList args.toList (s.fn H (ds++[])).args p:=λsp hs=>by rw[H6,hsfn ds hlen];exact Tq hlaid hbel hpars hA hlt hs
 have hvars1:∀sp:Nat->Bool,DataW.TrodVars enc P W' sp s.vars (s.fn H (ds++[])).vars []:=λsp=>by rw[H6,hsfn ds hlen,hvars];rfl
 refine⟨_,rfl,ds,[],p,[],p,[],hW',hres1 _ _ _,hargs1 _ (λx hx=>by simpa using hlt x hx),hvars1 _,World.keptBut_mono (λx hx=>⟨hx,.inr (.inl hx)⟩) (hbel.frame (·∈p)),λ_=>⟨ok_one hres rfl (okWide_bool_mk hbool _),_,_,([]++p)++[],⟨[]++p,[],trodAll_append (hargs1 _ (λ_ _=>rfl)) (hres1 _ _ _),hvars1 _,rfl,?_,?_⟩,?_⟩⟩
 .intro b off hp;simp only[G6,H6]at hp;rw[hbel.frozen (hlt _ hp)];exact hfz b off hp
 .intro ha;obtain⟨_,_,_,_,_,_,hn⟩:=hW';simpa using hn ha
 .intro x hx _;simpa using hx
end Go.GP
namespace Go.GP
open Go.RowKit
theorem b3Y{P:Program}{w w' :World}(hb:Below w.heap.size w w'){ok:Nat->Ty->Prop}(hlt:∀b t,ok b t->b<w.heap.size){ps:List MG}{vals:d1D}(hps:Dc w'.heap ps vals [] []){t:Ty}{x:t.den}{v:Value}(hr:oD w'.heap ok t x [v]):
  ∃v' ok' O' rs os B,(Ending.returned v)= .returned v' /\Frame' w w' []/\(∀b t,ok b t->ok' b t)/\(∀b t,ok' b t->b<w'.heap.size/\(ok b t\/w.heap.size<=b\/b∈([]:d1B)))/\
   (O' ++B).Nodup/\(∀b∈O' ++B,(∀t,¬ok' b t)/\b<w'.heap.size/\(w.heap.size<=b\/b∈([]:d1B)))/\
   a7f 1 v' rs/\Dc w'.heap ps vals os B/\yj w'.heap ok' ([(false,.dat t)]++[]) x (rs++os) O' :=
 ⟨v,ok,[],[v],[],[],rfl,⟨hb.os,hb.tape,hb.output,hb.size,λb h _=>hb.block b h⟩,λb t h=>h,λb t h=>⟨Nat.lt_of_lt_of_le (hlt b t h) hb.size,.inl h⟩,x9,x9,⟨rfl,rfl⟩,hps,⟨v,[v],rfl,rfl,hr,rfl⟩⟩
end Go.GP
namespace Go.GP
def b9v(Q:Nat->((t:Ty)×List t.den)->Prop):List (Nat×(t:Ty)×List t.den)->Prop
 |[]=>True|(g,u)::r=>Q g u/\b9v Q r
theorem Zf{Q:Nat->((t:Ty)×List t.den)->Prop} :∀{l:List (Nat×(t:Ty)×List t.den)},b9v Q l->∀g u,gB l g=some u->Q g u
 |[],_,g,u,h=>by simp[gB]at h|(k,v)::r,hc,g,u,h=>by
  unfold gB at h;cases hb:Nat.beq k g
  .simp only[hb,cond_false]at h;exact Zf hc.2 g u h
  .simp only[hb,cond_true,O8]at h;have:=jU hb;subst this;subst h;exact hc.1
end Go.GP
namespace Go.GP
open Go.RowKit Go.Sort
def a8I(x:Int):d1A->d1A
 |[]=>[x]|y::l=>bif L8 x y then x::y::l else y::a8I x l
def MX:d1A->d1A
 |[]=>[]|x::l=>a8I x (MX l)
def ddp(p:Int):d1A->d1A
 |[]=>[]|y::l=>bif x8 y p then ddp p l else y::ddp y l
def dd:d1A->d1A
 |[]=>[]|x::l=>x::ddp x l
theorem Xu(x:Int):∀l,(a8I x l).Perm (x::l)
 |[]=> .refl _|y::l=>by
  unfold a8I;cases L8 x y
  .exact(List.Perm.cons y (Xu x l)).trans (List.Perm.swap x y l)
  .exact .refl _
theorem Js:∀l,(MX l).Perm l
 |[]=> .refl _|x::l=>(Xu x (MX l)).trans ((Js l).cons x)
theorem Yu(x:Int):∀{l:d1A},l.Pairwise (·<=·)->(a8I x l).Pairwise (·<=·)
 |[],_=>by simp[a8I]|y::l,h=>by
  have h' :=af.1 h;unfold a8I;cases hxy:L8 x y
  .have hxy' :y<x:=by simpa[L8]using hxy
   refine af.2 ⟨λz hz=>?_,Yu x h'.2⟩;rcases D6.1 ((Xu x l).mem_iff.1 hz)with rfl|hz
   .omega
   .exact h'.1 z hz
  .have hxy' :x<=y:=by simpa[L8]using hxy
   refine af.2 ⟨λz hz=>?_,h⟩;rcases D6.1 hz with rfl|hz
   .exact hxy'
   .exact Int.le_trans hxy' (h'.1 z hz)
theorem Il:∀l,(MX l).Pairwise (·<=·)
 |[]=>List.Pairwise.nil|x::l=>Yu x (Il l)
theorem YH(l:d1A):(l.mergeSort λx y=>decide (x<=y))=MX l:=by refine List.Perm.eq_of_pairwise (le:=(·<=·)) (λa b _ _ h1 h2=>Int.le_antisymm h1 h2) ?_ (Il l) ((List.mergeSort_perm l _).trans (Js l).symm);have:=List.pairwise_mergeSort (le:=λx y:Int=>decide (x<=y)) (λa b c h1 h2=>by simp at*;omega) (λa b=>by simp;omega) l;simpa using this
theorem ZN(y:Int):∀(l:d1A) (p:Int),ddp p (l++[y])=ddp p l++(bif x8 y ((p::l).getLast x9)then[]else[y])
 |[],p=>rfl|z::l,p=>by
  have hg:(p::z::l).getLast x9=(z::l).getLast x9:=List.getLast_cons _;rw[hg];simp only[aG,ddp];by_cases h:z=p
  .subst h;simp only[x8,decide_true,cond_true];exact ZN y l z
  .have h' :x8 z p=false:=by simp[x8,h]
   rw[h'];simp only[cond_false];rw[ZN y l z];rfl
theorem Wu(l:d1A)(y:Int)(m:Nat)(hm:m<=l.length):Lib.compactUpTo (l++[y]).toArray m=Lib.compactUpTo l.toArray m:=by
 unfold Lib.compactUpTo;have e:∀j,j<m->(l++[y]).toArray[j]! =l.toArray[j]!:=λj hj=>by rw[getElem!_pos _ j Z5,getElem!_pos _ j Z5];simp[List.getElem_append_left (show j<l.length by omega)]
 have hf:(List.range m).filter (Lib.keeps (l++[y]).toArray)=(List.range m).filter (Lib.keeps l.toArray):=by apply List.filter_congr;intro j hj;have hj' :=P8.1 hj;unfold Lib.keeps;rw[e j hj',e (j -1) l7]
 rw[hf];apply dn;intro j hj;exact e j (P8.1 (I7.1 hj).1)
theorem a3c(x y:Int)(l:d1A):Lib.compact (x::l++[y])=Lib.compact (x::l)++(bif x8 y ((x::l).getLast x9)then[]else[y]):=by
 have hlen:(x::l++[y]).length=(x::l).length+1:=x9;have h1:Lib.compact (x::l++[y])=Lib.compactUpTo (x::l++[y]).toArray (x::l).length++(if Lib.keeps (x::l++[y]).toArray (x::l).length=true then[(x::l++[y]).toArray[(x::l).length]!]else[]):=by
  unfold Lib.compact;rw[hlen];unfold Lib.compactUpTo;rw[X3,ny,bY];congr 1;by_cases hk:Lib.keeps (x::l++[y]).toArray (x::l).length=true
  .simp only[bK,hk,if_true,vJ,jv,vK]
  .simp only[bK,hk,vJ,vK];simp
 rw[h1,Wu (x::l) y _ (E9 _)];have e1:(x::l++[y]).toArray[(x::l).length]! =y:=by rw[getElem!_pos _ _ x9];simp
 have e2:(x::l++[y]).toArray[(x::l).length -1]! =(x::l).getLast x9:=by rw[getElem!_pos _ _ Z5];rw[List.getLast_eq_getElem];simp only[List.getElem_toArray];rw[List.getElem_append_left]
 have hk:Lib.keeps (x::l++[y]).toArray (x::l).length=decide (y≠(x::l).getLast x9):=by unfold Lib.keeps;rw[e1,e2];simp
 rw[hk,e1];unfold Lib.compact;by_cases h:y=(x::l).getLast x9<;>simp[x8,h]
theorem a6L{motive:d1A->Prop}(h0:motive [])(h1:∀l y,motive l->motive (l++[y])):∀n (l:d1A),l.length=n->motive l
 |0,l,h=>by rw[U2.1 h];exact h0|n+1,l,h=>by
  have hne:l≠[]:=by intro e;subst e;cases h
  rw[←List.dropLast_concat_getLast hne];exact h1 _ _ (a6L h0 h1 n _ Z5)
theorem a7n(l:d1A):Lib.compact l=dd l:=by
 cases l with
 |nil=>rfl|cons x l=>
  show _=x::ddp x l;refine a6L (motive:=λl=>Lib.compact (x::l)=x::ddp x l) ?_ (λl y ih=>?_) l.length l rfl
  .simp[Lib.compact,Lib.compactUpTo,Lib.keeps,X3,ddp]
  .have:=a3c x y l;rw[aG]at this;rw[this,ih,ZN];rfl
def zi(xs:d1A):Option d1A:=bif Nat.blt xs.length 4611686018427387904 then some (MX xs)else none
def oH(xs:d1A):Option d1A:=bif Nat.blt xs.length 4611686018427387904 then some (dd xs)else none
def Bz(s t:d1C):d1F:=match t with
 |[c]=>some (decide (0<=Lib.indexByte s c))|_=>none
def wV(a b:Int):Option (Int×Int):=if 0<=a/\a<18446744073709551616/\0<=b/\b<18446744073709551616 then some (a*b / 18446744073709551616,a*b % 18446744073709551616)else none
variable {w:World}{ok:Nat->Ty->Prop}
theorem UL{m:Mp}{xs:d1A}{blk off len cap sz:Nat}(h:arrOk ⟨w.heap,ok,m⟩ (.int .i64) xs (.arr blk off len cap sz)):Holds (Value.int .i64) w blk off xs.toArray:=by
 obtain⟨_,rfl,rfl,hc,c,T,hb,hs,hx⟩:=h;intro j hj;have hj' :j<xs.length:=by simpa using hj
 obtain⟨es,he,hr⟩:=hx j xs[j] (bn hj');have hr:es=[.int .i64 xs[j]]:=hr;subst hr;have hb' :w.heap[blk]? =some (.cells c T (0,0)):=hb;have he' :gU w.heap blk (off+j*1) 1=some [.int .i64 xs[j]]:=he;rw[nH]at he';refine⟨?_,?_⟩
 .have:=yz (w:=w) he' (j:=0) (v:=.int .i64 xs[j]) rfl;rw[dW]at this;rw[this,getElem!_pos xs.toArray j hj];simp
 .simp[World.frozen?,hb']
variable {blk:Nat}{off:Nat}{n:Nat}{c:Array Value}{T:TypeId}
theorem b1X{fr:Nat×Nat}(hb:w.heap[blk]? =some (.cells c T fr))(d:Array Int):
  (putRow (Value.int .i64) (Sort.ahead w n) blk off d).heap[blk]? =some (.cells (putCells (Value.int .i64) off d c) T fr):=by
 show(w.heap.modify blk (onCells (putCells (Value.int .i64) off d)))[blk]? =_;rw[tC,if_pos rfl,hb];rfl
theorem a8j{blk off n b:Nat}(h:b≠blk)(d:Array Int):(putRow (Value.int .i64) (Sort.ahead w n) blk off d).heap[b]? =w.heap[b]?:=by show(w.heap.modify blk (onCells (putCells (Value.int .i64) off d)))[b]? =_;rw[tC,if_neg (λe=>h e.symm)]
theorem a9B{h:Array Obj}{m:Mp}{blk off cap:Nat}{d:Array Int}{ys:d1A}(hb:h[blk]? =some (.cells (putCells (Value.int .i64) off d c) T (0,0)))
  (hfit:off+cap<=c.size) (hd:d.size<=cap) (hl:ys.length<=d.size) (hy:∀(i:Nat) (y:Int),ys[i]? =some y->d[i]? =some y):arrOk ⟨h,ok,m⟩ (.int .i64) ys (.arr blk off ys.length cap 1):=by
 refine⟨rfl,rfl,rfl,l7,_,T,hb,by simp[putCells,Ty.size];omega,λi y hi=>⟨[.int .i64 y],?_,rfl⟩⟩;have hi' :=(X6.1 hi).1;have hdi:=hy i y hi;obtain⟨hdi',hdy⟩:=bT.1 hdi;show gU h blk (off+i*1) 1=_;rw[nH,qQ hb _ _ (by simp[putCells];omega)];have hk:off+i<c.size:=l7;have:(putCells (Value.int .i64) off d c).toList[off+i]? =some (.int .i64 y):=by unfold putCells;rw[dC,Array.getElem?_mapIdx,Y2 hk];simp only[eY];rw[if_pos l7,Nat.add_sub_cancel_left,getElem!_pos d i hdi',hdy]
 obtain⟨h1,h2⟩:=X6.1 this;rw[gp h1,h2];rfl
theorem b0z{P:Program}{d:Array Int}{os:Array Obj}(hlt:∀b t,ok b t->b<w.heap.size)(hfree:(∀t,¬ok blk t)/\blk<w.heap.size)
  (hb:w.heap[blk]? =some (.cells c T (0,0))) {w' :World} (hw:w' =Sort.grow (putRow (Value.int .i64) (Sort.ahead w n) blk off d) os):
  w'.heap[blk]? =some (.cells (putCells (Value.int .i64) off d c) T (0,0))/\Frame' w w' [blk]/\(∀b t,ok b t->b<w'.heap.size/\(ok b t\/w.heap.size<=b\/b∈[blk]))/\blk<w'.heap.size:=by
 subst hw;have hsz:(putRow (Value.int .i64) (Sort.ahead w n) blk off d).heap.size=w.heap.size:=by simp[Sort.ahead]
 have hge:w.heap.size<=(Sort.grow (putRow (Value.int .i64) (Sort.ahead w n) blk off d) os).heap.size:=by simp[Sort.grow,Sort.ahead]
 have hold:∀b,b<w.heap.size->(Sort.grow (putRow (Value.int .i64) (Sort.ahead w n) blk off d) os).heap[b]? =(putRow (Value.int .i64) (Sort.ahead w n) blk off d).heap[b]?:=λb hb=>by show((putRow (Value.int .i64) (Sort.ahead w n) blk off d).heap++os)[b]? =_;rw[oL (by rw[hsz];exact hb)]
 refine⟨by rw[hold blk hfree.2];exact b1X hb d,⟨rfl,rfl,rfl,hge,λb h1 h2=>?_⟩,λb t h=>⟨Nat.lt_of_lt_of_le (hlt b t h) hge,.inl h⟩,Nat.lt_of_lt_of_le hfree.2 hge⟩;rw[hold b h1];exact a8j (λe=>h2 (by simp[e])) d
variable {P:Program}{f:Nat}
theorem a8X{gl:List (Nat×(t:Ty)×List t.den)}
  (hC:∀(blk off cap:Nat) (zs:d1A) (w:World) (hH:Holds (Value.int .i64) w blk off zs.toArray) (hblk:blk<w.heap.size) (hsz:zs.length<4611686018427387904),
   Calls P f #[.slice (some ⟨blk,off,none⟩) zs.length cap] w λe w' =>e= .returned (.tuple #[])/\∃n os,w' =Sort.grow (putRow (Value.int .i64) (Sort.ahead w n) blk off (zs.mergeSort λx y=>decide (x<=y)).toArray) os)
  (hN:∀(p:Option Addr) (cap:Nat) (w:World),Calls P f #[.slice p 0 cap] w λe w' =>e= .returned (.tuple #[])/\w' =w):
  nX P gl f ⟨[(false,.ownb (.int .i64))],[],[(false,.own (.int .i64))],λx=>zi x⟩:=by
 intro w ok O vals x r hlt hnd hO _ hrel hfn;obtain⟨v,cs,rfl,h1,l,v',hcs,hv,ha,rfl⟩:=hrel;have h1:cs=[v]:=h1;rw[h1]at hcs;simp only[O0,and_true]at hcs;subst hcs;simp only[zi]at hfn;cases hx0:Nat.blt x.length 4611686018427387904<;>rw[hx0]at hfn
 .cases hfn
 rw[iC]at hx0;have hx:=hx0;rw[←YH]at hfn;cases hfn;cases l with
 |st b=>cases ha|mp b=>cases ha.1|nil=>
  have ha:x=[]:=ha.1;subst ha;have hv:v= .slice none 0 0:=hv;subst hv;refine(hN none 0 w).mono λe w' ⟨he,hw⟩=>?_;subst he;subst hw;exact⟨_,ok,[],[],[.slice none 0 0],[],rfl,Frame'.refl _ _,λ_ _ h=>h,λb t h=>⟨hlt b t h,.inl h⟩,x9,x9,⟨rfl,rfl⟩,⟨[],rfl,rfl,rfl⟩,
   ⟨_,_,rfl,rfl,BM.2 ⟨.nil,_,rfl,rfl,(by simp[arrOk,Ty.isEnt]),rfl⟩⟩⟩
 |arr blk off len cap sz=>
  have hH:=UL ha;obtain⟨_,rfl,rfl,hc,c,T,hb,hs,hx'⟩:=ha;have hv:v= .slice (some ⟨blk,off,none⟩) x.length cap:=hv;subst hv;have hfree:=hO blk (by simp[Loc.blks]);refine(hC blk off cap x w hH hfree.2 hx).mono λe w' ⟨he,n,os,hw⟩=>?_;subst he;obtain⟨g1,g2,g3,g4⟩:=b0z (P:=P) hlt hfree hb hw;have hlen:(x.mergeSort λx y=>decide (x<=y)).length=x.length:=List.length_mergeSort ..;have hfit:off+cap<=c.size:=by simpa[Ty.size]using hs
  have harr:=a9B (ok:=ok) (m:=nom) (cap:=cap) (ys:=x.mergeSort λx y=>decide (x<=y)) g1 hfit (by simp[hlen];exact hc) x9 (λi y hi=>by simpa using hi);rw[hlen]at harr;refine⟨_,ok,[blk],[],[.slice (some ⟨blk,off,none⟩) x.length cap],[],rfl,g2,λ_ _ h=>h,g3,x9,λb hb=>?_,⟨rfl,rfl⟩,⟨[],rfl,rfl,rfl⟩,⟨_,_,rfl,rfl,BM.2 ⟨.arr blk off x.length cap 1,_,rfl,rfl,harr,rfl⟩⟩⟩;have:b=blk:=by simpa using hb
  subst this;exact⟨hfree.1,g4,.inr (by simp[Loc.blks])⟩
theorem a7o(zs:d1A):(Lib.compact zs).length<=zs.length:=by unfold Lib.compact Lib.compactUpTo;rw[H7];exact bJ (aJ _ _) x9
theorem a1e{gl:List (Nat×(t:Ty)×List t.den)}
  (hC:∀(blk off cap:Nat) (zs:d1A) (w:World) (hH:Holds (Value.int .i64) w blk off zs.toArray) (hsz:zs.length<=9223372036854775807) (hcap:zs.length<=cap),
   Calls P f #[.slice (some ⟨blk,off,none⟩) zs.length cap] w λe w' =>e= .returned (.slice (some ⟨blk,off,none⟩) (Lib.compact zs).length cap)/\∃q,w' =putRow (Value.int .i64) (Sort.ahead w q) blk off (Lib.compact zs++List.replicate (zs.length -(Lib.compact zs).length) 0).toArray)
  (hN:∀(a:Option Addr) (cap:Nat) (w:World),Calls P f #[.slice a 0 cap] w λe w' =>e= .returned (.slice a 0 cap)/\w' =w):
  nX P gl f ⟨[(false,.own (.int .i64))],[(false,.own (.int .i64))],[],λx=>oH x⟩:=by
 intro w ok O vals x r hlt hnd hO _ hrel hfn;obtain⟨v,cs,rfl,h1,hrm⟩:=hrel;obtain⟨l,v',hcs,hv,ha,rfl⟩:=BM.1 hrm;have h1:cs=[v]:=h1;rw[h1]at hcs;simp only[O0,and_true]at hcs;subst hcs;simp only[oH]at hfn;cases hx0:Nat.blt x.length 4611686018427387904<;>rw[hx0]at hfn
 .cases hfn
 rw[iC]at hx0;have hx:=hx0;rw[←a7n]at hfn;cases hfn;cases l with
 |st b=>cases ha|mp b=>cases ha.1|nil=>
  have ha:x=[]:=ha.1;subst ha;have hv:v= .slice none 0 0:=hv;subst hv;refine(hN none 0 w).mono λe w' ⟨he,hw⟩=>?_;subst he;subst hw;exact⟨_,ok,[],[.slice none 0 0],[],[],rfl,Frame'.refl _ _,λ_ _ h=>h,λb t h=>⟨hlt b t h,.inl h⟩,x9,x9,⟨rfl,rfl⟩,⟨rfl,rfl⟩,
   ⟨_,_,rfl,rfl,BM.2 ⟨.nil,_,rfl,rfl,⟨rfl,rfl⟩,rfl⟩⟩⟩
 |arr blk off len cap sz=>
  have hH:=UL ha;obtain⟨_,rfl,rfl,hc,c,T,hb,hs,hx'⟩:=ha;have hv:v= .slice (some ⟨blk,off,none⟩) x.length cap:=hv;subst hv;have hfree:=hO blk (by simp[Loc.blks]);refine(hC blk off cap x w hH l7 hc).mono λe w' ⟨he,n,hw⟩=>?_;subst he;have hle:=a7o x;obtain⟨g1,g2,g3,g4⟩:=b0z (P:=P) (n:=n) (off:=off) (d:=(Lib.compact x++List.replicate (x.length -(Lib.compact x).length) 0).toArray) (os:=#[]) (w' :=w') hlt hfree hb (by rw[grow_empty];exact hw);have hfit:off+cap<=c.size:=by simpa[Ty.size]using hs
  have harr:=a9B (ok:=ok) (m:=nom) (cap:=cap) (ys:=Lib.compact x) g1 hfit Z5 x9 (λi y hi=>by have:=(X6.1 hi).1;rw[List.getElem?_toArray,U5 this];exact hi)
  refine⟨_,ok,[blk],[.slice (some ⟨blk,off,none⟩) (Lib.compact x).length cap],[],[],rfl,g2,λ_ _ h=>h,g3,x9,λb hb=>?_,⟨rfl,rfl⟩,⟨rfl,rfl⟩,⟨_,_,rfl,rfl,BM.2 ⟨.arr blk off (Lib.compact x).length cap 1,_,rfl,rfl,harr,rfl⟩⟩⟩;have:b=blk:=by simpa using hb
  subst this;exact⟨hfree.1,g4,.inr (by simp[Loc.blks])⟩
theorem YC{gl:List (Nat×(t:Ty)×List t.den)}
  (hC:∀(s:ByteArray) (c:UInt8) (w:World),Calls P f #[.string s,.string ⟨#[c]⟩] w λe w' =>e= .returned (.bool (decide (0<=Lib.indexByte s.data.toList c)))/\w' =w):
  nX P gl f ⟨[(false,.dat .str),(false,.dat .str)],[(false,.dat .bool)],[],λx=>Bz x.1 x.2⟩:=by
 intro w ok O vals x r hlt _ _ _ hrel hfn;obtain⟨v,cs,vs',O1,O2,rfl,rfl,h1,⟨h2,rfl⟩,v2,cs2,rfl,h3,h4,rfl⟩:=hrel;have h1:cs=[v]:=h1;subst h1;have h3:cs2=[v2]:=h3;subst h3;have h2:[v]=[.string ⟨x.1.toArray⟩]:=h2;have h4:[v2]=[.string ⟨x.2.toArray⟩]:=h4;obtain rfl:=(aP h2).1;obtain rfl:=(aP h4).1;simp only[Bz]at hfn;split at hfn
 .rename_i c hx;cases hfn;rw[hx];refine(hC ⟨x.1.toArray⟩ c w).mono λe w' ⟨he,hw⟩=>?_;subst he;subst hw;exact b3Y (P:=P) (t:=.bool) (x:=decide (0<=Lib.indexByte x.1 c)) (ps:=[(false,.dat .str),(false,.dat .str)]) (vals:=[_,_]) ⟨rfl,rfl,rfl,E9 _,λ_ _=>rfl⟩ hlt ⟨rfl,rfl⟩ rfl
 .cases hfn
theorem a5K{gl:List (Nat×(t:Ty)×List t.den)}
  (hC:∀(x y:Nat) (hx:x<18446744073709551616) (hy:y<18446744073709551616) (w:World),
   Calls P f #[.int .u64 x,.int .u64 y] w λe w' =>e= .returned (.tuple #[.int .u64 ((x*y / 18446744073709551616:Nat):Int),.int .u64 ((x*y % 18446744073709551616:Nat):Int)])/\w' =w):
  nX P gl f ⟨[(false,.dat (.int .u64)),(false,.dat (.int .u64))],[(false,.dat (.int .u64)),(false,.dat (.int .u64))],[],λx=>wV x.1 x.2⟩:=by
 intro w ok O vals x r hlt _ _ _ hrel hfn;obtain⟨v,cs,vs',O1,O2,rfl,rfl,h1,⟨h2,rfl⟩,v2,cs2,rfl,h3,h4,rfl⟩:=hrel;have h1:cs=[v]:=h1;subst h1;have h3:cs2=[v2]:=h3;subst h3;have h2:[v]=[.int .u64 x.1]:=h2;have h4:[v2]=[.int .u64 x.2]:=h4;obtain rfl:=(aP h2).1;obtain rfl:=(aP h4).1;simp only[wV]at hfn;split at hfn
 .rename_i hx;cases hfn;obtain⟨a,b⟩:=x;obtain⟨p,rfl⟩:=Int.eq_ofNat_of_zero_le hx.1;obtain⟨q,rfl⟩:=Int.eq_ofNat_of_zero_le hx.2.2.1;refine(hC p q (by have:=hx.2.1;simp only at this;omega) (by have:=hx.2.2.2;simp only at this;omega) w).mono λe w' ⟨he,hw⟩=>?_;subst he;subst hw;refine⟨_,ok,[],[_,_],[],[],rfl,⟨rfl,rfl,rfl,E9 _,λ_ _ _=>rfl⟩,λ_ _ h=>h,λb t h=>⟨hlt b t h,.inl h⟩,x9,x9,⟨rfl,rfl⟩,⟨rfl,rfl⟩,?_⟩;exact⟨_,_,_,[],[],rfl,rfl,rfl,⟨rfl,rfl⟩,_,_,rfl,rfl,rfl,rfl⟩
 .cases hfn
def qH{α:Type}(xs:List α):Option (List α):=cu [] xs
theorem KF{E:Env}{f:FuncId}{fn:Func}{c:Code}{t:Ty}(hf:P.funcs[f]? =some fn)(hb:fn.body=some c)(hnt:fn.ntmps=E.nt)(hres:fn.results.toList=[.tmp 2])(hE:EnvOk P E)
  (h0:∀b,b1c E [(false,.cell (some (some b)))] ⟨[(.tmp 2,(false,.own t))],[]⟩ c .leaf ()=some [])
  (h2:∀xs,b1c E [(false,.dat (.sl t))] ⟨[(.tmp 2,(false,.own t))],[]⟩ c .leaf xs=l9 (x8 (o9 xs) 0) none (o5 (cu [] xs) λz=>some z))
  (ht:t.isEnt=false:=by rfl):
  nX P E.gl f ⟨[(false,.dat (.sl t))],[(false,.own t)],[],λxs=>qH xs⟩:=by
 intro w ok O vals x r hlt hnd hO hgl hrel hfn;obtain⟨v,cs,rfl,h1,hr,rfl⟩:=hrel;have h1:cs=[v]:=h1;subst h1;cases x with
 |nil=>
  obtain⟨a,cap,e,_,_⟩:=(Gm ht).1 hr;have e:v= .slice a 0 cap:=(aP e).1;have hr:r=[]:=by
   have:some ([]:List t.den)=some r:=by simpa[qH,cu]using hfn
   exact(I9 this).symm
  subst hr;exact TE (ps:=[(false,.cell (some (some a.isNone)))]) (rt:=⟨[(.tmp 2,(false,.own t))],[]⟩) (F:=λ_=>some []) hf hb hnt hres hE (λx r h=>by cases h;exact h0 a.isNone) w ok [] [v] () [] hlt hnd hO hgl
   ⟨v,[v],rfl,rfl,v,rfl,by subst e;rfl,(λh=>nomatch h),(λb h=>by cases h;exact⟨a,cap,e,rfl⟩),rfl⟩ rfl
 |cons z zs=>
  exact TE (ps:=[(false,.dat (.sl t))]) (rt:=⟨[(.tmp 2,(false,.own t))],[]⟩) (F:=λxs=>l9 (x8 (o9 xs) 0) none (o5 (cu [] xs) λz=>some z)) hf hb hnt hres hE (λx r h=>(h2 x).trans h) w ok [] [v] (z::zs) r hlt hnd hO hgl
   ⟨v,[v],rfl,rfl,hr,rfl⟩ (by
    have h3:x8 (o9 (z::zs)) 0=false:=by simp only[x8,o9,H9];exact decide_eq_false l7
    have h4:cu [] (z::zs)=some r:=hfn;show l9 (x8 (o9 (z::zs)) 0) none (o5 (cu [] (z::zs)) λz=>some z)=some r;rw[h3,h4];rfl)
theorem a5H{t f e:Nat}{n:String}{inf:TypeInfo}{m:Method}(ht:P.info? t=some inf)(hm:inf.methods.find? (·.name==n)=some m)(hp:m.path.toList=[])
  (hf:m.func=some (f,false)) (hu:P.underlying t=some (.pointer e)):Ji P t n f (some e):=by
 intro v w ad h;subst h;have h1:∀d,(method (d+1) t (.pointer (some ad)) n).run P w=((loadVar e ad).run P w).andThen λu w' => .ok (f,u) w' :=by
  intro d;unfold method;have hti:(typeInfo t).run P w= .ok inf w:=by simp[typeInfo,ht]
  rw[H8,hti];simp only[Result.andThen,hm,hp,hf];rw[H8];simp only[follow,aI,Result.andThen];have hr:∀wr,(receiverAt t (.val (.pointer (some ad))) false wr).run P w=(loadVar e ad).run P w:=by
   intro wr;unfold receiverAt;rw[H8,run_underlying hu];have hw:∀s,Builtin.ssaWrapNilChk_ #[t] t #[.pointer (some ad),strVal "",strVal s]=pure (.pointer (some ad)):=λs=>rfl;cases wr with
   |none=>simp[Result.andThen,Place.get,asAddr]|some s=>simp[Result.andThen,Place.get,asAddr,hw]
  rw[H8,hr];rfl
 exact h1 _
def b0e(P:Program)(t:Nat)(n:String)(f e:Nat):Bool:=match P.info? t with
 |some inf=>match inf.methods.find? (·.name==n)with
  |some m=>match m.path.toList,m.func,P.underlying t with
   |[],some (f',false),some (.pointer e')=>Nat.beq f' f&&Nat.beq e' e|_,_,_=>false
  |none=>false
 |none=>false
theorem TT{t f e:Nat}{n:String}(h:b0e P t n f e=true):Ji P t n f (some e):=by
 unfold b0e at h;split at h
 .rename_i inf hi;split at h
  .rename_i m hm;split at h
   .rename_i h1 h2 h3;simp only[A8]at h;have e1:=jU h.1;have e2:=jU h.2;subst e1;subst e2;exact a5H hi hm h1 h2 h3
   .cases h
  .cases h
 .cases h
end Go.GP
