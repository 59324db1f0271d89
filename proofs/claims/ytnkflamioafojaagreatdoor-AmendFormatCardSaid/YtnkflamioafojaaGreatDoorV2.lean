import Derived.Test.YtnkflamioafojaaGreatDoorV1
import Derived.ChangeSame
import Derived.Carry
import Derived.SizedLaws
import Derived.Deep.DeepHandedRow
import Derived.Lib.LaidTab
import Derived.Lib.ItoaNum
import Derived.Lib.ItoaMem
import Derived.Lib.Repeat
import Derived.Sort.Grow
import Derived.Lib.SlicesCompact
import Derived.Lib.Bytealg
import Derived.Sort.Row
import Derived.Shelf.Strings.BuilderF
import Derived.Shelf.Strings.IndexAnyAll
import Derived.Lib.IndexMore
import Derived.Shelf.Strings.Split
import Derived.Lib.FrozenHead2
set_option linter.all false
namespace Go.GP
open Go.ChangeShapes Go.WideShapes Go.RowKit
def wf:(t:Ty)->t.den->Prop
 | .bool,_=>True| .int k,n=>(Lit.int k n).wf=true| .str,l=>l.length<=reachBytes| .sl t,xs=>xs.length<=reachBytes/\∀x∈xs,wf t x| .prod a b,x=>wf a x.1/\wf b x.2| .unit,_=>True| .any _,_=>True| .ent _ _ a b,x=>wf a x.1/\wf b x.2
def BM(rec:TypeId->Ty->Bool)(cells:TypeId->Nat):Nat->List Field->Ty->Bool
 |off,fs,u=>match fs with
  |[]=>false
  |f::r=>match r with
   |[]=>Nat.beq f.offset off&&rec f.type u&&Nat.beq (cells f.type) u.size
   |g::r' =>match u with
    | .prod a b=>Nat.beq f.offset off&&rec f.type a&&Nat.beq (cells f.type) a.size&&BM rec cells (off+a.size) (g::r') b|_=>false
termination_by _ fs _=>fs.length
def YZ(P:Program):Nat->TypeId->Ty->Bool
 |0,_,_=>false
 |n+1,t,u=>match P.underlying t with
  |some .bool=>(match u with| .bool=>true|_=>false)|some (.int k)=>(match u with| .int k' =>decide (k=k')|_=>false)|some .string=>(match u with| .str=>true|_=>false)|some (.slice e)=>(match u with| .sl v=>YZ P n e v&&Nat.beq (P.cellsOf e) v.size&&Nat.blt 0 v.size&&Nat.blt 0 (P.bytesOf e)&&!v.isEnt|_=>false)|some (.struct fs)=>BM (YZ P n) P.cellsOf 0 fs.toList u&&Nat.beq (P.cellsOf t) u.size|_=>false
theorem Oh{α:Type}{Q:Nat->α->Prop} :∀(n:Nat),(∀i,i<n->∃x,Q i x)->∃xs:List α,xs.length=n/\∀i x,xs[i]? =some x->Q i x
 |0,_=>⟨[],rfl,λi x h=>by simp at h⟩|n+1,h=>by
  obtain⟨xs,hl,hx⟩:=Oh n λi hi=>h i o5;obtain⟨y,hy⟩:=h n o5;refine⟨xs++[y],by simp[hl],λi x hi=>?_⟩;by_cases hin:i<n
  .rw[U4 o5]at hi;exact hx i x hi
  .rw[I8 o5]at hi;have:i -xs.length=0:=by
    rcases Nat.lt_or_ge (i -xs.length) 1 with h1|h1
    .omega
    .rw[iy (by simpa using h1)]at hi;cases hi
   rw[this]at hi;simp at hi;subst hi;have e:i=n:=o5;subst e;exact hy
variable {n:Nat}
theorem TS{w:World}{a:Addr}{es:List Value}(hn:0<n)(h:w.cells? 0 a n=some es):
  a.spot=none/\a.block<w.heap.size/\bZ w.heap a.block a.off n=some es:=by
 obtain⟨blk,off,spot⟩:=a;simp only[World.cells?,dC,if_true]at h;have hlen:es.length=n:=by simpa using Lib.mapM_length h
 have hat:∀i,i<n->∃b,es[i]? =some b/\w.cell? (Addr.add ⟨blk,off,spot⟩ i)=some b:=λi hi=>Lib.mapM_at h i i (by simp[hi]);obtain⟨b0,_,h0⟩:=hat 0 hn;simp only[Addr.add,if_true,World.cell?]at h0;cases hb:w.heap[blk]? with
 |none=>simp[hb]at h0|some o=>
  cases o<;>simp only[hb]at h0<;>try (cases h0;done)
  rename_i c T f;have hs:spot=none:=by
   cases spot with
   |none=>rfl|some _=>simp at h0
  subst hs;have hat' :∀i,i<n->es[i]? =c[off+i]?/\off+i<c.size:=λi hi=>by
   obtain⟨b,h1,h2⟩:=hat i hi;have h3:c[off+i]? =some b:=by
    by_cases hi0:i=0
    .subst hi0;simpa[Addr.add,World.cell?,hb]using h2
    .simpa[Addr.add,World.cell?,hb,hi0]using h2
   exact⟨h1.trans h3.symm,(J6.1 h3).1⟩
  refine⟨rfl,(J6.1 hb).1,?_⟩;have hle:off+n<=c.size:=by have:=(hat' (n -1) o5).2;omega
  rw[ik hb _ _ hle];congr 1;apply bI;intro i;by_cases hi:i<n
  .rw[(hat' i hi).1,aN hi,S9];simp
  .rw[iy F5,iy o5]
section
variable {H:Type} {enc:TypeId×Value->H} {P:Program} {w:World} {sp:Nat->Bool} {held:Bool} {ok:Nat->Ty->Prop}
theorem KC{e:TypeId} :∀{l:List (DataW H)} {d:DataW H},d∈l->∀b∈d.weights P e,b∈DataW.weightsAll P e l
 |x::l,d,h,b,hb=>by
  simp only[DataW.weightsAll,N8];rcases D6.1 h with rfl|h
  .exact .inl hb
  .exact .inr (KC h b hb)
theorem Um{n:Nat}(IH:∀t u,YZ P n t u=true->∀jg cs d ps,DataW.trod enc P w 0 sp held jg t cs=some (d,ps)->(∀b∈d.weights P t,b<=reachBytes)->∃x,jJ w.heap ok u x cs/\wf u x){cs:List Value}{m:Nat} :
  ∀(fs:List Field) (off:Nat) (u:Ty),BM (YZ P n) P.cellsOf off fs u=true->∀(xs:List (DataW H×List MemPlace)),xs.length=fs.length->
   (∀(i:Nat) (f:Field),fs[i]? =some f->DataW.trod enc P w 0 sp held m f.type ((cs.drop f.offset).take (P.cellsOf f.type))=xs[i]?)->(∀b∈DataW.weightsEach P (fs.map (·.type)) (xs.map (·.1)),b<=reachBytes)->
   ∃x,jJ w.heap ok u x ((cs.drop off).take u.size)/\wf u x
 |[],off,u,h,_,_,_,_=>by unfold BM at h;cases h|[f],off,u,h,xs,hl,hx,hw=>by
  unfold BM at h;simp only[A7]at h;have h1:=fC h.1.1;have h3:=fC h.2;match xs,hl with
  |[y],_=>have h4:=hx 0 f rfl;rw[h1,h3]at h4;refine IH _ _ h.1.2 _ _ y.1 y.2 (by simpa using h4) λb hb=>hw b ?_;simp[DataW.weightsEach,hb]
 |f::g::r,off,u,h,xs,hl,hx,hw=>by
  unfold BM at h;cases u<;>try (cases h;done)
  rename_i a b;simp only[A7]at h;obtain⟨⟨⟨h1,h2⟩,h3⟩,h4⟩:=h;have h1:=fC h1;have h3:=fC h3;match xs,hl with
  |y::ys,hl=>
   have h5:=hx 0 f rfl;rw[h1,h3]at h5;obtain⟨p,hp,wp⟩:=IH _ _ h2 _ _ y.1 y.2 (by simpa using h5) λc hc=>hw c (by simp[DataW.weightsEach,hc]);obtain⟨q,hq,wq⟩:=Um IH (g::r) (off+a.size) b h4 ys (by simpa using hl) (λi f' hf=>by have:=hx (i+1) f' (by simpa using hf);simpa using this) λc hc=>hw c (by simp only[fA,DataW.weightsEach,N8];simp only[fA]at hc;exact .inr hc)
   refine⟨(p,q),⟨_,_,?_,hp,hq⟩,wp,wq⟩;show(cs.drop off).take (a.size+b.size)=_;rw[List.take_add,X8]
theorem JO(hok:∀b t,b<w.heap.size->ok b t):∀(n:Nat) (t:TypeId) (u:Ty),YZ P n t u=true->∀(jg:Nat) (cs:List Value) (d:DataW H) (ps:List MemPlace),DataW.trod enc P w 0 sp held jg t cs=some (d,ps)->
  (∀b∈d.weights P t,b<=reachBytes)->∃x,jJ w.heap ok u x cs/\wf u x
 |0,_,_,h,_,_,_,_,_,_=>by cases h|n+1,t,u,h,jg,cs,d,ps,hd,hw=>by
  unfold YZ at h;split at h
  .rename_i ht;cases u<;>try (cases h;done)
   obtain⟨b,rfl,hx⟩:=DataW.trod_bool ht hd;exact⟨b,rfl,trivial⟩
  .rename_i k ht;cases u<;>try (cases h;done)
   rename_i k';have:=of_decide_eq_true h;subst this;obtain⟨b,rfl,hx,hwf⟩:=DataW.trod_int ht hd;exact⟨b,rfl,hwf⟩
  .rename_i ht;cases u<;>try (cases h;done)
   obtain⟨s,rfl,hx,hs⟩:=DataW.trod_string ht hd;simp only[jq]at hx;obtain⟨rfl,rfl⟩:=hx;refine⟨s.data.toList,rfl,hw _ ?_⟩;simp[DataW.weights]
  .rename_i e ht;cases u<;>try (cases h;done)
   rename_i v;simp only[A7,bH]at h;obtain⟨⟨⟨⟨h1,h2⟩,h3⟩,h4⟩,hE0⟩:=h;have h2:=fC h2;rw[dF]at h3 h4;rcases DataW.trod_slice ht hd with⟨rfl,hx⟩|⟨a,len,cap,elems,rest,m,rfl,rfl,hx,hb,hl,hm,hlen,hel,_,_⟩
   .exact⟨[],.inl ⟨hE0,none,0,rfl,E9 _,λi x hi=>by simp at hi⟩,A8,λx hx=>by simp at hx⟩
   .simp only[jq]at hx;obtain⟨rfl,rfl⟩:=hx;have hW:DataW.weights P t (.slice (elems.map (·.1)) (rest.map (·.1)):DataW H)=((elems.map (·.1)).length+(rest.map (·.1)).length)*P.bytesOf e::(DataW.weightsAll P e (elems.map (·.1))++DataW.weightsAll P e (rest.map (·.1))):=by
     simp only[DataW.weights,ht]
    rw[hW]at hw;have hsz:=hw _ (gW ..);simp only[V7]at hsz;have hlr:len<=reachBytes:=by have h6:(elems.length+rest.length)*1<=(elems.length+rest.length)*P.bytesOf e:=Nat.mul_le_mul_left _ h4;omega
    have each:∀i,i<len->∃x,wf v x/\a.spot=none/\a.block<w.heap.size/\∃es,bZ w.heap a.block (a.off+i*v.size) v.size=some es/\jJ w.heap ok v x es:=by
     intro i hi;have h5:=hel i hi;rw[h2]at h5;rw[kN o5]at h5;obtain⟨es,hc,hd2⟩:=Option.bind_eq_some_iff.1 h5;obtain⟨x,hx,wx⟩:=JO hok n e v h1 m es _ _ hd2 λb hb=>hw b (by refine V5 _ (bg _ (KC (d:=(elems[i]'o5).1) (gK.2 ⟨_,O0 o5,rfl⟩) b hb)))
     obtain⟨s1,s2,s3⟩:=TS h3 hc;by_cases hz:i*v.size=0
     .simp only[Addr.add,hz,if_true]at s1 s2 s3;exact⟨x,wx,s1,s2,es,by simpa[hz]using s3,hx⟩
     .simp only[Addr.add,hz,if_false]at s1 s2 s3;obtain⟨es0,hc0,_⟩:=Option.bind_eq_some_iff.1 (show((w.cells? 0 (a.add (0*P.cellsOf e)) (P.cellsOf e)).bind (DataW.trod enc P w 0 sp held m e))=some (elems[0]'o5) by rw[hel 0 o5,kN o5]);rw[h2]at hc0;have s0:=(TS h3 hc0).1;simp only[Nat.zero_mul,Addr.add,if_true]at s0;exact⟨x,wx,s0,s2,es,s3,hx⟩
    obtain⟨xs,hxl,hxs⟩:=Oh len each;refine⟨xs,.inl ⟨hE0,some a,cap,by simp[hxl],o5,λi x hi=>?_⟩,o5,λx hx=>?_⟩
    .obtain⟨_,s1,s2,es,s3,s4⟩:=hxs i x hi;refine⟨a.block,a.off,es,?_,hok _ _ s2,s3,s4⟩;obtain⟨b,o,s⟩:=a;simp only at s1;subst s1;rfl
    .obtain⟨i,hi,rfl⟩:=List.mem_iff_getElem.1 hx;exact(hxs i _ (kN hi)).1
  .rename_i fs ht;simp only[A7]at h;have h2:=fC h.2;obtain⟨xs,m,rfl,hx,hl,hlen,hf⟩:=DataW.trod_struct ht hd;simp only[jq]at hx;obtain⟨rfl,rfl⟩:=hx;have hW:DataW.weights P t (.agg (xs.map (·.1)):DataW H)=DataW.weightsEach P (fs.toList.map (·.type)) (xs.map (·.1)):=by simp only[DataW.weights,ht]
   rw[hW]at hw;have:=Um (cs:=cs) (m:=m) (λt u hu jg cs d ps hd hw=>JO hok n t u hu jg cs d ps hd hw) fs.toList 0 u h.1 xs (by simpa using hlen) (λi f hi=>hf i f (by simpa using hi)) hw;rwa[jY,U1 o5]at this
  .cases h
end
def a5j(P:Program)(t:TypeId):Bool:=match P.underlying t with|some (.struct _)=>true|_=>false
variable {P:Program}
theorem b0q{W:World}{base n:Nat}{t:TypeId}{u:Ty}{v:Value}(h:YZ P n t u=true)(hv:Value.okWide P W .any base t v):Ql (a5j P t) v v.cells.toList:=by
 cases n with
 |zero=>cases h|succ n=>
  unfold YZ at h;unfold a5j;split at h
  .rename_i ht;simp only[Value.okWide,ht,Cell.okWide,Cell.ok]at hv ⊢;cases v<;>first|rfl|exact absurd hv A8
  .rename_i ht;simp only[Value.okWide,ht,Cell.okWide,Cell.ok]at hv ⊢;cases v<;>first|rfl|exact absurd hv A8
  .rename_i ht;simp only[Value.okWide,ht,Cell.okWide,Cell.ok]at hv ⊢;cases v<;>first|rfl|exact absurd hv A8
  .rename_i ht;simp only[Value.okWide,ht,Cell.okWide,Cell.ok]at hv ⊢;cases v<;>first|rfl|exact absurd hv A8
  .rename_i ht;simp only[Value.okWide,ht]at hv ⊢;obtain⟨cs,rfl,_,_⟩:=hv;exact⟨cs,rfl,rfl⟩
  .cases h
def nN(P:Program)(n:Nat):List TypeId->List MG->Bool
 |[],[]=>true|t::ts,(g,.dat u)::ms=>YZ P n t u&&(a5j P t==g)&&P.readableRec t&&Nat.blt t P.types.size&&nN P n ts ms|_,_=>false
def wfM:(m:M)->m.den->Prop
 | .dat t,x=>wf t x|_,_=>True
def a0k:(ms:List MG)->V4 ms->Prop
 |[],_=>True|[m],x=>wfM m.2 x|m::m' ::r,x=>wfM m.2 x.1/\a0k (m' ::r) x.2
section
variable {H:Type} {enc:TypeId×Value->H} {P:Program} {W:World} {base n:Nat} {ok:Nat->Ty->Prop}
theorem Xu(hok:∀b t,b<W.heap.size->ok b t):∀{ts:List TypeId} {ms:List MG} {vs:List Value} {ds:List (DataW H)} {ps:List MemPlace},nN P n ts ms=true->DataW.TrodAll enc P W 0 (λ_=>true) true ts vs ds ps->
  (∀(j:Nat) t v,ts[j]? =some t->vs[j]? =some v->Value.okWide P W .any base t v)->(∀b∈DataW.weightsEach P ts ds,b<=reachBytes)->∃x,qW W.heap ok ms x vs []/\a0k ms x
 |[],[],vs,ds,ps,h,hd,hv,hw=>by obtain⟨rfl,rfl,rfl⟩:=trodAll_nil hd;exact⟨(),⟨rfl,rfl⟩,trivial⟩
 |[],_::_,_,_,_,h,_,_,_=>by simp[nN]at h|_::_,[],_,_,_,h,_,_,_=>by simp[nN]at h|t::ts,(g,m)::ms,vs,ds,ps,h,hd,hv,hw=>by
  cases m<;>simp only[nN,A7]at h<;>try (cases h;done)
  rename_i u;obtain⟨⟨⟨⟨h1,h2⟩,_⟩,_⟩,h3⟩:=h;have h2:=eq_of_beq h2;subst h2;obtain⟨v,vs',d,ds',p,q,rfl,rfl,rfl,⟨jg,h4⟩,h5⟩:=trodAll_cons hd;have hw' :∀b∈d.weights P t++DataW.weightsEach P ts ds',b<=reachBytes:=by simpa only[DataW.weightsEach]using hw
  obtain⟨x,hx,wx⟩:=JO (ok:=ok) hok n t u h1 _ _ _ _ h4 λb hb=>hw' b (bg _ hb);have hg:=b0q h1 (hv 0 t v rfl rfl);obtain⟨y,hy,wy⟩:=Xu hok h3 h5 (λj t v hj hk=>hv (j+1) t v (by simpa using hj) (by simpa using hk)) λb hb=>hw' b (fG _ hb);cases ms with
  |nil=>
   cases ts with
   |cons _ _=>simp[nN]at h3|nil=>obtain⟨rfl,rfl,rfl⟩:=trodAll_nil h5;exact⟨x,⟨v,_,rfl,hg,hx,rfl⟩,wx⟩
  |cons m' ms=>exact⟨(x,y),⟨v,_,vs',[],[],rfl,rfl,hg,⟨hx,rfl⟩,hy⟩,wx,wy⟩
theorem MK(hl:laidOutB P=true){W' :World}(hb:Below W.heap.size W W'){sp:Nat->Bool} :∀{ts:List TypeId} {ms:List MG} {vs:List Value} {ds:List (DataW H)} {ps:List MemPlace},nN P n ts ms=true->
  DataW.TrodAll enc P W 0 (λ_=>true) true ts vs ds ps->(∀x∈ps,x.block<W.heap.size)->(∀x∈ps,sp x.block=true)->DataW.TrodAll enc P W' 0 sp true ts vs ds ps
 |[],ms,vs,ds,ps,h,hd,_,_=>by obtain⟨rfl,rfl,rfl⟩:=trodAll_nil hd;rfl
 |_::_,[],_,_,_,h,_,_,_=>by simp[nN]at h|t::ts,(g,m)::ms,vs,ds,ps,h,hd,hlt,hsp=>by
  cases m<;>simp only[nN,A7]at h<;>try (cases h;done)
  obtain⟨⟨⟨⟨h1,h2⟩,h6⟩,h7⟩,h3⟩:=h;rw[dF]at h7;obtain⟨v,vs',d,ds',p,q,rfl,rfl,rfl,h4,h5⟩:=trodAll_cons hd;exact⟨p,q,WideElems.Trod_stays hl h6 h7 h4 (λx hx=>hb.same (hlt x (bg _ hx))) (λx hx=>hsp x (bg _ hx)),
   MK hl hb h3 h5 (λx hx=>hlt x (fG _ hx)) (λx hx=>hsp x (fG _ hx)),rfl⟩
end
theorem ZC{W:World}{name:String}{g:Nat}{k:IntKind}{zs:List Int}(hg:P.globalNamed name=some g)(hz:0<zs.length)(h:Lib.TabIs P W name k zs):
  IY ⟨W.heap,λb _=>b<W.heap.size,nom⟩ g (.int k) zs:=by
 have hc:∀i z,zs[i]? =some z->W.cell? ⟨g,i,none⟩=some (.int k z):=λi z hi=>by have:=World.var?_cell hg h i;rw[this];simp[hi]
 have key:∀i z,zs[i]? =some z->g<W.heap.size/\bZ W.heap g i 1=some [.int k z]:=λi z hi=>by
  have h1:=hc i z hi;have h2:W.cells? 0 ⟨g,i,none⟩ 1=some [.int k z]:=by simp[World.cells?,fP,Addr.add,h1]
  obtain⟨_,s2,s3⟩:=TS o5 h2;exact⟨s2,s3⟩
 refine⟨(key 0 zs[0] (kN hz)).1,?_,λi z hi=>⟨_,?_,rfl⟩⟩
 .unfold Lib.TabIs World.var? at h;simp only[hg,gG]at h;split at h
  .rename_i cs T f hb;simp only[F6]at h;subst h;exact⟨_,T,f,hb,by simp[Ty.size]⟩
  .cases h
 .have:=(key i z hi).2;simpa[Ty.size]using this
theorem a0b{w:World}{ok:Nat->Ty->Prop}{m:Mp}{name:String}{g:Nat}{k:IntKind}{zs:List Int}(hg:P.globalNamed name=some g)(h:IY ⟨w.heap,ok,m⟩ g (.int k) zs):Lib.TabIs P w name k zs:=by
 obtain⟨_,⟨c,T,f,hb,hl⟩,hz⟩:=h;unfold Lib.TabIs World.var?;simp only[hg,gG,hb,F6];simp only[Ty.size,aS]at hl;apply Array.ext
 .simp[hl]
 .intro i h1 h2;have hi:i<zs.length:=by simpa using h2
  obtain⟨es,he,hr⟩:=hz i zs[i] (kN hi);rw[ik hb _ _ (by simp[Ty.size];omega)]at he;simp only[Ty.size,aS,F6]at he;have h3:es=[.int k zs[i]]:=hr;rw[h3]at he;have h4:=congrArg (λl=>l[0]?) he;simp only[aN (show 0<1 by omega),S9,aQ,bY]at h4;rw[Y6,N9 h1]at h4;simpa using h4
theorem b0k{h:Array Obj}{all:List Value} :∀{ms:List MG} {ts:List TypeId} {vs:List Value},nN P n ts ms=true->a3P h all ms vs:=by
 intro ms;induction ms with
 |nil=>intro ts vs _;trivial|cons md ms ih=>
  intro ts vs hp;obtain⟨g,md⟩:=md;cases ts with
  |nil=>cases hp|cons t ts=>
   cases md<;>simp only[nN,A7]at hp<;>try (cases hp;done)
   cases vs with
   |nil=>trivial|cons v vs=>exact ih hp.2
theorem Yf{H:Type}{enc:TypeId×Value->H}{gl:List (Nat×(t:Ty)×List t.den)}{f:FuncId}{fn:Func}{s:ChangeSpec}{ms:List MG}{F:V4 ms->Option Bool}{tb:TypeId}
  (hlaid:laidOutB P=true) (hF:aH P gl f ⟨ms,[(false,.dat .bool)],[],F⟩) (law:∀x,a0k ms x->F x=some true) (hpars:nN P 30 fn.params.toList ms=true) (hres:fn.resultTypes=#[tb]) (hbool:P.underlying tb=some .bool)
  (hvars:s.vars=[]) (hsfn:∀ds:List (DataW H),ds.length=ms.length->s.fn H ds= { results:=[.lit (.bool true)],args:=ds })
  {W:World} {base:Nat} {args:Array Value} {ds gs:List (DataW H)} {before:List MemPlace} {apart fresh handsOn again:Bool}
  (hgl:∀g u,bK gl g=some u->IY ⟨W.heap,λb _=>b<W.heap.size,nom⟩ g u.1 u.2)
  (hval:∀(j:Nat) t v,fn.params[j]? =some t->args[j]? =some v->Value.okWide P W .any base t v)
  (hW:DataW.Whole enc P fn.params.toList s.vars apart W args.toList ds gs before)
  (hz:(DataW.weightsEach P (fn.params.toList++s.plain.varTypes P) (ds++gs)).all (·<=reachBytes)=true):
  Calls P f args W λe W' =>∃v,e= .returned v/\s.post enc P fn apart fresh handsOn again W args v W' :=by
 have hW' :=hW;obtain⟨p,q,hA,hV,rfl,hfz,hnd⟩:=hW;rw[hvars]at hV;obtain⟨rfl,rfl⟩:=trodVars_none hV;have hlen:ds.length=ms.length:=by
  have:∀{ts:List TypeId} {ms:List MG} {vs:List Value} {ds:List (DataW H)} {ps:List MemPlace},nN P 30 ts ms=true->DataW.TrodAll enc P W 0 (λ_=>true) true ts vs ds ps->ds.length=ms.length:=by
   intro ts;induction ts with
   |nil=>
    intro ms vs ds ps h hd;obtain⟨rfl,rfl,rfl⟩:=trodAll_nil hd;cases ms with
    |nil=>rfl|cons _ _=>simp[nN]at h
   |cons t ts ih=>
    intro ms vs ds ps h hd;obtain⟨v,vs',d,ds',p,q,rfl,rfl,rfl,h4,h5⟩:=trodAll_cons hd;cases ms with
    |nil=>simp[nN]at h|cons m ms=>
     obtain⟨g,m⟩:=m;cases m<;>simp only[nN,A7]at h<;>try (cases h;done)
     simp[ih h.2 h5]
  exact this hpars hA
 have hvt:s.plain.varTypes P=[]:=by simp[ChangeSpec.plain,DataSpec.varTypes,hvars]
 rw[hvt]at hz;simp only[H6,jh,decide_eq_true_eq]at hz;obtain⟨x,hx,wx⟩:=Xu (ok:=λb _=>b<W.heap.size) (λb t hb=>hb) hpars hA (λj t v hj hv=>hval j t v (by simpa using hj) (by simpa using hv)) hz;have hc:=hF W (λb _=>b<W.heap.size) [] args.toList x true (λb t hb=>hb) cZ (λb hb=>by cases hb) hgl hx (b0k hpars) (law x wx);simp only[Array.toArray_toList]at hc;refine hc.mono λe W' ⟨v,ok',O',rs,os,B,he,hfr,_,_,_,_,hrv,hos,hrel⟩=>?_;subst he;have hnoos:os=[]:=by
  have:∀{ms:List MG} {vs:List Value} {ts:List TypeId},nN P 30 ts ms=true->vU W'.heap ms vs os B->os=[]:=by
   intro ms;induction ms with
   |nil=>
    intro vs ts h ho;cases vs with
    |nil=>exact ho.1|cons _ _=>exact absurd ho (by simp[vU])
   |cons m ms ih=>
    intro vs ts h ho;obtain⟨g,m⟩:=m;cases ts with
    |nil=>simp[nN]at h|cons t ts=>
     cases m<;>simp only[nN,A7]at h<;>try (cases h;done)
     cases vs with
     |nil=>exact absurd ho (by simp[vU])|cons v vs=>exact ih h.2 ho
  exact this hpars hos
 subst hnoos;obtain⟨v1,cs,hvs,hg,⟨hrep,_⟩⟩:=hrel;simp only[H6]at hvs;subst hvs;have hv1:v1= .bool true:=by have h1:cs=[v1]:=hg;have h2:cs=[.bool true]:=hrep;rw[h1]at h2;exact(O5 h2).1
 subst hv1;have hv:v= .bool true:=hrv.2;subst hv;have hbel:Below W.heap.size W W' :=⟨hfr.os,hfr.tape,hfr.output,hfr.size,λk hk=>hfr.block k hk A8⟩;simp only[H6]at hW' hfz;have hlt:∀x∈p,x.block<W.heap.size:=λx hx=>by simpa using hW'.lt x hx
 have hres1:∀(b:Nat) (sp:Nat->Bool) (hd:Bool),DataW.TrodAll enc P W' b sp hd fn.resultTypes.toList ((Value.bool true).resultList fn.resultTypes.size) (s.fn H (ds++[])).results []:=λb sp hd=>by rw[H6,hsfn ds hlen,hres];exact trodAll_cons_mk (shut_bool hbool _) trodAll_mk0
 have hargs1:∀sp:Nat->Bool,(∀x∈p,sp x.block=true)->DataW.TrodAll enc P W' 0 sp true fn.params.toList args.toList (s.fn H (ds++[])).args p:=λsp hs=>by rw[H6,hsfn ds hlen];exact MK hlaid hbel hpars hA hlt hs
 have hvars1:∀sp:Nat->Bool,DataW.TrodVars enc P W' sp s.vars (s.fn H (ds++[])).vars []:=λsp=>by rw[H6,hsfn ds hlen,hvars];rfl
 refine⟨_,rfl,ds,[],p,[],p,[],hW',hres1 _ _ _,hargs1 _ (λx hx=>by simpa using hlt x hx),hvars1 _,World.keptBut_mono (λx hx=>⟨hx,.inr (.inl hx)⟩) (hbel.frame (·∈p)),λ_=>⟨ok_one hres rfl (okWide_bool_mk hbool _),_,_,([]++p)++[],⟨[]++p,[],trodAll_append (hargs1 _ (λ_ _=>rfl)) (hres1 _ _ _),hvars1 _,rfl,?_,?_⟩,?_⟩⟩
 .intro b off hp;simp only[J3,H6]at hp;rw[hbel.frozen (hlt _ hp)];exact hfz b off hp
 .intro ha;obtain⟨_,_,_,_,_,_,hn⟩:=hW';simpa using hn ha
 .intro x hx _;simpa using hx
end Go.GP
namespace Go.GP
open Go.RowKit
theorem a0t(w:World)(k:Nat)(os:Array Obj):Below w.heap.size w (Sort.grow (w.drewN k) os):=
 ⟨rfl,rfl,rfl,by simp[Sort.grow,World.drewN],λi hi=>by show((w.drewN k).heap++os)[i]? =_;rw[gZ (by exact hi)];rfl⟩
theorem CY{P:Program}{w w' :World}(hb:Below w.heap.size w w'){ok:Nat->Ty->Prop}(hlt:∀b t,ok b t->b<w.heap.size){ps:List MG}{vals:List Value}(hps:vU w'.heap ps vals [] []){t:Ty}{x:t.den}{v:Value}(hr:jJ w'.heap ok t x [v]):
  ∃v' ok' O' rs os B,(Ending.returned v)= .returned v' /\Frame' w w' []/\(∀b t,ok b t->ok' b t)/\(∀b t,ok' b t->b<w'.heap.size/\(ok b t\/w.heap.size<=b\/b∈([]:List Nat)))/\
   (O' ++B).Nodup/\(∀b∈O' ++B,(∀t,¬ok' b t)/\b<w'.heap.size/\(w.heap.size<=b\/b∈([]:List Nat)))/\
   a0m 1 v' rs/\vU w'.heap ps vals os B/\qW w'.heap ok' ([(false,.dat t)]++[]) x (rs++os) O' :=
 ⟨v,ok,[],[v],[],[],rfl,⟨hb.os,hb.tape,hb.output,hb.size,λb h _=>hb.block b h⟩,λb t h=>h,λb t h=>⟨dU (hlt b t h) hb.size,.inl h⟩,A8,A8,⟨rfl,rfl⟩,hps,⟨v,[v],rfl,rfl,hr,rfl⟩⟩
def Fj(n:Int):Option (List UInt8):=if -9223372036854775808<=n/\n<=9223372036854775807 then some (Lib.itoa n)else none
def ru(s:List UInt8)(c:Int):Option (List UInt8):=if 0<=c/\c<=9223372036854775807/\s.length*c.toNat<=140737488355328 then some (Lib.repeatL s c.toNat)else none
variable {P:Program}
theorem a0X{f g:Nat}{gl:List (Nat×(t:Ty)×List t.den)}
  (hC:∀(n:Int) (h0:-9223372036854775808<=n) (h1:n<=9223372036854775807) (w:World) (htab:Lib.TabIs P w "internal/strconv.uint64pow10" .u64 Lib.pow10Tab),
   Calls P f #[.int .i64 n] w λe w' =>e= .returned (.string ⟨(Lib.itoa n).toArray⟩)/\∃k os,w' =Sort.grow (w.drewN k) os)
  (hg:P.globalNamed "internal/strconv.uint64pow10"=some g) (hgl:bK gl g=some ⟨.int .u64,Lib.pow10Tab⟩):
  aH P gl f ⟨[(false,.dat (.int .i64))],[(false,.dat .str)],[],λx=>Fj x⟩:=by
 intro w ok O vals x r hlt _ _ hgls hrel hdv hfn;obtain⟨v,cs,rfl,h1,h2,rfl⟩:=hrel;have h1:cs=[v]:=h1;subst h1;have h2:[v]=[.int .i64 x]:=h2;obtain rfl:=(O5 h2).1;simp only[Fj]at hfn;split at hfn
 .rename_i hx;cases hfn;refine(hC x hx.1 hx.2 w (a0b hg (hgls _ _ hgl))).mono λe w' ⟨he,k,os,hw⟩=>?_;subst he;subst hw;exact CY (P:=P) (t:=.str) (x:=Lib.itoa x) (ps:=[(false,.dat (.int .i64))]) (vals:=[.int .i64 x]) (a0t w k os) hlt ⟨rfl,rfl⟩ rfl
 .cases hfn
theorem YD{f:Nat}{gl:List (Nat×(t:Ty)×List t.den)}
  (hC:∀(s:ByteArray) (c:Nat) (w:World) (hc:c<=9223372036854775807) (hlen:s.size*c<=140737488355328),
   Calls P f #[.string s,.int .i64 c] w λe w' =>e= .returned (.string ⟨(Lib.repeatL s.data.toList c).toArray⟩)/\Below w.heap.size w w'):
  aH P gl f ⟨[(false,.dat .str),(false,.dat (.int .i64))],[(false,.dat .str)],[],λx=>ru x.1 x.2⟩:=by
 intro w ok O vals x r hlt _ _ _ hrel hdv hfn;obtain⟨v,cs,vs',O1,O2,rfl,rfl,h1,⟨h2,rfl⟩,v2,cs2,rfl,h3,h4,rfl⟩:=hrel;have h1:cs=[v]:=h1;subst h1;have h3:cs2=[v2]:=h3;subst h3;have h2:[v]=[.string ⟨x.1.toArray⟩]:=h2;have h4:[v2]=[.int .i64 x.2]:=h4;obtain rfl:=(O5 h2).1;obtain rfl:=(O5 h4).1;simp only[ru]at hfn;split at hfn
 .rename_i hx;cases hfn;obtain⟨a,c⟩:=x;simp only at hx ⊢;obtain⟨n,rfl⟩:∃n:Nat,c=n:=⟨c.toNat,(qm hx.1).symm⟩;have hh:=hC ⟨a.toArray⟩ n w (by have:=hx.2.1;omega) (by have h5:=hx.2.2;rw[az]at h5;simpa[ByteArray.size]using h5);refine Calls.mono hh λe w' ⟨he,hb⟩=>?_;subst he;exact CY (P:=P) (t:=.str) (x:=Lib.repeatL a (n:Int).toNat) (ps:=[(false,.dat .str),(false,.dat (.int .i64))]) (vals:=[.string ⟨a.toArray⟩,.int .i64 n]) hb hlt ⟨rfl,rfl⟩ (by simp[jJ])
 .cases hfn
end Go.GP
namespace Go.GP
def b1l(Q:Nat->((t:Ty)×List t.den)->Prop):List (Nat×(t:Ty)×List t.den)->Prop
 |[]=>True|(g,u)::r=>Q g u/\b1l Q r
theorem Tz{Q:Nat->((t:Ty)×List t.den)->Prop} :∀{l:List (Nat×(t:Ty)×List t.den)},b1l Q l->∀g u,bK l g=some u->Q g u
 |[],_,g,u,h=>by simp[bK]at h|(k,v)::r,hc,g,u,h=>by
  unfold bK at h;cases hb:Nat.beq k g
  .simp only[hb,cond_false]at h;exact Tz hc.2 g u h
  .simp only[hb,cond_true,F6]at h;have:=fC hb;subst this;subst h;exact hc.1
end Go.GP
namespace Go.GP
open Go.RowKit Go.Sort
def a1O(x:Int):List Int->List Int
 |[]=>[x]|y::l=>bif O7 x y then x::y::l else y::a1O x l
def Jt:List Int->List Int
 |[]=>[]|x::l=>a1O x (Jt l)
def ddp(p:Int):List Int->List Int
 |[]=>[]|y::l=>bif x8 y p then ddp p l else y::ddp y l
def dd:List Int->List Int
 |[]=>[]|x::l=>x::ddp x l
theorem Qw(x:Int):∀l,(a1O x l).Perm (x::l)
 |[]=> .refl _|y::l=>by
  unfold a1O;cases O7 x y
  .exact(List.Perm.cons y (Qw x l)).trans (List.Perm.swap x y l)
  .exact .refl _
theorem GZ:∀l,(Jt l).Perm l
 |[]=> .refl _|x::l=>(Qw x (Jt l)).trans ((GZ l).cons x)
theorem RX(x:Int):∀{l:List Int},l.Pairwise (·<=·)->(a1O x l).Pairwise (·<=·)
 |[],_=>by simp[a1O]|y::l,h=>by
  have h' :=V8.1 h;unfold a1O;cases hxy:O7 x y
  .have hxy' :y<x:=by simpa[O7]using hxy
   refine V8.2 ⟨λz hz=>?_,RX x h'.2⟩;rcases D6.1 ((Qw x l).mem_iff.1 hz)with rfl|hz
   .omega
   .exact h'.1 z hz
  .have hxy' :x<=y:=by simpa[O7]using hxy
   refine V8.2 ⟨λz hz=>?_,h⟩;rcases D6.1 hz with rfl|hz
   .exact hxy'
   .exact Int.le_trans hxy' (h'.1 z hz)
theorem Ha:∀l,(Jt l).Pairwise (·<=·)
 |[]=>List.Pairwise.nil|x::l=>RX x (Ha l)
theorem SG(l:List Int):(l.mergeSort λx y=>decide (x<=y))=Jt l:=by refine List.Perm.eq_of_pairwise (le:=(·<=·)) (λa b _ _ h1 h2=>Int.le_antisymm h1 h2) ?_ (Ha l) ((List.mergeSort_perm l _).trans (GZ l).symm);have:=List.pairwise_mergeSort (le:=λx y:Int=>decide (x<=y)) (λa b c h1 h2=>by simp at*;omega) (λa b=>by simp;omega) l;simpa using this
theorem TY(y:Int):∀(l:List Int) (p:Int),ddp p (l++[y])=ddp p l++(bif x8 y ((p::l).getLast A8)then[]else[y])
 |[],p=>rfl|z::l,p=>by
  have hg:(p::z::l).getLast A8=(z::l).getLast A8:=List.getLast_cons _;rw[hg];simp only[Z4,ddp];by_cases h:z=p
  .subst h;simp only[x8,decide_true,cond_true];exact TY y l z
  .have h' :x8 z p=false:=by simp[x8,h]
   rw[h'];simp only[cond_false];rw[TY y l z];rfl
theorem PG(l:List Int)(y:Int)(m:Nat)(hm:m<=l.length):Lib.compactUpTo (l++[y]).toArray m=Lib.compactUpTo l.toArray m:=by
 unfold Lib.compactUpTo;have e:∀j,j<m->(l++[y]).toArray[j]! =l.toArray[j]!:=λj hj=>by rw[getElem!_pos _ j F5,getElem!_pos _ j F5];simp[List.getElem_append_left (show j<l.length by omega)]
 have hf:(List.range m).filter (Lib.keeps (l++[y]).toArray)=(List.range m).filter (Lib.keeps l.toArray):=by apply List.filter_congr;intro j hj;have hj' :=fD.1 hj;unfold Lib.keeps;rw[e j hj',e (j -1) o5]
 rw[hf];apply gm;intro j hj;exact e j (fD.1 (lC.1 hj).1)
theorem XR(x y:Int)(l:List Int):Lib.compact (x::l++[y])=Lib.compact (x::l)++(bif x8 y ((x::l).getLast A8)then[]else[y]):=by
 have hlen:(x::l++[y]).length=(x::l).length+1:=A8;have h1:Lib.compact (x::l++[y])=Lib.compactUpTo (x::l++[y]).toArray (x::l).length++(if Lib.keeps (x::l++[y]).toArray (x::l).length=true then[(x::l++[y]).toArray[(x::l).length]!]else[]):=by
  unfold Lib.compact;rw[hlen];unfold Lib.compactUpTo;rw[fP,List.filter_append,eQ];congr 1;by_cases hk:Lib.keeps (x::l++[y]).toArray (x::l).length=true
  .simp only[gy,hk,if_true,List.filter_nil,fA,jM]
  .simp only[gy,hk,List.filter_nil,jM];simp
 rw[h1,PG (x::l) y _ (E9 _)];have e1:(x::l++[y]).toArray[(x::l).length]! =y:=by rw[getElem!_pos _ _ A8];simp
 have e2:(x::l++[y]).toArray[(x::l).length -1]! =(x::l).getLast A8:=by rw[getElem!_pos _ _ F5];rw[List.getLast_eq_getElem];simp only[List.getElem_toArray];rw[List.getElem_append_left]
 have hk:Lib.keeps (x::l++[y]).toArray (x::l).length=decide (y≠(x::l).getLast A8):=by unfold Lib.keeps;rw[e1,e2];simp
 rw[hk,e1];unfold Lib.compact;by_cases h:y=(x::l).getLast A8<;>simp[x8,h]
theorem W_{motive:List Int->Prop}(h0:motive [])(h1:∀l y,motive l->motive (l++[y])):∀n (l:List Int),l.length=n->motive l
 |0,l,h=>by rw[aA.1 h];exact h0|n+1,l,h=>by
  have hne:l≠[]:=by intro e;subst e;cases h
  rw[←List.dropLast_concat_getLast hne];exact h1 _ _ (W_ h0 h1 n _ F5)
theorem a0C(l:List Int):Lib.compact l=dd l:=by
 cases l with
 |nil=>rfl|cons x l=>
  show _=x::ddp x l;refine W_ (motive:=λl=>Lib.compact (x::l)=x::ddp x l) ?_ (λl y ih=>?_) l.length l rfl
  .simp[Lib.compact,Lib.compactUpTo,Lib.keeps,fP,ddp]
  .have:=XR x y l;rw[Z4]at this;rw[this,ih,TY];rfl
def BV(xs:List Int):Option (List Int):=bif Nat.blt xs.length 4611686018427387904 then some (Jt xs)else none
def pR(xs:List Int):Option (List Int):=bif Nat.blt xs.length 4611686018427387904 then some (dd xs)else none
def vZ(s t:List UInt8):Option Bool:=match t with
 |[c]=>some (decide (0<=Lib.indexByte s c))|_=>none
def xA(a b:Int):Option (Int×Int):=if 0<=a/\a<18446744073709551616/\0<=b/\b<18446744073709551616 then some (a*b / 18446744073709551616,a*b % 18446744073709551616)else none
variable {w:World}{ok:Nat->Ty->Prop}
theorem NW{m:Mp}{xs:List Int}{blk off len cap sz:Nat}(h:arrOk ⟨w.heap,ok,m⟩ (.int .i64) xs (.arr blk off len cap sz)):Holds (Value.int .i64) w blk off xs.toArray:=by
 obtain⟨_,rfl,rfl,hc,c,T,f,hb,hz,hs,hx⟩:=h;have hz:f=(0,0):=hz.elim id (λh=>nomatch h.1);subst hz;intro j hj;have hj' :j<xs.length:=by simpa using hj
 obtain⟨es,he,hr⟩:=hx j xs[j] (kN hj');have hr:es=[.int .i64 xs[j]]:=hr;subst hr;have hb' :w.heap[blk]? =some (.cells c T (0,0)):=hb;have he' :bZ w.heap blk (off+j*1) 1=some [.int .i64 xs[j]]:=he;rw[aS]at he';refine⟨?_,?_⟩
 .have:=sD (w:=w) he' (j:=0) (v:=.int .i64 xs[j]) rfl;rw[aQ]at this;rw[this,getElem!_pos xs.toArray j hj];simp
 .simp[World.frozen?,hb']
variable {blk:Nat}{off:Nat}{n:Nat}{c:Array Value}{T:TypeId}
theorem a4I{fr:Nat×Nat}(hb:w.heap[blk]? =some (.cells c T fr))(d:Array Int):
  (putRow (Value.int .i64) (Sort.ahead w n) blk off d).heap[blk]? =some (.cells (putCells (Value.int .i64) off d c) T fr):=by
 show(w.heap.modify blk (onCells (putCells (Value.int .i64) off d)))[blk]? =_;rw[jK,if_pos rfl,hb];rfl
theorem a1l{blk off n b:Nat}(h:b≠blk)(d:Array Int):(putRow (Value.int .i64) (Sort.ahead w n) blk off d).heap[b]? =w.heap[b]?:=by show(w.heap.modify blk (onCells (putCells (Value.int .i64) off d)))[b]? =_;rw[jK,if_neg (λe=>h e.symm)]
theorem a2E{h:Array Obj}{m:Mp}{blk off cap:Nat}{d:Array Int}{ys:List Int}(hb:h[blk]? =some (.cells (putCells (Value.int .i64) off d c) T (0,0)))
  (hfit:off+cap<=c.size) (hd:d.size<=cap) (hl:ys.length<=d.size) (hy:∀(i:Nat) (y:Int),ys[i]? =some y->d[i]? =some y):arrOk ⟨h,ok,m⟩ (.int .i64) ys (.arr blk off ys.length cap 1):=by
 refine⟨rfl,rfl,rfl,o5,_,T,_,hb,.inl rfl,by simp[putCells,Ty.size];omega,λi y hi=>⟨[.int .i64 y],?_,rfl⟩⟩;have hi' :=(aK.1 hi).1;have hdi:=hy i y hi;obtain⟨hdi',hdy⟩:=J6.1 hdi;show bZ h blk (off+i*1) 1=_;rw[aS,ik hb _ _ (by simp[putCells];omega)];have hk:off+i<c.size:=o5;have:(putCells (Value.int .i64) off d c).toList[off+i]? =some (.int .i64 y):=by unfold putCells;rw[Y6,Array.getElem?_mapIdx,N9 hk];simp only[aV];rw[if_pos o5,Nat.add_sub_cancel_left,getElem!_pos d i hdi',hdy]
 obtain⟨h1,h2⟩:=aK.1 this;rw[dB h1,h2];rfl
theorem a3C{P:Program}{d:Array Int}{os:Array Obj}(hlt:∀b t,ok b t->b<w.heap.size)(hfree:(∀t,¬ok blk t)/\blk<w.heap.size)
  (hb:w.heap[blk]? =some (.cells c T (0,0))) {w' :World} (hw:w' =Sort.grow (putRow (Value.int .i64) (Sort.ahead w n) blk off d) os):
  w'.heap[blk]? =some (.cells (putCells (Value.int .i64) off d c) T (0,0))/\Frame' w w' [blk]/\(∀b t,ok b t->b<w'.heap.size/\(ok b t\/w.heap.size<=b\/b∈[blk]))/\blk<w'.heap.size:=by
 subst hw;have hsz:(putRow (Value.int .i64) (Sort.ahead w n) blk off d).heap.size=w.heap.size:=by simp[Sort.ahead]
 have hge:w.heap.size<=(Sort.grow (putRow (Value.int .i64) (Sort.ahead w n) blk off d) os).heap.size:=by simp[Sort.grow,Sort.ahead]
 have hold:∀b,b<w.heap.size->(Sort.grow (putRow (Value.int .i64) (Sort.ahead w n) blk off d) os).heap[b]? =(putRow (Value.int .i64) (Sort.ahead w n) blk off d).heap[b]?:=λb hb=>by show((putRow (Value.int .i64) (Sort.ahead w n) blk off d).heap++os)[b]? =_;rw[gZ (by rw[hsz];exact hb)]
 refine⟨by rw[hold blk hfree.2];exact a4I hb d,⟨rfl,rfl,rfl,hge,λb h1 h2=>?_⟩,λb t h=>⟨dU (hlt b t h) hge,.inl h⟩,dU hfree.2 hge⟩;rw[hold b h1];exact a1l (λe=>h2 (by simp[e])) d
variable {P:Program}{f:Nat}
theorem a2n{gl:List (Nat×(t:Ty)×List t.den)}
  (hC:∀(blk off cap:Nat) (zs:List Int) (w:World) (hH:Holds (Value.int .i64) w blk off zs.toArray) (hblk:blk<w.heap.size) (hsz:zs.length<4611686018427387904),
   Calls P f #[.slice (some ⟨blk,off,none⟩) zs.length cap] w λe w' =>e= .returned (.tuple #[])/\∃n os,w' =Sort.grow (putRow (Value.int .i64) (Sort.ahead w n) blk off (zs.mergeSort λx y=>decide (x<=y)).toArray) os)
  (hN:∀(p:Option Addr) (cap:Nat) (w:World),Calls P f #[.slice p 0 cap] w λe w' =>e= .returned (.tuple #[])/\w' =w):
  aH P gl f ⟨[(false,.ownb (.int .i64))],[],[(false,.own (.int .i64))],λx=>BV x⟩:=by
 intro w ok O vals x r hlt hnd hO _ hrel hdv hfn;obtain⟨v,cs,rfl,h1,l,v',hcs,hv,ha,rfl⟩:=hrel;have h1:cs=[v]:=h1;rw[h1]at hcs;simp only[G7,and_true]at hcs;subst hcs;simp only[BV]at hfn;cases hx0:Nat.blt x.length 4611686018427387904<;>rw[hx0]at hfn
 .cases hfn
 rw[dF]at hx0;have hx:=hx0;rw[←SG]at hfn;cases hfn;cases l with
 |st b=>cases ha|mp b=>cases ha.1|nil=>
  have ha:x=[]:=ha.1;subst ha;have hv:v= .slice none 0 0:=hv;subst hv;refine(hN none 0 w).mono λe w' ⟨he,hw⟩=>?_;subst he;subst hw;exact⟨_,ok,[],[],[.slice none 0 0],[],rfl,Frame'.refl _ _,λ_ _ h=>h,λb t h=>⟨hlt b t h,.inl h⟩,A8,A8,⟨rfl,rfl⟩,⟨[],rfl,rfl,rfl⟩,
   ⟨_,_,rfl,rfl,uH.2 ⟨.nil,_,rfl,rfl,(by simp[arrOk,Ty.isEnt]),rfl⟩⟩⟩
 |arr blk off len cap sz=>
  have hH:=NW ha;obtain⟨_,rfl,rfl,hc,c,T,f,hb,hz,hs,hx'⟩:=ha;have hz:f=(0,0):=hz.elim id (λh=>nomatch h.1);subst hz;have hv:v= .slice (some ⟨blk,off,none⟩) x.length cap:=hv;subst hv;have hfree:=hO blk (by simp[Loc.blks]);refine(hC blk off cap x w hH hfree.2 hx).mono λe w' ⟨he,n,os,hw⟩=>?_;subst he;obtain⟨g1,g2,g3,g4⟩:=a3C (P:=P) hlt hfree hb hw;have hlen:(x.mergeSort λx y=>decide (x<=y)).length=x.length:=List.length_mergeSort ..;have hfit:off+cap<=c.size:=by simpa[Ty.size]using hs
  have harr:=a2E (ok:=ok) (m:=nom) (cap:=cap) (ys:=x.mergeSort λx y=>decide (x<=y)) g1 hfit (by simp[hlen];exact hc) A8 (λi y hi=>by simpa using hi);rw[hlen]at harr;refine⟨_,ok,[blk],[],[.slice (some ⟨blk,off,none⟩) x.length cap],[],rfl,g2,λ_ _ h=>h,g3,A8,λb hb=>?_,⟨rfl,rfl⟩,⟨[],rfl,rfl,rfl⟩,⟨_,_,rfl,rfl,uH.2 ⟨.arr blk off x.length cap 1,_,rfl,rfl,harr,rfl⟩⟩⟩;have:b=blk:=by simpa using hb
  subst this;exact⟨hfree.1,g4,.inr (by simp[Loc.blks])⟩
theorem a0D(zs:List Int):(Lib.compact zs).length<=zs.length:=by unfold Lib.compact Lib.compactUpTo;rw[V7];exact ak (dG _ _) A8
theorem VV{gl:List (Nat×(t:Ty)×List t.den)}
  (hC:∀(blk off cap:Nat) (zs:List Int) (w:World) (hH:Holds (Value.int .i64) w blk off zs.toArray) (hsz:zs.length<=9223372036854775807) (hcap:zs.length<=cap),
   Calls P f #[.slice (some ⟨blk,off,none⟩) zs.length cap] w λe w' =>e= .returned (.slice (some ⟨blk,off,none⟩) (Lib.compact zs).length cap)/\∃q,w' =putRow (Value.int .i64) (Sort.ahead w q) blk off (Lib.compact zs++List.replicate (zs.length -(Lib.compact zs).length) 0).toArray)
  (hN:∀(a:Option Addr) (cap:Nat) (w:World),Calls P f #[.slice a 0 cap] w λe w' =>e= .returned (.slice a 0 cap)/\w' =w):
  aH P gl f ⟨[(false,.own (.int .i64))],[(false,.own (.int .i64))],[],λx=>pR x⟩:=by
 intro w ok O vals x r hlt hnd hO _ hrel hdv hfn;obtain⟨v,cs,rfl,h1,hrm⟩:=hrel;obtain⟨l,v',hcs,hv,ha,rfl⟩:=uH.1 hrm;have h1:cs=[v]:=h1;rw[h1]at hcs;simp only[G7,and_true]at hcs;subst hcs;simp only[pR]at hfn;cases hx0:Nat.blt x.length 4611686018427387904<;>rw[hx0]at hfn
 .cases hfn
 rw[dF]at hx0;have hx:=hx0;rw[←a0C]at hfn;cases hfn;cases l with
 |st b=>cases ha|mp b=>cases ha.1|nil=>
  have ha:x=[]:=ha.1;subst ha;have hv:v= .slice none 0 0:=hv;subst hv;refine(hN none 0 w).mono λe w' ⟨he,hw⟩=>?_;subst he;subst hw;exact⟨_,ok,[],[.slice none 0 0],[],[],rfl,Frame'.refl _ _,λ_ _ h=>h,λb t h=>⟨hlt b t h,.inl h⟩,A8,A8,⟨rfl,rfl⟩,⟨rfl,rfl⟩,
   ⟨_,_,rfl,rfl,uH.2 ⟨.nil,_,rfl,rfl,⟨rfl,rfl⟩,rfl⟩⟩⟩
 |arr blk off len cap sz=>
  have hH:=NW ha;obtain⟨_,rfl,rfl,hc,c,T,f,hb,hz,hs,hx'⟩:=ha;have hz:f=(0,0):=hz.elim id (λh=>nomatch h.1);subst hz;have hv:v= .slice (some ⟨blk,off,none⟩) x.length cap:=hv;subst hv;have hfree:=hO blk (by simp[Loc.blks]);refine(hC blk off cap x w hH o5 hc).mono λe w' ⟨he,n,hw⟩=>?_;subst he;have hle:=a0D x;obtain⟨g1,g2,g3,g4⟩:=a3C (P:=P) (n:=n) (off:=off) (d:=(Lib.compact x++List.replicate (x.length -(Lib.compact x).length) 0).toArray) (os:=#[]) (w' :=w') hlt hfree hb (by rw[grow_empty];exact hw);have hfit:off+cap<=c.size:=by simpa[Ty.size]using hs
  have harr:=a2E (ok:=ok) (m:=nom) (cap:=cap) (ys:=Lib.compact x) g1 hfit F5 A8 (λi y hi=>by have:=(aK.1 hi).1;rw[List.getElem?_toArray,U4 this];exact hi)
  refine⟨_,ok,[blk],[.slice (some ⟨blk,off,none⟩) (Lib.compact x).length cap],[],[],rfl,g2,λ_ _ h=>h,g3,A8,λb hb=>?_,⟨rfl,rfl⟩,⟨rfl,rfl⟩,⟨_,_,rfl,rfl,uH.2 ⟨.arr blk off (Lib.compact x).length cap 1,_,rfl,rfl,harr,rfl⟩⟩⟩;have:b=blk:=by simpa using hb
  subst this;exact⟨hfree.1,g4,.inr (by simp[Loc.blks])⟩
theorem Sv{gl:List (Nat×(t:Ty)×List t.den)}
  (hC:∀(s:ByteArray) (c:UInt8) (w:World),Calls P f #[.string s,.string ⟨#[c]⟩] w λe w' =>e= .returned (.bool (decide (0<=Lib.indexByte s.data.toList c)))/\w' =w):
  aH P gl f ⟨[(false,.dat .str),(false,.dat .str)],[(false,.dat .bool)],[],λx=>vZ x.1 x.2⟩:=by
 intro w ok O vals x r hlt _ _ _ hrel hdv hfn;obtain⟨v,cs,vs',O1,O2,rfl,rfl,h1,⟨h2,rfl⟩,v2,cs2,rfl,h3,h4,rfl⟩:=hrel;have h1:cs=[v]:=h1;subst h1;have h3:cs2=[v2]:=h3;subst h3;have h2:[v]=[.string ⟨x.1.toArray⟩]:=h2;have h4:[v2]=[.string ⟨x.2.toArray⟩]:=h4;obtain rfl:=(O5 h2).1;obtain rfl:=(O5 h4).1;simp only[vZ]at hfn;split at hfn
 .rename_i c hx;cases hfn;rw[hx];refine(hC ⟨x.1.toArray⟩ c w).mono λe w' ⟨he,hw⟩=>?_;subst he;subst hw;exact CY (P:=P) (t:=.bool) (x:=decide (0<=Lib.indexByte x.1 c)) (ps:=[(false,.dat .str),(false,.dat .str)]) (vals:=[_,_]) ⟨rfl,rfl,rfl,E9 _,λ_ _=>rfl⟩ hlt ⟨rfl,rfl⟩ rfl
 .cases hfn
theorem ZX{gl:List (Nat×(t:Ty)×List t.den)}
  (hC:∀(x y:Nat) (hx:x<18446744073709551616) (hy:y<18446744073709551616) (w:World),
   Calls P f #[.int .u64 x,.int .u64 y] w λe w' =>e= .returned (.tuple #[.int .u64 ((x*y / 18446744073709551616:Nat):Int),.int .u64 ((x*y % 18446744073709551616:Nat):Int)])/\w' =w):
  aH P gl f ⟨[(false,.dat (.int .u64)),(false,.dat (.int .u64))],[(false,.dat (.int .u64)),(false,.dat (.int .u64))],[],λx=>xA x.1 x.2⟩:=by
 intro w ok O vals x r hlt _ _ _ hrel hdv hfn;obtain⟨v,cs,vs',O1,O2,rfl,rfl,h1,⟨h2,rfl⟩,v2,cs2,rfl,h3,h4,rfl⟩:=hrel;have h1:cs=[v]:=h1;subst h1;have h3:cs2=[v2]:=h3;subst h3;have h2:[v]=[.int .u64 x.1]:=h2;have h4:[v2]=[.int .u64 x.2]:=h4;obtain rfl:=(O5 h2).1;obtain rfl:=(O5 h4).1;simp only[xA]at hfn;split at hfn
 .rename_i hx;cases hfn;obtain⟨a,b⟩:=x;obtain⟨p,rfl⟩:=Int.eq_ofNat_of_zero_le hx.1;obtain⟨q,rfl⟩:=Int.eq_ofNat_of_zero_le hx.2.2.1;refine(hC p q (by have:=hx.2.1;simp only at this;omega) (by have:=hx.2.2.2;simp only at this;omega) w).mono λe w' ⟨he,hw⟩=>?_;subst he;subst hw;refine⟨_,ok,[],[_,_],[],[],rfl,⟨rfl,rfl,rfl,E9 _,λ_ _ _=>rfl⟩,λ_ _ h=>h,λb t h=>⟨hlt b t h,.inl h⟩,A8,A8,⟨rfl,rfl⟩,⟨rfl,rfl⟩,?_⟩;exact⟨_,_,_,[],[],rfl,rfl,rfl,⟨rfl,rfl⟩,_,_,rfl,rfl,rfl,rfl⟩
 .cases hfn
def iO{α:Type}(xs:List α):Option (List α):=aT [] xs
theorem DX{E:Env}{f:FuncId}{fn:Func}{c:Code}{t:Ty}(hf:P.funcs[f]? =some fn)(hb:fn.body=some c)(hnt:fn.ntmps=E.nt)(hres:fn.results.toList=[.tmp 2])(hE:EnvOk P E)
  (h0:∀b,a4b E [(false,.cell (some (some b)))] ⟨[(.tmp 2,(false,.own t))],[]⟩ c .leaf ()=some [])
  (h2:∀xs,a4b E [(false,.dat (.sl t))] ⟨[(.tmp 2,(false,.own t))],[]⟩ c .leaf xs=l7 (x8 (o9 xs) 0) none (l9 (aT [] xs) λz=>some z))
  (ht:t.isEnt=false:=by rfl):
  aH P E.gl f ⟨[(false,.dat (.sl t))],[(false,.own t)],[],λxs=>iO xs⟩:=by
 intro w ok O vals x r hlt hnd hO hgl hrel hdv hfn;obtain⟨v,cs,rfl,h1,hr,rfl⟩:=hrel;have h1:cs=[v]:=h1;subst h1;cases x with
 |nil=>
  obtain⟨a,cap,e,_,_⟩:=(xx ht).1 hr;have e:v= .slice a 0 cap:=(O5 e).1;have hr:r=[]:=by
   have:some ([]:List t.den)=some r:=by simpa[iO,aT]using hfn
   exact(lG this).symm
  subst hr;exact MO (ps:=[(false,.cell (some (some a.isNone)))]) (rt:=⟨[(.tmp 2,(false,.own t))],[]⟩) (F:=λ_=>some []) hf hb hnt hres hE (λx r h=>by cases h;exact h0 a.isNone) w ok [] [v] () [] hlt hnd hO hgl
   ⟨v,[v],rfl,rfl,v,rfl,by subst e;rfl,(λh=>nomatch h),(λb h=>by cases h;exact⟨a,cap,e,rfl⟩),rfl⟩ trivial rfl
 |cons z zs=>
  exact MO (ps:=[(false,.dat (.sl t))]) (rt:=⟨[(.tmp 2,(false,.own t))],[]⟩) (F:=λxs=>l7 (x8 (o9 xs) 0) none (l9 (aT [] xs) λz=>some z)) hf hb hnt hres hE (λx r h=>(h2 x).trans h) w ok [] [v] (z::zs) r hlt hnd hO hgl
   ⟨v,[v],rfl,rfl,hr,rfl⟩ trivial (by
    have h3:x8 (o9 (z::zs)) 0=false:=by simp only[x8,o9,H5];exact decide_eq_false o5
    have h4:aT [] (z::zs)=some r:=hfn;show l7 (x8 (o9 (z::zs)) 0) none (l9 (aT [] (z::zs)) λz=>some z)=some r;rw[h3,h4];rfl)
theorem ZV{t f e:Nat}{n:String}{inf:TypeInfo}{m:Method}(ht:P.info? t=some inf)(hm:inf.methods.find? (·.name==n)=some m)(hp:m.path.toList=[])
  (hf:m.func=some (f,false)) (hu:P.underlying t=some (.pointer e)):BX P t n f (some e):=by
 intro v w ad h;subst h;have h1:∀d,(method (d+1) t (.pointer (some ad)) n).run P w=((loadVar e ad).run P w).andThen λu w' => .ok (f,u) w' :=by
  intro d;unfold method;have hti:(typeInfo t).run P w= .ok inf w:=by simp[typeInfo,ht]
  rw[G9,hti];simp only[Result.andThen,hm,hp,hf];rw[G9];simp only[follow,U6,Result.andThen];have hr:∀wr,(receiverAt t (.val (.pointer (some ad))) false wr).run P w=(loadVar e ad).run P w:=by
   intro wr;unfold receiverAt;rw[G9,run_underlying hu];have hw:∀s,Builtin.ssaWrapNilChk_ #[t] t #[.pointer (some ad),strVal "",strVal s]=pure (.pointer (some ad)):=λs=>rfl;cases wr with
   |none=>simp[Result.andThen,Place.get,asAddr]|some s=>simp[Result.andThen,Place.get,asAddr,hw]
  rw[G9,hr];rfl
 exact h1 _
def a3f(P:Program)(t:Nat)(n:String)(f e:Nat):Bool:=match P.info? t with
 |some inf=>match inf.methods.find? (·.name==n)with
  |some m=>match m.path.toList,m.func,P.underlying t with
   |[],some (f',false),some (.pointer e')=>Nat.beq f' f&&Nat.beq e' e|_,_,_=>false
  |none=>false
 |none=>false
theorem Nl{t f e:Nat}{n:String}(h:a3f P t n f e=true):BX P t n f (some e):=by
 unfold a3f at h;split at h
 .rename_i inf hi;split at h
  .rename_i m hm;split at h
   .rename_i h1 h2 h3;simp only[A7]at h;have e1:=fC h.1;have e2:=fC h.2;subst e1;subst e2;exact ZV hi hm h1 h2 h3
   .cases h
  .cases h
 .cases h
end Go.GP
namespace Go.GP
open Go.Shelf Go.RowKit Go.Proofs
structure OthB (w w' :World) (ks:List Nat):Prop where
 os:w'.os=w.os
 tape:w'.tape=w.tape
 output:w'.output=w.output
 size:w.heap.size<=w'.heap.size
 block:∀k,k<w.heap.size->k∉ks->w'.heap[k]? =w.heap[k]?
theorem OthB.trans{a b c:World}{ks:List Nat}(h:OthB a b ks)(k:OthB b c ks):OthB a c ks:=
 ⟨k.os.trans h.os,k.tape.trans h.tape,k.output.trans h.output,ak h.size k.size,λi hi hn=>(k.block i (dU hi h.size) hn).trans (h.block i hi hn)⟩
variable {xs:List UInt8}{l:Loc}
theorem Vp{h:Array Obj}{te:Nat}(hr:qY h te xs l):∀b∈l.blks,b<h.size:=by
 intro b hb;cases l with
 |nil=>simp[Loc.blks]at hb|st b=>cases hr|mp b=>cases hr|arr g off len cap sz=>simp[Loc.blks]at hb;subst hb;obtain⟨_,_,_,_,_,cur,fz,h6,_⟩:=hr;exact(J6.1 h6).1
variable {w:World}
theorem a0u{P:Program}{t u ty e:TypeId}{i:TypeInfo}(ht:P.underlying t=some (.slice e))(hu:P.underlying u=some .string)(hi:P.info? e=some i)(hz:i.zero=some (.int .u8 0))
  (hsize:i.size=1) (hby:i.bytes=1) {v:Value} {l:Loc} {xs ys:List UInt8} (hv:l.view none v) (hr:qY w.heap e xs l) (hmax:xs.length+ys.length<=140737488355328):
  ∃v' w' l',(Builtin.append_ #[t,u] ty #[v,.string ⟨ys.toArray⟩]).run P w= .ok v' w' /\l'.view none v' /\qY w'.heap e (xs++ys) l' /\(∀b∈l'.blks,b∈l.blks\/w.heap.size<=b)/\OthB w w' l.blks:=by
 have hys:(⟨ys.toArray⟩:ByteArray).size=ys.length:=by simp[ByteArray.size]
 have hsc:Lib.strCells ⟨ys.toArray⟩=ys.map λc=>Value.int .u8 (c.toNat:Int):=rfl;have hback:∀{B:Nat} {h:Array Obj} {w' :World} {v' :Value} {zs:List UInt8} {n:Nat},n=zs.length->w'.ownsRowF B e 1 v' n (zs.map λc=>Value.int .u8 (c.toNat:Int))->∃l',l'.view none v' /\qY w'.heap e zs l' /\∀b∈l'.blks,B<=b:=by
  intro B h w' v' zs n hn ho;rcases ho.2 with⟨rfl,h0⟩|⟨g,cap,cur,fz,rfl,hB,hg,hfz,hc,hcm,hcs,htk⟩
  .exact⟨.nil,rfl,(aA.1 (hn▸h0)),λb hb=>by simp[Loc.blks]at hb⟩
  .exact⟨.arr g 0 n cap 1,rfl,⟨rfl,rfl,hn,hc,hcm,cur,fz,hg,o5,o5,by rw[aS]at htk;exact htk⟩,λb hb=>by simp[Loc.blks]at hb;subst hb;exact hB⟩
 cases l with
 |st b=>cases hr|mp b=>cases hr|nil=>have hr:xs=[]:=hr;subst hr;have hv:v= .slice none 0 0:=hv;subst hv;obtain⟨v',w',h1,h2,h3,h4⟩:=Lib.run_append_own_stringF (P:=P) w w.heap.size t u ty e i ht hu hi hz hsize hby (.slice none 0 0) 0 [] ⟨rfl,.inl ⟨rfl,rfl⟩⟩ ⟨ys.toArray⟩ (by rw[hys];simp at hmax;unfold maxLen;omega) (by rw[hys];simpa using hmax) (E9 _);rw[hsc,J3,hys,bV]at h2;obtain⟨l',g1,g2,g3⟩:=hback (h:=w'.heap) rfl h2;exact⟨v',w',l',h1,g1,by simpa using g2,λb hb=> .inr (g3 b hb),⟨h3.os,h3.tape,h3.output,h3.size,λk hk _=>h3.block k hk (by simp[Value.ownBlock])⟩⟩
 |arr g off len cap sz=>
  obtain⟨rfl,rfl,rfl,hc,hcm,cur,fz,hg,hfz,hcs,htk⟩:=hr;have hv:v= .slice (some ⟨g,0,none⟩) xs.length cap:=hv;subst hv;by_cases hroom:xs.length+ys.length<=cap
  .have hrun:=Lib.run_append_room_stringF (P:=P) w t u ty e i ht hu hi hsize g xs.length cap cur fz hg hfz ⟨ys.toArray⟩ (by rw[hys];exact hroom) (by rw[hys];omega);rw[hys,hsc]at hrun;refine⟨_,_,.arr g 0 (xs.length+ys.length) cap 1,hrun,rfl,⟨rfl,rfl,A8,hroom,hcm,_,fz,setRow_heap w g cur _ e _ hg,o5,?_,?_⟩,λb hb=> .inl hb,⟨rfl,rfl,rfl,A8,λk _ hk=>setRow_other w g k _ (λe=>hk (by simp[Loc.blks,e]))⟩⟩
   .simp only[Y2,H9,bn,gz,Y9,V7];omega
   .rw[htk,E5,←E5,←eQ];rw[show xs.length+ys.length=((xs++ys).map λc=>Value.int .u8 (c.toNat:Int)).length by simp];exact mO
  .have holds:∀(j:Nat) (u:Value),(xs.map λc=>Value.int .u8 (c.toNat:Int))[j]? =some u->w.cell? ((⟨g,0,none⟩:Addr).add j)=some u:=λj u hj=>by
    have ho:w.ownsRowF 0 e 1 (.slice (some ⟨g,0,none⟩) xs.length cap) xs.length (xs.map λc=>Value.int .u8 (c.toNat:Int)):=⟨A8,.inr ⟨g,cap,cur,fz,rfl,dC _,hg,o5,hc,hcm,o5,by rw[aS];exact htk⟩⟩;exact ho.cells (g:=g) rfl j u hj
   have hrun:=Lib.run_append_grow_string (P:=P) w t u ty e i (.int .u8 0) ht hu hi hz ⟨g,0,none⟩ xs.length cap (xs.map λc=>Value.int .u8 (c.toNat:Int)) (by rw[hsize];simp) holds ⟨ys.toArray⟩ (by rw[hys];omega) (by rw[hys];omega) (by rw[hby,hys];exact growslice_fits o5 o5);rw[hys,hsc]at hrun;have hge:=grownCap_ge w (xs.length+ys.length) cap e;have hcm2:grownCap w (xs.length+ys.length) cap e<=maxLen:=grownCap_le_maxLen w (xs.length+ys.length) cap e (by unfold maxLen;omega);refine⟨_,_,.arr w.heap.size 0 (xs.length+ys.length) _ 1,hrun,rfl,⟨rfl,rfl,A8,hge,hcm2,_,(0,0),heap_alloc_new w.drew _,dC _,?_,?_⟩,λb hb=> .inr (by simp[Loc.blks]at hb;omega),⟨rfl,rfl,rfl,A8,λk hk _=>heap_alloc_old w.drew _ hk⟩⟩
   .have hz1:(Value.int IntKind.u8 0).cells.size=1:=rfl;simp only[nG,Y2,size_zeroCells,hz1,V7];omega
   .simp only[kY,E5];rw[←E5,←eQ];rw[show xs.length+ys.length=((xs++ys).map λc=>Value.int .u8 (c.toNat:Int)).length by simp];exact mO
theorem a0w{P:Program}{ops:Array Oper}{rest:List Oper}{o:Oper}{a:Act}{Q:Exit->Act->World->Prop}{w:World}(hgd:o.guard=none)(sl x:Operand)(t u:TypeId)
  (ho:o.op= .call { callee:=.builtin .append,args:=#[sl,x],argTypes:=#[t,u] }) {e:TypeId} {i:TypeInfo} (ht:P.underlying t=some (.slice e)) (hu:P.underlying u=some .string) (hi:P.info? e=some i) (hz:i.zero=some (.int .u8 0))
  (hsize:i.size=1) (hby:i.bytes=1) {v:Value} {l:Loc} {xs ys:List UInt8} (hs:a.eval sl=v) (hx:a.eval x= .string ⟨ys.toArray⟩) (hv:l.view none v) (hr:qY w.heap e xs l) (hmax:xs.length+ys.length<=140737488355328)
  (h:∀v' w' l',l'.view none v' ->qY w'.heap e (xs++ys) l' ->(∀b∈l'.blks,b∈l.blks\/w.heap.size<=b)->OthB w w' l.blks->wpList P ops Q rest (a.put o.dst v') w'):wpList P ops Q (o::rest) a w:=by
 refine wpList_plain hgd λK hK=>?_;obtain⟨v',w',l',h1,h2,h3,h4,h5⟩:=a0u (ty:=o.type) ht hu hi hz hsize hby hv hr hmax;unfold Oper.wp execOp;simp only[ho,resolve,invoke,builtin,G9,U6,H7,List.map_toArray,fA,jM,hs,hx,h1];exact hK _ _ (h v' w' l' h2 h3 h4 h5)
variable {P:Program} {ρ:Ren}
set_option maxHeartbeats 2000000 in
set_option maxRecDepth 100000 in
set_option maxHeartbeats 2000000 in
set_option maxRecDepth 100000 in
theorem a9E(L:Lays.n170 P ρ){b:Nat}{a v:Value}(hb:w.heap[b]? =some (.cells #[a,v] (ρ.t 72) (0,0)))(hv:l.view none v)(hr:qY w.heap (ρ.t 5) xs l):
  Calls P (ρ.f 170) #[.pointer (some ⟨b,0,none⟩)] w λe w' =>e= .returned (.int .i64 xs.length)/\w' =w:=by
 obtain⟨ao,cap,rfl⟩:∃ao cap,v= .slice ao xs.length cap:=by
  cases l with
  |nil=>have h:xs=[]:=hr;subst h;exact⟨_,_,hv⟩|st _=>cases hr|mp _=>cases hr|arr g off len cap sz=>obtain⟨_,_,rfl,_⟩:=hr;exact⟨_,_,hv⟩
 have c1:w.cell? ⟨b,1,none⟩=some (.slice ao xs.length cap):=by rw[Lib.cell_of_heap hb];rfl
 have mixed:=L.mixed;have t72:=L.t72;have a72:=L.a72;have z72:=L.z72;have v72:=L.v72;have u72:=run_underlying L.t72;have t70:=L.t70;have a70:=L.a70;have z70:=L.z70;have v70:=L.v70;have u70:=run_underlying L.t70;have t37:=L.t37;have a37:=L.a37;have z37:=L.z37;have v37:=L.v37;have u37:=run_underlying L.t37;have t3:=L.t3;have a3:=L.a3;have z3:=L.z3;have v3:=L.v3;have u3:=run_underlying L.t3
 go_enter L.f170,Body.n170_ntmps ρ
 go_wp2
 go_ret
 exact⟨rfl,rfl⟩
set_option maxHeartbeats 2000000 in
set_option maxRecDepth 100000 in
theorem a0v(L:Lays.n169 P ρ)(X:Builder.Extra P ρ){b:Nat}{p v:Value}(hb:w.heap[b]? =some (.cells #[p,v] (ρ.t 72) (0,0)))
  (hv:l.view none v) (hr:qY w.heap (ρ.t 5) xs l) (hlen:xs.length<=140737488355328) (hnb:b∉l.blks):
  Calls P (ρ.f 169) #[.pointer (some ⟨b,0,none⟩)] w λe w' =>e= .returned (.string ⟨xs.toArray⟩)/\w'.heap[b]? =some (.cells #[p,v] (ρ.t 72) (0,0))/\qY w'.heap (ρ.t 5) xs l/\OthB w w' l.blks:=by
 have mixed:=L.mixed;have t72:=L.t72;have a72:=L.a72;have z72:=L.z72;have v72:=L.v72;have u72:=run_underlying L.t72;have t70:=L.t70;have a70:=L.a70;have z70:=L.z70;have v70:=L.v70;have u70:=run_underlying L.t70;have t37:=L.t37;have a37:=L.a37;have z37:=L.z37;have v37:=L.v37;have u37:=run_underlying L.t37;have t127:=L.t127;have a127:=L.a127;have z127:=L.z127;have v127:=L.v127;have u127:=run_underlying L.t127;have t3:=L.t3;have a3:=L.a3;have z3:=L.z3;have v3:=L.v3;have u3:=run_underlying L.t3;have t9:=L.t9;have a9:=L.a9;have z9:=L.z9;have v9:=L.v9;have u9:=run_underlying L.t9;have t5:=X.t5;have a5:=X.a5;have z5:=X.z5;have v5:=X.v5;have u5:=run_underlying X.t5;have hlt:b<w.heap.size:=(J6.1 hb).1;have c1:w.drew.cell? ⟨b,1,none⟩=some v:=by have:w.drew.heap[b]? =some (.cells #[p,v] (ρ.t 72) (0,0)):=hb;rw[Lib.cell_of_heap this];rfl
 have hdrew:OthB w w.drew l.blks:=⟨rfl,rfl,rfl,E9 _,λ_ _ _=>rfl⟩;cases l with
 |st _=>cases hr|mp _=>cases hr|nil=>
  have hx:xs=[]:=hr;subst hx;have hv:v= .slice none 0 0:=hv;subst hv;have hUS:=Any.unsafeString_none L X;have hSD:(Builtin.unsafeSliceData_ #[(ρ.t 37)] (ρ.t 127) #[.slice none 0 0]).run P w.drew= .ok (.pointer none) w.drew:=rfl
  go_enter L.f169,Body.n169_ntmps ρ
  go_wp2
  go_region_o
  all_goals (go_wp2;go_ret;exact⟨rfl,hb,rfl,hdrew⟩)
 |arr g off len cap sz=>
  have hr0:=hr;obtain⟨rfl,rfl,rfl,hc,hcm,cur,fz,hg,hfz,hcs,htk⟩:=hr;have hv:v= .slice (some ⟨g,0,none⟩) xs.length cap:=hv;subst hv;have hgd:w.drew.heap[g]? =some (.cells cur (ρ.t 5) fz):=hg;by_cases hx0:xs=[]
  .subst hx0;have hUS:=Any.unsafeString_none L X;by_cases hc0:cap=0
   .subst hc0;have hSD:(Builtin.unsafeSliceData_ #[(ρ.t 37)] (ρ.t 127) #[.slice (some ⟨g,0,none⟩) 0 0]).run P w.drew= .ok (.pointer (some ⟨w.drew.heap.size,0,none⟩)) (w.drew.alloc (.view ⟨g,0,none⟩ (ρ.t 5))):=
     Lib.run_unsafeSliceData_zero w.drew _ _ (ρ.t 5) L.t127 ⟨g,0,none⟩ 0 ((ρ.t 5),cur.size) (by simp[World.shape?,hgd])
    have hal:(w.drew.alloc (.view ⟨g,0,none⟩ (ρ.t 5))).heap[b]? =some (.cells #[p,.slice (some ⟨g,0,none⟩) 0 0] (ρ.t 72) (0,0)):=(heap_alloc_old w.drew _ hlt).trans hb;have c2:(w.drew.alloc (.view ⟨g,0,none⟩ (ρ.t 5))).cell? ⟨b,1,none⟩=some (.slice (some ⟨g,0,none⟩) 0 0):=by rw[Lib.cell_of_heap hal];rfl
    have c3:(w.alloc (.view ⟨g,0,none⟩ (ρ.t 5))).drew.cell? ⟨b,1,none⟩=some (.slice (some ⟨g,0,none⟩) 0 0):=c2;have c0:w.cell? ⟨b,1,none⟩=some (.slice (some ⟨g,0,none⟩) 0 0):=c1;have hglt:g<w.heap.size:=(J6.1 hg).1;have fin:∀w',w' =w.drew.alloc (.view ⟨g,0,none⟩ (ρ.t 5))->w'.heap[b]? =some (.cells #[p,.slice (some ⟨g,0,none⟩) 0 0] (ρ.t 72) (0,0))/\qY w'.heap (ρ.t 5) [] (.arr g 0 0 0 1)/\OthB w w' [g]:=λw' e=>by subst e;exact⟨hal,uJ (λk hk=>by simp[Loc.blks]at hk;subst hk;exact heap_alloc_old w.drew _ hglt) hr0,⟨rfl,rfl,rfl,A8,λk hk _=>heap_alloc_old w.drew _ hk⟩⟩
    go_enter L.f169,Body.n169_ntmps ρ
    go_wp2
    go_region_o
    all_goals (go_wp2;go_ret;exact⟨rfl,fin _ rfl⟩)
   .have hSD:(Builtin.unsafeSliceData_ #[(ρ.t 37)] (ρ.t 127) #[.slice (some ⟨g,0,none⟩) 0 cap]).run P w.drew= .ok (.pointer (some ⟨g,0,none⟩)) w.drew:=
     Lib.run_unsafeSliceData_row _ _ _ _ _ _ hc0
    clear hc0
    go_enter L.f169,Body.n169_ntmps ρ
    go_wp2
    go_region_o
    all_goals (go_wp2;go_ret;exact⟨rfl,hb,hr0,hdrew⟩)
  .have hl0:xs.length≠0:=by simpa using hx0
   have hSD:(Builtin.unsafeSliceData_ #[(ρ.t 37)] (ρ.t 127) #[.slice (some ⟨g,0,none⟩) xs.length cap]).run P w.drew= .ok (.pointer (some ⟨g,0,none⟩)) w.drew:=
    Lib.run_unsafeSliceData_row _ _ _ _ _ _ o5
   have hown:w.ownsRowF 0 (ρ.t 5) 1 (.slice (some ⟨g,0,none⟩) xs.length cap) xs.length (xs.map λc=>Value.int .u8 (c.toNat:Int)):=⟨A8,.inr ⟨g,cap,cur,fz,rfl,dC _,hg,o5,hc,hcm,o5,by rw[aS];exact htk⟩⟩;have hUS:(Builtin.unsafeString_ #[(ρ.t 127),(ρ.t 3)] (ρ.t 9) #[.pointer (some ⟨g,0,none⟩),.int .i64 xs.length]).run P w.drew= .ok (.string ⟨xs.toArray⟩) (w.drew.freeze ⟨g,0,none⟩ xs.length):=by refine Lib.run_unsafeString_row w.drew (ρ.t 127) (ρ.t 3) (ρ.t 9) (ρ.t 5) L.t127 X.cellsByte g cur.size (by simp[World.shape?,hgd]) xs hx0 o5 (by unfold maxLen at hcm;omega) ?_;intro j x hx;exact hown.cells (g:=g) rfl j (.int .u8 x.toNat) (by simp[hx])
   have hA:Lib.BuilderAtF (ρ.t 72) (ρ.t 5) 0 b p (Lib.byteCells xs) w.drew:=⟨dC _,_,hb,by rw[Lib.byteCells_length];exact hown,λe=>hnb (by simp[Loc.blks];simpa[Value.ownBlock]using e.symm)⟩;have hF:=hA.froze (g:=g) (cap:=cap) (by rw[Lib.byteCells_length];exact c1);rw[Lib.byteCells_length]at hF;have hgb:b≠g:=λe=>hnb (by simp[Loc.blks,e]);have fin:∀w',w' =w.drew.freeze ⟨g,0,none⟩ xs.length->w'.heap[b]? =some (.cells #[p,.slice (some ⟨g,0,none⟩) xs.length cap] (ρ.t 72) (0,0))/\qY w'.heap (ρ.t 5) xs (.arr g 0 xs.length cap 1)/\OthB w w' [g]:=λw' e=>by
    subst e;obtain⟨_,v2,hb2,ho2,_⟩:=hF;have ho:∀k,k≠g->(w.drew.freeze ⟨g,0,none⟩ xs.length).heap[k]? =w.heap[k]?:=λk hk=>by
     unfold World.freeze;split
     .rfl
     .simp only[jK];rw[if_neg (λe=>hk e.symm)];rfl
    have hbb:=ho b hgb;rw[hb2,hb]at hbb;simp only[F6,Obj.cells.injEq,and_true,Array.mk.injEq,G7,true_and]at hbb;have hv2:v2= .slice (some ⟨g,0,none⟩) xs.length cap:=by simpa using hbb
    subst hv2;refine⟨hb2,?_,⟨by unfold World.freeze;split<;>rfl,by unfold World.freeze;split<;>rfl,by unfold World.freeze;split<;>rfl,?_,λk _ hk=>ho k (by simpa using hk)⟩⟩
    .rw[Lib.byteCells_length]at ho2;rcases ho2.2 with⟨h,_⟩|⟨g',cap',cur',fz',e,_,h1,h2,h3,h4,h5,h6⟩
     .cases h
     .simp only[nK,F6,fV,and_true]at e;obtain⟨rfl,_,rfl⟩:=e;exact⟨rfl,rfl,rfl,h3,h4,cur',fz',h1,o5,o5,by rw[aS]at h6;exact h6⟩
    .unfold World.freeze;split<;>simp
   go_enter L.f169,Body.n169_ntmps ρ
   go_wp2
   go_region_o
   all_goals (go_wp2;go_ret;exact⟨rfl,fin _ rfl⟩)
def xe(x ys:List UInt8):Option (Int×Unit×List UInt8):=if x.length+ys.length<=1073741824 then some (ys.length,(),x++ys)else none
def Fh(x:List UInt8):Option (Int×List UInt8):=some (x.length,x)
def tZ(x:List UInt8):Option (List UInt8×List UInt8):=if x.length<=1073741824 then some (x,x)else none
theorem a0y{gl:List (Nat×(t:Ty)×List t.den)}(L:Lays.n170 P ρ):
  aH P gl (ρ.f 170) ⟨[(false,.sbx (ρ.t 72) (ρ.t 5))],[(false,.dat (.int .i64))],[(false,.sbx (ρ.t 72) (ρ.t 5))],λx=>Fh x⟩:=by
 intro w ok O vals xs r hok hO hO2 hgl hrel hdv hF;have hF:some ((xs.length:Int),xs)=some r:=hF;cases hF;obtain⟨v0,cs0,rfl,hg,h1⟩:=hrel;have hg:cs0=[v0]:=hg;subst hg;obtain⟨b,a,v,l,e,hb,ha,hv,hr,rfl⟩:=h1;simp only[G7,and_true]at e;subst e;refine(a9E L hb hv hr).mono ?_;rintro e w' ⟨rfl,rfl⟩;refine⟨_,ok,b::l.blks,[.int .i64 xs.length],[.pointer (some ⟨b,0,none⟩)],[],rfl,Frame'.refl _ _,λ_ _ h=>h,λk t hk=>⟨hok k t hk,.inl hk⟩,by simpa using hO,λk hk=>?_,⟨rfl,rfl⟩,⟨_,rfl,rfl,rfl⟩,?_⟩
 .rw[H6]at hk;exact⟨(hO2 k hk).1,(hO2 k hk).2,.inr hk⟩
 .refine⟨.int .i64 xs.length,[.int .i64 xs.length],[.pointer (some ⟨b,0,none⟩)],[],b::l.blks,rfl,rfl,rfl,⟨rfl,rfl⟩,?_⟩;exact⟨_,_,rfl,rfl,⟨b,a,v,l,rfl,hb,ha,hv,hr,rfl⟩⟩
theorem VP{gl:List (Nat×(t:Ty)×List t.den)}(L:Lays.n169 P ρ)(X:Builder.Extra P ρ):
  aH P gl (ρ.f 169) ⟨[(false,.sbx (ρ.t 72) (ρ.t 5))],[(false,.dat .str)],[(false,.sbx (ρ.t 72) (ρ.t 5))],λx=>tZ x⟩:=by
 intro w ok O vals xs r hok hO hO2 hgl hrel hdv hF;have hF:tZ xs=some r:=hF;unfold tZ at hF;split at hF
 case isFalse=>cases hF
 rename_i hmax;cases hF;obtain⟨v0,cs0,rfl,hg,h1⟩:=hrel;have hg:cs0=[v0]:=hg;subst hg;obtain⟨b,a,v,l,e,hb,ha,hv,hr,rfl⟩:=h1;simp only[G7,and_true]at e;subst e;have hnd:(b::l.blks).Nodup:=by simpa using hO
 refine(a0v L X hb hv hr o5 (aj.1 hnd).1).mono ?_;rintro e w' ⟨rfl,hb',hr',ho⟩;refine⟨_,ok,b::l.blks,[.string ⟨xs.toArray⟩],[.pointer (some ⟨b,0,none⟩)],[],rfl,⟨ho.os,ho.tape,ho.output,ho.size,λk hk hn=>ho.block k hk (λh=>hn (by simp[h]))⟩,λ_ _ h=>h,λk t hk=>⟨dU (hok k t hk) ho.size,.inl hk⟩,by simpa using hO,λk hk=>?_,⟨rfl,rfl⟩,⟨_,rfl,rfl,rfl⟩,?_⟩
 .rw[H6]at hk;exact⟨(hO2 k hk).1,dU (hO2 k hk).2 ho.size,.inr hk⟩
 .refine⟨.string ⟨xs.toArray⟩,[.string ⟨xs.toArray⟩],[.pointer (some ⟨b,0,none⟩)],[],b::l.blks,rfl,rfl,rfl,⟨rfl,rfl⟩,?_⟩;exact⟨_,_,rfl,rfl,⟨b,a,v,l,rfl,hb',ha,hv,hr',rfl⟩⟩
end Go.GP
namespace Go.GP
open Go.ChangeShapes Go.WideShapes Go.RowKit
def zQ(s p:List UInt8):Option Bool:=some (Lib.hasPrefix s p)
def EP(s:List UInt8)(c:Int):Option Int:=some (Lib.indexByte s c.toNat.toUInt8)
def TL(s:List UInt8):Bool:=s.all λb=>Nat.blt b.toNat 128
def Be(s c:List UInt8):Option Int:=bif Nat.blt s.length 4294967281&&Nat.blt c.length 4294967281&&TL s&&TL c then some (Lib.indexAny s c)else none
theorem a9o{h:Array Obj}{ok:Nat->Ty->Prop}{vals:List Value}{O:List Nat}{x:List UInt8×List UInt8}(hrel:qW h ok [(false,.dat .str),(false,.dat .str)] x vals O):vals=[.string ⟨x.1.toArray⟩,.string ⟨x.2.toArray⟩]/\O=[]:=by obtain⟨v,cs,vs',O1,O2,rfl,rfl,h1,⟨h2,rfl⟩,v2,cs2,rfl,h3,h4,rfl⟩:=hrel;have h1:cs=[v]:=h1;subst h1;have h3:cs2=[v2]:=h3;subst h3;have h2:[v]=[.string ⟨x.1.toArray⟩]:=h2;have h4:[v2]=[.string ⟨x.2.toArray⟩]:=h4;obtain rfl:=(O5 h2).1;obtain rfl:=(O5 h4).1;exact⟨rfl,rfl⟩
variable {P:Program}{f:Nat}
theorem SC{gl:List (Nat×(t:Ty)×List t.den)}
  (hC:∀(s p:ByteArray) (w:World),Calls P f #[.string s,.string p] w λe w' =>e= .returned (.bool (Lib.hasPrefix s.data.toList p.data.toList))/\w' =w):
  aH P gl f ⟨[(false,.dat .str),(false,.dat .str)],[(false,.dat .bool)],[],λx=>zQ x.1 x.2⟩:=by
 intro w ok O vals x r hlt _ _ _ hrel hdv hfn;obtain⟨rfl,rfl⟩:=a9o hrel;cases hfn;refine(hC ⟨x.1.toArray⟩ ⟨x.2.toArray⟩ w).mono λe w' ⟨he,hw⟩=>?_;subst he;subst hw;exact CY (P:=P) (t:=.bool) (x:=Lib.hasPrefix x.1 x.2) (ps:=[(false,.dat .str),(false,.dat .str)]) (vals:=[_,_]) ⟨rfl,rfl,rfl,E9 _,λ_ _=>rfl⟩ hlt ⟨rfl,rfl⟩ rfl
theorem SE{gl:List (Nat×(t:Ty)×List t.den)}
  (hC:∀(s:ByteArray) (c:Int) (w:World),Calls P f #[.string s,.int .u8 c] w λe w' =>e= .returned (.int .i64 (Lib.indexByte s.data.toList c.toNat.toUInt8))/\w' =w):
  aH P gl f ⟨[(false,.dat .str),(false,.dat (.int .u8))],[(false,.dat (.int .i64))],[],λx=>EP x.1 x.2⟩:=by
 intro w ok O vals x r hlt _ _ _ hrel hdv hfn;obtain⟨v,cs,vs',O1,O2,rfl,rfl,h1,⟨h2,rfl⟩,v2,cs2,rfl,h3,h4,rfl⟩:=hrel;have h1:cs=[v]:=h1;subst h1;have h3:cs2=[v2]:=h3;subst h3;have h2:[v]=[.string ⟨x.1.toArray⟩]:=h2;have h4:[v2]=[.int .u8 x.2]:=h4;obtain rfl:=(O5 h2).1;obtain rfl:=(O5 h4).1;cases hfn;refine(hC ⟨x.1.toArray⟩ x.2 w).mono λe w' ⟨he,hw⟩=>?_;subst he;subst hw;exact CY (P:=P) (t:=.int .i64) (x:=Lib.indexByte x.1 x.2.toNat.toUInt8) (ps:=[(false,.dat .str),(false,.dat (.int .u8))]) (vals:=[_,_]) ⟨rfl,rfl,rfl,E9 _,λ_ _=>rfl⟩ hlt ⟨rfl,rfl⟩ rfl
theorem QO{s:List UInt8}(h:TL s=true):∀(j:Nat) b,s[j]? =some b->b.toNat<128:=λj b hb=>by have:=jh.1 h b (rH hb);rwa[dF]at this
theorem Uy{gl:List (Nat×(t:Ty)×List t.den)}
  (hC:∀(s c:ByteArray) (w:World),s.size<4294967281->c.size<4294967281->(∀(j:Nat) b,s.data.toList[j]? =some b->b.toNat<128)->(∀(j:Nat) b,c.data.toList[j]? =some b->b.toNat<128)->
   Calls P f #[.string s,.string c] w λe w' =>e= .returned (.int .i64 (Lib.indexAny s.data.toList c.data.toList))/\Below w.heap.size w w'):
  aH P gl f ⟨[(false,.dat .str),(false,.dat .str)],[(false,.dat (.int .i64))],[],λx=>Be x.1 x.2⟩:=by
 intro w ok O vals x r hlt _ _ _ hrel hdv hfn;obtain⟨rfl,rfl⟩:=a9o hrel;simp only[Be]at hfn;cases hc:(Nat.blt x.1.length 4294967281&&Nat.blt x.2.length 4294967281&&TL x.1&&TL x.2)
 .rw[hc]at hfn;cases hfn
 .rw[hc]at hfn;cases hfn;simp only[A7,dF]at hc;obtain⟨⟨⟨h1,h2⟩,h3⟩,h4⟩:=hc;refine(hC ⟨x.1.toArray⟩ ⟨x.2.toArray⟩ w (by simpa[ByteArray.size]using h1) (by simpa[ByteArray.size]using h2) (QO h3) (QO h4)).mono λe w' ⟨he,hw⟩=>?_;subst he;exact CY (P:=P) (t:=.int .i64) (x:=Lib.indexAny x.1 x.2) (ps:=[(false,.dat .str),(false,.dat .str)]) (vals:=[_,_]) hw hlt ⟨rfl,rfl⟩ rfl
end Go.GP
namespace Go.GP
open Go.Shelf Go.RowKit Go.Proofs
structure Lw (P:Program) (ρ:Ren):Prop where
 mixed:P.follows Departure.mixedOrders=true
 f166:P.funcs[ρ.f 166]? =some (Body.n166 ρ)
 t72:P.underlying (ρ.t 72)=some (.struct #[{ name:= "addr",type:=ρ.t 70,offset:=0,embedded:=false,tag:= "",pkgPath:= "strings",byteOffset:=0 },{ name:= "buf",type:=ρ.t 37,offset:=1,embedded:=false,tag:= "",pkgPath:= "strings",byteOffset:=8 }])
 a72:∀w:World,(isAgg (ρ.t 72)).run P w= .ok true w
 z72:∀w:World,(sizeOf (ρ.t 72)).run P w= .ok 2 w
 v72:∀w:World,(zeroValue (ρ.t 72)).run P w= .ok (.agg #[.pointer none,.slice none 0 0]) w
 t70:P.underlying (ρ.t 70)=some (.pointer (ρ.t 72))
 a70:∀w:World,(isAgg (ρ.t 70)).run P w= .ok false w
 z70:∀w:World,(sizeOf (ρ.t 70)).run P w= .ok 1 w
 v70:∀w:World,(zeroValue (ρ.t 70)).run P w= .ok (.pointer none) w
 t37:P.underlying (ρ.t 37)=some (.slice (ρ.t 5))
 a37:∀w:World,(isAgg (ρ.t 37)).run P w= .ok false w
 z37:∀w:World,(sizeOf (ρ.t 37)).run P w= .ok 1 w
 v37:∀w:World,(zeroValue (ρ.t 37)).run P w= .ok (.slice none 0 0) w
 t3:P.underlying (ρ.t 3)=some (.int .i64)
 a3:∀w:World,(isAgg (ρ.t 3)).run P w= .ok false w
 z3:∀w:World,(sizeOf (ρ.t 3)).run P w= .ok 1 w
 v3:∀w:World,(zeroValue (ρ.t 3)).run P w= .ok (.int .i64 0) w
 t9:P.underlying (ρ.t 9)=some (.string)
 a9:∀w:World,(isAgg (ρ.t 9)).run P w= .ok false w
 z9:∀w:World,(sizeOf (ρ.t 9)).run P w= .ok 1 w
 v9:∀w:World,(zeroValue (ρ.t 9)).run P w= .ok (.string ⟨#[]⟩) w
 t4:P.underlying (ρ.t 4)=some (.bool)
 a4:∀w:World,(isAgg (ρ.t 4)).run P w= .ok false w
 z4:∀w:World,(sizeOf (ρ.t 4)).run P w= .ok 1 w
 v4:∀w:World,(zeroValue (ρ.t 4)).run P w= .ok (.bool false) w
 t164:P.underlying (ρ.t 164)=some (.unsafePointer)
 a164:∀w:World,(isAgg (ρ.t 164)).run P w= .ok false w
 z164:∀w:World,(sizeOf (ρ.t 164)).run P w= .ok 1 w
 v164:∀w:World,(zeroValue (ρ.t 164)).run P w= .ok (.pointer none) w
 e240:∀args w,(callFunc (ρ.f 240) args).run P w= .ok (.enter (ρ.f 240) args) w
 used:∀(b:Nat) (w:World),w.cell? ⟨b,0,none⟩=some (.pointer (some ⟨b,0,none⟩))->Calls P (ρ.f 240) #[.pointer (some ⟨b,0,none⟩)] w λe w' =>e= .returned (.tuple #[])/\w' =w
 fresh:∀(b:Nat) (w:World),w.cell? ⟨b,0,none⟩=some (.pointer none)->w.shape? b=some (ρ.t 72,2)->w.frozen? ⟨b,0,none⟩=false->Calls P (ρ.f 240) #[.pointer (some ⟨b,0,none⟩)] w λe w' =>e= .returned (.tuple #[])/\w' =w.setCell ⟨b,0,none⟩ (.pointer (some ⟨b,0,none⟩))
variable {P:Program} {ρ:Ren}
theorem Lw.check(L:Lw P ρ){b:Nat}{w:World}{a v:Value}(hb:w.heap[b]? =some (.cells #[a,v] (ρ.t 72) (0,0)))(ha:a= .pointer none\/a= .pointer (some ⟨b,0,none⟩)):
  Calls P (ρ.f 240) #[.pointer (some ⟨b,0,none⟩)] w λe w' =>e= .returned (.tuple #[])/\w'.heap[b]? =some (.cells #[.pointer (some ⟨b,0,none⟩),v] (ρ.t 72) (0,0))/\w'.heap.size=w.heap.size/\OthB w w' [b]:=by
 have c0:w.cell? ⟨b,0,none⟩=some a:=by rw[Lib.cell_of_heap hb];rfl
 rcases ha with rfl|rfl
 .refine(L.fresh b w c0 (by simp[World.shape?,hb]) (Lib.frozen_of_heap hb 0)).mono ?_;rintro e w' ⟨rfl,rfl⟩;refine⟨rfl,?_,by simp[World.setCell],⟨rfl,rfl,rfl,by simp[World.setCell],λk _ hk=>Below.heap_setCell _ _ _ _ (λe=>hk (by simp[e]))⟩⟩;rw[setCell_eq_setRow w b 0 _ _ _ _ hb];exact setRow_heap w b _ _ _ _ hb
 .refine(L.used b w c0).mono ?_;rintro e w' ⟨rfl,rfl⟩;exact⟨rfl,hb,rfl,⟨rfl,rfl,rfl,E9 _,λ_ _ _=>rfl⟩⟩
set_option maxHeartbeats 2000000 in
set_option maxRecDepth 100000 in
theorem a0x(L:Lw P ρ)(X:Builder.Extra P ρ){b:Nat}{w:World}{a v:Value}{l:Loc}{xs ys:List UInt8}(hb:w.heap[b]? =some (.cells #[a,v] (ρ.t 72) (0,0)))(ha:a= .pointer none\/a= .pointer (some ⟨b,0,none⟩))
  (hv:l.view none v) (hr:qY w.heap (ρ.t 5) xs l) (hlen:xs.length+ys.length<=140737488355328) (hnb:b∉l.blks):
  Calls P (ρ.f 166) #[.pointer (some ⟨b,0,none⟩),.string ⟨ys.toArray⟩] w λe w' =>e= .returned (.tuple #[.int .i64 ys.length,.nilIface])/\
   ∃v' l',w'.heap[b]? =some (.cells #[.pointer (some ⟨b,0,none⟩),v'] (ρ.t 72) (0,0))/\l'.view none v' /\qY w'.heap (ρ.t 5) (xs++ys) l' /\b∉l'.blks/\(∀k∈l'.blks,k∈l.blks\/w.heap.size<=k)/\OthB w w' (b::l.blks):=by
 obtain⟨i0,hi,hz0,hz1,hz2⟩:=info_parts X.infoByte;have mixed:=L.mixed;have t72:=L.t72;have a72:=L.a72;have z72:=L.z72;have v72:=L.v72;have u72:=run_underlying L.t72;have t70:=L.t70;have a70:=L.a70;have z70:=L.z70;have v70:=L.v70;have u70:=run_underlying L.t70;have t37:=L.t37;have a37:=L.a37;have z37:=L.z37;have v37:=L.v37;have u37:=run_underlying L.t37;have t3:=L.t3;have a3:=L.a3;have z3:=L.z3;have v3:=L.v3;have u3:=run_underlying L.t3;have t9:=L.t9;have a9:=L.a9;have z9:=L.z9;have v9:=L.v9;have u9:=run_underlying L.t9;have t4:=L.t4;have a4:=L.a4;have z4:=L.z4;have v4:=L.v4;have u4:=run_underlying L.t4;have t164:=L.t164;have a164:=L.a164;have z164:=L.z164;have v164:=L.v164;have u164:=run_underlying L.t164;have t5:=X.t5;have a5:=X.a5;have z5:=X.z5;have v5:=X.v5;have u5:=run_underlying X.t5;have e240:=L.e240;have hlt:b<w.heap.size:=(J6.1 hb).1
 go_enter L.f166,Body.n166_ntmps ρ
 go_wp2_with (go_at_fn (ρ.f 240);refine(L.check hb ha).mono ?_)
 rintro e w1 ⟨rfl,hb1,hs1,ho1⟩;have c0:w1.cell? ⟨b,0,none⟩=some (.pointer (some ⟨b,0,none⟩)):=by rw[Lib.cell_of_heap hb1];rfl
 have c1:w1.cell? ⟨b,1,none⟩=some v:=by rw[Lib.cell_of_heap hb1];rfl
 have hr1:qY w1.heap (ρ.t 5) xs l:=uJ (λk hk=>ho1.block k (Vp hr k hk) (λe=>hnb (by simp at e;rw[←e];exact hk))) hr
 go_wp2_with (at_builtin;refine a0w rfl _ _ (ρ.t 37) (ρ.t 9) rfl L.t37 L.t9 hi hz0 hz1 hz2 rfl rfl hv hr1 hlen ?_)
 intro v' w2 l' hv' hr' hbl ho2;have hb2:w2.heap[b]? =some (.cells #[.pointer (some ⟨b,0,none⟩),v] (ρ.t 72) (0,0)):=by rw[ho2.block b o5 hnb];exact hb1
 have d0:w2.cell? ⟨b,0,none⟩=some (.pointer (some ⟨b,0,none⟩)):=by rw[Lib.cell_of_heap hb2];rfl
 have d1:w2.cell? ⟨b,1,none⟩=some v:=by rw[Lib.cell_of_heap hb2];rfl
 have f1:w2.frozen? ⟨b,1,none⟩=false:=Lib.frozen_of_heap hb2 1;have hnb' :b∉l'.blks:=λh=>(hbl b h).elim hnb (λh=>by omega);have hone:=kG hv';obtain⟨ao,n',cap,rfl⟩:∃ao n' cap,v' = .slice ao n' cap:=by
  cases l' with
  |nil=>exact⟨_,_,_,hv'⟩|st _=>cases hr'|mp _=>cases hr'|arr g off len cap sz=>exact⟨_,_,_,hv'⟩
 go_wp2
 go_ret2
 refine⟨by simp[ByteArray.size],_,l',?_,hv',uJ (λk hk=>Below.heap_setCell _ _ _ _ (λe=>hnb' (by have e:k=b:=e;rw[←e];exact hk))) hr',hnb',λk hk=>(hbl k hk).elim .inl (λh=> .inr o5),?_⟩
 .rw[setCell_eq_setRow w2 b 1 _ _ _ _ hb2];exact setRow_heap w2 b _ _ _ _ hb2
 .refine⟨ho2.os.trans ho1.os,ho2.tape.trans ho1.tape,ho2.output.trans ho1.output,?_,λk hk hn=>?_⟩
  .have:=ho2.size;simp[World.setCell];omega
  .simp only[D6,not_or]at hn;rw[Below.heap_setCell _ _ _ _ (λe=>hn.1 e),ho2.block k o5 hn.2,ho1.block k hk (by simpa using hn.1)]
theorem VQ{gl:List (Nat×(t:Ty)×List t.den)}(L:Lw P ρ)(X:Builder.Extra P ρ):
  aH P gl (ρ.f 166) ⟨[(false,.sbx (ρ.t 72) (ρ.t 5)),(false,.dat .str)],[(false,.dat (.int .i64)),(false,.cell none)],[(false,.sbx (ρ.t 72) (ρ.t 5))],λx=>xe x.1 x.2⟩:=by
 intro w ok O vals x r hok hO hO2 hgl hrel hdv hF;obtain⟨xs,ys⟩:=x;have hF:xe xs ys=some r:=hF;unfold xe at hF;split at hF
 case isFalse=>cases hF
 rename_i hmax;cases hF;obtain⟨v0,cs0,vs',O1,O2,rfl,rfl,hg,h1,hrest⟩:=hrel;obtain⟨v1,cs1,rfl,hg1,h2,rfl⟩:=hrest;have hg:cs0=[v0]:=hg;have hg1:cs1=[v1]:=hg1;subst hg;subst hg1;have h2:[v1]=[Value.string ⟨ys.toArray⟩]:=h2;simp only[G7,and_true]at h2;subst h2;obtain⟨b,a,v,l,e,hb,ha,hv,hr,rfl⟩:=h1;simp only[G7,and_true]at e;subst e;have hnd:(b::l.blks).Nodup:=by simpa using hO
 have hnb:=(aj.1 hnd).1;refine(a0x L X hb ha hv hr (show xs.length+ys.length<=140737488355328 by omega) hnb).mono ?_;rintro e w' ⟨rfl,v',l',hb',hv',hr',hnb',hbl,ho⟩;have hlt:b<w.heap.size:=(J6.1 hb).1;have hlt' :b<w'.heap.size:=(J6.1 hb').1;have hnd' :(b::l'.blks).Nodup:=aj.2 ⟨hnb',Loc.blks_nodup l'⟩;refine⟨_,ok,b::l'.blks,[.int .i64 ys.length,.nilIface],[.pointer (some ⟨b,0,none⟩)],[],rfl,⟨ho.os,ho.tape,ho.output,ho.size,λk hk hn=>ho.block k hk (by simpa using hn)⟩,λ_ _ h=>h,λk t hk=>⟨dU (hok k t hk) ho.size,.inl hk⟩,by simpa using hnd',?_,⟨rfl,rfl⟩,⟨_,rfl,rfl,rfl⟩,?_⟩
 .intro k hk;rw[H6]at hk;rcases D6.1 hk with rfl|hk
  .exact⟨(hO2 k A8).1,hlt',.inr A8⟩
  .refine⟨λt hkt=>?_,Vp hr' k hk,?_⟩
   .rcases hbl k hk with h|h
    .exact(hO2 k (by simp[h])).1 t hkt
    .have:=hok k t hkt;omega
   .rcases hbl k hk with h|h
    .exact .inr (by simp[h])
    .exact .inl h
 .refine⟨.int .i64 ys.length,[.int .i64 ys.length],[.nilIface,.pointer (some ⟨b,0,none⟩)],[],b::l'.blks,rfl,rfl,rfl,⟨rfl,rfl⟩,?_⟩;refine⟨.nilIface,[.nilIface],[.pointer (some ⟨b,0,none⟩)],[],b::l'.blks,rfl,rfl,rfl,⟨_,rfl,rfl,(λh=>nomatch h),(λ_ h=>nomatch h),rfl⟩,?_⟩;exact⟨_,_,rfl,rfl,⟨b,_,v',l',rfl,hb',.inr rfl,hv',hr',rfl⟩⟩
end Go.GP
namespace Go.GP
open Go.ChangeShapes Go.WideShapes Go.RowKit
def KF(s c:List UInt8):Option (List UInt8×List UInt8×Bool):=if s.length<4294967281 then some (Lib.cut s c)else none
variable {g:Nat}
theorem a5C{h:Array Obj}{ok:Nat->Ty->Prop}{m:Mp}{k:IntKind}{n:Int}{T:TypeId}{f:Nat×Nat}(hok:ok g (.any (some k)))(hh:h[g]? =some (.cells #[.int k n] T f)):
  IY ⟨h,ok,m⟩ g (.any (some k)) [()]:=by
 refine⟨hok,⟨_,_,_,hh,rfl⟩,λi x hi=>?_⟩;cases i with
 |zero=>exact⟨[.int k n],ik hh 0 1 A8,.int k n,rfl,rfl,n,rfl⟩|succ i=>simp at hi
theorem WW{w:World}{ok:Nat->Ty->Prop}{m:Mp}{k:IntKind}(h:IY ⟨w.heap,ok,m⟩ g (.any (some k)) [()]):∃n,w.cell? ⟨g,0,none⟩=some (.int k n):=by
 obtain⟨_,_,h2⟩:=h;obtain⟨es,he,v,rfl,_,n,rfl⟩:=h2 0 () rfl;obtain⟨c,T,f,hb,hn,e⟩:=oz he;refine⟨n,?_⟩;have hn:1<=c.size:=by simpa[Ty.size]using hn
 have h0:c[0]? =some (.int k n):=by have:=congrArg (λl=>l[0]?) e;simp only[Nat.zero_mul,jY,Ty.size,bY,aN (show 0<1 by omega)]at this;rw[Y6]at this;exact this.symm
 have hb:w.heap[g]? =some (.cells c T f):=hb;simp only[World.cell?,hb,gG,h0];rfl
theorem a3Z{P:Program}{f g:Nat}{gl:List (Nat×(t:Ty)×List t.den)}
  (hC:∀(s sep:ByteArray) (m:Int) (w:World) (hs:s.size<4294967281) (hm:w.cell? ⟨g,0,none⟩=some (.int .i64 m)),
   Calls P f #[.string s,.string sep] w λe w' =>e= .returned (.tuple #[.string ⟨(Lib.cut s.data.toList sep.data.toList).1.toArray⟩,.string ⟨(Lib.cut s.data.toList sep.data.toList).2.1.toArray⟩,.bool (Lib.cut s.data.toList sep.data.toList).2.2])/\∃n,w' =w.drewN n)
  (hgl:bK gl g=some ⟨.any (some .i64),[()]⟩):
  aH P gl f ⟨[(false,.dat .str),(false,.dat .str)],[(false,.dat .str),(false,.dat .str),(false,.dat .bool)],[],λx=>KF x.1 x.2⟩:=by
 intro w ok O vals x r hlt hnd hO hgls hrel hdv hfn;obtain⟨rfl,rfl⟩:=a9o hrel;simp only[KF]at hfn;split at hfn
 .rename_i hl;cases hfn;obtain⟨m,hm⟩:=WW (hgls g _ hgl);refine(hC ⟨x.1.toArray⟩ ⟨x.2.toArray⟩ m w (by simpa[ByteArray.size]using hl) hm).mono λe w' ⟨he,n,hw⟩=>?_;subst he;subst hw;exact⟨_,ok,[],[.string ⟨(Lib.cut x.1 x.2).1.toArray⟩,.string ⟨(Lib.cut x.1 x.2).2.1.toArray⟩,.bool (Lib.cut x.1 x.2).2.2],[],[],rfl,⟨rfl,rfl,rfl,E9 _,λ_ _ _=>rfl⟩,λ_ _ h=>h,λb t h=>⟨hlt b t h,.inl h⟩,
   by simp,A8,⟨rfl,rfl⟩,⟨rfl,rfl⟩,_,_,_,[],[],rfl,rfl,rfl,⟨rfl,rfl⟩,_,_,_,[],[],rfl,rfl,rfl,⟨rfl,rfl⟩,_,_,rfl,rfl,rfl,rfl⟩
 .cases hfn
end Go.GP
namespace Go.GP
open Go.Shelf Go.RowKit Go.Proofs
variable {w:World}
theorem Zn{P:Program}{t ty e:TypeId}{i:TypeInfo}(ht:P.underlying t=some (.slice e))(hi:P.info? e=some i)(hz:i.zero=some (.int .u8 0))
  (hsize:i.size=1) (hby:i.bytes=1) {v:Value} {l:Loc} {xs:List UInt8} {y:UInt8} (hv:l.view none v) (hr:qY w.heap e xs l) (hmax:xs.length+1<=140737488355328)
  {ad:Addr} (hx:w.cell? ad=some (.int .u8 (y.toNat:Int))):
  ∃v' w' l',(Builtin.append_ #[t,t] ty #[v,.slice (some ad) 1 1]).run P w= .ok v' w' /\l'.view none v' /\qY w'.heap e (xs++[y]) l' /\(∀b∈l'.blks,b∈l.blks\/w.heap.size<=b)/\OthB w w' l.blks:=by
 have hnews:∀j u,([Value.int .u8 (y.toNat:Int)])[j]? =some u->w.cell? (ad.add j)=some u:=by
  intro j u hj;match j,hj with
  |0,hj=>simp at hj;subst hj;obtain⟨a,b,c⟩:=ad;simpa[Addr.add]using hx
 have h1:∀u∈[Value.int .u8 (y.toNat:Int)],u.oneCell' =true:=by intro u hu;simp at hu;subst hu;rfl
 cases l with
 |st b=>cases hr|mp b=>cases hr|nil=>
  have hr:xs=[]:=hr;subst hr;have hv:v= .slice none 0 0:=hv;subst hv;obtain⟨v',w',r1,r2,r3,r4⟩:=run_append_ownF (P:=P) w w.heap.size t ty e i (.int .u8 0) 1 1 ht hi hz hsize hby rfl U9 (.slice none 0 0) 0 [] ⟨rfl,.inl ⟨rfl,rfl⟩⟩ ad 1 1 [.int .u8 (y.toNat:Int)] rfl hnews h1 (by unfold maxLen;omega) o5 (E9 _);rcases r2.2 with⟨_,h0⟩|⟨g,cap,cur,fz,rfl,hB,hg,hfz,hc,hcm,hcs,htk⟩
  .omega
  .refine⟨_,w',.arr g 0 1 cap 1,r1,by simp[Loc.view],⟨rfl,rfl,rfl,by simpa using hc,hcm,cur,fz,hg,by simpa using hfz,by simpa using hcs,by simpa using htk⟩,λb hb=> .inr (by simp[Loc.blks]at hb;subst hb;exact hB),⟨r3.os,r3.tape,r3.output,r3.size,λk hk _=>r3.block k hk (by simp[Value.ownBlock])⟩⟩
 |arr g off len cap sz=>
  obtain⟨rfl,rfl,rfl,hc,hcm,cur,fz,hg,hfz,hcs,htk⟩:=hr;have hv:v= .slice (some ⟨g,0,none⟩) xs.length cap:=hv;subst hv;by_cases hroom:xs.length+1<=cap
  .have hrun:=run_append_roomF (P:=P) w t ty e i ht hi g xs.length cap cur fz hg (by rw[hsize];omega) ad 1 1 [.int .u8 (y.toNat:Int)] (by rw[hsize];rfl) hnews h1 hroom (by rw[hsize];simp;omega);rw[hsize,aS]at hrun;refine⟨_,_,.arr g 0 (xs.length+1) cap 1,hrun,rfl,⟨rfl,rfl,A8,hroom,hcm,_,fz,setRow_heap w g cur _ e _ hg,o5,?_,?_⟩,λb hb=> .inl hb,⟨rfl,rfl,rfl,A8,λk _ hk=>setRow_other w g k _ (λe=>hk (by simp[Loc.blks,e]))⟩⟩
   .simp only[Y2,H9,bn,gz,Y9,H5,ai];omega
   .rw[htk];rw[show xs.length+1=((xs++[y]).map λc=>Value.int .u8 (c.toNat:Int)).length by simp];rw[eQ];exact mO
  .have holds:∀(j:Nat) (u:Value),(xs.map λc=>Value.int .u8 (c.toNat:Int))[j]? =some u->w.cell? ((⟨g,0,none⟩:Addr).add j)=some u:=λj u hj=>by
    have ho:w.ownsRowF 0 e 1 (.slice (some ⟨g,0,none⟩) xs.length cap) xs.length (xs.map λc=>Value.int .u8 (c.toNat:Int)):=⟨A8,.inr ⟨g,cap,cur,fz,rfl,dC _,hg,o5,hc,hcm,o5,by rw[aS];exact htk⟩⟩;exact ho.cells (g:=g) rfl j u hj
   have hrun:=run_append_grow (P:=P) w t ty e i (.int .u8 0) ht hi hz ⟨g,0,none⟩ xs.length cap (xs.map λc=>Value.int .u8 (c.toNat:Int)) (by rw[hsize];simp) holds ad 1 1 [.int .u8 (y.toNat:Int)] (by rw[hsize];rfl) hnews o5 o5 (by rw[hby];exact growslice_fits o5 o5);have hge:=grownCap_ge w (xs.length+1) cap e;have hcm2:grownCap w (xs.length+1) cap e<=maxLen:=grownCap_le_maxLen w (xs.length+1) cap e (by unfold maxLen;omega);refine⟨_,_,.arr w.heap.size 0 (xs.length+1) _ 1,hrun,rfl,⟨rfl,rfl,A8,hge,hcm2,_,(0,0),heap_alloc_new w.drew _,dC _,?_,?_⟩,λb hb=> .inr (by simp[Loc.blks]at hb;omega),⟨rfl,rfl,rfl,A8,λk hk _=>heap_alloc_old w.drew _ hk⟩⟩
   .have hz1:(Value.int IntKind.u8 0).cells.size=1:=rfl;simp only[nG,Y2,size_zeroCells,hz1,V7,H5,ai];omega
   .simp only[kY,E5];rw[←E5];rw[show xs.length+1=((xs++[y]).map λc=>Value.int .u8 (c.toNat:Int)).length by simp];rw[show(xs.map λc=>Value.int .u8 (c.toNat:Int))++[.int .u8 (y.toNat:Int)]=(xs++[y]).map λc=>Value.int .u8 (c.toNat:Int) by simp];exact mO
theorem Zo{P:Program}{ops:Array Oper}{rest:List Oper}{o:Oper}{a:Act}{Q:Exit->Act->World->Prop}{w:World}(hgd:o.guard=none)(sl x:Operand)(t:TypeId)
  (ho:o.op= .call { callee:=.builtin .append,args:=#[sl,x],argTypes:=#[t,t] }) {e:TypeId} {i:TypeInfo} (ht:P.underlying t=some (.slice e)) (hi:P.info? e=some i) (hz:i.zero=some (.int .u8 0))
  (hsize:i.size=1) (hby:i.bytes=1) {v:Value} {l:Loc} {xs:List UInt8} {y:UInt8} {ad:Addr} (hs:a.eval sl=v) (hx:a.eval x= .slice (some ad) 1 1) (hv:l.view none v) (hr:qY w.heap e xs l) (hmax:xs.length+1<=140737488355328)
  (hc:w.cell? ad=some (.int .u8 (y.toNat:Int)))
  (h:∀v' w' l',l'.view none v' ->qY w'.heap e (xs++[y]) l' ->(∀b∈l'.blks,b∈l.blks\/w.heap.size<=b)->OthB w w' l.blks->wpList P ops Q rest (a.put o.dst v') w'):wpList P ops Q (o::rest) a w:=by
 refine wpList_plain hgd λK hK=>?_;obtain⟨v',w',l',h1,h2,h3,h4,h5⟩:=Zn (ty:=o.type) ht hi hz hsize hby hv hr hmax hc;unfold Oper.wp execOp;simp only[ho,resolve,invoke,builtin,G9,U6,H7,List.map_toArray,fA,jM,hs,hx,h1];exact hK _ _ (h v' w' l' h2 h3 h4 h5)
variable {P:Program} {ρ:Ren}
set_option maxHeartbeats 2000000 in
set_option maxRecDepth 100000 in
theorem a3W(L:Lw P ρ)(X:Builder.Extra P ρ)(f167:P.funcs[ρ.f 167]? =some (Body.n167 ρ)){b:Nat}{a v:Value}{l:Loc}{xs:List UInt8}{y:UInt8}(hb:w.heap[b]? =some (.cells #[a,v] (ρ.t 72) (0,0)))(ha:a= .pointer none\/a= .pointer (some ⟨b,0,none⟩))
  (hv:l.view none v) (hr:qY w.heap (ρ.t 5) xs l) (hlen:xs.length+1<=140737488355328) (hnb:b∉l.blks):
  Calls P (ρ.f 167) #[.pointer (some ⟨b,0,none⟩),.int .u8 (y.toNat:Int)] w λe w' =>e= .returned .nilIface/\
   ∃v' l',w'.heap[b]? =some (.cells #[.pointer (some ⟨b,0,none⟩),v'] (ρ.t 72) (0,0))/\l'.view none v' /\qY w'.heap (ρ.t 5) (xs++[y]) l' /\b∉l'.blks/\(∀k∈l'.blks,k∈l.blks\/w.heap.size<=k)/\OthB w w' (b::l.blks):=by
 obtain⟨i0,hi,hz0,hz1,hz2⟩:=info_parts X.infoByte;have mixed:=L.mixed;have t72:=L.t72;have a72:=L.a72;have z72:=L.z72;have v72:=L.v72;have u72:=run_underlying L.t72;have t70:=L.t70;have a70:=L.a70;have z70:=L.z70;have v70:=L.v70;have u70:=run_underlying L.t70;have t37:=L.t37;have a37:=L.a37;have z37:=L.z37;have v37:=L.v37;have u37:=run_underlying L.t37;have t3:=L.t3;have a3:=L.a3;have z3:=L.z3;have v3:=L.v3;have u3:=run_underlying L.t3;have t9:=L.t9;have a9:=L.a9;have z9:=L.z9;have v9:=L.v9;have u9:=run_underlying L.t9;have t4:=L.t4;have a4:=L.a4;have z4:=L.z4;have v4:=L.v4;have u4:=run_underlying L.t4;have t164:=L.t164;have a164:=L.a164;have z164:=L.z164;have v164:=L.v164;have u164:=run_underlying L.t164;have t5:=X.t5;have a5:=X.a5;have z5:=X.z5;have v5:=X.v5;have u5:=run_underlying X.t5;have e240:=L.e240;have hlt:b<w.heap.size:=(J6.1 hb).1
 go_enter f167,Body.n167_ntmps ρ
 go_wp2_with (go_at_fn (ρ.f 240);refine(L.check hb ha).mono ?_)
 rintro e w1 ⟨rfl,hb1,hs1,ho1⟩;have c0:w1.cell? ⟨b,0,none⟩=some (.pointer (some ⟨b,0,none⟩)):=by rw[Lib.cell_of_heap hb1];rfl
 have c1:w1.cell? ⟨b,1,none⟩=some v:=by rw[Lib.cell_of_heap hb1];rfl
 have hr1:qY w1.heap (ρ.t 5) xs l:=uJ (λk hk=>ho1.block k (Vp hr k hk) (λe=>hnb (by simp at e;rw[←e];exact hk))) hr;have hr2:qY (w1.alloc (.cells #[.int .u8 (y.toNat:Int)] (ρ.t 5))).heap (ρ.t 5) xs l:=uJ (λk hk=>Lib.alloc_old w1 _ k (Vp hr1 k hk)) hr1
 go_wp2_with (at_builtin;refine Zo (y:=y) (ad:=⟨w.heap.size,0,none⟩) rfl _ _ (ρ.t 37) rfl L.t37 hi hz0 hz1 hz2 rfl rfl hv hr2 hlen (by rw[←hs1];simp) ?_)
 intro v' w2 l' hv' hr' hbl ho2;have hlt1:b<w1.heap.size:=o5;have hb2:w2.heap[b]? =some (.cells #[.pointer (some ⟨b,0,none⟩),v] (ρ.t 72) (0,0)):=by rw[ho2.block b F5 hnb,Lib.alloc_old w1 _ b hlt1];exact hb1
 have d0:w2.cell? ⟨b,0,none⟩=some (.pointer (some ⟨b,0,none⟩)):=by rw[Lib.cell_of_heap hb2];rfl
 have d1:w2.cell? ⟨b,1,none⟩=some v:=by rw[Lib.cell_of_heap hb2];rfl
 have f1:w2.frozen? ⟨b,1,none⟩=false:=Lib.frozen_of_heap hb2 1;have hbl' :∀k∈l'.blks,k∈l.blks\/w.heap.size<=k:=λk hk=>by
  rcases hbl k hk with h|h
  .exact .inl h
  .have h2:w.heap.size+1<=k:=by first|exact h|simpa using h|simpa[hs1]using h
   exact .inr o5
 have hnb' :b∉l'.blks:=λh=>(hbl' b h).elim hnb (λh=>by omega);have hone:=kG hv';obtain⟨ao,n',cap,rfl⟩:∃ao n' cap,v' = .slice ao n' cap:=by
  cases l' with
  |nil=>exact⟨_,_,_,hv'⟩|st _=>cases hr'|mp _=>cases hr'|arr g off len cap sz=>exact⟨_,_,_,hv'⟩
 go_wp2
 go_ret
 refine⟨rfl,_,l',?_,hv',uJ (λk hk=>Below.heap_setCell _ _ _ _ (λe=>hnb' (by have e:k=b:=e;rw[←e];exact hk))) hr',hnb',hbl',?_⟩
 .rw[setCell_eq_setRow w2 b 1 _ _ _ _ hb2];exact setRow_heap w2 b _ _ _ _ hb2
 .refine⟨ho2.os.trans ho1.os,ho2.tape.trans ho1.tape,ho2.output.trans ho1.output,?_,λk hk hn=>?_⟩
  .have:=ho2.size;simp[World.setCell]at this ⊢;omega
  .simp only[D6,not_or]at hn;rw[Below.heap_setCell _ _ _ _ (λe=>hn.1 e),ho2.block k F5 hn.2,Lib.alloc_old w1 _ k o5,ho1.block k hk (by simpa using hn.1)]
theorem b6F{n:Int}(n0:0<=n)(n1:n<=255):((n.toNat.toUInt8.toNat:Nat):Int)=n:=by
 have h1:n.toNat<256:=o5;have h2:n.toNat.toUInt8.toNat=n.toNat:=by simp[Nat.toUInt8,UInt8.toNat_ofNat];omega
 rw[h2];omega
def zt(xs:List UInt8)(n:Int):Option (Unit×List UInt8):=bif Nat.ble (xs.length+1) 1073741824&&decide (0<=n)&&decide (n<=255)then some ((),xs++[n.toNat.toUInt8])else none
theorem XM{gl:List (Nat×(t:Ty)×List t.den)}(L:Lw P ρ)(X:Builder.Extra P ρ)(f167:P.funcs[ρ.f 167]? =some (Body.n167 ρ)):
  aH P gl (ρ.f 167) ⟨[(false,.sbx (ρ.t 72) (ρ.t 5)),(false,.dat (.int .u8))],[(false,.cell none)],[(false,.sbx (ρ.t 72) (ρ.t 5))],λx=>zt x.1 x.2⟩:=by
 intro w ok O vals x r hok hO hO2 hgl hrel hdv hF;obtain⟨xs,n⟩:=x;have hF:zt xs n=some r:=hF;unfold zt at hF;cases hc:(Nat.ble (xs.length+1) 1073741824&&decide (0<=n)&&decide (n<=255))<;>rw[hc]at hF
 .cases hF
 simp only[A7,decide_eq_true_eq,Nat.ble_eq]at hc;obtain⟨⟨hmax,n0⟩,n1⟩:=hc;have n0:(0:Int)<=n:=n0;have n1:n<=(255:Int):=n1;cases hF;obtain⟨v0,cs0,vs',O1,O2,rfl,rfl,hg,h1,hrest⟩:=hrel;obtain⟨v1,cs1,rfl,hg1,h2,rfl⟩:=hrest;have hg:cs0=[v0]:=hg;have hg1:cs1=[v1]:=hg1;subst hg;subst hg1;have h2:[v1]=[Value.int .u8 n]:=h2;simp only[G7,and_true]at h2;subst h2;obtain⟨b,a,v,l,e,hb,ha,hv,hr,rfl⟩:=h1;simp only[G7,and_true]at e;subst e;have hnd:(b::l.blks).Nodup:=by simpa using hO
 have hnb:=(aj.1 hnd).1;have hn:((n.toNat.toUInt8.toNat:Nat):Int)=n:=b6F n0 n1;have key:=a3W L X f167 (y:=n.toNat.toUInt8) hb ha hv hr (show xs.length+1<=140737488355328 by omega) hnb;rw[hn]at key;refine key.mono ?_;rintro e w' ⟨rfl,v',l',hb',hv',hr',hnb',hbl,ho⟩;have hlt:b<w.heap.size:=(J6.1 hb).1;have hlt' :b<w'.heap.size:=(J6.1 hb').1;have hnd' :(b::l'.blks).Nodup:=aj.2 ⟨hnb',Loc.blks_nodup l'⟩;refine⟨_,ok,b::l'.blks,[.nilIface],[.pointer (some ⟨b,0,none⟩)],[],rfl,⟨ho.os,ho.tape,ho.output,ho.size,λk hk hn=>ho.block k hk (by simpa using hn)⟩,λ_ _ h=>h,λk t hk=>⟨dU (hok k t hk) ho.size,.inl hk⟩,by simpa using hnd',?_,⟨rfl,rfl⟩,⟨_,rfl,rfl,rfl⟩,?_⟩
 .intro k hk;rw[H6]at hk;rcases D6.1 hk with rfl|hk
  .exact⟨(hO2 k A8).1,hlt',.inr A8⟩
  .refine⟨λt hkt=>?_,Vp hr' k hk,?_⟩
   .rcases hbl k hk with h|h
    .exact(hO2 k (by simp[h])).1 t hkt
    .have:=hok k t hkt;omega
   .rcases hbl k hk with h|h
    .exact .inr (by simp[h])
    .exact .inl h
 .refine⟨.nilIface,[.nilIface],[.pointer (some ⟨b,0,none⟩)],[],b::l'.blks,rfl,rfl,rfl,⟨_,rfl,rfl,(λh=>nomatch h),(λ_ h=>nomatch h),rfl⟩,?_⟩;exact⟨_,_,rfl,rfl,⟨b,_,v',l',rfl,hb',.inr rfl,hv',hr',rfl⟩⟩
def Gu(s t:List UInt8):Option Int:=match t with
 |[c]=>some ((Lib.countByte s c:Nat):Int)|_=>none
theorem XU{f:Nat}{gl:List (Nat×(t:Ty)×List t.den)}
  (hC:∀(s:ByteArray) (c:UInt8) (w:World),Calls P f #[.string s,.string ⟨#[c]⟩] w λe w' =>e= .returned (.int .i64 (Lib.countByte s.data.toList c))/\w' =w):
  aH P gl f ⟨[(false,.dat .str),(false,.dat .str)],[(false,.dat (.int .i64))],[],λx=>Gu x.1 x.2⟩:=by
 intro w ok O vals x r hlt _ _ _ hrel hdv hfn;obtain⟨rfl,rfl⟩:=a9o hrel;simp only[Gu]at hfn;split at hfn
 .rename_i c hx;cases hfn;rw[hx];refine(hC ⟨x.1.toArray⟩ c w).mono λe w' ⟨he,hw⟩=>?_;subst he;subst hw;exact CY (P:=P) (t:=.int .i64) (x:=((Lib.countByte x.1 c:Nat):Int)) (ps:=[(false,.dat .str),(false,.dat .str)]) (vals:=[_,_]) ⟨rfl,rfl,rfl,E9 _,λ_ _=>rfl⟩ hlt ⟨rfl,rfl⟩ rfl
 .cases hfn
def KG(s c:List UInt8):Option (List (List UInt8)):=if s.length<4294967281/\1<=c.length then some (Lib.split s c)else none
theorem Y_{f g:Nat}{gl:List (Nat×(t:Ty)×List t.den)}{T:TypeId}
  (hC:∀(s sep:ByteArray) (m:Int) (w:World) (hs:s.size<4294967281) (hm:w.cell? ⟨g,0,none⟩=some (.int .i64 m)) (h1:1<=sep.size),
   Calls P f #[.string s,.string sep] w λe w' =>e= .returned (.slice (some ⟨w.heap.size,0,none⟩) (Lib.countB s sep+1) (Lib.countB s sep+1))/\w' =w.alloc (.cells ((Lib.splitB sep 0 (Lib.countB s sep) s).map Value.string).toArray T))
  (hgl:bK gl g=some ⟨.any (some .i64),[()]⟩):
  aH P gl f ⟨[(false,.dat .str),(false,.dat .str)],[(false,.own .str)],[],λx=>KG x.1 x.2⟩:=by
 intro w ok O vals x r hlt hnd hO hgls hrel hdv hfn;obtain⟨rfl,rfl⟩:=a9o hrel;simp only[KG]at hfn;split at hfn
 .rename_i hl;cases hfn;obtain⟨m,hm⟩:=WW (hgls g _ hgl);have h1:1<=(⟨x.2.toArray⟩:ByteArray).size:=by simpa[ByteArray.size]using hl.2
  refine(hC ⟨x.1.toArray⟩ ⟨x.2.toArray⟩ m w (by simpa[ByteArray.size]using hl.1) hm h1).mono λe w' ⟨he,hw⟩=>?_;have hlen:=Lib.splitB_all ⟨x.2.toArray⟩ h1 0 (Lib.countB ⟨x.1.toArray⟩ ⟨x.2.toArray⟩) ⟨x.1.toArray⟩ rfl;have hmap:Lib.split x.1 x.2=(Lib.splitB ⟨x.2.toArray⟩ 0 (Lib.countB ⟨x.1.toArray⟩ ⟨x.2.toArray⟩) ⟨x.1.toArray⟩).map λb=>b.data.toList:=by rw[Lib.splitB_data];rfl
  generalize hS:Lib.splitB ⟨x.2.toArray⟩ 0 (Lib.countB ⟨x.1.toArray⟩ ⟨x.2.toArray⟩) ⟨x.1.toArray⟩=S at*;have hlS:(Lib.split x.1 x.2).length=S.length:=by rw[hmap,V7]
  rw[←hlen]at he;subst he;subst hw;refine⟨_,ok,[w.heap.size],[.slice (some ⟨w.heap.size,0,none⟩) S.length S.length],[],[],rfl,⟨rfl,rfl,rfl,A8,λb hb _=>Lib.alloc_old w _ b hb⟩,λ_ _ h=>h,λb t h=>⟨by have:=hlt b t h;simp;omega,.inl h⟩,
   by simp,λb hb=>?_,⟨rfl,rfl⟩,⟨rfl,rfl⟩,⟨_,_,rfl,rfl,uH.2 ⟨.arr w.heap.size 0 S.length S.length 1,_,rfl,rfl,⟨rfl,rfl,hlS.symm,E9 _,(S.map Value.string).toArray,T,(0,0),heap_alloc_new w _,.inl rfl,A8,λi y hi=>?_⟩,rfl⟩⟩⟩
  .simp only[H6,lT]at hb;subst hb;exact⟨λt ht=>by have:=hlt _ t ht;omega,A8,.inl (E9 _)⟩
  .rw[hmap,eP]at hi;obtain⟨z,hz,rfl⟩:=dm.1 hi;have hiz:=(aK.1 hz).1;refine⟨[.string z],?_,rfl⟩;have:=ik (h:=(w.alloc (.cells (S.map Value.string).toArray T)).heap) (blk:=w.heap.size) (c:=(S.map Value.string).toArray) (T:=T) (f:=(0,0)) (heap_alloc_new w _) (0+i*1) 1 F5;rw[this];congr 1;apply bI;intro j;cases j with
   |zero=>simp[hz]|succ j=>simp[U7]
 .cases hfn
end Go.GP
