import Derived.Test.YtaohichhnkhobaaGreatDoorU1
import Derived.ChangeSame
import Derived.Carry
import Derived.SizedLaws
import Derived.Deep.DeepHandedRow
import Derived.Lib.LaidTab
import Derived.Lib.ItoaNum
import Derived.Lib.ItoaMem
import Derived.Lib.Repeat
import Derived.Sort.Grow
import Derived.Lib.SlicesCompact
import Derived.Lib.Bytealg
import Derived.Sort.Row
set_option linter.all false
namespace Go.GP
open Go.ChangeShapes Go.WideShapes Go.RowKit
def wf:(t:Ty)->t.den->Prop
 | .bool,_=>True| .int k,n=>(Lit.int k n).wf=true| .str,l=>l.length<=reachBytes| .sl t,xs=>xs.length<=reachBytes/\∀x∈xs,wf t x| .prod a b,x=>wf a x.1/\wf b x.2| .unit,_=>True| .any _,_=>True| .ent _ _ a b,x=>wf a x.1/\wf b x.2
def Iw(rec:TypeId->Ty->Bool)(cells:TypeId->Nat):Nat->List Field->Ty->Bool
 |off,fs,u=>match fs with
  |[]=>false
  |f::r=>match r with
   |[]=>Nat.beq f.offset off&&rec f.type u&&Nat.beq (cells f.type) u.size
   |g::r' =>match u with
    | .prod a b=>Nat.beq f.offset off&&rec f.type a&&Nat.beq (cells f.type) a.size&&Iw rec cells (off+a.size) (g::r') b|_=>false
termination_by _ fs _=>fs.length
def a3v(P:Program):Nat->TypeId->Ty->Bool
 |0,_,_=>false
 |n+1,t,u=>match P.underlying t with
  |some .bool=>(match u with| .bool=>true|_=>false)|some (.int k)=>(match u with| .int k' =>decide (k=k')|_=>false)|some .string=>(match u with| .str=>true|_=>false)|some (.slice e)=>(match u with| .sl v=>a3v P n e v&&Nat.beq (P.cellsOf e) v.size&&Nat.blt 0 v.size&&Nat.blt 0 (P.bytesOf e)&&!v.isEnt|_=>false)|some (.struct fs)=>Iw (a3v P n) P.cellsOf 0 fs.toList u&&Nat.beq (P.cellsOf t) u.size|_=>false
theorem Uk{α:Type}{Q:Nat->α->Prop} :∀(n:Nat),(∀i,i<n->∃x,Q i x)->∃xs:List α,xs.length=n/\∀i x,xs[i]? =some x->Q i x
 |0,_=>⟨[],rfl,λi x h=>by simp at h⟩|n+1,h=>by
  obtain⟨xs,hl,hx⟩:=Uk n λi hi=>h i l9;obtain⟨y,hy⟩:=h n l9;refine⟨xs++[y],by simp[hl],λi x hi=>?_⟩;by_cases hin:i<n
  .rw[O8 l9]at hi;exact hx i x hi
  .rw[I7 l9]at hi;have:i -xs.length=0:=by
    rcases Nat.lt_or_ge (i -xs.length) 1 with h1|h1
    .omega
    .rw[iO (by simpa using h1)]at hi;cases hi
   rw[this]at hi;simp at hi;subst hi;have e:i=n:=l9;subst e;exact hy
variable {n:Nat}
theorem YN{w:World}{a:Addr}{es:d5Z}(hn:0<n)(h:w.cells? 0 a n=some es):
  a.spot=none/\a.block<w.heap.size/\fD w.heap a.block a.off n=some es:=by
 obtain⟨blk,off,spot⟩:=a;simp only[World.cells?,bU,if_true]at h;have hlen:es.length=n:=by simpa using Lib.mapM_length h
 have hat:∀i,i<n->∃b,es[i]? =some b/\w.cell? (Addr.add ⟨blk,off,spot⟩ i)=some b:=λi hi=>Lib.mapM_at h i i (by simp[hi]);obtain⟨b0,_,h0⟩:=hat 0 hn;simp only[Addr.add,if_true,World.cell?]at h0;cases hb:w.heap[blk]? with
 |none=>simp[hb]at h0|some o=>
  cases o<;>simp only[hb]at h0<;>try (cases h0;done)
  rename_i c T f;have hs:spot=none:=by
   cases spot with
   |none=>rfl|some _=>simp at h0
  subst hs;have hat' :∀i,i<n->es[i]? =c[off+i]?/\off+i<c.size:=λi hi=>by
   obtain⟨b,h1,h2⟩:=hat i hi;have h3:c[off+i]? =some b:=by
    by_cases hi0:i=0
    .subst hi0;simpa[Addr.add,World.cell?,hb]using h2
    .simpa[Addr.add,World.cell?,hb,hi0]using h2
   exact⟨h1.trans h3.symm,(au.1 h3).1⟩
  refine⟨rfl,(au.1 hb).1,?_⟩;have hle:off+n<=c.size:=by have:=(hat' (n -1) l9).2;omega
  rw[lJ hb _ _ hle];congr 1;apply dR;intro i;by_cases hi:i<n
  .rw[(hat' i hi).1,bD hi,P5];simp
  .rw[iO X5,iO l9]
section
variable {H:Type} {enc:TypeId×Value->H} {P:Program} {w:World} {sp:Nat->Bool} {held:Bool} {ok:Nat->Ty->Prop}
theorem Qj{e:TypeId} :∀{l:List (DataW H)} {d:DataW H},d∈l->∀b∈d.weights P e,b∈DataW.weightsAll P e l
 |x::l,d,h,b,hb=>by
  simp only[DataW.weightsAll,F7];rcases D5.1 h with rfl|h
  .exact .inl hb
  .exact .inr (Qj h b hb)
theorem Zg{n:Nat}(IH:∀t u,a3v P n t u=true->∀kH cs d ps,DataW.trod enc P w 0 sp held kH t cs=some (d,ps)->(∀b∈d.weights P t,b<=reachBytes)->∃x,mJ w.heap ok u x cs/\wf u x){cs:d5Z}{m:Nat} :
  ∀(fs:List Field) (off:Nat) (u:Ty),Iw (a3v P n) P.cellsOf off fs u=true->∀(xs:List (DataW H×List MemPlace)),xs.length=fs.length->
   (∀(i:Nat) (f:Field),fs[i]? =some f->DataW.trod enc P w 0 sp held m f.type ((cs.drop f.offset).take (P.cellsOf f.type))=xs[i]?)->(∀b∈DataW.weightsEach P (fs.map (·.type)) (xs.map (·.1)),b<=reachBytes)->
   ∃x,mJ w.heap ok u x ((cs.drop off).take u.size)/\wf u x
 |[],off,u,h,_,_,_,_=>by unfold Iw at h;cases h|[f],off,u,h,xs,hl,hx,hw=>by
  unfold Iw at h;simp only[A8]at h;have h1:=iD h.1.1;have h3:=iD h.2;match xs,hl with
  |[y],_=>have h4:=hx 0 f rfl;rw[h1,h3]at h4;refine IH _ _ h.1.2 _ _ y.1 y.2 (by simpa using h4) λb hb=>hw b ?_;simp[DataW.weightsEach,hb]
 |f::g::r,off,u,h,xs,hl,hx,hw=>by
  unfold Iw at h;cases u<;>try (cases h;done)
  rename_i a b;simp only[A8]at h;obtain⟨⟨⟨h1,h2⟩,h3⟩,h4⟩:=h;have h1:=iD h1;have h3:=iD h3;match xs,hl with
  |y::ys,hl=>
   have h5:=hx 0 f rfl;rw[h1,h3]at h5;obtain⟨p,hp,wp⟩:=IH _ _ h2 _ _ y.1 y.2 (by simpa using h5) λc hc=>hw c (by simp[DataW.weightsEach,hc]);obtain⟨q,hq,wq⟩:=Zg IH (g::r) (off+a.size) b h4 ys (by simpa using hl) (λi f' hf=>by have:=hx (i+1) f' (by simpa using hf);simpa using this) λc hc=>hw c (by simp only[je,DataW.weightsEach,F7];simp only[je]at hc;exact .inr hc)
   refine⟨(p,q),⟨_,_,?_,hp,hq⟩,wp,wq⟩;show(cs.drop off).take (a.size+b.size)=_;rw[List.take_add,Z9]
theorem PR(hok:∀b t,b<w.heap.size->ok b t):∀(n:Nat) (t:TypeId) (u:Ty),a3v P n t u=true->∀(kH:Nat) (cs:d5Z) (d:DataW H) (ps:List MemPlace),DataW.trod enc P w 0 sp held kH t cs=some (d,ps)->
  (∀b∈d.weights P t,b<=reachBytes)->∃x,mJ w.heap ok u x cs/\wf u x
 |0,_,_,h,_,_,_,_,_,_=>by cases h|n+1,t,u,h,kH,cs,d,ps,hd,hw=>by
  unfold a3v at h;split at h
  .rename_i ht;cases u<;>try (cases h;done)
   obtain⟨b,rfl,hx⟩:=DataW.trod_bool ht hd;exact⟨b,rfl,trivial⟩
  .rename_i k ht;cases u<;>try (cases h;done)
   rename_i k';have:=of_decide_eq_true h;subst this;obtain⟨b,rfl,hx,hwf⟩:=DataW.trod_int ht hd;exact⟨b,rfl,hwf⟩
  .rename_i ht;cases u<;>try (cases h;done)
   obtain⟨s,rfl,hx,hs⟩:=DataW.trod_string ht hd;simp only[bQ]at hx;obtain⟨rfl,rfl⟩:=hx;refine⟨s.data.toList,rfl,hw _ ?_⟩;simp[DataW.weights]
  .rename_i e ht;cases u<;>try (cases h;done)
   rename_i v;simp only[A8,dP]at h;obtain⟨⟨⟨⟨h1,h2⟩,h3⟩,h4⟩,hE0⟩:=h;have h2:=iD h2;rw[iI]at h3 h4;rcases DataW.trod_slice ht hd with⟨rfl,hx⟩|⟨a,len,cap,elems,rest,m,rfl,rfl,hx,hb,hl,hm,hlen,hel,_,_⟩
   .exact⟨[],.inl ⟨hE0,none,0,rfl,F5 _,λi x hi=>by simp at hi⟩,A7,λx hx=>by simp at hx⟩
   .simp only[bQ]at hx;obtain⟨rfl,rfl⟩:=hx;have hW:DataW.weights P t (.slice (elems.map (·.1)) (rest.map (·.1)):DataW H)=((elems.map (·.1)).length+(rest.map (·.1)).length)*P.bytesOf e::(DataW.weightsAll P e (elems.map (·.1))++DataW.weightsAll P e (rest.map (·.1))):=by
     simp only[DataW.weights,ht]
    rw[hW]at hw;have hsz:=hw _ (jD ..);simp only[X4]at hsz;have hlr:len<=reachBytes:=by have h6:(elems.length+rest.length)*1<=(elems.length+rest.length)*P.bytesOf e:=Nat.mul_le_mul_left _ h4;omega
    have each:∀i,i<len->∃x,wf v x/\a.spot=none/\a.block<w.heap.size/\∃es,fD w.heap a.block (a.off+i*v.size) v.size=some es/\mJ w.heap ok v x es:=by
     intro i hi;have h5:=hel i hi;rw[h2]at h5;rw[fH l9]at h5;obtain⟨es,hc,hd2⟩:=Option.bind_eq_some_iff.1 h5;obtain⟨x,hx,wx⟩:=PR hok n e v h1 m es _ _ hd2 λb hb=>hw b (by refine Y2 _ (ah _ (Qj (d:=(elems[i]'l9).1) (bM.2 ⟨_,N7 l9,rfl⟩) b hb)))
     obtain⟨s1,s2,s3⟩:=YN h3 hc;by_cases hz:i*v.size=0
     .simp only[Addr.add,hz,if_true]at s1 s2 s3;exact⟨x,wx,s1,s2,es,by simpa[hz]using s3,hx⟩
     .simp only[Addr.add,hz,if_false]at s1 s2 s3;obtain⟨es0,hc0,_⟩:=Option.bind_eq_some_iff.1 (show((w.cells? 0 (a.add (0*P.cellsOf e)) (P.cellsOf e)).bind (DataW.trod enc P w 0 sp held m e))=some (elems[0]'l9) by rw[hel 0 l9,fH l9]);rw[h2]at hc0;have s0:=(YN h3 hc0).1;simp only[Nat.zero_mul,Addr.add,if_true]at s0;exact⟨x,wx,s0,s2,es,s3,hx⟩
    obtain⟨xs,hxl,hxs⟩:=Uk len each;refine⟨xs,.inl ⟨hE0,some a,cap,by simp[hxl],l9,λi x hi=>?_⟩,l9,λx hx=>?_⟩
    .obtain⟨_,s1,s2,es,s3,s4⟩:=hxs i x hi;refine⟨a.block,a.off,es,?_,hok _ _ s2,s3,s4⟩;obtain⟨b,o,s⟩:=a;simp only at s1;subst s1;rfl
    .obtain⟨i,hi,rfl⟩:=Jw.1 hx;exact(hxs i _ (fH hi)).1
  .rename_i fs ht;simp only[A8]at h;have h2:=iD h.2;obtain⟨xs,m,rfl,hx,hl,hlen,hf⟩:=DataW.trod_struct ht hd;simp only[bQ]at hx;obtain⟨rfl,rfl⟩:=hx;have hW:DataW.weights P t (.agg (xs.map (·.1)):DataW H)=DataW.weightsEach P (fs.toList.map (·.type)) (xs.map (·.1)):=by simp only[DataW.weights,ht]
   rw[hW]at hw;have:=Zg (cs:=cs) (m:=m) (λt u hu kH cs d ps hd hw=>PR hok n t u hu kH cs d ps hd hw) fs.toList 0 u h.1 xs (by simpa using hlen) (λi f hi=>hf i f (by simpa using hi)) hw;rwa[qF,S9 l9]at this
  .cases h
end
def b2n(P:Program)(t:TypeId):Bool:=match P.underlying t with|some (.struct _)=>true|_=>false
variable {P:Program}
theorem b8l{W:World}{base n:Nat}{t:TypeId}{u:Ty}{v:Value}(h:a3v P n t u=true)(hv:Value.okWide P W .any base t v):We (b2n P t) v v.cells.toList:=by
 cases n with
 |zero=>cases h|succ n=>
  unfold a3v at h;unfold b2n;split at h
  .rename_i ht;simp only[Value.okWide,ht,Cell.okWide,Cell.ok]at hv ⊢;cases v<;>first|rfl|exact absurd hv A7
  .rename_i ht;simp only[Value.okWide,ht,Cell.okWide,Cell.ok]at hv ⊢;cases v<;>first|rfl|exact absurd hv A7
  .rename_i ht;simp only[Value.okWide,ht,Cell.okWide,Cell.ok]at hv ⊢;cases v<;>first|rfl|exact absurd hv A7
  .rename_i ht;simp only[Value.okWide,ht,Cell.okWide,Cell.ok]at hv ⊢;cases v<;>first|rfl|exact absurd hv A7
  .rename_i ht;simp only[Value.okWide,ht]at hv ⊢;obtain⟨cs,rfl,_,_⟩:=hv;exact⟨cs,rfl,rfl⟩
  .cases h
def qU(P:Program)(n:Nat):List TypeId->List MG->Bool
 |[],[]=>true|t::ts,(g,.dat u)::ms=>a3v P n t u&&(b2n P t==g)&&P.readableRec t&&Nat.blt t P.types.size&&qU P n ts ms|_,_=>false
def wfM:(m:M)->m.den->Prop
 | .dat t,x=>wf t x|_,_=>True
def a6g:(ms:List MG)->bC ms->Prop
 |[],_=>True|[m],x=>wfM m.2 x|m::m' ::r,x=>wfM m.2 x.1/\a6g (m' ::r) x.2
section
variable {H:Type} {enc:TypeId×Value->H} {P:Program} {W:World} {base n:Nat} {ok:Nat->Ty->Prop}
theorem a1y(hok:∀b t,b<W.heap.size->ok b t):∀{ts:List TypeId} {ms:List MG} {vs:d5Z} {ds:List (DataW H)} {ps:List MemPlace},qU P n ts ms=true->DataW.TrodAll enc P W 0 (λ_=>true) true ts vs ds ps->
  (∀(j:Nat) t v,ts[j]? =some t->vs[j]? =some v->Value.okWide P W .any base t v)->(∀b∈DataW.weightsEach P ts ds,b<=reachBytes)->∃x,xA W.heap ok ms x vs []/\a6g ms x
 |[],[],vs,ds,ps,h,hd,hv,hw=>by obtain⟨rfl,rfl,rfl⟩:=trodAll_nil hd;exact⟨(),⟨rfl,rfl⟩,trivial⟩
 |[],_::_,_,_,_,h,_,_,_=>by simp[qU]at h|_::_,[],_,_,_,h,_,_,_=>by simp[qU]at h|t::ts,(g,m)::ms,vs,ds,ps,h,hd,hv,hw=>by
  cases m<;>simp only[qU,A8]at h<;>try (cases h;done)
  rename_i u;obtain⟨⟨⟨⟨h1,h2⟩,_⟩,_⟩,h3⟩:=h;have h2:=eq_of_beq h2;subst h2;obtain⟨v,vs',d,ds',p,q,rfl,rfl,rfl,⟨kH,h4⟩,h5⟩:=trodAll_cons hd;have hw' :∀b∈d.weights P t++DataW.weightsEach P ts ds',b<=reachBytes:=by simpa only[DataW.weightsEach]using hw
  obtain⟨x,hx,wx⟩:=PR (ok:=ok) hok n t u h1 _ _ _ _ h4 λb hb=>hw' b (ah _ hb);have hg:=b8l h1 (hv 0 t v rfl rfl);obtain⟨y,hy,wy⟩:=a1y hok h3 h5 (λj t v hj hk=>hv (j+1) t v (by simpa using hj) (by simpa using hk)) λb hb=>hw' b (iP _ hb);cases ms with
  |nil=>
   cases ts with
   |cons _ _=>simp[qU]at h3|nil=>obtain⟨rfl,rfl,rfl⟩:=trodAll_nil h5;exact⟨x,⟨v,_,rfl,hg,hx,rfl⟩,wx⟩
  |cons m' ms=>exact⟨(x,y),⟨v,_,vs',[],[],rfl,rfl,hg,⟨hx,rfl⟩,hy⟩,wx,wy⟩
theorem Sj(hl:laidOutB P=true){W' :World}(hb:Below W.heap.size W W'){sp:Nat->Bool} :∀{ts:List TypeId} {ms:List MG} {vs:d5Z} {ds:List (DataW H)} {ps:List MemPlace},qU P n ts ms=true->
  DataW.TrodAll enc P W 0 (λ_=>true) true ts vs ds ps->(∀x∈ps,x.block<W.heap.size)->(∀x∈ps,sp x.block=true)->DataW.TrodAll enc P W' 0 sp true ts vs ds ps
 |[],ms,vs,ds,ps,h,hd,_,_=>by obtain⟨rfl,rfl,rfl⟩:=trodAll_nil hd;rfl
 |_::_,[],_,_,_,h,_,_,_=>by simp[qU]at h|t::ts,(g,m)::ms,vs,ds,ps,h,hd,hlt,hsp=>by
  cases m<;>simp only[qU,A8]at h<;>try (cases h;done)
  obtain⟨⟨⟨⟨h1,h2⟩,h6⟩,h7⟩,h3⟩:=h;rw[iI]at h7;obtain⟨v,vs',d,ds',p,q,rfl,rfl,rfl,h4,h5⟩:=trodAll_cons hd;exact⟨p,q,WideElems.Trod_stays hl h6 h7 h4 (λx hx=>hb.same (hlt x (ah _ hx))) (λx hx=>hsp x (ah _ hx)),
   Sj hl hb h3 h5 (λx hx=>hlt x (iP _ hx)) (λx hx=>hsp x (iP _ hx)),rfl⟩
end
theorem a4k{W:World}{name:String}{g:Nat}{k:IntKind}{zs:d5Y}(hg:P.globalNamed name=some g)(hz:0<zs.length)(h:Lib.TabIs P W name k zs):
  TF ⟨W.heap,λb _=>b<W.heap.size,nom⟩ g (.int k) zs:=by
 have hc:∀i z,zs[i]? =some z->W.cell? ⟨g,i,none⟩=some (.int k z):=λi z hi=>by have:=World.var?_cell hg h i;rw[this];simp[hi]
 have key:∀i z,zs[i]? =some z->g<W.heap.size/\fD W.heap g i 1=some [.int k z]:=λi z hi=>by
  have h1:=hc i z hi;have h2:W.cells? 0 ⟨g,i,none⟩ 1=some [.int k z]:=by simp[World.cells?,dZ,Addr.add,h1]
  obtain⟨_,s2,s3⟩:=YN l9 h2;exact⟨s2,s3⟩
 refine⟨(key 0 zs[0] (fH hz)).1,?_,λi z hi=>⟨_,?_,rfl⟩⟩
 .unfold Lib.TabIs World.var? at h;simp only[hg,kY]at h;split at h
  .rename_i cs T f hb;simp only[F9]at h;subst h;exact⟨_,T,f,hb,by simp[Ty.size]⟩
  .cases h
 .have:=(key i z hi).2;simpa[Ty.size]using this
theorem a5Y{w:World}{ok:Nat->Ty->Prop}{m:Mp}{name:String}{g:Nat}{k:IntKind}{zs:d5Y}(hg:P.globalNamed name=some g)(h:TF ⟨w.heap,ok,m⟩ g (.int k) zs):Lib.TabIs P w name k zs:=by
 obtain⟨_,⟨c,T,f,hb,hl⟩,hz⟩:=h;unfold Lib.TabIs World.var?;simp only[hg,kY,hb,F9];simp only[Ty.size,ji]at hl;apply Array.ext
 .simp[hl]
 .intro i h1 h2;have hi:i<zs.length:=by simpa using h2
  obtain⟨es,he,hr⟩:=hz i zs[i] (fH hi);rw[lJ hb _ _ (by simp[Ty.size];omega)]at he;simp only[Ty.size,ji,F9]at he;have h3:es=[.int k zs[i]]:=hr;rw[h3]at he;have h4:=congrArg (λl=>l[0]?) he;simp only[bD (show 0<1 by omega),P5,aB,eX]at h4;rw[aU,U2 h1]at h4;simpa using h4
theorem b8g{h:Array Obj}{all:d5Z} :∀{ms:List MG} {ts:List TypeId} {vs:d5Z},qU P n ts ms=true->b0h h all ms vs:=by
 intro ms;induction ms with
 |nil=>intro ts vs _;trivial|cons md ms ih=>
  intro ts vs hp;obtain⟨g,md⟩:=md;cases ts with
  |nil=>cases hp|cons t ts=>
   cases md<;>simp only[qU,A8]at hp<;>try (cases hp;done)
   cases vs with
   |nil=>trivial|cons v vs=>exact ih hp.2
theorem a2p{H:Type}{enc:TypeId×Value->H}{gl:List (Nat×(t:Ty)×List t.den)}{f:FuncId}{fn:Func}{s:ChangeSpec}{ms:List MG}{F:bC ms->d6b}{tb:TypeId}
  (hlaid:laidOutB P=true) (hF:dB P gl f ⟨ms,[(false,.dat .bool)],[],F⟩) (law:∀x,a6g ms x->F x=some true) (hpars:qU P 30 fn.params.toList ms=true) (hres:fn.resultTypes=#[tb]) (hbool:P.underlying tb=some .bool)
  (hvars:s.vars=[]) (hsfn:∀ds:List (DataW H),ds.length=ms.length->s.fn H ds= { results:=[.lit (.bool true)],args:=ds })
  {W:World} {base:Nat} {args:Array Value} {ds gs:List (DataW H)} {before:List MemPlace} {apart fresh handsOn again:Bool}
  (hgl:∀g u,dW gl g=some u->TF ⟨W.heap,λb _=>b<W.heap.size,nom⟩ g u.1 u.2)
  (hval:∀(j:Nat) t v,fn.params[j]? =some t->args[j]? =some v->Value.okWide P W .any base t v)
  (hW:DataW.Whole enc P fn.params.toList s.vars apart W args.toList ds gs before)
  (hz:(DataW.weightsEach P (fn.params.toList++s.plain.varTypes P) (ds++gs)).all (·<=reachBytes)=true):
  Calls P f args W λe W' =>∃v,e= .returned v/\s.post enc P fn apart fresh handsOn again W args v W' :=by
 have hW' :=hW;obtain⟨p,q,hA,hV,rfl,hfz,hnd⟩:=hW;rw[hvars]at hV;obtain⟨rfl,rfl⟩:=trodVars_none hV;have hlen:ds.length=ms.length:=by
  have:∀{ts:List TypeId} {ms:List MG} {vs:d5Z} {ds:List (DataW H)} {ps:List MemPlace},qU P 30 ts ms=true->DataW.TrodAll enc P W 0 (λ_=>true) true ts vs ds ps->ds.length=ms.length:=by
   intro ts;induction ts with
   |nil=>
    intro ms vs ds ps h hd;obtain⟨rfl,rfl,rfl⟩:=trodAll_nil hd;cases ms with
    |nil=>rfl|cons _ _=>simp[qU]at h
   |cons t ts ih=>
    intro ms vs ds ps h hd;obtain⟨v,vs',d,ds',p,q,rfl,rfl,rfl,h4,h5⟩:=trodAll_cons hd;cases ms with
    |nil=>simp[qU]at h|cons m ms=>
     obtain⟨g,m⟩:=m;cases m<;>simp only[qU,A8]at h<;>try (cases h;done)
     simp[ih h.2 h5]
  exact this hpars hA
 have hvt:s.plain.varTypes P=[]:=by simp[ChangeSpec.plain,DataSpec.varTypes,hvars]
 rw[hvt]at hz;simp only[G5,kV,decide_eq_true_eq]at hz;obtain⟨x,hx,wx⟩:=a1y (ok:=λb _=>b<W.heap.size) (λb t hb=>hb) hpars hA (λj t v hj hv=>hval j t v (by simpa using hj) (by simpa using hv)) hz;have hc:=hF W (λb _=>b<W.heap.size) [] args.toList x true (λb t hb=>hb) fJ (λb hb=>by cases hb) hgl hx (b8g hpars) (law x wx);simp only[Array.toArray_toList]at hc;refine hc.mono λe W' ⟨v,ok',O',rs,os,B,he,hfr,_,_,_,_,hrv,hos,hrel⟩=>?_;subst he;have hnoos:os=[]:=by
  have:∀{ms:List MG} {vs:d5Z} {ts:List TypeId},qU P 30 ts ms=true->Aw W'.heap ms vs os B->os=[]:=by
   intro ms;induction ms with
   |nil=>
    intro vs ts h ho;cases vs with
    |nil=>exact ho.1|cons _ _=>exact absurd ho (by simp[Aw])
   |cons m ms ih=>
    intro vs ts h ho;obtain⟨g,m⟩:=m;cases ts with
    |nil=>simp[qU]at h|cons t ts=>
     cases m<;>simp only[qU,A8]at h<;>try (cases h;done)
     cases vs with
     |nil=>exact absurd ho (by simp[Aw])|cons v vs=>exact ih h.2 ho
  exact this hpars hos
 subst hnoos;obtain⟨v1,cs,hvs,hg,⟨hrep,_⟩⟩:=hrel;simp only[G5]at hvs;subst hvs;have hv1:v1= .bool true:=by have h1:cs=[v1]:=hg;have h2:cs=[.bool true]:=hrep;rw[h1]at h2;exact(X8 h2).1
 subst hv1;have hv:v= .bool true:=hrv.2;subst hv;have hbel:Below W.heap.size W W' :=⟨hfr.os,hfr.tape,hfr.output,hfr.size,λk hk=>hfr.block k hk A7⟩;simp only[G5]at hW' hfz;have hlt:∀x∈p,x.block<W.heap.size:=λx hx=>by simpa using hW'.lt x hx
 have hres1:∀(b:Nat) (sp:Nat->Bool) (hd:Bool),DataW.TrodAll enc P W' b sp hd fn.resultTypes.toList ((Value.bool true).resultList fn.resultTypes.size) (s.fn H (ds++[])).results []:=λb sp hd=>by rw[G5,hsfn ds hlen,hres];exact trodAll_cons_mk (shut_bool hbool _) trodAll_mk0
 have hargs1:∀sp:Nat->Bool,(∀x∈p,sp x.block=true)->DataW.TrodAll enc P W' 0 sp true fn.params.toList args.toList (s.fn H (ds++[])).args p:=λsp hs=>by rw[G5,hsfn ds hlen];exact Sj hlaid hbel hpars hA hlt hs
 have hvars1:∀sp:Nat->Bool,DataW.TrodVars enc P W' sp s.vars (s.fn H (ds++[])).vars []:=λsp=>by rw[G5,hsfn ds hlen,hvars];rfl
 refine⟨_,rfl,ds,[],p,[],p,[],hW',hres1 _ _ _,hargs1 _ (λx hx=>by simpa using hlt x hx),hvars1 _,World.keptBut_mono (λx hx=>⟨hx,.inr (.inl hx)⟩) (hbel.frame (·∈p)),λ_=>⟨ok_one hres rfl (okWide_bool_mk hbool _),_,_,([]++p)++[],⟨[]++p,[],trodAll_append (hargs1 _ (λ_ _=>rfl)) (hres1 _ _ _),hvars1 _,rfl,?_,?_⟩,?_⟩⟩
 .intro b off hp;simp only[H8,G5]at hp;rw[hbel.frozen (hlt _ hp)];exact hfz b off hp
 .intro ha;obtain⟨_,_,_,_,_,_,hn⟩:=hW';simpa using hn ha
 .intro x hx _;simpa using hx
end Go.GP
namespace Go.GP
open Go.RowKit
theorem a6n(w:World)(k:Nat)(os:Array Obj):Below w.heap.size w (Sort.grow (w.drewN k) os):=
 ⟨rfl,rfl,rfl,by simp[Sort.grow,World.drewN],λi hi=>by show((w.drewN k).heap++os)[i]? =_;rw[jH (by exact hi)];rfl⟩
theorem Zv{P:Program}{w w' :World}(hb:Below w.heap.size w w'){ok:Nat->Ty->Prop}(hlt:∀b t,ok b t->b<w.heap.size){ps:List MG}{vals:d5Z}(hps:Aw w'.heap ps vals [] []){t:Ty}{x:t.den}{v:Value}(hr:mJ w'.heap ok t x [v]):
  ∃v' ok' O' rs os B,(Ending.returned v)= .returned v' /\Frame' w w' []/\(∀b t,ok b t->ok' b t)/\(∀b t,ok' b t->b<w'.heap.size/\(ok b t\/w.heap.size<=b\/b∈([]:d6a)))/\
   (O' ++B).Nodup/\(∀b∈O' ++B,(∀t,¬ok' b t)/\b<w'.heap.size/\(w.heap.size<=b\/b∈([]:d6a)))/\
   a6i 1 v' rs/\Aw w'.heap ps vals os B/\xA w'.heap ok' ([(false,.dat t)]++[]) x (rs++os) O' :=
 ⟨v,ok,[],[v],[],[],rfl,⟨hb.os,hb.tape,hb.output,hb.size,λb h _=>hb.block b h⟩,λb t h=>h,λb t h=>⟨pU (hlt b t h) hb.size,.inl h⟩,A7,A7,⟨rfl,rfl⟩,hps,⟨v,[v],rfl,rfl,hr,rfl⟩⟩
def TG(n:Int):Option d5X:=if -9223372036854775808<=n/\n<=9223372036854775807 then some (Lib.itoa n)else none
def EF(s:d5X)(c:Int):Option d5X:=if 0<=c/\c<=9223372036854775807/\s.length*c.toNat<=140737488355328 then some (Lib.repeatL s c.toNat)else none
variable {P:Program}
theorem a6T{f g:Nat}{gl:List (Nat×(t:Ty)×List t.den)}
  (hC:∀(n:Int) (h0:-9223372036854775808<=n) (h1:n<=9223372036854775807) (w:World) (htab:Lib.TabIs P w "internal/strconv.uint64pow10" .u64 Lib.pow10Tab),
   Calls P f #[.int .i64 n] w λe w' =>e= .returned (.string ⟨(Lib.itoa n).toArray⟩)/\∃k os,w' =Sort.grow (w.drewN k) os)
  (hg:P.globalNamed "internal/strconv.uint64pow10"=some g) (hgl:dW gl g=some ⟨.int .u64,Lib.pow10Tab⟩):
  dB P gl f ⟨[(false,.dat (.int .i64))],[(false,.dat .str)],[],λx=>TG x⟩:=by
 intro w ok O vals x r hlt _ _ hgls hrel hdv hfn;obtain⟨v,cs,rfl,h1,h2,rfl⟩:=hrel;have h1:cs=[v]:=h1;subst h1;have h2:[v]=[.int .i64 x]:=h2;obtain rfl:=(X8 h2).1;simp only[TG]at hfn;split at hfn
 .rename_i hx;cases hfn;refine(hC x hx.1 hx.2 w (a5Y hg (hgls _ _ hgl))).mono λe w' ⟨he,k,os,hw⟩=>?_;subst he;subst hw;exact Zv (P:=P) (t:=.str) (x:=Lib.itoa x) (ps:=[(false,.dat (.int .i64))]) (vals:=[.int .i64 x]) (a6n w k os) hlt ⟨rfl,rfl⟩ rfl
 .cases hfn
theorem a2Y{f:Nat}{gl:List (Nat×(t:Ty)×List t.den)}
  (hC:∀(s:ByteArray) (c:Nat) (w:World) (hc:c<=9223372036854775807) (hlen:s.size*c<=140737488355328),
   Calls P f #[.string s,.int .i64 c] w λe w' =>e= .returned (.string ⟨(Lib.repeatL s.data.toList c).toArray⟩)/\Below w.heap.size w w'):
  dB P gl f ⟨[(false,.dat .str),(false,.dat (.int .i64))],[(false,.dat .str)],[],λx=>EF x.1 x.2⟩:=by
 intro w ok O vals x r hlt _ _ _ hrel hdv hfn;obtain⟨v,cs,vs',O1,O2,rfl,rfl,h1,⟨h2,rfl⟩,v2,cs2,rfl,h3,h4,rfl⟩:=hrel;have h1:cs=[v]:=h1;subst h1;have h3:cs2=[v2]:=h3;subst h3;have h2:[v]=[.string ⟨x.1.toArray⟩]:=h2;have h4:[v2]=[.int .i64 x.2]:=h4;obtain rfl:=(X8 h2).1;obtain rfl:=(X8 h4).1;simp only[EF]at hfn;split at hfn
 .rename_i hx;cases hfn;obtain⟨a,c⟩:=x;simp only at hx ⊢;obtain⟨n,rfl⟩:∃n:Nat,c=n:=⟨c.toNat,(az hx.1).symm⟩;have hh:=hC ⟨a.toArray⟩ n w (by have:=hx.2.1;omega) (by have h5:=hx.2.2;rw[U3]at h5;simpa[ByteArray.size]using h5);refine Calls.mono hh λe w' ⟨he,hb⟩=>?_;subst he;exact Zv (P:=P) (t:=.str) (x:=Lib.repeatL a (n:Int).toNat) (ps:=[(false,.dat .str),(false,.dat (.int .i64))]) (vals:=[.string ⟨a.toArray⟩,.int .i64 n]) hb hlt ⟨rfl,rfl⟩ (by simp[mJ])
 .cases hfn
end Go.GP
namespace Go.GP
def b9l(Q:Nat->((t:Ty)×List t.den)->Prop):List (Nat×(t:Ty)×List t.den)->Prop
 |[]=>True|(g,u)::r=>Q g u/\b9l Q r
theorem Yt{Q:Nat->((t:Ty)×List t.den)->Prop} :∀{l:List (Nat×(t:Ty)×List t.den)},b9l Q l->∀g u,dW l g=some u->Q g u
 |[],_,g,u,h=>by simp[dW]at h|(k,v)::r,hc,g,u,h=>by
  unfold dW at h;cases hb:Nat.beq k g
  .simp only[hb,cond_false]at h;exact Yt hc.2 g u h
  .simp only[hb,cond_true,F9]at h;have:=iD hb;subst this;subst h;exact hc.1
end Go.GP
namespace Go.GP
open Go.RowKit Go.Sort
def a7R(x:Int):d5Y->d5Y
 |[]=>[x]|y::l=>bif J6 x y then x::y::l else y::a7R x l
def LG:d5Y->d5Y
 |[]=>[]|x::l=>a7R x (LG l)
def ddp(p:Int):d5Y->d5Y
 |[]=>[]|y::l=>bif x8 y p then ddp p l else y::ddp y l
def dd:d5Y->d5Y
 |[]=>[]|x::l=>x::ddp x l
theorem WA(x:Int):∀l,(a7R x l).Perm (x::l)
 |[]=> .refl _|y::l=>by
  unfold a7R;cases J6 x y
  .exact(List.Perm.cons y (WA x l)).trans (List.Perm.swap x y l)
  .exact .refl _
theorem IR:∀l,(LG l).Perm l
 |[]=> .refl _|x::l=>(WA x (LG l)).trans ((IR l).cons x)
theorem XH(x:Int):∀{l:d5Y},l.Pairwise (·<=·)->(a7R x l).Pairwise (·<=·)
 |[],_=>by simp[a7R]|y::l,h=>by
  have h' :=X7.1 h;unfold a7R;cases hxy:J6 x y
  .have hxy' :y<x:=by simpa[J6]using hxy
   refine X7.2 ⟨λz hz=>?_,XH x h'.2⟩;rcases D5.1 ((WA x l).mem_iff.1 hz)with rfl|hz
   .omega
   .exact h'.1 z hz
  .have hxy' :x<=y:=by simpa[J6]using hxy
   refine X7.2 ⟨λz hz=>?_,h⟩;rcases D5.1 hz with rfl|hz
   .exact hxy'
   .exact Int.le_trans hxy' (h'.1 z hz)
theorem Hl:∀l,(LG l).Pairwise (·<=·)
 |[]=>List.Pairwise.nil|x::l=>XH x (Hl l)
theorem XV(l:d5Y):(l.mergeSort λx y=>decide (x<=y))=LG l:=by refine List.Perm.eq_of_pairwise (le:=(·<=·)) (λa b _ _ h1 h2=>Int.le_antisymm h1 h2) ?_ (Hl l) ((List.mergeSort_perm l _).trans (IR l).symm);have:=List.pairwise_mergeSort (le:=λx y:Int=>decide (x<=y)) (λa b c h1 h2=>by simp at*;omega) (λa b=>by simp;omega) l;simpa using this
theorem YU(y:Int):∀(l:d5Y) (p:Int),ddp p (l++[y])=ddp p l++(bif x8 y ((p::l).getLast A7)then[]else[y])
 |[],p=>rfl|z::l,p=>by
  have hg:(p::z::l).getLast A7=(z::l).getLast A7:=List.getLast_cons _;rw[hg];simp only[ae,ddp];by_cases h:z=p
  .subst h;simp only[x8,decide_true,cond_true];exact YU y l z
  .have h' :x8 z p=false:=by simp[x8,h]
   rw[h'];simp only[cond_false];rw[YU y l z];rfl
theorem Vx(l:d5Y)(y:Int)(m:Nat)(hm:m<=l.length):Lib.compactUpTo (l++[y]).toArray m=Lib.compactUpTo l.toArray m:=by
 unfold Lib.compactUpTo;have e:∀j,j<m->(l++[y]).toArray[j]! =l.toArray[j]!:=λj hj=>by rw[getElem!_pos _ j X5,getElem!_pos _ j X5];simp[oP (show j<l.length by omega)]
 have hf:(List.range m).filter (Lib.keeps (l++[y]).toArray)=(List.range m).filter (Lib.keeps l.toArray):=by apply List.filter_congr;intro j hj;have hj' :=bT.1 hj;unfold Lib.keeps;rw[e j hj',e (j -1) l9]
 rw[hf];apply dU;intro j hj;exact e j (bT.1 (gV.1 hj).1)
theorem a1Y(x y:Int)(l:d5Y):Lib.compact (x::l++[y])=Lib.compact (x::l)++(bif x8 y ((x::l).getLast A7)then[]else[y]):=by
 have hlen:(x::l++[y]).length=(x::l).length+1:=A7;have h1:Lib.compact (x::l++[y])=Lib.compactUpTo (x::l++[y]).toArray (x::l).length++(if Lib.keeps (x::l++[y]).toArray (x::l).length=true then[(x::l++[y]).toArray[(x::l).length]!]else[]):=by
  unfold Lib.compact;rw[hlen];unfold Lib.compactUpTo;rw[dZ,vW,gU];congr 1;by_cases hk:Lib.keeps (x::l++[y]).toArray (x::l).length=true
  .simp only[dF,hk,if_true,List.filter_nil,je,uo]
  .simp only[dF,hk,List.filter_nil,uo];simp
 rw[h1,Vx (x::l) y _ (F5 _)];have e1:(x::l++[y]).toArray[(x::l).length]! =y:=by rw[getElem!_pos _ _ A7];simp
 have e2:(x::l++[y]).toArray[(x::l).length -1]! =(x::l).getLast A7:=by rw[getElem!_pos _ _ X5];rw[List.getLast_eq_getElem];simp only[List.getElem_toArray];rw[oP]
 have hk:Lib.keeps (x::l++[y]).toArray (x::l).length=decide (y≠(x::l).getLast A7):=by unfold Lib.keeps;rw[e1,e2];simp
 rw[hk,e1];unfold Lib.compact;by_cases h:y=(x::l).getLast A7<;>simp[x8,h]
theorem a5T{motive:d5Y->Prop}(h0:motive [])(h1:∀l y,motive l->motive (l++[y])):∀n (l:d5Y),l.length=n->motive l
 |0,l,h=>by rw[O9.1 h];exact h0|n+1,l,h=>by
  have hne:l≠[]:=by intro e;subst e;cases h
  rw[←List.dropLast_concat_getLast hne];exact h1 _ _ (a5T h0 h1 n _ X5)
theorem a6r(l:d5Y):Lib.compact l=dd l:=by
 cases l with
 |nil=>rfl|cons x l=>
  show _=x::ddp x l;refine a5T (motive:=λl=>Lib.compact (x::l)=x::ddp x l) ?_ (λl y ih=>?_) l.length l rfl
  .simp[Lib.compact,Lib.compactUpTo,Lib.keeps,dZ,ddp]
  .have:=a1Y x y l;rw[ae]at this;rw[this,ih,YU];rfl
def IE(xs:d5Y):Option d5Y:=bif Nat.blt xs.length 4611686018427387904 then some (LG xs)else none
def tZ(xs:d5Y):Option d5Y:=bif Nat.blt xs.length 4611686018427387904 then some (dd xs)else none
def AO(s t:d5X):d6b:=match t with
 |[c]=>some (decide (0<=Lib.indexByte s c))|_=>none
def vI(a b:Int):Option (Int×Int):=if 0<=a/\a<18446744073709551616/\0<=b/\b<18446744073709551616 then some (a*b / 18446744073709551616,a*b % 18446744073709551616)else none
variable {w:World}{ok:Nat->Ty->Prop}
theorem Ue{m:Mp}{xs:d5Y}{blk off len cap sz:Nat}(h:arrOk ⟨w.heap,ok,m⟩ (.int .i64) xs (.arr blk off len cap sz)):Holds (Value.int .i64) w blk off xs.toArray:=by
 obtain⟨_,rfl,rfl,hc,c,T,f,hb,hz,hs,hx⟩:=h;have hz:f=(0,0):=hz.elim id (λh=>nomatch h.1);subst hz;intro j hj;have hj' :j<xs.length:=by simpa using hj
 obtain⟨es,he,hr⟩:=hx j xs[j] (fH hj');have hr:es=[.int .i64 xs[j]]:=hr;subst hr;have hb' :w.heap[blk]? =some (.cells c T (0,0)):=hb;have he' :fD w.heap blk (off+j*1) 1=some [.int .i64 xs[j]]:=he;rw[ji]at he';refine⟨?_,?_⟩
 .have:=xI (w:=w) he' (j:=0) (v:=.int .i64 xs[j]) rfl;rw[aB]at this;rw[this,getElem!_pos xs.toArray j hj];simp
 .simp[World.frozen?,hb']
variable {blk:Nat}{off:Nat}{n:Nat}{c:Array Value}{T:TypeId}
theorem b1o{fr:Nat×Nat}(hb:w.heap[blk]? =some (.cells c T fr))(d:Array Int):
  (putRow (Value.int .i64) (Sort.ahead w n) blk off d).heap[blk]? =some (.cells (putCells (Value.int .i64) off d c) T fr):=by
 show(w.heap.modify blk (onCells (putCells (Value.int .i64) off d)))[blk]? =_;rw[rO,if_pos rfl,hb];rfl
theorem a7p{blk off n b:Nat}(h:b≠blk)(d:Array Int):(putRow (Value.int .i64) (Sort.ahead w n) blk off d).heap[b]? =w.heap[b]?:=by show(w.heap.modify blk (onCells (putCells (Value.int .i64) off d)))[b]? =_;rw[rO,if_neg (λe=>h e.symm)]
theorem a8M{h:Array Obj}{m:Mp}{blk off cap:Nat}{d:Array Int}{ys:d5Y}(hb:h[blk]? =some (.cells (putCells (Value.int .i64) off d c) T (0,0)))
  (hfit:off+cap<=c.size) (hd:d.size<=cap) (hl:ys.length<=d.size) (hy:∀(i:Nat) (y:Int),ys[i]? =some y->d[i]? =some y):arrOk ⟨h,ok,m⟩ (.int .i64) ys (.arr blk off ys.length cap 1):=by
 refine⟨rfl,rfl,rfl,l9,_,T,_,hb,.inl rfl,by simp[putCells,Ty.size];omega,λi y hi=>⟨[.int .i64 y],?_,rfl⟩⟩;have hi' :=(X0.1 hi).1;have hdi:=hy i y hi;obtain⟨hdi',hdy⟩:=au.1 hdi;show fD h blk (off+i*1) 1=_;rw[ji,lJ hb _ _ (by simp[putCells];omega)];have hk:off+i<c.size:=l9;have:(putCells (Value.int .i64) off d c).toList[off+i]? =some (.int .i64 y):=by unfold putCells;rw[aU,Array.getElem?_mapIdx,U2 hk];simp only[aN];rw[if_pos l9,Nat.add_sub_cancel_left,getElem!_pos d i hdi',hdy]
 obtain⟨h1,h2⟩:=X0.1 this;rw[fQ h1,h2];rfl
theorem a9R{P:Program}{d:Array Int}{os:Array Obj}(hlt:∀b t,ok b t->b<w.heap.size)(hfree:(∀t,¬ok blk t)/\blk<w.heap.size)
  (hb:w.heap[blk]? =some (.cells c T (0,0))) {w' :World} (hw:w' =Sort.grow (putRow (Value.int .i64) (Sort.ahead w n) blk off d) os):
  w'.heap[blk]? =some (.cells (putCells (Value.int .i64) off d c) T (0,0))/\Frame' w w' [blk]/\(∀b t,ok b t->b<w'.heap.size/\(ok b t\/w.heap.size<=b\/b∈[blk]))/\blk<w'.heap.size:=by
 subst hw;have hsz:(putRow (Value.int .i64) (Sort.ahead w n) blk off d).heap.size=w.heap.size:=by simp[Sort.ahead]
 have hge:w.heap.size<=(Sort.grow (putRow (Value.int .i64) (Sort.ahead w n) blk off d) os).heap.size:=by simp[Sort.grow,Sort.ahead]
 have hold:∀b,b<w.heap.size->(Sort.grow (putRow (Value.int .i64) (Sort.ahead w n) blk off d) os).heap[b]? =(putRow (Value.int .i64) (Sort.ahead w n) blk off d).heap[b]?:=λb hb=>by show((putRow (Value.int .i64) (Sort.ahead w n) blk off d).heap++os)[b]? =_;rw[jH (by rw[hsz];exact hb)]
 refine⟨by rw[hold blk hfree.2];exact b1o hb d,⟨rfl,rfl,rfl,hge,λb h1 h2=>?_⟩,λb t h=>⟨pU (hlt b t h) hge,.inl h⟩,pU hfree.2 hge⟩;rw[hold b h1];exact a7p (λe=>h2 (by simp[e])) d
variable {P:Program}{f:Nat}
theorem a8l{gl:List (Nat×(t:Ty)×List t.den)}
  (hC:∀(blk off cap:Nat) (zs:d5Y) (w:World) (hH:Holds (Value.int .i64) w blk off zs.toArray) (hblk:blk<w.heap.size) (hsz:zs.length<4611686018427387904),
   Calls P f #[.slice (some ⟨blk,off,none⟩) zs.length cap] w λe w' =>e= .returned (.tuple #[])/\∃n os,w' =Sort.grow (putRow (Value.int .i64) (Sort.ahead w n) blk off (zs.mergeSort λx y=>decide (x<=y)).toArray) os)
  (hN:∀(p:Option Addr) (cap:Nat) (w:World),Calls P f #[.slice p 0 cap] w λe w' =>e= .returned (.tuple #[])/\w' =w):
  dB P gl f ⟨[(false,.ownb (.int .i64))],[],[(false,.own (.int .i64))],λx=>IE x⟩:=by
 intro w ok O vals x r hlt hnd hO _ hrel hdv hfn;obtain⟨v,cs,rfl,h1,l,v',hcs,hv,ha,rfl⟩:=hrel;have h1:cs=[v]:=h1;rw[h1]at hcs;simp only[I4,and_true]at hcs;subst hcs;simp only[IE]at hfn;cases hx0:Nat.blt x.length 4611686018427387904<;>rw[hx0]at hfn
 .cases hfn
 rw[iI]at hx0;have hx:=hx0;rw[←XV]at hfn;cases hfn;cases l with
 |st b=>cases ha|mp b=>cases ha.1|nil=>
  have ha:x=[]:=ha.1;subst ha;have hv:v= .slice none 0 0:=hv;subst hv;refine(hN none 0 w).mono λe w' ⟨he,hw⟩=>?_;subst he;subst hw;exact⟨_,ok,[],[],[.slice none 0 0],[],rfl,Frame'.refl _ _,λ_ _ h=>h,λb t h=>⟨hlt b t h,.inl h⟩,A7,A7,⟨rfl,rfl⟩,⟨[],rfl,rfl,rfl⟩,
   ⟨_,_,rfl,rfl,Bi.2 ⟨.nil,_,rfl,rfl,(by simp[arrOk,Ty.isEnt]),rfl⟩⟩⟩
 |arr blk off len cap sz=>
  have hH:=Ue ha;obtain⟨_,rfl,rfl,hc,c,T,f,hb,hz,hs,hx'⟩:=ha;have hz:f=(0,0):=hz.elim id (λh=>nomatch h.1);subst hz;have hv:v= .slice (some ⟨blk,off,none⟩) x.length cap:=hv;subst hv;have hfree:=hO blk (by simp[Loc.blks]);refine(hC blk off cap x w hH hfree.2 hx).mono λe w' ⟨he,n,os,hw⟩=>?_;subst he;obtain⟨g1,g2,g3,g4⟩:=a9R (P:=P) hlt hfree hb hw;have hlen:(x.mergeSort λx y=>decide (x<=y)).length=x.length:=List.length_mergeSort ..;have hfit:off+cap<=c.size:=by simpa[Ty.size]using hs
  have harr:=a8M (ok:=ok) (m:=nom) (cap:=cap) (ys:=x.mergeSort λx y=>decide (x<=y)) g1 hfit (by simp[hlen];exact hc) A7 (λi y hi=>by simpa using hi);rw[hlen]at harr;refine⟨_,ok,[blk],[],[.slice (some ⟨blk,off,none⟩) x.length cap],[],rfl,g2,λ_ _ h=>h,g3,A7,λb hb=>?_,⟨rfl,rfl⟩,⟨[],rfl,rfl,rfl⟩,⟨_,_,rfl,rfl,Bi.2 ⟨.arr blk off x.length cap 1,_,rfl,rfl,harr,rfl⟩⟩⟩;have:b=blk:=by simpa using hb
  subst this;exact⟨hfree.1,g4,.inr (by simp[Loc.blks])⟩
theorem a6s(zs:d5Y):(Lib.compact zs).length<=zs.length:=by unfold Lib.compact Lib.compactUpTo;rw[X4];exact fV (aV _ _) A7
theorem a0f{gl:List (Nat×(t:Ty)×List t.den)}
  (hC:∀(blk off cap:Nat) (zs:d5Y) (w:World) (hH:Holds (Value.int .i64) w blk off zs.toArray) (hsz:zs.length<=9223372036854775807) (hcap:zs.length<=cap),
   Calls P f #[.slice (some ⟨blk,off,none⟩) zs.length cap] w λe w' =>e= .returned (.slice (some ⟨blk,off,none⟩) (Lib.compact zs).length cap)/\∃q,w' =putRow (Value.int .i64) (Sort.ahead w q) blk off (Lib.compact zs++List.replicate (zs.length -(Lib.compact zs).length) 0).toArray)
  (hN:∀(a:Option Addr) (cap:Nat) (w:World),Calls P f #[.slice a 0 cap] w λe w' =>e= .returned (.slice a 0 cap)/\w' =w):
  dB P gl f ⟨[(false,.own (.int .i64))],[(false,.own (.int .i64))],[],λx=>tZ x⟩:=by
 intro w ok O vals x r hlt hnd hO _ hrel hdv hfn;obtain⟨v,cs,rfl,h1,hrm⟩:=hrel;obtain⟨l,v',hcs,hv,ha,rfl⟩:=Bi.1 hrm;have h1:cs=[v]:=h1;rw[h1]at hcs;simp only[I4,and_true]at hcs;subst hcs;simp only[tZ]at hfn;cases hx0:Nat.blt x.length 4611686018427387904<;>rw[hx0]at hfn
 .cases hfn
 rw[iI]at hx0;have hx:=hx0;rw[←a6r]at hfn;cases hfn;cases l with
 |st b=>cases ha|mp b=>cases ha.1|nil=>
  have ha:x=[]:=ha.1;subst ha;have hv:v= .slice none 0 0:=hv;subst hv;refine(hN none 0 w).mono λe w' ⟨he,hw⟩=>?_;subst he;subst hw;exact⟨_,ok,[],[.slice none 0 0],[],[],rfl,Frame'.refl _ _,λ_ _ h=>h,λb t h=>⟨hlt b t h,.inl h⟩,A7,A7,⟨rfl,rfl⟩,⟨rfl,rfl⟩,
   ⟨_,_,rfl,rfl,Bi.2 ⟨.nil,_,rfl,rfl,⟨rfl,rfl⟩,rfl⟩⟩⟩
 |arr blk off len cap sz=>
  have hH:=Ue ha;obtain⟨_,rfl,rfl,hc,c,T,f,hb,hz,hs,hx'⟩:=ha;have hz:f=(0,0):=hz.elim id (λh=>nomatch h.1);subst hz;have hv:v= .slice (some ⟨blk,off,none⟩) x.length cap:=hv;subst hv;have hfree:=hO blk (by simp[Loc.blks]);refine(hC blk off cap x w hH l9 hc).mono λe w' ⟨he,n,hw⟩=>?_;subst he;have hle:=a6s x;obtain⟨g1,g2,g3,g4⟩:=a9R (P:=P) (n:=n) (off:=off) (d:=(Lib.compact x++List.replicate (x.length -(Lib.compact x).length) 0).toArray) (os:=#[]) (w' :=w') hlt hfree hb (by rw[grow_empty];exact hw);have hfit:off+cap<=c.size:=by simpa[Ty.size]using hs
  have harr:=a8M (ok:=ok) (m:=nom) (cap:=cap) (ys:=Lib.compact x) g1 hfit X5 A7 (λi y hi=>by have:=(X0.1 hi).1;rw[List.getElem?_toArray,O8 this];exact hi)
  refine⟨_,ok,[blk],[.slice (some ⟨blk,off,none⟩) (Lib.compact x).length cap],[],[],rfl,g2,λ_ _ h=>h,g3,A7,λb hb=>?_,⟨rfl,rfl⟩,⟨rfl,rfl⟩,⟨_,_,rfl,rfl,Bi.2 ⟨.arr blk off (Lib.compact x).length cap 1,_,rfl,rfl,harr,rfl⟩⟩⟩;have:b=blk:=by simpa using hb
  subst this;exact⟨hfree.1,g4,.inr (by simp[Loc.blks])⟩
theorem XQ{gl:List (Nat×(t:Ty)×List t.den)}
  (hC:∀(s:ByteArray) (c:UInt8) (w:World),Calls P f #[.string s,.string ⟨#[c]⟩] w λe w' =>e= .returned (.bool (decide (0<=Lib.indexByte s.data.toList c)))/\w' =w):
  dB P gl f ⟨[(false,.dat .str),(false,.dat .str)],[(false,.dat .bool)],[],λx=>AO x.1 x.2⟩:=by
 intro w ok O vals x r hlt _ _ _ hrel hdv hfn;obtain⟨v,cs,vs',O1,O2,rfl,rfl,h1,⟨h2,rfl⟩,v2,cs2,rfl,h3,h4,rfl⟩:=hrel;have h1:cs=[v]:=h1;subst h1;have h3:cs2=[v2]:=h3;subst h3;have h2:[v]=[.string ⟨x.1.toArray⟩]:=h2;have h4:[v2]=[.string ⟨x.2.toArray⟩]:=h4;obtain rfl:=(X8 h2).1;obtain rfl:=(X8 h4).1;simp only[AO]at hfn;split at hfn
 .rename_i c hx;cases hfn;rw[hx];refine(hC ⟨x.1.toArray⟩ c w).mono λe w' ⟨he,hw⟩=>?_;subst he;subst hw;exact Zv (P:=P) (t:=.bool) (x:=decide (0<=Lib.indexByte x.1 c)) (ps:=[(false,.dat .str),(false,.dat .str)]) (vals:=[_,_]) ⟨rfl,rfl,rfl,F5 _,λ_ _=>rfl⟩ hlt ⟨rfl,rfl⟩ rfl
 .cases hfn
theorem a4I{gl:List (Nat×(t:Ty)×List t.den)}
  (hC:∀(x y:Nat) (hx:x<18446744073709551616) (hy:y<18446744073709551616) (w:World),
   Calls P f #[.int .u64 x,.int .u64 y] w λe w' =>e= .returned (.tuple #[.int .u64 ((x*y / 18446744073709551616:Nat):Int),.int .u64 ((x*y % 18446744073709551616:Nat):Int)])/\w' =w):
  dB P gl f ⟨[(false,.dat (.int .u64)),(false,.dat (.int .u64))],[(false,.dat (.int .u64)),(false,.dat (.int .u64))],[],λx=>vI x.1 x.2⟩:=by
 intro w ok O vals x r hlt _ _ _ hrel hdv hfn;obtain⟨v,cs,vs',O1,O2,rfl,rfl,h1,⟨h2,rfl⟩,v2,cs2,rfl,h3,h4,rfl⟩:=hrel;have h1:cs=[v]:=h1;subst h1;have h3:cs2=[v2]:=h3;subst h3;have h2:[v]=[.int .u64 x.1]:=h2;have h4:[v2]=[.int .u64 x.2]:=h4;obtain rfl:=(X8 h2).1;obtain rfl:=(X8 h4).1;simp only[vI]at hfn;split at hfn
 .rename_i hx;cases hfn;obtain⟨a,b⟩:=x;obtain⟨p,rfl⟩:=Int.eq_ofNat_of_zero_le hx.1;obtain⟨q,rfl⟩:=Int.eq_ofNat_of_zero_le hx.2.2.1;refine(hC p q (by have:=hx.2.1;simp only at this;omega) (by have:=hx.2.2.2;simp only at this;omega) w).mono λe w' ⟨he,hw⟩=>?_;subst he;subst hw;refine⟨_,ok,[],[_,_],[],[],rfl,⟨rfl,rfl,rfl,F5 _,λ_ _ _=>rfl⟩,λ_ _ h=>h,λb t h=>⟨hlt b t h,.inl h⟩,A7,A7,⟨rfl,rfl⟩,⟨rfl,rfl⟩,?_⟩;exact⟨_,_,_,[],[],rfl,rfl,rfl,⟨rfl,rfl⟩,_,_,rfl,rfl,rfl,rfl⟩
 .cases hfn
theorem a4F{t f e:Nat}{n:String}{inf:TypeInfo}{m:Method}(ht:P.info? t=some inf)(hm:inf.methods.find? (·.name==n)=some m)(hp:m.path.toList=[])
  (hf:m.func=some (f,false)) (hu:P.underlying t=some (.pointer e)):IG P t n f (some e):=by
 intro v w ad h;subst h;have h1:∀d,(method (d+1) t (.pointer (some ad)) n).run P w=((loadVar e ad).run P w).andThen λu w' => .ok (f,u) w' :=by
  intro d;unfold method;have hti:(typeInfo t).run P w= .ok inf w:=by simp[typeInfo,ht]
  rw[H6,hti];simp only[Result.andThen,hm,hp,hf];rw[H6];simp only[follow,Y7,Result.andThen];have hr:∀wr,(receiverAt t (.val (.pointer (some ad))) false wr).run P w=(loadVar e ad).run P w:=by
   intro wr;unfold receiverAt;rw[H6,run_underlying hu];have hw:∀s,Builtin.ssaWrapNilChk_ #[t] t #[.pointer (some ad),strVal "",strVal s]=pure (.pointer (some ad)):=λs=>rfl;cases wr with
   |none=>simp[Result.andThen,Place.get,asAddr]|some s=>simp[Result.andThen,Place.get,asAddr,hw]
  rw[H6,hr];rfl
 exact h1 _
def a9t(P:Program)(t:Nat)(n:String)(f e:Nat):Bool:=match P.info? t with
 |some inf=>match inf.methods.find? (·.name==n)with
  |some m=>match m.path.toList,m.func,P.underlying t with
   |[],some (f',false),some (.pointer e')=>Nat.beq f' f&&Nat.beq e' e|_,_,_=>false
  |none=>false
 |none=>false
theorem SX{t f e:Nat}{n:String}(h:a9t P t n f e=true):IG P t n f (some e):=by
 unfold a9t at h;split at h
 .rename_i inf hi;split at h
  .rename_i m hm;split at h
   .rename_i h1 h2 h3;simp only[A8]at h;have e1:=iD h.1;have e2:=iD h.2;subst e1;subst e2;exact a4F hi hm h1 h2 h3
   .cases h
  .cases h
 .cases h
theorem dB.thaw{gl:List (Nat×(t:Ty)×List t.den)}{f:FuncId}{ps:List MG}{t:Ty}{F:bC ps->Option (List t.den)}(hf:t.flat=true)(ho:NZ t ps=false)
  (hg:∀g u,dW gl g=some u->u.1≠t/\Ty.occ t u.1=false) (h:dB P gl f ⟨ps,[(false,.fr t)],[],F⟩):dB P gl f ⟨ps,[(false,.own t)],[],F⟩:=by
 intro w ok O vals x r hok hO hO2 hgl hrel hdv hF;have key:=h w (λb u=>ok b u/\u≠t) O vals x r (λb u hb=>hok b u hb.1) hO (λb hb=>⟨λu hu=>(hO2 b hb).1 u hu.1,(hO2 b hb).2⟩) (λg u hgu=>by obtain⟨h1,h2,h3⟩:=hgl g u hgu;obtain⟨n1,n2⟩:=hg g u hgu;refine⟨⟨h1,n1⟩,h2,λi y hi=>?_⟩;obtain⟨es,he,hr⟩:=h3 i y hi;exact⟨es,he,yH (λb u' hb hc=>⟨hb,λe=>by subst e;rw[n2]at hc;cases hc⟩) hr⟩) (TA (λb u hb hc=>⟨hb,λe=>by subst e;rw[ho]at hc;cases hc⟩) hrel) hdv hF
 refine key.mono ?_;rintro e w' ⟨v,ok',O',rs,os,B,he,hfr,hm,hlt,hnd,hfree,hret,hout,hrel'⟩;obtain⟨v',cs,ers,hgv,l,v2,ecs,hv,ha,hk,eO⟩:=hrel';subst eO;have hnew:∀b∈l.blks,b<w'.heap.size/\(w.heap.size<=b\/b∈O):=λb hb=>by
  obtain⟨h1,h2⟩:=hlt b t (hk b hb);rcases h2 with h2|h2
  .exact absurd rfl h2.2
  .exact⟨h1,h2⟩
 have hno:∀b∈l.blks,∀u,¬ok b u:=λb hb u hu=>by
  rcases(hnew b hb).2 with h2|h2
  .have:=hok b u hu;omega
  .exact(hO2 b h2).1 u hu
 refine⟨v,ok,l.blks,rs,os,B,he,hfr,λ_ _ h=>h,λb u hb=>⟨pU (hok b u hb) hfr.size,.inl hb⟩,?_,?_,hret,hout,?_⟩
 .refine L6.2 ⟨Loc.blks_nodup l,by simpa using hnd,λa ha' b hb e=>?_⟩;subst e;exact(hfree a (by simpa using hb)).1 t (hk a ha')
 .intro b hb;rcases F7.1 hb with hb|hb
  .exact⟨hno b hb,hnew b hb⟩
  .obtain⟨h1,h2⟩:=hfree b (by simpa using hb);refine⟨λu hu=>?_,h2⟩;rcases h2.2 with h3|h3
   .have:=hok b u hu;omega
   .exact(hO2 b h3).1 u hu
 .refine⟨v',cs,ers,hgv,v2,ecs,pI hv,l,hv,?_,rfl⟩;cases l with
  |nil=>exact ha|st _=>exact ha|mp blk=>obtain⟨h1,_⟩:=ha;cases t<;>first|(cases h1;done)|(cases hf;done)
  |arr blk off len cap sz=>
   obtain⟨h1,h2,h3,h4,c,T,f,h5,hz,h6,h7⟩:=ha;exact⟨h1,h2,h3,h4,c,T,f,h5,hz,h6,λi y hi=>by obtain⟨es,he,hr⟩:=h7 i y hi;exact⟨es,he,Bj hf hr⟩⟩
def c0G(t:Ty):List (Nat×(t:Ty)×List t.den)->Bool
 |[]=>true|(_,u)::r=>bif Ty.beq u.1 t || Ty.occ t u.1 then false else c0G t r
theorem a9d{t:Ty} :∀{gl:List (Nat×(t:Ty)×List t.den)},c0G t gl=true->∀g u,dW gl g=some u->u.1≠t/\Ty.occ t u.1=false
 |[],_,g,u,h=>by cases h|(k,v)::r,hn,g,u,h=>by
  unfold c0G at hn;unfold dW at h;cases hb:Ty.beq v.1 t<;>cases hc:Ty.occ t v.1<;>rw[hb,hc]at hn<;>first|(cases hn;done)|skip
  cases hk:Nat.beq k g<;>rw[hk]at h
  .exact a9d hn g u h
  .cases h;exact⟨λe=>by(rw[e,Ty.beq_refl]at hb;cases hb),hc⟩
end Go.GP
