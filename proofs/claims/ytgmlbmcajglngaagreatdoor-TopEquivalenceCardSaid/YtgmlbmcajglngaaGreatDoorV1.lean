import Derived.Test.YtgmlbmcajglngaaGreatDoorV0
import Derived.Laws.MakeOwn
import Derived.ArgAppend
import Derived.MapKept
import Derived.WideKeyRuns
import Derived.Lib.AppendStr
import Derived.Laws.IdiomStrings
import Derived.Orders
import Derived.LoopN
import Derived.Laws.StructEq
import Derived.ChangeSame
import Derived.Carry
import Derived.SizedLaws
import Derived.Deep.DeepHandedRow
import Derived.Lib.LaidTab
import Derived.Lib.ItoaNum
import Derived.Lib.ItoaMem
import Derived.Lib.Repeat
import Derived.Sort.Grow
import Derived.Lib.SlicesCompact
import Derived.Lib.Bytealg
import Derived.Sort.Row
import Derived.Maps.RangeRun
set_option linter.all false
namespace Go.GP
def iK(h:Array Obj)(ok:Nat->Ty->Prop)(t:Ty)(xs:List t.den)(cs:d4E):Prop:=
 cs.length=xs.length*t.size/\∀i x,xs[i]? =some x->oq h ok t x ((cs.drop (i*t.size)).take t.size)
variable {h:Array Obj}{ok:Nat->Ty->Prop}{t:Ty}
theorem iK.nil :iK h ok t [] []:=⟨x9,λi x hi=>by simp_all⟩
theorem iK.append{xs ys:List t.den}{cs ds:d4E}(hx:iK h ok t xs cs)(hy:iK h ok t ys ds):iK h ok t (xs++ys) (cs++ds):=by
 refine⟨by simp[hx.1,hy.1,U1],λi x hi=>?_⟩;by_cases hlt:i<xs.length
 .rw[G5 hlt]at hi;have h1:=hx.2 i x hi;have hle:(i+1)*t.size<=cs.length:=by rw[hx.1];exact N9 _ l7
  grind
 .rw[F6 l7]at hi;have h1:=hy.2 _ x hi;have hle:cs.length<=i*t.size:=by rw[hx.1];simp_all [N9]
  rw[List.drop_append,jq hle];have:i*t.size -cs.length=(i -xs.length)*t.size:=by rw[hx.1,Nat.sub_mul]
  simp_all
variable {cs:d4E}{x:t.den}
theorem iK.one(hr:oq h ok t x cs):iK h ok t [x] cs:=by
 refine⟨by grind [iO],λi y hi=>?_⟩;have:i=0:=by
  grind
 subst this;simp at hi;have:(List.drop (0*t.size) cs).take t.size=cs:=by simp[←iO hr]
 simp_all
variable {xs:List t.den}
theorem iK.mono{h h' :Array Obj}{ok ok' :Nat->Ty->Prop}(hok:∀b t,ok b t->ok' b t)(hh:∀b t,ok b t->h'[b]? =h[b]?)(hr:iK h ok t xs cs):iK h' ok' t xs cs:=
 ⟨hr.1,λi x hi=>gU hok hh (hr.2 i x hi)⟩
theorem iK.rep_all{h:Array Obj}{ok:Nat->Ty->Prop}{t:Ty}{x:t.den}{cs:d4E}(hr:oq h ok t x cs):∀n,iK h ok t (List.replicate n x) ((List.replicate n cs).flatten)
 |0=>by simp[iK.nil]|n+1=>by have:=(iK.one hr).append (iK.rep_all hr n);simpa[kz]using this
theorem iK.one_cell{h:Array Obj}{ok:Nat->Ty->Prop}{t:Ty} :∀{xs:List t.den} {cs:d4E},iK h ok t xs cs->∀v∈cs,v.oneCell' =true
 |[],cs,hr=>by have:=hr.1;simp_all|x::xs,cs,hr=>by
  intro v hv;have h0:=hr.2 0 x rfl;simp at h0;have hl:=hr.1;simp[H7,U1,Nat.one_mul]at hl;have hrest:iK h ok t xs (cs.drop t.size):=by refine⟨by simp;omega,λi y hi=>?_⟩;have:=hr.2 (i+1) y (by simpa using hi);rw[bz];rwa[show t.size+i*t.size=(i+1)*t.size by rw[U1];omega]
  rw[←gu t.size cs]at hv;rcases D6.1 hv with hv|hv
  .exact Be h0 v hv
  .exact iK.one_cell hrest v hv
variable {blk:Nat}{off:Nat}{cap:Nat}{C:Cx}
theorem iK.arrOk(h0:t.isEnt=false)(hr:iK C.h C.ok t xs cs){c:Array Value}{T:TypeId}{f:Nat×Nat}(hb:C.h[blk]? =some (.cells c T f))(hz:fzo t c.size f)
  (hcap:xs.length<=cap) (hfit:off+cap*t.size<=c.size) (he:(c.toList.drop off).take (xs.length*t.size)=cs):Go.GP.arrOk C t xs (.arr blk off xs.length cap t.size):=by
 refine⟨h0,rfl,rfl,hcap,c,T,f,hb,hz,hfit,λi x hi=>?_⟩;have hlt:=(U8.1 hi).1;have hle:(i+1)*t.size<=xs.length*t.size:=N9 _ l7;rw[U1]at hle;have hle2:xs.length*t.size<=cap*t.size:=N9 _ hcap;refine⟨_,nX hb _ _ l7,?_⟩;have h1:=hr.2 i x hi
 grind [List.drop_take,List.drop_drop]
theorem a2a{blk off len cap sz:Nat}(h:arrOk C t xs (.arr blk off len cap sz)):
  ∃c T f,C.h[blk]? =some (.cells c T f)/\fzo t c.size f/\sz=t.size/\len=xs.length/\len<=cap/\off+cap*sz<=c.size/\iK C.h C.ok t xs ((c.toList.drop off).take (len*sz)):=by
 obtain⟨_,rfl,rfl,h3,c,T,f,hb,hz,hf,hx⟩:=h;refine⟨c,T,f,hb,hz,rfl,rfl,h3,hf,?_,λi x hi=>?_⟩
 .have:xs.length*t.size<=cap*t.size:=N9 _ h3
  grind
 .obtain⟨es,he,hr⟩:=hx i x hi;obtain⟨c',T',f',hb',hn',rfl⟩:=wW he;rw[hb]at hb';have hlt:=(U8.1 hi).1;have hle:(i+1)*t.size<=xs.length*t.size:=N9 _ l7
  grind [List.drop_take,List.drop_drop]
def Bl(h:Array Obj)(ok:Nat->Ty->Prop)(m:M)(xs:List m.den)(cs:d4E)(Os:List d4F):Prop:=
 cs.length=xs.length*m.size/\Os.length=xs.length/\∀i x,xs[i]? =some x->∃O,Os[i]? =some O/\qc h ok m none x ((cs.drop (i*m.size)).take m.size) O
theorem Bl.nil{m:M} :Bl h ok m [] [] []:=⟨x9,rfl,λi x hi=>by simp_all⟩
theorem Bl.append{t:M}{xs ys:List t.den}{cs ds:d4E}{Os Ps:List d4F}(hx:Bl h ok t xs cs Os)(hy:Bl h ok t ys ds Ps):Bl h ok t (xs++ys) (cs++ds) (Os++Ps):=by
 refine⟨by simp[hx.1,hy.1,U1],by simp[hx.2.1,hy.2.1],λi x hi=>?_⟩;by_cases hlt:i<xs.length
 .rw[G5 hlt]at hi;obtain⟨O,hO,h1⟩:=hx.2.2 i x hi;have hle:(i+1)*t.size<=cs.length:=by rw[hx.1];exact N9 _ l7
  grind
 .rw[F6 l7]at hi;obtain⟨O,hO,h1⟩:=hy.2.2 _ x hi;have hle:cs.length<=i*t.size:=by rw[hx.1];simp_all [N9]
  rw[List.drop_append,jq hle];have:i*t.size -cs.length=(i -xs.length)*t.size:=by rw[hx.1,Nat.sub_mul]
  rw[this];exact⟨O,by rw[F6 (by rw[hx.2.1];omega),hx.2.1];omega,h1⟩
theorem Bl.one{t:M}{x:t.den}{O:d4F}(hr:qc h ok t none x cs O):Bl h ok t [x] cs [O]:=by
 refine⟨by grind [dh],rfl,λi y hi=>?_⟩;have:i=0:=by
  grind
 subst this;simp at hi;have:(List.drop (0*t.size) cs).take t.size=cs:=by simp[←dh hr]
 simp_all
variable {Os:List d4F}
theorem Bl.mono{h h' :Array Obj}{ok ok' :Nat->Ty->Prop}{t:M}{xs:List t.den}(hok:∀b t,ok b t->ok' b t)(hh:∀b t,ok b t->h'[b]? =h[b]?)(hO:∀b∈Os.flatten,h'[b]? =h[b]?)(hr:Bl h ok t xs cs Os):Bl h' ok' t xs cs Os:=
 ⟨hr.1,hr.2.1,λi x hi=>by obtain⟨O,h1,h2⟩:=hr.2.2 i x hi;exact⟨O,h1,jS hok hh (λb hb=>hO b (bg.2 ⟨O,lM h1,hb⟩)) h2⟩⟩
theorem Bl.rep_all{h:Array Obj}{ok:Nat->Ty->Prop}{t:M}{x:t.den}{cs:d4E}(hr:qc h ok t none x cs []):∀n,Bl h ok t (List.replicate n x) ((List.replicate n cs).flatten) (List.replicate n [])
 |0=>by simp[Bl.nil]|n+1=>by have:=(Bl.one hr).append (Bl.rep_all hr n);simpa[kz]using this
theorem Bl.one_cell{h:Array Obj}{ok:Nat->Ty->Prop}{t:M} :∀{xs:List t.den} {cs:d4E} {Os:List d4F},Bl h ok t xs cs Os->∀v∈cs,v.oneCell' =true
 |[],cs,_,hr=>by have:=hr.1;simp_all|x::xs,cs,Os,hr=>by
  intro v hv;obtain⟨O,hO,h0⟩:=hr.2.2 0 x rfl;simp at h0;have hl:=hr.1;simp[H7,U1,Nat.one_mul]at hl;have hl2:=hr.2.1;simp at hl2;have hrest:Bl h ok t xs (cs.drop t.size) (Os.drop 1):=by refine⟨by simp;omega,by simp;omega,λi y hi=>?_⟩;obtain⟨O',hO',this⟩:=hr.2.2 (i+1) y (by simpa using hi);rw[bz];refine⟨O',by rw[O8,Nat.add_comm];exact hO',?_⟩;rwa[show t.size+i*t.size=(i+1)*t.size by rw[U1];omega]
  rw[←gu t.size cs]at hv;rcases D6.1 hv with hv|hv
  .exact rZ h0 v hv
  .exact Bl.one_cell hrest v hv
theorem Bl.arrs{t:M}{xs:List t.den}(hr:Bl h ok t xs cs Os){c:Array Value}{T:TypeId}(hb:h[blk]? =some (.cells c T (0,0)))
  (hcap:xs.length<=cap) (hfit:off+cap*t.size<=c.size) (he:(c.toList.drop off).take (xs.length*t.size)=cs):yB h t.size (λ_ x es O=>qc h ok t none x es O) xs Os (.arr blk off xs.length cap t.size):=by
 refine⟨rfl,rfl,hcap,hr.2.1,c,T,hb,hfit,λi x hi=>?_⟩;have hlt:=(U8.1 hi).1;have hle:(i+1)*t.size<=xs.length*t.size:=N9 _ l7;rw[U1]at hle;have hle2:xs.length*t.size<=cap*t.size:=N9 _ hcap;obtain⟨O,hO,h1⟩:=hr.2.2 i x hi;refine⟨_,O,hO,nX hb _ _ l7,?_⟩<;>grind [List.drop_take,List.drop_drop]
theorem a5M{t:M}{xs:List t.den}{blk off len cap sz:Nat}(k:yB h t.size (λ_ x es O=>qc h ok t none x es O) xs Os (.arr blk off len cap sz)):
  ∃c T,h[blk]? =some (.cells c T (0,0))/\sz=t.size/\len=xs.length/\len<=cap/\off+cap*sz<=c.size/\Bl h ok t xs ((c.toList.drop off).take (len*sz)) Os:=by
 obtain⟨rfl,rfl,h3,h7,c,T,hb,hf,hx⟩:=k;refine⟨c,T,hb,rfl,rfl,h3,hf,?_,h7,λi x hi=>?_⟩
 .have:xs.length*t.size<=cap*t.size:=N9 _ h3
  grind
 .obtain⟨es,O,hO,he,hr⟩:=hx i x hi;obtain⟨c',T',f',hb',hn',rfl⟩:=wW he;rw[hb]at hb';have hlt:=(U8.1 hi).1;have hle:(i+1)*t.size<=xs.length*t.size:=N9 _ l7
  grind [List.drop_take,List.drop_drop]
theorem b5t{α β:Type}(e:α=β)(e' :List α=List β):cast e' []=[]:=by grind
theorem a1o{h:Array Obj}{ok:Nat->Ty->Prop}{C:Cx} :∀(m:M) (he:m.el=true) {zs:List V} {cs r:d4E},oq h ok m.ty m.ty.zero cs->jc C zs (cs++r)->XR m zs=true->qc h ok m none (m.zero he) cs []
 | .dat t,_,_,_,_,hr,_,_=>⟨hr,rfl⟩| .unit,_,_,_,_,hr,_,_=>⟨hr,rfl⟩| .own t,he,zs,cs,r,hr,hz,hn=>by
  have ht:t.isEnt=false:=by simp_all [M.el]
  obtain⟨a,cap,rfl,_⟩:=(DJ ht).1 hr;unfold XR at hn;split at hn
  .obtain⟨v,r',e,h1,_⟩:=hz;obtain⟨rfl,rfl⟩:=e;exact⟨_,rfl,rfl,.nil,h1,⟨rfl,ht⟩,rfl⟩
  grind
 | .owns t,he,zs,cs,r,hr,hz,hn=>by
  obtain⟨a,cap,rfl,_⟩:=(DJ (M.ty_ent (by simp_all [M.el]))).1 hr;unfold XR at hn;split at hn
  .obtain⟨v,r',e,h1,_⟩:=hz;obtain⟨rfl,rfl⟩:=e;have he' :t.el=true:=by simp_all [M.el]
   refine BK.2 ⟨he',.nil,_,[],rfl,h1,⟨?_,rfl⟩,rfl⟩;exact b5t (M.denEq t he').symm _
  grind
 | .pair p q,he,zs,cs,r,hr,hz,hn=>by
  obtain⟨c,d,rfl,h1,h2⟩:=hr;have he' :p.el=true/\q.el=true:=by simp_all [M.el]
  have hp:=iO h1;rw[M.ty_size he'.1]at hp;unfold XR at hn;split at hn
  .rename_i r' hd;obtain⟨_,rfl⟩:=b_ _ _ _ hd;cases hb:XR p zs<;>rw[hb]at hn
   .grind
   .have a1:=a1o p he'.1 h1 (by simpa using hz) hb;have hz' :=xW p.size hz;rw[show(c++d++r).drop p.size=d++r by simp_all]at hz';have a2:=a1o q he'.2 h2 hz' hn;refine⟨c,d,[],[],rfl,rfl,?_,?_⟩
    .have:=Md (M.denEq p he'.1).symm (M.denEq q he'.2).symm (M.denEq (.pair p q) he).symm (p.ty.zero,q.ty.zero);exact(congrArg (λz=>qc h ok p none z.1 c []) this).mpr a1
    .have:=Md (M.denEq p he'.1).symm (M.denEq q he'.2).symm (M.denEq (.pair p q) he).symm (p.ty.zero,q.ty.zero);exact(congrArg (λz=>qc h ok q none z.2 d []) this).mpr a2
  grind
 | .box _,he,_,_,_,_,_,_=>by grind [M.el]| .ownb _,he,_,_,_,_,_,_=>by grind [M.el]| .cell _,he,_,_,_,_,_,_=>by grind [M.el]| .lp _,he,_,_,_,_,_,_=>by grind [M.el]| .rp _,he,_,_,_,_,_,_=>by grind [M.el]| .fn _ _,he,_,_,_,_,_,_=>by grind [M.el]| .ifc _ _,he,_,_,_,_,_,_=>by grind [M.el]
theorem Qi(z:Array Value):∀n,(madeCells z (n*z.size)).toList=(List.replicate n z.toList).flatten:=by
 intro n;rcases jK z.size with h0|h0
 .simp_all [madeCells]
 induction n with
 |zero=>simp[madeCells]|succ n ih=>rw[BU,ng,←ih];simp[madeCells,Array.toList_map,Array.toList_range,List.flatten_cons,List.flatten_nil,G9];rw[U1,List.range_add,aY];congr 1;apply mW<;>simp_all [qL]
theorem ND{E:Env}{t e:Nat}{u:Ty}(h:Ju E t=some (e,u)):u.isEnt=false:=by unfold Ju at h<;>grind
theorem DT{X:Fx}(H:FxOk X){t e:Nat}{u:Ty}(h:Ju X.E t=some (e,u)):
  ∃j z inf,X.P.underlying t=some (.slice e)/\TiOk X.P e j/\X.P.info? e=some inf/\inf.size=u.size/\j.size=u.size/\inf.bytes<=65536/\inf.zero=some z/\oq #[] (λ_ _=>False) u u.zero z.cells.toList:=by
 unfold Ju at h;cases hi:fZ X.E.tt t with
 |none=>simp_all|some i=>
  have htd:=(H.tt t i hi).td;simp[hi]at h;cases hd:i.td<;>simp[hd]at h<;>try (simp at h)
  rename_i e';rw[hd]at htd;cases hj:fZ X.E.tt e' with
  |none=>simp_all|some j=>
   simp[hj]at h;cases hy:j.ty with
   |none=>simp_all|some u' =>
    simp[hy]at h;cases hb:(Nat.beq u'.size j.size&&Nat.ble j.bytes 65536&&!u'.isEnt)
    .simp_all
    .simp[hb,cond_true,E9,aH]at h;obtain⟨rfl,rfl⟩:=h;simp only[A7]at hb;have h2:=X4 hb.1.2;obtain⟨inf,a1,a2,a3,a4,a5⟩:=(H.tt e' j hj).info;obtain⟨b1,z,b2,b3⟩:=a5 u' hy;exact⟨j,z,inf,htd,H.tt _ _ hj,a1,l7,l7,l7,b2,b3⟩
variable {q:Nat}{w1:World}{T:d4F}
section
variable {X:Fx} {cl ch:Nat} {S:Sm} {m:Mp} {ok:Nat->Ty->Prop} {a:Act} {w:World} {o:Oper}
theorem a3h(h:oq #[] (λ_ _=>False) t x cs):oq C.h C.ok t x cs:=
 gU (λ_ _ h=>h.elim) (λ_ _ h=>h.elim) h
theorem JJ(H:FxOk X){v vv:V}{Q:Unit->Sm->Prop}
  (hK:∀n,n=U2 q o.dst->CB*q<=n->n+64<=CB*q+CB->S (Z4+n)= .undef->(gW X.E o.dst vv).post (upd S (Z4+n) v) Q):
  (xQ (U2 q o.dst) v (gW X.E o.dst vv)).post S Q:=by
 refine qQ λhn=>?_;cases hd:o.dst with
 |none=>
  grind [U2]
 |some t=>
  cases hb:OU X.E t with
  |false=>unfold gW;simp[hb,cond_false];trivial|true=>have hin:=tu H (q:=q) (some t) (λt' h=>by simp_all [jX]);simp_all
theorem b3I(H:FxOk X){v vv u:V}{Q:Unit->Sm->Prop}
  (hK:∀n,n=U2 q o.dst->CB*q<=n->n+64<=CB*q+CB->S (Z4+n)= .undef->(Cmd.set (Z4+(TG+n)) u (gW X.E o.dst vv)).post (upd S (Z4+n) v) Q):
  (xQ (U2 q o.dst) v (.set (Z4+(TG+U2 q o.dst)) u (gW X.E o.dst vv))).post S Q:=by
 refine qQ λhn=>?_;cases hd:o.dst with
 |none=>
  grind [U2]
 |some t=>
  cases hb:OU X.E t with
  |false=>unfold gW;simp[hb,cond_false];trivial|true=>have hin:=tu H (q:=q) (some t) (λt' h=>by simp_all [jX]);simp_all
theorem a9h(R:Rel X cl ch S m ok a w)(hos:w1.os=w.os)(htp:w1.tape=w.tape)(hout:w1.output=w.output)(hh:w1.heap=w.heap)
  {u:Ty} (ht:u.isEnt=false) {xs:List u.den} {cs:d4E} {e:TypeId} {c:Array Value} {cap n:Nat} (hr:iK w.heap ok u xs cs)
  (hcap:xs.length<=cap) (hfit:cap*u.size<=c.size) (he:c.toList.take (xs.length*u.size)=cs) (hcl:cl<=n) (hch:n<ch) (hn:S (Z4+n)= .undef) {f:Nat×Nat} (hz:fzo u c.size f) (hdr:w.drawn<=w1.drawn:=by first|exact D5 _|exact iF _):
  Rel X cl ch (upd S (Z4+n) (.barr u xs)) (oV m n (.arr w.heap.size 0 xs.length cap u.size) []) ok a (w1.alloc (.cells c e f)):=by
 have R1:=R.same hos htp hout hh (λ_=>hdr);have hblk:(w1.alloc (.cells c e f)).heap[w.heap.size]? =some (.cells c e f):=by grind [heap_alloc_new]
 refine R1.new hn hcl hch x9 (by simp[V5,hh]) ⟨_,bu _ _ _ _,?_⟩;refine iK.arrOk ht (hr.mono (λ_ _ h=>h) (λb t hb=>?_)) hblk hz hcap l7 (by simp_all);have:=R.okLt b t hb;show(w1.heap.push (.cells c e f))[b]? =_
 grind
theorem RD(H:FxOk X)(R:Rel X (CB*q) (CB*q+CB) S m ok a w)(hos:w1.os=w.os)(htp:w1.tape=w.tape)(hout:w1.output=w.output)(hh:w1.heap=w.heap)
  {u:Ty} (ht:u.isEnt=false) {xs:List u.den} {cs:d4E} {e:TypeId} {c:Array Value} {cap:Nat} (hr:iK w.heap ok u xs cs)
  (hcap:xs.length<=cap) (hfit:cap*u.size<=c.size) (he:c.toList.take (xs.length*u.size)=cs) {w0:World} {m0:Mp} {ok0:Nat->Ty->Prop} (hm:∀k l,m0 k=some l->m k=some l) (hok:∀b t,ok0 b t->ok b t)
  {f:Nat×Nat} (hz:fzo u c.size f)
  (run:(execOp a.eval o).run X.P w0= .ok (.value (.slice (some ⟨w.heap.size,0,none⟩) xs.length cap)) (w1.alloc (.cells c e f)))
  (hdr:w.drawn<=w1.drawn:=by first|exact D5 _|exact iF _):(xQ (U2 q o.dst) (.barr u xs) (gW X.E o.dst (.own (U2 q o.dst) none))).post S (λ_ S' =>kF X (CB*q) (CB*q+CB) o a w0 m0 ok0 S'):=by
 refine JJ H λn e1 h1 h2 hn=>?_;rw[←e1];have R' :=a9h R hos htp hout hh ht (e:=e) hr hcap hfit he h1 l7 hn hz hdr;refine xI H R' (λk l h=>?_) hok ⟨_,bu _ _ _ _,rfl⟩ run;by_cases ek:k=n
 .subst ek;have:=R.fresh k h1 hn;simp_all
 simp_all [jZ]
theorem XP(R:Rel X cl ch S m ok a w)(hT:Tk X S m ok w T)(hos:w1.os=w.os)(htp:w1.tape=w.tape)(hout:w1.output=w.output)(hh:w1.heap=w.heap)
  {md:M} (hel:md.el=true) {xs:List md.den} {cs:d4E} {Os:List d4F} {e:TypeId} {c:Array Value} {cap n:Nat} (hr:Bl w.heap ok md xs cs Os) (hnd:Os.flatten.Nodup) (hO:∀b∈Os.flatten,b∈T)
  (hcap:xs.length<=cap) (hfit:cap*md.size<=c.size) (he:c.toList.take (xs.length*md.size)=cs) (hcl:cl<=n) (hch:n<ch) (hn:S (Z4+n)= .undef) (hdr:w.drawn<=w1.drawn:=by first|exact D5 _|exact iF _):
  Rel X cl ch (upd S (Z4+n) (.barrs md xs none)) (oV m n (.arr w.heap.size 0 xs.length cap md.size) Os.flatten) ok a (w1.alloc (.cells c e)):=by
 have R1:=R.same hos htp hout hh (λ_=>hdr);have T1:Tk X S m ok w1 T:=⟨hT.nodup,λb hb=>by rw[hh];exact hT.free b hb⟩;have hblk:(w1.alloc (.cells c e)).heap[w.heap.size]? =some (.cells c e (0,0)):=by grind [heap_alloc_new]
 have hold:∀b,b<w.heap.size->(w1.alloc (.cells c e)).heap[b]? =w.heap[b]?:=λb hb=>by
  show(w1.heap.push (.cells c e))[b]? =_
  grind
 refine R1.newK T1 hn hcl hch x9 (by simp[V5,hh]) hnd hO ⟨hel,_,Os,bu _ _ _ _,?_,x9⟩;exact⟨Bl.arrs (hr.mono (λ_ _ h=>h) (λb t hb=>hold b (R.okLt b t hb)) (λb hb=>hold b (hT.free b (hO b hb)).2.1)) hblk hcap l7 (by simp_all),trivial⟩
theorem a0e(H:FxOk X)(R:Rel X (CB*q) (CB*q+CB) S m ok a w)(hT:Tk X S m ok w T)(hos:w1.os=w.os)(htp:w1.tape=w.tape)(hout:w1.output=w.output)(hh:w1.heap=w.heap)
  {md:M} (hel:md.el=true) {xs:List md.den} {cs:d4E} {Os:List d4F} {e:TypeId} {c:Array Value} {cap:Nat} (hr:Bl w.heap ok md xs cs Os) (hnd:Os.flatten.Nodup) (hO:∀b∈Os.flatten,b∈T)
  (hcap:xs.length<=cap) (hfit:cap*md.size<=c.size) (he:c.toList.take (xs.length*md.size)=cs) {w0:World} {m0:Mp} {ok0:Nat->Ty->Prop} (hm:∀k l,m0 k=some l->m k=some l) (hok:∀b t,ok0 b t->ok b t)
  (run:(execOp a.eval o).run X.P w0= .ok (.value (.slice (some ⟨w.heap.size,0,none⟩) xs.length cap)) (w1.alloc (.cells c e)))
  (hdr:w.drawn<=w1.drawn:=by first|exact D5 _|exact iF _):(xQ (U2 q o.dst) (.barrs md xs none) (gW X.E o.dst (.own (U2 q o.dst) none))).post S (λ_ S' =>kF X (CB*q) (CB*q+CB) o a w0 m0 ok0 S'):=by
 refine JJ H λn e1 h1 h2 hn=>?_;rw[←e1];have R' :=XP R hT hos htp hout hh (e:=e) hel hr hnd hO hcap hfit he h1 l7 hn hdr;refine xI H R' (λk l h=>?_) hok ⟨_,bu _ _ _ _,rfl⟩ run;by_cases ek:k=n
 .subst ek;have:=R.fresh k h1 hn;simp_all
 simp_all [jZ]
theorem a6Q(H:FxOk X)(R:Rel X (CB*q) (CB*q+CB) S m ok a w)(hT:Tk X S m ok w T)(hos:w1.os=w.os)(htp:w1.tape=w.tape)(hout:w1.output=w.output)(hh:w1.heap=w.heap)
  {md:M} (hel:md.el=true) {xs:List md.den} {cs:d4E} {Os:List d4F} {e:TypeId} {c:Array Value} {cap:Nat} (hr:Bl w.heap ok md xs cs Os) (hnd:Os.flatten.Nodup) (hO:∀b∈Os.flatten,b∈T)
  (hcap:xs.length<=cap) (hfit:cap*md.size<=c.size) (he:c.toList.take (xs.length*md.size)=cs) {w0:World} {m0:Mp} {ok0:Nat->Ty->Prop} (hm:∀k l,m0 k=some l->m k=some l) (hok:∀b t,ok0 b t->ok b t)
  (run:(execOp a.eval o).run X.P w0= .ok (.value (.slice (some ⟨w.heap.size,0,none⟩) xs.length cap)) (w1.alloc (.cells c e)))
  (hdr:w.drawn<=w1.drawn:=by first|exact D5 _|exact iF _):(xQ (U2 q o.dst) (.barrs md xs none) (.set (Z4+(TG+U2 q o.dst)) (.blen (o9 xs) md.size) (gW X.E o.dst (.own (U2 q o.dst) none)))).post S (λ_ S' =>kF X (CB*q) (CB*q+CB) o a w0 m0 ok0 S'):=by
 refine b3I H λn e1 h1 h2 hn=>?_;rw[←e1];have R' :=XP R hT hos htp hout hh (e:=e) hel hr hnd hO hcap hfit he h1 l7 hn hdr;refine xI H (R'.mark (iQ _ _ _)) (λk l h=>?_) hok ⟨_,bu _ _ _ _,rfl⟩ run;by_cases ek:k=n
 .subst ek;have:=R.fresh k h1 hn;simp_all
 simp_all [jZ]
theorem a4v(H:FxOk X)(R:Rel X (CB*q) (CB*q+CB) S m ok a w){t:TypeId}{l c:Operand}(ho:o.op= .makeSlice t l c):(fM X.E q o).post S (λ_ S' =>kF X (CB*q) (CB*q+CB) o a w m ok S'):=by
 unfold fM;simp[ho];split
 .rename_i md hom;split<;>try trivial
  rename_i e u het;obtain⟨j,z,inf,hu,hj,h1,h2,h3,h4,h5,h6⟩:=DT H het;have hz:=iO h6;refine dC R λv hv=>?_;split<;>try trivial
  rename_i k n;refine bP λhc=>?_;simp only[A7]at hc;obtain⟨⟨hs,hsz⟩,hza⟩:=hc;split<;>try trivial
  rename_i hel;obtain⟨hel,rfl⟩:=hel;refine gG λxs hxs=>?_;have hec:a.eval c=a.eval l:=by unfold a0N at hs<;>grind [Nat.eq_of_beq_eq_true]
  unfold lI at hxs;split at hxs
  .rename_i hh;cases hxs;have e1:=xX hv;have hms:=M.ty_size hel;have hby:(inf.bytes:Int)*n<=65536*1073741824:=by
    have:inf.bytes*n.toNat<=65536*1073741824:=Nat.mul_le_mul h4 l7
    grind
   have hrun:=run_make w t e inf z hu h1 h5 k k n n hh.1 (aW _) l7 l7;have hflat:=Qi z.cells n.toNat
   have hzero:qc w.heap ok md none (md.zero hel) z.cells.toList []:=by
    unfold b2P at hza;rw[het]at hza;simp at hza;cases hj2:fZ X.E.tt e with
    |none=>simp_all|some j2=>
     rw[hj2]at hza;simp only at hza;cases hb:Nat.beq j2.zero.length j2.size<;>rw[hb]at hza
     .grind
     .obtain⟨inf2,a1,a2,a3,a4,a5⟩:=(H.tt e j2 hj2).info;rw[h1]at a1;cases a1;obtain⟨z2,b1,b2⟩:=a4 (ik hb);rw[h5]at b1;cases b1;exact a1o md hel (r:=[]) (a3h (C:=⟨w.heap,ok,m⟩) h6) (by simpa using b2) hza
   refine a6Q H R Tk.nil rfl rfl rfl rfl (c:=madeCells z.cells (n.toNat*inf.size)) (cap:=n.toNat) (e:=e) hel (Bl.rep_all hzero _) x9 x9 x9 (by simp[size_madeCells,h2,hms]) ?_ (λ_ _ h=>h) (λ_ _ h=>h) ?_<;>simp_all [bV,execOp]
  grind
 split<;>try trivial
 rename_i e u het;obtain⟨j,z,inf,hu,hj,h1,h2,h3,h4,h5,h6⟩:=DT H het;have hz:=iO h6;have key:∀{k k' :IntKind} {n n' :Int},a.eval l= .int k n->a.eval c= .int k' n' ->0<=n->n<=n' ->n' <=1073741824->
   (xQ (U2 q o.dst) (.barr u (List.replicate n.toNat u.zero)) (gW X.E o.dst (.own (U2 q o.dst) none))).post S (λ_ S' =>kF X (CB*q) (CB*q+CB) o a w m ok S'):=λ{k k' n n'} e1 e2 g0 g1 g2=>by
  have hby:(inf.bytes:Int)*n' <=65536*1073741824:=by
   have:inf.bytes*n'.toNat<=65536*1073741824:=Nat.mul_le_mul h4 l7
   grind
  have hrun:=run_make w t e inf z hu h1 h5 k k' n n' g0 g1 l7 l7;have hflat:=Qi z.cells n'.toNat
  have hzs:z.cells.size=u.size:=l7;refine RD H R rfl rfl rfl rfl (ND het) (c:=madeCells z.cells (n'.toNat*inf.size)) (cap:=n'.toNat) (e:=e) (iK.rep_all (a3h (C:=⟨w.heap,ok,m⟩) h6) _) (by grind) (by grind [size_madeCells]) ?_ (λ_ _ h=>h) (λ_ _ h=>h) (.inl rfl) ?_
  .rw[h2,←hzs,hflat];have:n'.toNat=n.toNat+(n'.toNat -n.toNat):=l7;rw[this,←List.replicate_append_replicate,ng,List.take_append_of_le_length x9,bV x9]
  simp_all [execOp]
 refine dC R λv hv=>?_;split<;>try trivial
 rename_i k n;cases hs:a0N l c
 .refine dC R λv' hv' =>?_;split<;>try trivial
  rename_i k' n';refine⟨λhr=>gG λxs hxs=>?_,λ_=>trivial⟩;have hr' :=of_decide_eq_true (show decide (0<=n/\n<=n' /\n' <=1073741824)=true from hr);unfold lI at hxs;split at hxs
  .cases hxs;exact key (xX hv) (xX hv') hr'.1 hr'.2.1 hr'.2.2
  omega
 .refine gG λxs hxs=>?_;have hec:a.eval c=a.eval l:=by
   unfold a0N at hs<;>grind [Nat.eq_of_beq_eq_true]
  unfold lI at hxs;split at hxs
  .rename_i hh;cases hxs;exact key (xX hv) (hec.trans (xX hv)) hh.1 (aW _) hh.2
  grind
end
end Go.GP
namespace Go.GP
theorem MH:∀(vs:d4E) (k off:Nat) (cs:Array Value),off+k+vs.length<=cs.size->
  (vs.zipIdx k).foldl (λcs (x:Value×Nat)=>cs.setIfInBounds (off+x.2) x.1) cs=(eU (off+k) vs cs.toList).toArray
 |[],k,off,cs,h=>by simp[eU]|v::vs,k,off,cs,h=>by
  simp;rw[MH vs (k+1) off (cs.setIfInBounds (off+k) v) (by grind)];congr 1;apply aB;intro i;rw[xk (by grind),xk l7]
  grind
theorem a5q(v:Value)(off:Nat)(cs:Array Value)(h:off+v.cells.size<=cs.size):
  v.cells.zipIdx.foldl (λcs (c,j)=>cs.setIfInBounds (off+j) c) cs=(eU off v.cells.toList cs.toList).toArray:=by
 have:=MH v.cells.toList 0 off cs l7
 grind [Array.toList_zipIdx]
theorem WJ{place:Nat->Option (Nat×Nat)}{cs:Array Value}{i off size:Nat}{v:Value}{rest:List (Nat×Value)}(hp:place i=some (off,size))(hs:v.cells.size=size)(hf:off+v.cells.size<=cs.size):
  Instr.fill place cs ((i,v)::rest)=Instr.fill place (eU off v.cells.toList cs.toList).toArray rest:=by
 simp only[Instr.fill,hp];rw[if_neg (by simp_all),a5q v off cs hf]
theorem o_{size:Nat} :∀(vs:d4E) (n:Nat) (cs:Array Value),(∀v∈vs,v.cells.size=size)->cs.size=(n+vs.length)*size->
  Instr.fill (λi=>some (i*size,size)) cs ((List.range' n vs.length).zip vs)=some (cs.toList.take (n*size)++vs.flatMap (λv=>v.cells.toList)).toArray
 |[],n,cs,_,h=>by simp only[jf,bI]at h;have:cs.toList.take (n*size)=cs.toList:=bV (by rw[←h];exact D5 _);simp[Instr.fill,this]|v::vs,n,cs,hv,h=>by
  have h1:=hv v x9;simp only[H7]at h;have e1:(n+(vs.length+1))*size=n*size+size+vs.length*size:=by grind
  simp only[H7,iR,List.zip_cons_cons];rw[WJ (off:=n*size) (size:=size) rfl h1 l7];rw[o_ vs (n+1) _ (λu hu=>hv u (by grind)) (by
   grind [CW])]
  grind [eU,List.take_of_length_le]
theorem QG{P:Program}{w:World}{t e:TypeId}{inf:TypeInfo}{z:Value}{n sz:Nat}{parts:Array (Nat×Value)}{F:Array Value}(hu:P.underlying t=some (.slice e))(hi:P.info? e=some inf)(hs:inf.size=sz)(hz:inf.zero=some z)
  (hle:n*sz<=16777216) (hf:∀cs:Array Value,cs.size=n*sz->Instr.fill (λi=>some (i*sz,sz)) cs parts.toList=some F):
  (Instr.buildSlice t n parts).run P w= .ok (.slice (some ⟨w.heap.size,0,none⟩) n n) (w.alloc (.cells F e)):=by
 subst hs;have hsz:(sizeOf e).run P w= .ok inf.size w:=by simp[sizeOf,typeInfo,hi]
 have hnle:¬(n*inf.size>2^24):=l7;unfold Instr.buildSlice;simp[H5,run_underlying hu,N7,hsz,if_neg hnle];simp_all [newRow,zeroValue,typeInfo]
variable {t:TypeId}
section
variable {X:Fx} {cl ch:Nat} {S:Sm} {m:Mp} {ok:Nat->Ty->Prop} {a:Act} {w:World} {o:Oper}
theorem OJ{α:Type}{Q:α->Sm->Prop}(u:Ty):∀(is:d4F) (vs:List V) {us:d4E} (n k:Nat) {K:List u.den->Cmd α} {S:Sm} {ok:Nat->Ty->Prop} (R:Rel X cl ch S m ok a w) (hl:is.length=us.length)
  (hv:jk ⟨w.heap,ok,m⟩ vs us)
  (hK:∀S' ok' xs,Rel X cl ch S' m ok' a w->(∀b t,ok b t->ok' b t)->us.length=k->is=List.range' n us.length->(∀v∈us,v.cells.size=u.size)->xs.length=us.length->iK w.heap ok' u xs (us.flatMap λv=>v.cells.toList)->(K xs).post S' Q),
  (Dz u (is.zip vs) n k K).post S Q
 |[],vs,us,n,k,K,S,ok,R,hl,hv,hK=>by
  have:us=[]:=by cases us<;>simp at hl ⊢
  subst this;cases k with
  |zero=>exact hK S ok [] R (λ_ _ h=>h) rfl rfl x9 rfl iK.nil|succ k=>trivial
 |i::is,vs,us,n,k,K,S,ok,R,hl,hv,hK=>by
  cases us with
  |nil=>simp at hl|cons x us=>
  cases vs with
  |nil=>simp[jk]at hv|cons v vs=>
  obtain⟨x',r,e,h1,h2⟩:=hv;cases k with
  |zero=>trivial|succ k=>
  refine eP λhi=>yw h1 λcs hcs=>?_;have hi' :=ik hi;subst hi';refine Jh u R Tk.nil hcs λS1 ok1 y q ws ws' R1 T1 k1 s1 e1 g1 l1=>?_;cases q with
  |cons _ _=>trivial|nil=>
  subst l1;refine OJ u is vs (i+1) k R1 (by simp_all) (QB k1 h2) λS2 ok2 ys R2 k2 c1 c2 c3 c4 c5=>?_;refine hK S2 ok2 (y::ys) R2 (λb t h=>k2 b t (k1 b t h)) (by grind) ?_ ?_ (by grind) ?_
  .grind [List.range'_succ]
  .intro z hz;rcases C9.1 hz with rfl|hz
   .have:=iO g1;grind
   simp_all
  .have:=(iK.one (gU k2 (λ_ _ _=>rfl) g1)).append c5;simp_all
theorem Mc{α:Type}{Q:α->Sm->Prop}(md:M):∀(is:d4F) (vs:List V) {us:d4E} (n k:Nat) {K:List md.den->Cmd α} {S:Sm} {ok:Nat->Ty->Prop} {T:d4F} (R:Rel X cl ch S m ok a w) (hT:Tk X S m ok w T) (hl:is.length=us.length)
  (hv:jk ⟨w.heap,ok,m⟩ vs us)
  (hK:∀S' ok' xs Os,Rel X cl ch S' m ok' a w->Tk X S' m ok' w (T++Os.flatten)->(∀b t,ok b t->ok' b t)->us.length=k->is=List.range' n us.length->(∀v∈us,v.cells.size=md.size)->xs.length=us.length->Bl w.heap ok' md xs (us.flatMap λv=>v.cells.toList) Os->(K xs).post S' Q),
  (Ai md (is.zip vs) n k K).post S Q
 |[],vs,us,n,k,K,S,ok,T,R,hT,hl,hv,hK=>by
  have:us=[]:=by cases us<;>simp at hl ⊢
  subst this;cases k with
  |zero=>exact hK S ok [] [] R (by simpa using hT) (λ_ _ h=>h) rfl rfl x9 rfl Bl.nil|succ k=>trivial
 |i::is,vs,us,n,k,K,S,ok,T,R,hT,hl,hv,hK=>by
  cases us with
  |nil=>simp at hl|cons x us=>
  cases vs with
  |nil=>simp[jk]at hv|cons v vs=>
  obtain⟨x',r,e,h1,h2⟩:=hv;obtain⟨rfl,rfl⟩:=e;cases k with
  |zero=>trivial|succ k=>
  refine bP λhi=>yw h1 λcs hcs=>?_;have hi' :=ik hi;subst hi';refine Jw md R hT hcs λS1 ok1 y q ws ws' O R1 T1 k1 s1 e1 g1 l1=>?_;cases q with
  |cons _ _=>trivial|nil=>
  subst l1;refine Mc md is vs (i+1) k R1 T1 (by simpa using hl) (QB k1 h2) λS2 ok2 ys Os R2 T2 k2 c1 c2 c3 c4 c5=>?_;refine hK S2 ok2 (y::ys) (O::Os) R2 (by simpa[G7]using T2) (λb t h=>k2 b t (k1 b t h)) (by simp[c1]) ?_ ?_ (by simp[c4]) ?_
  .simp[iR,c2]
  .intro z hz;rcases C9.1 hz with rfl|hz
   .have:=dh g1;grind
   simp_all
  .have:=(Bl.one (jS k2 (λ_ _ _=>rfl) (λ_ _=>rfl) g1)).append c5;simp_all
theorem a1C(H:FxOk X){q:Nat}(R:Rel X (CB*q) (CB*q+CB) S m ok a w){n:Nat}{ps:Array (Nat×Operand)}(ho:o.op= .buildSlice t n ps):(fM X.E q o).post S (λ_ S' =>kF X (CB*q) (CB*q+CB) o a w m ok S'):=by
 unfold fM;simp only[ho];split<;>try trivial
 rename_i e u het;obtain⟨j,z,inf,hu,hj,h1,h2,h3,h4,h5,h6⟩:=DT H het;have hz:=iO h6;refine eP λhle=>mF R _ λvs hvs=>?_;have hle' :n*u.size<=16777216:=X4 hle;split
 rotate_left
 .rename_i md hom;refine bP λhc=>?_;simp only[A7]at hc;have hms:=ik hc.1;refine Mc md _ vs 0 n (T:=[]) R Tk.nil x9 hvs λS' ok' xs Os R' T' k c1 c2 c3 c4 c5=>?_;rw[P6]at T';simp only[J4]at c1 c2;have hparts:(ps.map λ(i,x)=>(i,a.eval x)).toList=(List.range' 0 ((ps.toList.map (·.2)).map a.eval).length).zip ((ps.toList.map (·.2)).map a.eval):=by
   grind [Array.toList_map]
  have hxl:xs.length=n:=by simp_all
  have hflat:=c5.1;have hcl:((ps.toList.map (·.2)).map a.eval).length=n:=l7;have hfill:∀cs:Array Value,cs.size=n*u.size->Instr.fill (λi=>some (i*u.size,u.size)) cs (ps.map λ(i,x)=>(i,a.eval x)).toList=some ((((ps.toList.map (·.2)).map a.eval).flatMap λv=>v.cells.toList)).toArray:=λcs hcs=>by rw[hparts,o_ _ 0 cs (by grind) (by simp_all)];simp
  refine a0e (w1:=w) (e:=e) (cap:=xs.length) H R' T' rfl rfl rfl rfl hc.2 c5 T'.nodup (λ_ h=>h) (D5 _) (by simp_all) (c:=((((ps.toList.map (·.2)).map a.eval).flatMap λv=>v.cells.toList)).toArray) (bV (by simp_all)) (λ_ _ h=>h) k ?_;have hrun:=QG (w:=w) (n:=n) hu h1 h2 h5 hle' hfill;simp_all [execOp]
 refine OJ u _ vs 0 n R x9 hvs λS' ok' xs R' k c1 c2 c3 c4 c5=>?_;have hsz:(sizeOf e).run X.P w= .ok u.size w:=by simp_all [sizeOf,typeInfo]
 simp only[J4]at c1 c2;have hparts:(ps.map λ(i,x)=>(i,a.eval x)).toList=(List.range' 0 ((ps.toList.map (·.2)).map a.eval).length).zip ((ps.toList.map (·.2)).map a.eval):=by
  grind [Array.toList_map]
 have hxl:xs.length=n:=by simp_all
 have hflat:=c5.1;have hcl:((ps.toList.map (·.2)).map a.eval).length=n:=l7;have hfill:∀cs:Array Value,cs.size=n*u.size->Instr.fill (λi=>some (i*u.size,u.size)) cs (ps.map λ(i,x)=>(i,a.eval x)).toList=some ((((ps.toList.map (·.2)).map a.eval).flatMap λv=>v.cells.toList)).toArray:=λcs hcs=>by rw[hparts,o_ _ 0 cs c3 (by simp_all)];simp
 refine RD (w1:=w) (e:=e) (cap:=xs.length) H R' rfl rfl rfl rfl (ND het) c5 (D5 _) (by simp_all) (c:=((((ps.toList.map (·.2)).map a.eval).flatMap λv=>v.cells.toList)).toArray) (bV (by simp_all)) (λ_ _ h=>h) k (.inl rfl) ?_;have hrun:=QG (w:=w) (n:=n) hu h1 h2 h5 hle' hfill;simp_all [execOp]
theorem Zn{E:Env} :∀{fs:List (Nat×Nat)},b1e E fs=true->∀p∈fs,∃i,fZ E.tt p.1=some i
 |[],_,p,hp=>by grind|(t,o)::r,h,p,hp=>by
  unfold b1e at h;cases hi:fZ E.tt t with
  |none=>simp[hi]at h|some i=>
   simp[hi]at h;rcases C9.1 hp with rfl|hp
   .exact⟨i,hi⟩
   .exact Zn h p hp
def Vu(P:Program)(fields:Array Field):List (Nat×Nat):=fields.toList.map λf=>(f.offset,((P.info? f.type).map (·.size)).getD 0)
theorem XZ{P:Program} :∀(fs:List Field),(∀f∈fs,∃i,P.info? f.type=some i)->
  fs.mapM (λf=>(P.info? f.type).map λi=>(f.offset,i.size))=some (fs.map λf=>(f.offset,((P.info? f.type).map (·.size)).getD 0))
 |[],_=>by simp|f::fs,h=>by
  obtain⟨i,hi⟩:=h f x9;rw[List.mapM_cons,XZ fs (λg hg=>h g (by grind))]
  grind
theorem Nc{α:Type}{Q:α->Sm->Prop}(H:FxOk X){t:Nat}{fields:Array Field}(hu:X.P.underlying t=some (.struct fields)):
  ∀(is:d4F) (vs:List V) {us:d4E} {cs:List V} {arr:Array Value} {K:List V->Cmd α} (hl:is.length=us.length) (hv:jk ⟨w.heap,ok,m⟩ vs us) (hc:jc ⟨w.heap,ok,m⟩ cs arr.toList)
  (hK:∀cs' arr',Instr.fill ((Vu X.P fields).toArray[·]?) arr (is.zip us)=some arr' ->jc ⟨w.heap,ok,m⟩ cs' arr'.toList->(K cs').post S Q),(Hu X.E t (is.zip vs) cs K).post S Q
 |[],vs,us,cs,arr,K,hl,hv,hc,hK=>by simp_all [Hu,Instr.fill]|i::is,vs,us,cs,arr,K,hl,hv,hc,hK=>by
  cases us with
  |nil=>simp_all|cons x us=>
  cases vs with
  |nil=>grind [jk]|cons v vs=>
  obtain⟨x',r,e,h1,h2⟩:=hv;obtain⟨rfl,rfl⟩:=e;simp;unfold Hu;split<;>try trivial
  rename_i off n ag hf;obtain⟨fields',fld,j,hu',hfl,hoff,hj,hn,hn0,_⟩:=SY H hf;rw[hu]at hu';obtain⟨inf,i1,i2,_⟩:=hj.info;refine yw h1 λws hws=>eP λhb=>Gj off ws cs λhle=>?_;have hL:=oK hc;have hLw:=oK hws;have hxs:x.cells.size=n:=by simp_all
  have hpl:((Vu X.P fields).toArray[i]?)=some (off,n):=by simp_all [Vu]
  refine Nc H hu is vs (arr:=(eU off x.cells.toList arr.toList).toArray) (by simp_all) h2 (by simp_all [Hm]) λcs' arr' hfill hrel=>?_;refine hK cs' arr' ?_ hrel;rw[List.zip_cons_cons,WJ hpl hxs (by simp_all)];omega
theorem SQ{α:Type}{Q:α->Sm->Prop}{sz:Nat} :
  ∀(is:d4F) (vs:List V) {us:d4E} {cs:List V} {arr:Array Value} {K:List V->Cmd α} (hl:is.length=us.length) (hv:jk ⟨w.heap,ok,m⟩ vs us) (hc:jc ⟨w.heap,ok,m⟩ cs arr.toList)
  (hK:∀cs' arr',Instr.fill (λi=>some (i*sz,sz)) arr (is.zip us)=some arr' ->jc ⟨w.heap,ok,m⟩ cs' arr'.toList->(K cs').post S Q),(PK sz (is.zip vs) cs K).post S Q
 |[],vs,us,cs,arr,K,hl,hv,hc,hK=>by simp_all [PK,Instr.fill]|i::is,vs,us,cs,arr,K,hl,hv,hc,hK=>by
  cases us with
  |nil=>simp_all|cons x us=>
  cases vs with
  |nil=>grind [jk]|cons v vs=>
  obtain⟨x',r,e,h1,h2⟩:=hv;obtain⟨rfl,rfl⟩:=e;refine yw h1 λws hws=>eP λhb=>Gj (i*sz) ws cs λhle=>?_;have hL:=oK hc;have hLw:=oK hws;have hxs:x.cells.size=sz:=by simp_all
  refine SQ is vs (arr:=(eU (i*sz) x.cells.toList arr.toList).toArray) (by simp_all) h2 (by simp_all [Hm]) λcs' arr' hfill hrel=>?_;refine hK cs' arr' ?_ hrel;rw[List.zip_cons_cons,WJ rfl hxs (by simp_all)];omega
theorem b6F(H:FxOk X)(R:Rel X cl ch S m ok a w){ps:Array (Nat×Operand)}{q:Nat}(ho:o.op= .build t ps):(fM X.E q o).post S (λ_ S' =>kF X cl ch o a w m ok S'):=by
 unfold fM;simp[ho];refine nH H λi hi=>?_;split<;>try trivial
 case h_2=>
  rename_i n e htd';have htd:=hi.td;rw[htd']at htd;refine nH H λj hj=>eP λhb=>mF R _ λvs hvs=>?_;obtain⟨inf,h1,h2,h3,h4,h5⟩:=hi.info;obtain⟨ine,e1,e2,_⟩:=hj.info;obtain⟨z,hz1,hz2⟩:=h4 (ik hb);refine SQ _ vs x9 hvs (Ui hz2) λcs' arr' hfill hrel=>?_;refine dH H R ⟨arr',rfl,hrel⟩ ?_;have hparts:(ps.map λ(i,x)=>(i,a.eval x)).toList=(ps.toList.map (·.1)).zip ((ps.toList.map (·.2)).map a.eval):=by simp[List.zip_map']
  have hbuilt:X.P.built t (ps.map λ(i,x)=>(i,a.eval x)).toList=some arr' :=by unfold Program.built;simp[h1,show X.P.underlying t=some (.array n e)from htd,hz1,e1];simp_all
  simp_all [run_build,execOp]
 rename_i fs htd';have htd:=hi.td;rw[htd']at htd;obtain⟨fields,hu,hfs⟩:=htd;refine eP λhb=>mF R _ λvs hvs=>?_;simp only[A7]at hb;obtain⟨inf,h1,h2,h3,h4,h5⟩:=hi.info;obtain⟨z,hz1,hz2⟩:=h4 (ik hb.2);refine Nc H hu _ vs x9 hvs (Ui hz2) λcs' arr' hfill hrel=>?_;refine dH H R ⟨arr',rfl,hrel⟩ ?_;have hparts:(ps.map λ(i,x)=>(i,a.eval x)).toList=(ps.toList.map (·.1)).zip ((ps.toList.map (·.2)).map a.eval):=by simp[List.zip_map']
 have hmap:=XZ (P:=X.P) fields.toList (λf hf=>by obtain⟨i',hi'⟩:=Zn hb.1 (f.type,f.offset) (by grind);obtain⟨inf',q1,_⟩:=(H.tt _ _ hi').info<;>simp_all)
 have hbuilt:X.P.built t (ps.map λ(i,x)=>(i,a.eval x)).toList=some arr' :=by unfold Program.built;simp only[h1,hu,hz1,hmap];rw[hparts];exact hfill
 simp_all [run_build,execOp]
end
end Go.GP
namespace Go.GP
def Jk(h:Array Obj)(sz:Nat)(v:Value)(n:Nat)(es:d4E):Prop:=
 es.length=n*sz/\((n=0/\∃ad cap,v= .slice ad 0 cap)\/(∃blk off cap,v= .slice (some ⟨blk,off,none⟩) n cap/\0<n/\fP h blk off (n*sz)=some es)\/∃b:ByteArray,v= .string b/\n=b.size/\es=Lib.strCells b)
variable {v:Value}{h:Array Obj}
theorem c1d{ok:Nat->Ty->Prop}{t:Ty}{ys:List t.den}(ht:t.isEnt=false)(hr:oq h ok (.sl t) ys [v]):∃es,Jk h t.size v ys.length es/\iK h ok t ys es:=by
 obtain⟨ad,cap,e,hc,hel⟩:=(DJ ht).1 hr;simp[J3,and_true]at e;subst e;rcases jK ys.length with h0|h0
 .have:=P5.1 h0;subst this;exact⟨[],⟨x9,.inl ⟨rfl,ad,cap,rfl⟩⟩,iK.nil⟩
 .obtain⟨y,hy⟩:∃y,ys[ys.length -1]? =some y:=by
   refine⟨ys[ys.length -1]'l7,?_⟩<;>grind
  obtain⟨blk,off,es,rfl,hok,he,hr⟩:=hel _ y hy;obtain⟨c,T,f,hb,hn,_⟩:=wW he;have hle:off+ys.length*t.size<=c.size:=by
   have:ys.length*t.size=(ys.length -1)*t.size+t.size:=by
    conv=>lhs;rw[show ys.length=(ys.length -1)+1 by omega,U1,Nat.one_mul]
   omega
  refine⟨(c.toList.drop off).take (ys.length*t.size),⟨by grind,.inr (.inl ⟨blk,off,cap,rfl,h0,nX hb _ _ hle⟩)⟩,by grind,λi x hi=>?_⟩;obtain⟨blk',off',es',ha',hok',he',hr'⟩:=hel i x hi;obtain⟨rfl,rfl⟩:=ha';obtain⟨c',T',f',hb',hn',rfl⟩:=wW he';rw[hb]at hb';cases hb';have hlt:=(U8.1 hi).1;have hle2:(i+1)*t.size<=ys.length*t.size:=N9 _ l7
  grind [List.drop_take,List.drop_drop]
variable {C:Cx}{l:Loc}
theorem a1j{t:Ty}{xs:List t.den}(ht:t.isEnt=false)(ha:arrOk C t xs l)(hv:l.view none v):∃es,Jk C.h t.size v xs.length es/\iK C.h C.ok t xs es:=by
 cases l with
 |st b=>cases ha|mp b=>exact absurd ha.1 (by grind)|nil=>obtain⟨ha,_⟩:=ha;subst ha;subst hv;exact⟨[],⟨x9,.inl ⟨rfl,none,0,rfl⟩⟩,iK.nil⟩
 |arr blk off len cap sz=>
  obtain⟨c,T,f,hb,hz,rfl,rfl,hc,hf,hr⟩:=a2a ha;subst hv;have hle:xs.length*t.size<=cap*t.size:=N9 _ hc;refine⟨_,⟨hr.1,?_⟩,hr⟩;rcases jK xs.length with h0|h0
  .simp_all
  .exact .inr (.inl ⟨blk,off,cap,rfl,h0,nX hb _ _ l7⟩)
variable {P:Program}{es:d4E}
theorem Ad{w w' :World}{sz n:Nat}(h:Jk w.heap sz v n es)(hh:w'.heap=w.heap):(Builtin.firstCells sz n v).run P w' = .ok es.toArray w' :=by
 obtain⟨hl,h⟩:=h;rcases h with⟨rfl,ad,cap,rfl⟩|⟨blk,off,cap,rfl,hn,hc⟩|⟨b,rfl,rfl,rfl⟩
 .have:es=[]:=P5.1 l7;subst this;cases ad with
  |none=>simp[Builtin.firstCells]|some b=>
   grind [run_loadCells_list,Builtin.firstCells]
 .refine run_firstCells_some w' sz n _ _ cap es hl λj u hu=>?_;rw[kL];exact zl (by rw[hh];omega) hu
 .simp[Lib.run_firstCells_string]
theorem Jk.lenOf{sz n:Nat}(hs:Jk h sz v n es)(w:World):(Builtin.lenOf v).run P w= .ok n w:=by rcases hs.2 with⟨rfl,ad,cap,rfl⟩|⟨blk,off,cap,rfl,hn,hc⟩|⟨b,rfl,rfl,rfl⟩<;>rfl
section runs
variable {P:Program} {w:World} {t ty e:TypeId} {i:TypeInfo} {z:Value}
theorem TA(ht:P.underlying t=some (.slice e))(hi:P.info? e=some i){blk off len cap n:Nat}{c:Array Value}{T:TypeId}{f:Nat×Nat}(hb:w.heap[blk]? =some (.cells c T f))(hz:f=(0,0)\/f=(c.size,c.size+1))(hv:Jk w.heap i.size v n es)
  (h1:∀u∈es,u.oneCell' =true) (hroom:len+n<=cap) (hfit:off+cap*i.size<=c.size):
  (Builtin.append_ #[t,t] ty #[.slice (some ⟨blk,off,none⟩) len cap,v]).run P w= .ok (.slice (some ⟨blk,off,none⟩) (len+n) cap) (w.setRow blk (eU (off+len*i.size) es c.toList).toArray):=by
 have hle:(len+n)*i.size<=cap*i.size:=N9 _ hroom;rw[U1,←hv.1]at hle;have hf:=Ad (P:=P) hv rfl;have hst:=Gn (P:=P) blk (off+len*i.size) T es 0 c f w hb hz l7 h1;simp[Builtin.append_,run_underlying ht,sizeOf,typeInfo,hi,hv.lenOf,hroom,hf,kL,hst,eU]
theorem OZ(ht:P.underlying t=some (.slice e))(hi:P.info? e=some i)(hv:Jk w.heap i.size v 0 es):
  (Builtin.append_ #[t,t] ty #[.slice none 0 0,v]).run P w= .ok (.slice none 0 0) w:=by
 have hf:=Ad (P:=P) hv rfl;simp[Builtin.append_,run_underlying ht,sizeOf,typeInfo,hi,hv.lenOf,hf]
theorem QF(ht:P.underlying t=some (.slice e))(hi:P.info? e=some i)(hz:i.zero=some z)(hby:i.bytes<=65536){s v:Value}{sAd:Option Addr}{len cap n:Nat}{olds es:d4E}(hse:s= .slice sAd len cap)
  (hs:Jk w.heap i.size s len olds) (hv:Jk w.heap i.size v n es) (hg:cap<len+n) (hmax:len+n<=1073741824):
  (Builtin.append_ #[t,t] ty #[s,v]).run P w= .ok (.slice (some ⟨w.heap.size,0,none⟩) (len+n) (grownCap w (len+n) cap e))
   (w.drew.alloc (.cells ((olds++es).toArray++Builtin.zeroCells z.cells (grownCap w (len+n) cap e -(len+n))) e)):=by
 subst hse;have hn:=l7;have h63' :=l7;have hb2:=Nat.mul_le_mul hmax hby;have h48' :=by have:=growslice_fits hg (show(len+n)*i.bytes<=140737488355328 by omega);omega
 have hf:=Ad (P:=P) (w' :=w.drew) hv rfl;have hfo:=Ad (P:=P) (w' :=w.drew) hs rfl;simp[Builtin.append_,run_underlying ht,sizeOf,typeInfo,zeroValue,hi,hz,hv.lenOf,hn,h63',h48',Question.forced,hf,hfo,newRow,grownCap]
 grind
end runs
variable {q:Nat}{t:TypeId}{α:Type}{u:Ty}{e:TypeId}{z:Value}{Q:α->Sm->Prop}{inf:TypeInfo}{x:Operand}
section
variable {X:Fx} {cl ch:Nat} {S:Sm} {m:Mp} {ok:Nat->Ty->Prop} {a:Act} {w:World} {o:Oper}
theorem a1K(R:Rel X cl ch S m ok a w)(ht:u.isEnt=false){y:V}{vy:Value}{K:List u.den->Cmd α}(hy:nU ⟨w.heap,ok,m⟩ y vy)
  (hK:∀ys es,Jk w.heap u.size vy ys.length es->iK w.heap ok u ys es->(K ys).post S Q):(b4b u y K).post S Q:=by
 unfold b4b;split<;>try trivial
 .have hy' :=hy;subst hy';simp[ht,cond_false];exact hK [] [] ⟨x9,.inl ⟨rfl,none,0,rfl⟩⟩ iK.nil
 .obtain⟨ad,c,rfl,_⟩:=(show ∃a c,vy=Value.slice a 0 c/\a.isNone=_ from hy);simp[ht,cond_false];exact hK [] [] ⟨x9,.inl ⟨rfl,ad,c,rfl⟩⟩ iK.nil
 .rename_i t' xs;refine iw λe=>?_;subst e;obtain⟨es,h1,h2⟩:=c1d ht (show oq w.heap ok (.sl t') xs [vy]from hy)<;>grind
 .obtain⟨l,hm,hv⟩:=hy;refine aO ?_;split<;>try trivial
  .rename_i t' xs hS;obtain⟨l',hm',ha⟩:=R.own_arr hS;rw[hm]at hm';cases hm';refine iw λe=>?_;obtain⟨a1,a2,_⟩:=Nq ha hv<;>grind [a1j]
  .rename_i t' xs hS;obtain⟨l',hm',ha,_⟩:=R.own_frz hS;rw[hm]at hm';cases hm';refine iw λe=>?_;obtain⟨a1,a2,_⟩:=Nq ha hv<;>grind [a1j]
theorem XB{T:d4F}(R:Rel X cl ch S m ok a w)(hT:Tk X S m ok w T){md:M}{y:V}{vy:Value}{K:List md.den->List V->Cmd α}(hy:nU ⟨w.heap,ok,m⟩ y vy)
  (hK:∀S' ok' ys r O,Rel X cl ch S' m ok' a w->Tk X S' m ok' w (T++O)->(∀b t,ok b t->ok' b t)->dD S S' ->qc w.heap ok' (.owns md) none ys [vy] O->(K ys r).post S' Q):
  (exM EO (.owns md) [y] K).post S Q:=by
 have key:yR ⟨w.heap,ok,m⟩ y vy->vy.oneCell' =true->(exM EO (.owns md) [y] K).post S Q:=λh1 h2=>by
  refine Jw (.owns md) R hT ⟨vy,[],rfl,h1,h2,rfl⟩ λS' ok' ys r us us' O R' T' k s e hr l=>?_;have:us=[vy]:=by obtain⟨v,e',_⟩:=hr<;>simp_all
  grind
 cases y<;>try (trivial)
 .exact key hy (by have h:=hy;subst h;rfl)
 .refine key hy ?_;obtain⟨l,_,hv⟩:=hy
  grind [pW]
theorem a3A{ok:Nat->Ty->Prop}{md:M}{xs:List md.den}{Os:List d4F}(ha:yB h md.size (λ_ x es O=>qc h ok md none x es O) xs Os l)(hv:l.view none v):∃es,Jk h md.size v xs.length es/\Bl h ok md xs es Os:=by
 cases l with
 |st b=>cases ha|mp b=>cases ha|nil=>obtain⟨rfl,rfl⟩:=ha;subst hv;exact⟨[],⟨x9,.inl ⟨rfl,none,0,rfl⟩⟩,Bl.nil⟩
 |arr blk off len cap sz=>
  obtain⟨c,T,hb,rfl,rfl,hc,hf,hr⟩:=a5M ha;subst hv;have hle:xs.length*md.size<=cap*md.size:=N9 _ hc;refine⟨_,⟨hr.1,?_⟩,hr⟩;rcases jK xs.length with h0|h0
  .simp_all
  .exact .inr (.inl ⟨blk,off,cap,rfl,h0,nX hb _ _ l7⟩)
theorem WO{xs ys zs:List α}(h:fE xs ys=some zs):xs.length+ys.length<=1073741824/\zs=xs++ys:=by simp_all [fE]
theorem QR(z:Array Value)(n:Nat):(Builtin.zeroCells z n).size=n*z.size:=by simp[Builtin.zeroCells]
theorem SK(H:FxOk X)(R:Rel X (CB*q) (CB*q+CB) S m ok a w)(ht:u.isEnt=false){j:TI}(hu:X.P.underlying t=some (.slice e))(h1:X.P.info? e=some inf)(h2:inf.size=u.size)(h4:inf.bytes<=65536)
  (h5:inf.zero=some z) (hz:z.cells.size=u.size) {xs ys:List u.den} {s v:Value} {sAd:Option Addr} {cap:Nat} {olds es:d4E} (hse:s= .slice sAd xs.length cap)
  (hs:Jk w.heap u.size s xs.length olds) (hv:Jk w.heap u.size v ys.length es) (r1:iK w.heap ok u xs olds) (r2:iK w.heap ok u ys es) (hg:cap<xs.length+ys.length) (hmax:xs.length+ys.length<=1073741824)
  (run:∀r w',(Builtin.append_ #[t,t] o.type #[s,v]).run X.P w= .ok r w' ->(execOp a.eval o).run X.P w= .ok (.value r) w'):
  (xQ (U2 q o.dst) (.barr u (xs++ys)) (gW X.E o.dst (.own (U2 q o.dst) none))).post S (λ_ S' =>kF X (CB*q) (CB*q+CB) o a w m ok S'):=by
 have hrun:=QF (ty:=o.type) hu h1 h5 h4 hse (by rw[h2];omega) (by rw[h2];omega) hg hmax;have hge:=grownCap_ge w (xs.length+ys.length) cap e;have r:=r1.append r2;rw[←J9]at hrun hge;refine RD H R (w1:=w.drew) rfl rfl rfl rfl ht r hge ?_ ?_ (λ_ _ h=>h) (λ_ _ h=>h) (.inl rfl) (run _ _ hrun)
 .have hl:=r.1;simp[Array.size_append,List.size_toArray,hl,QR,hz,←U1];simp_all
 .have hl:=r.1
  grind
theorem SL(H:FxOk X)(R:Rel X (CB*q) (CB*q+CB) S m ok a w)(ht:u.isEnt=false)(hu:X.P.underlying t=some (.slice e))(h1:X.P.info? e=some inf)(h2:inf.size=u.size)(h4:inf.bytes<=65536)
  (h5:inf.zero=some z) (hz:z.cells.size=u.size) {ys:List u.den} {s v:Value} {es:d4E} (hse:s= .slice none 0 0)
  (hv:Jk w.heap u.size v ys.length es) (r2:iK w.heap ok u ys es) (hmax:ys.length<=1073741824)
  (run:∀r w',(Builtin.append_ #[t,t] o.type #[s,v]).run X.P w= .ok r w' ->(execOp a.eval o).run X.P w= .ok (.value r) w'):
  (xQ (U2 q o.dst) (.barr u ys) (gW X.E o.dst (.own (U2 q o.dst) none))).post S (λ_ S' =>kF X (CB*q) (CB*q+CB) o a w m ok S'):=by
 rcases jK ys.length with h0|h0
 .have hy:=P5.1 h0;subst hy;have hrun:=OZ (ty:=o.type) hu h1 (by rw[h2];omega);rw[←hse]at hrun;refine JJ H λn e1 g1 g2 hn=>?_;rw[←e1];generalize CB*q=Z at*;have R' :Rel X Z (Z+CB) (upd S (Z4+n) (.barr u [])) (oV m n .nil []) ok a w:=by
   refine R.lay hn g1 l7 x9 rfl rfl rfl (D5 _) (λ_ _ _=>rfl) (by simp[V5]) (λb hb=>by simp[V5]at hb) ⟨.nil,bu _ _ _ _,rfl,ht⟩
  refine xI H R' (λk l h=>?_) (λ_ _ h=>h) ⟨.nil,bu _ _ _ _,hse⟩ (run _ _ hrun);by_cases ek:k=n
  .subst ek;have:=R.fresh k g1 hn;simp_all
  simp_all [jZ]
 .have:=SK (j:=⟨0,0,.bool,none,[]⟩) H R ht hu h1 h2 h4 h5 hz hse ⟨x9,.inl ⟨rfl,none,0,hse⟩⟩ hv iK.nil r2 l7 (by simp_all) run;simp_all
theorem a8n(H:FxOk X)(R:Rel X (CB*q) (CB*q+CB) S m ok a w){md:M}{j:TI}(hu:X.P.underlying t=some (.slice e))(h1:X.P.info? e=some inf)(h2:inf.size=md.size)(h4:inf.bytes<=65536)
  (h5:inf.zero=some z) (hz:z.cells.size=md.size) {x y:V} {s v:Value} (hx:nU ⟨w.heap,ok,m⟩ x s) (hy:nU ⟨w.heap,ok,m⟩ y v)
  (run:∀r w',(Builtin.append_ #[t,t] o.type #[s,v]).run X.P w= .ok r w' ->(execOp a.eval o).run X.P w= .ok (.value r) w'):
  (exM EO (.owns md) [y] λys _=>exM EO (.owns md) [x] λxs _=>Cmd.opt (fE xs ys) λzs=>xQ (U2 q o.dst) (.barrs md zs none) (gW X.E o.dst (.own (U2 q o.dst) none))).post S (λ_ S' =>kF X (CB*q) (CB*q+CB) o a w m ok S'):=by
 refine XB (T:=[]) R Tk.nil hy λS1 ok1 ys _ O1 R1 T1 k1 s1 g1=>?_;refine XB R1 T1 (RX k1 hx) λS2 ok2 xs _ O2 R2 T2 k2 s2 g2=>?_;have k12:∀b t,ok b t->ok2 b t:=λb t h=>k2 b t (k1 b t h);have g1:=jS k2 (λ_ _ _=>rfl) (λ_ _=>rfl) g1;obtain⟨hel,ly,vy,Oy,ey,hvy,hay,rfl⟩:=BK.1 g1;obtain⟨_,lx,vx,Ox,ex,hvx,hax,rfl⟩:=BK.1 g2;simp only[J3,and_true]at ey ex;subst ey;subst ex;refine gG λzs hzs=>?_;obtain⟨hmax,rfl⟩:=WO hzs;obtain⟨es,hv,ry⟩:=a3A hay hvy;obtain⟨olds,hs,rx⟩:=a3A hax hvx;have hnd2:=T2.nodup;have rr:=rx.append ry;have hT3:∀b∈(Ox++Oy).flatten,b∈[]++(ly.blks++Oy.flatten)++(lx.blks++Ox.flatten):=λb hb=>by
  simp only[ng,D6]at hb ⊢;rcases hb with hb|hb
  .exact .inr (.inr hb)
  .exact .inl (.inr (.inr hb))
 have hnd3:(Ox++Oy).flatten.Nodup:=by rw[ng];have h:=H8.1 hnd2;simp only[P6]at h;refine H8.2 ⟨(H8.1 h.2.1).2.1,(H8.1 h.1).2.1,λp hp r hr e=>h.2.2 r (by simp[hr]) p (by simp[hp]) e.symm⟩
 have fresh:∀{sAd:Option Addr} {cap:Nat},s= .slice sAd xs.length cap->cap<xs.length+ys.length->(xQ (U2 q o.dst) (.barrs md (xs++ys) none) (gW X.E o.dst (.own (U2 q o.dst) none))).post S2 (λ_ S' =>kF X (CB*q) (CB*q+CB) o a w m ok S'):=λ{sAd cap} hse hg=>by
  have hrun:=QF (P:=X.P) (w:=w) (t:=t) (ty:=o.type) hu h1 h5 h4 (s:=s) (v:=v) hse (by rw[h2];exact hs) (by rw[h2];exact hv) hg hmax;have hge:=grownCap_ge w (xs.length+ys.length) cap e;rw[←J9]at hrun hge;refine a0e H R2 T2 (w1:=w.drew) rfl rfl rfl rfl hel rr hnd3 hT3 hge ?_ ?_ (λ_ _ h=>h) k12 (run _ _ hrun)
  .have hl:=rr.1;simp only[Array.size_append,List.size_toArray,hl,QR,hz,←U1];exact N9 _ l7
  .have hl:=rr.1;simp only[Array.toList_append];rw[List.take_append_of_le_length (by rw[hl];exact D5 _),←hl];exact V7
 cases lx with
 |st b=>cases hax|mp b=>cases hax|nil=>
  obtain⟨rfl,rfl⟩:=hax;simp only[Loc.view]at hvx;rcases jK ys.length with h0|h0
  .have hy0:ys=[]:=P5.1 h0;subst hy0;have hO0:Oy=[]:=P5.1 ry.2.1;subst hO0;have hrun:=OZ (P:=X.P) (w:=w) (t:=t) (ty:=o.type) hu h1 (v:=v) (by rw[h2];exact hv);rw[←hvx]at hrun;refine JJ H λn e1 g1 g2 hn=>?_;rw[←e1];clear e1;generalize CB*q=Z at*;have R' :Rel X Z (Z+CB) (upd S2 (Z4+n) (.barrs md ([]++[]) none)) (oV m n .nil []) ok2 a w:=by
    refine R2.lay hn g1 (by show n<Z+1000000;change n+64<=Z+1000000 at g2;omega) x9 rfl rfl rfl (D5 _) (λ_ _ _=>rfl) (by simp[V5]) (λb hb=>by simp[V5]at hb) ⟨hel,.nil,[],bu _ _ _ _,⟨⟨rfl,rfl⟩,trivial⟩,x9⟩
   refine xI H R' (λk l h=>?_) k12 ⟨.nil,bu _ _ _ _,hvx⟩ (run _ _ hrun);by_cases ek:k=n
   .subst ek;have:=R2.fresh k g1 hn;rw[this]at h;cases h
   .rw[jZ _ _ _ ek];exact h
  .exact fresh (sAd:=none) (cap:=0) hvx (by simpa using h0)
 |arr blk off len cap sz=>
  obtain⟨c,T,hb,rfl,rfl,hcap,hfit,r1⟩:=a5M hax;simp only[Loc.view]at hvx;by_cases hroom:xs.length+ys.length<=cap
  .have hrun:=TA (P:=X.P) (w:=w) (t:=t) (ty:=o.type) (off:=off) (cap:=cap) hu h1 hb (.inl rfl) (v:=v) (n:=ys.length) (es:=es) (by simp_all) ry.one_cell hroom (by simp_all);rw[←hvx]at hrun;obtain⟨q1,q2,q3,q4⟩:=T2.free blk (by simp[Loc.blks]);have hle:(xs.length+ys.length)*md.size<=cap*md.size:=N9 _ hroom;rw[U1]at hle;have hesl:=hv.1;have hcl:c.toList.length=c.size:=rfl;have hsp:(eU (off+xs.length*md.size) es c.toList).length=c.size:=by grind [CW]
   have hblk:∀b∈(Ox++Oy).flatten,b≠blk:=λb hbm e=>by
    grind [Loc.blks]
   refine JJ H λn e1 g1 g2 hn=>?_;rw[←e1];clear e1;generalize CB*q=Z at*;have hoth:∀b,b≠blk->(w.setRow blk (eU (off+xs.length*md.size) es c.toList).toArray).heap[b]? =w.heap[b]?:=λb hb=>setRow_other w blk b _ hb;have hown1:V5 (oV m n (.arr blk off (xs.length+ys.length) cap md.size) (Ox++Oy).flatten) n (.barrs md (xs++ys) none)=blk::(Ox++Oy).flatten:=by simp[V5]
   have R' :Rel X Z (Z+CB) (upd S2 (Z4+n) (.barrs md (xs++ys) none)) (oV m n (.arr blk off (xs.length+ys.length) cap md.size) (Ox++Oy).flatten) ok2 a (w.setRow blk (eU (off+xs.length*md.size) es c.toList).toArray):=by
    refine R2.lay hn g1 l7 x9 rfl rfl rfl x9 (λb _ hne=>hoth b (λe=>hne (by simp_all))) (by grind) (λb hbb=>?_) ⟨hel,_,Ox++Oy,bu _ _ _ _,?_,x9⟩
    .rw[hown1]at hbb;obtain⟨q1,q2,q3,q4⟩:=T2.free b (by
      grind [Loc.blks])
     simp_all
    .refine⟨?_,trivial⟩;have:=Bl.arrs (h:=(w.setRow blk (eU (off+xs.length*md.size) es c.toList).toArray).heap) (ok:=ok2) (cs:=((c.toList.drop off).take (xs.length*md.size))++es) (cap:=cap) (off:=off) ((r1.append ry).mono (λ_ _ h=>h) (λb t hb=>hoth b (λe=>q1 t (e▸hb))) (λb hb=>hoth b (hblk b hb))) (setRow_heap w blk c _ T (0,0) hb) (by simp_all) (by simp_all) ?_
     .rw[J9]at this;exact this
     .simp only[J9,U1];rw[Xq (n:=xs.length*md.size+ys.length*md.size) l7 l7];simp_all [eU,List.take_take]
   refine xI H R' (λk l h=>?_) k12 ⟨_,bu _ _ _ _,rfl⟩ (run _ _ (by simp_all));by_cases ek:k=n
   .subst ek;have:=R2.fresh k g1 hn;simp_all
   simp_all [jZ]
  .simp_all
theorem a0M{w:World}{t t' ty e:TypeId}{i:TypeInfo}(ht:P.underlying t=some (.slice e))(hs:P.underlying t' =some .string)(hi:P.info? e=some i){s:Value}{b:ByteArray} :
  (Builtin.append_ #[t,t'] ty #[s,.string b]).run P w=(Builtin.append_ #[t,t] ty #[s,.string b]).run P w:=by
 cases s<;>simp[Builtin.append_,run_underlying ht,run_underlying hs,sizeOf,typeInfo,hi]
theorem Zu(H:FxOk X)(R:Rel X (CB*q) (CB*q+CB) S m ok a w){p:Operand}{x:V}{j:TI}(ht:u.isEnt=false)(hu:X.P.underlying t=some (.slice e))(h1:X.P.info? e=some inf)(h2:inf.size=u.size)(h4:inf.bytes<=65536)
  (h5:inf.zero=some z) (hz:z.cells.size=u.size) (hx:nU ⟨w.heap,ok,m⟩ x (a.eval p)) {ys:List u.den} {v:Value} {es:d4E} (hv:Jk w.heap u.size v ys.length es) (r2:iK w.heap ok u ys es)
  (run:∀r w',(Builtin.append_ #[t,t] o.type #[a.eval p,v]).run X.P w= .ok r w' ->(execOp a.eval o).run X.P w= .ok (.value r) w'):
  (YF (U2 q o.dst) u x ys λv=>gW X.E o.dst v).post S (λ_ S' =>kF X (CB*q) (CB*q+CB) o a w m ok S'):=by
 unfold YF;split<;>try trivial
 ·
  refine gG λzs hzs=>?_;obtain⟨hmax,rfl⟩:=WO hzs;have hx' :a.eval p= .slice none 0 0:=hx;exact SL H R ht hu h1 h2 h4 h5 hz hx' hv r2 l7 run
 .rename_i bx vw;obtain⟨loc,hm,hview⟩:=hx;refine aO ?_;split<;>try trivial
  rename_i u' xs hS;refine iw λeu=>?_;subst eu;refine gG λzs hzs=>iP ?_;obtain⟨hmax,rfl⟩:=WO hzs;obtain⟨loc',hm',ha⟩:=R.own_arr hS;rw[hm]at hm';cases hm';have R1:=R.kill bx;obtain⟨a1,a2,a3⟩:=Nq ha hview;generalize hl2:OG loc vw=l2 at*;generalize lF vw xs=xs' at*;cases l2 with
  |st b=>cases a1|mp b=>exact absurd a1.1 (by grind)|nil=>obtain⟨a1,_⟩:=a1;subst a1;simp;exact SL H R1 ht hu h1 h2 h4 h5 hz a2 hv r2 l7 run
  |arr blk off len cap sz=>
   obtain⟨c,T,f,hb,hfz,rfl,rfl,hcap,hfit,r1⟩:=a2a a1;simp at hb r1;by_cases hroom:xs'.length+ys.length<=cap
   ·
    have hrun:=TA (ty:=o.type) (off:=off) hu h1 hb hfz.of (v:=v) (by simp_all) r2.one_cell hroom (by simp_all);rw[←a2]at hrun;have hown:V5 m bx (S (Z4+bx))=[blk]:=by
     cases loc with
     |nil=>grind [Loc.blks]|st _=>cases ha|mp b=>exact absurd ha.1 (by grind)|arr b2 _ _ _ _=>simp_all [Loc.blks,V5]
    obtain⟨s1,s2,s3⟩:=R.sep bx blk (by simp_all);have hle:(xs'.length+ys.length)*u'.size<=cap*u'.size:=N9 _ hroom;rw[U1]at hle;have hel:=hv.1;have hcl:c.toList.length=c.size:=rfl;have hsp:(eU (off+xs'.length*u'.size) es c.toList).length=c.size:=by grind [CW]
    refine JJ H λn e1 g1 g2 hn=>?_;rw[←e1];generalize CB*q=Z at*;have hkeep:∀b t,ok b t->(w.setRow blk (eU (off+xs'.length*u'.size) es c.toList).toArray).heap[b]? =w.heap[b]?:=λb t hb=>setRow_other w blk b _ (λe=>s1 t (e▸hb));have R' :Rel X Z (Z+CB) (upd (upd S (Z4+bx) .dead) (Z4+n) (.barr u' (xs' ++ys))) (oV m n (.arr blk off (xs'.length+ys.length) cap u'.size) []) ok a (w.setRow blk (eU (off+xs'.length*u'.size) es c.toList).toArray):=by
     refine R1.lay hn g1 l7 x9 rfl rfl rfl x9 (λb _ hne=>?_) (by simp[V5]) (λb hbb=>?_) ⟨_,bu _ _ _ _,?_⟩
     .refine setRow_other w blk b _ (λe=>hne ?_)<;>simp_all [V5]
     .simp[V5]at hbb;subst hbb;refine⟨s1,by simp_all,s3,λk e=>?_⟩;obtain⟨k1,k2⟩:=Ed rfl e;exact k1 (R.inj k bx b k2 (by simp_all))
     .rw[←J9];refine iK.arrOk ht (cs:=((c.toList.drop off).take (xs'.length*u'.size))++es) ((r1.append r2).mono (λ_ _ h=>h) hkeep) (setRow_heap w blk c _ T f hb) (by simp_all) (by simp_all) (by simp_all) ?_;simp[J9,U1];rw[Xq l7 l7];simp_all [eU,List.take_take]
    refine xI H R' (λk l h=>?_) (λ_ _ h=>h) ⟨_,bu _ _ _ _,rfl⟩ (run _ _ (by simp_all))
    .by_cases ek:k=n
     .subst ek;have:=R1.fresh k g1 hn;simp_all
     simp_all [jZ]
   .obtain⟨olds,q1,q2⟩:=a1j (C:=⟨w.heap,ok,m⟩) ht a1 a2;exact SK (j:=j) H R1 ht hu h1 h2 h4 h5 hz a2 q1 hv q2 r2 l7 hmax run
theorem b3Q(H:FxOk X)(R:Rel X (CB*q) (CB*q+CB) S m ok a w){c:Call}(ho:o.op= .call c)(hc:c.callee= .builtin .append):(fM X.E q o).post S (λ_ S' =>kF X (CB*q) (CB*q+CB) o a w m ok S'):=by
 obtain⟨cal,args,ats⟩:=c;subst hc;unfold fM;simp[ho];refine mF R _ λvs hvs=>?_;split<;>try trivial
 rename_i t t' x y hat
 obtain⟨u1,r,he,hx,u2,r',he',hy,hr⟩:=hvs;subst hr;rw[he']at he;obtain⟨p,p',rfl,rfl,rfl⟩:=a6C he;cases htt:Nat.beq t t'
 ·
  split<;>try trivial
  rename_i l;refine nH H λi hi=>?_;have hd:=hi.td;split<;>try trivial
  rename_i htd;rw[htd]at hd;unfold b1l;split<;>try trivial
  rename_i e het;obtain⟨j,z,inf,hu,hj,h1,h2,h3,h4,h5,h6⟩:=DT H het;have hz:=by have:=iO h6;omega
  split<;>try trivial
  have hats:ats=#[t,t']:=by
   grind
  have hs:a.eval p' = .string ⟨l.toArray⟩:=hy;refine Zu (j:=j) H R (ND het) hu h1 h2 h4 h5 hz hx (v:=.string ⟨l.toArray⟩) (es:=Lib.strCells ⟨l.toArray⟩) ?_ ?_ ?_
  .refine⟨?_,.inr (.inr ⟨_,rfl,?_,rfl⟩)⟩<;>simp_all [Lib.strCells_length,a1x,Ty.size,ByteArray.size]
  .refine⟨by simp[Lib.strCells_length,a1x,Ty.size,ByteArray.size],λi x hi=>?_⟩;show(((Lib.strCells ⟨l.toArray⟩).drop (i*1)).take 1)=[.int .u8 x]
   grind [a1x,Lib.strCells,List.drop_eq_getElem_cons]
  .intro r w' h;rw[←a0M hu hd h1]at h;simp_all [execOp,resolve,invoke,builtin]
 simp;have htt' :=ik htt;have hats:ats=#[t,t]:=by
  grind
 have run:∀(s v:Value),a.eval p=s->a.eval p' =v->∀r w',(Builtin.append_ #[t,t] o.type #[s,v]).run X.P w= .ok r w' ->(execOp a.eval o).run X.P w= .ok (.value r) w' :=λs v e1 e2 r w' h=>by simp_all [execOp,resolve,invoke,builtin]
 unfold b1k;split
 .trivial
 rename_i e u het;obtain⟨j,z,inf,hu,hj,h1,h2,h3,h4,h5,h6⟩:=DT H het;have hz:z.cells.size=u.size:=by have:=iO h6;omega
 split
 rotate_left
 .refine bP λhms=>?_;have hms:=ik hms;exact a8n (j:=j) H R hu h1 l7 h4 h5 l7 hx hy (run _ _ rfl rfl)
 have ht:=ND het;refine a1K R ht hy λys es hv r2=>?_;exact Zu (j:=j) H R ht hu h1 h2 h4 h5 hz hx hv r2 (run _ _ rfl rfl)
theorem a1c{α:Type}{Q:α->Sm->Prop}{S:Sm}{C:Cx}{u:Ty}(hf:u.flat=true):∀(n:Nat) {cs:List V} {vs:d4E} {K:List u.den->Cmd α},jc C cs vs->
  (∀xs,xs.length=n->iK C.h C.ok u xs vs->(K xs).post S Q)->(a7Y u n cs K).post S Q
 |0,cs,vs,K,hL,hK=>by
  unfold a7Y;cases cs with
  |nil=>simp_all [jc,iK.nil]|cons _ _=>trivial
 |n+1,cs,vs,K,hL,hK=>by refine Le u hf hL λx r us us' e hr hL' =>?_;refine a1c hf n hL' λxs hl hxs=>?_;subst e;exact hK (x::xs) (by grind) ((iK.one (hr C.h C.ok)).append hxs)
theorem b6J(H:FxOk X)(R:Rel X (CB*q) (CB*q+CB) S m ok a w){lo hi:Option Operand}(ho:o.op= .slice t x lo hi none):(fM X.E q o).post S (λ_ S' =>kF X (CB*q) (CB*q+CB) o a w m ok S'):=by
 refine b3V H R ho λbx hlo hhi hx=>?_;subst hlo;subst hhi;obtain⟨blk,hm,hx⟩:=hx;refine nH H λi hi=>?_;have htd:=hi.td;split<;>try trivial
 rename_i n e hd;rw[hd]at htd;have hut:=htd;refine nH H λj hj=>?_;split<;>try trivial
 rename_i u hju;refine bP λhf=>aO ?_;split<;>try trivial
 rename_i cs hS;obtain⟨blk',arr,T,hm',hh,hl⟩:=R.own_cells hS;rw[hm]at hm';cases hm';refine a1c hf n hl λxs hlen hr=>iP ?_;have ht:u.isEnt=false:=by cases u<;>first|rfl|(cases hf)
 have hown:V5 m bx (S (Z4+bx))=[blk]:=by simp_all [V5]
 obtain⟨s1,s2,s3⟩:=R.sep bx blk (by simp_all);have R1:=R.kill bx;refine JJ H λnn e1 g1 g2 hn=>?_;rw[←e1];generalize CB*q=Z at*;have hsz:=hr.1;have R' :Rel X Z (Z+CB) (upd (upd S (Z4+bx) .dead) (Z4+nn) (.barr u xs)) (oV m nn (.arr blk 0 xs.length xs.length u.size) []) ok a w:=by
  refine R1.lay hn g1 l7 x9 rfl rfl rfl (D5 _) (λ_ _ _=>rfl) (by simp[V5]) (λb hbb=>?_) ⟨_,bu _ _ _ _,?_⟩
  .simp[V5]at hbb;subst hbb;refine⟨s1,s2,s3,λk e=>?_⟩;obtain⟨k1,k2⟩:=Ed rfl e;exact k1 (R.inj k bx b k2 (by simp_all))
  .refine iK.arrOk ht hr hh (.inl rfl) (D5 _) (by rw[←hsz];simp) ?_<;>simp_all [bV]
 refine xI H R' (λk l h=>?_) (λ_ _ h=>h) ⟨_,bu _ _ _ _,by rw[hlen];rfl⟩ ?_
 .by_cases ek:k=nn
  .subst ek;have:=R1.fresh k g1 hn;simp_all
  simp_all [jZ]
 .have hb:=JW (P:=X.P) (w:=w) (isS:=false) (y:=n) (.inl ⟨rfl,rfl⟩) (.inl ⟨rfl,rfl⟩) l7 l7 l7 (D5 _);simp[execOp,ho,hx,Instr.sliceAt,run_underlying hut,Instr.sureAddr,hb,yT hj,kL]
theorem a9q(H:FxOk X)(R:Rel X (CB*q) (CB*q+CB) S m ok a w){src t:TypeId}(ho:o.op= .convert src t x):
  (fM X.E q o).post S (λ_ S' =>kF X (CB*q) (CB*q+CB) o a w m ok S'):=by
 refine a6W H R ho λl hl hsrc=>?_;unfold b5x;split<;>try trivial
 rename_i e het;obtain⟨j,z,inf,hu,hj,h1,h2,h3,h4,h5,h6⟩:=DT H het;refine nH H λk hk=>?_;have hkd:=hk.td;split<;>try trivial
 rename_i hke;rw[hke]at hkd;have hrun:=run_bytes_of_string w src t e ⟨l.toArray⟩ hsrc hu hkd;have hsz:(⟨l.toArray⟩:ByteArray).size=l.length:=by simp[ByteArray.size]
 have hge:=grownCap_ge w (⟨l.toArray⟩:ByteArray).size 0 e;generalize hcap:grownCap w (⟨l.toArray⟩:ByteArray).size 0 e=cap at*;have hll:(a1x l).length=l.length:=by simp[a1x]
 refine RD H R (w1:=w.drew) (e:=e) (cap:=cap) (c:=bytesRow ⟨l.toArray⟩ cap) (cs:=Lib.strCells ⟨l.toArray⟩) rfl rfl rfl rfl rfl ?_ ?_ ?_ ?_ (λ_ _ h=>h) (λ_ _ h=>h) (.inr ⟨rfl,rfl⟩) ?_
 .refine⟨by simp[Lib.strCells_length,a1x,Ty.size,ByteArray.size],λi x hi=>?_⟩;show(((Lib.strCells ⟨l.toArray⟩).drop (i*1)).take 1)=[.int .u8 x]
  grind [a1x,Lib.strCells,List.drop_eq_getElem_cons]
 all_goals simp_all [Ty.size,bytesRow,Lib.strCells,execOp]
end
def uY{α β:Type}(eq:α->α->Bool):List (α×β)->α->Option Nat
 |[],_=>none|p::r,k=>bif eq k p.1 then some 0 else(uY eq r k).map (·+1)
theorem NQ{α β:Type}{eq:α->α->Bool} :∀{xs:List (α×β)} {k:α} {i:Nat},uY eq xs k=some i->∃p,xs[i]? =some p/\eq k p.1=true
 |[],_,_,h=>by cases h|p::r,k,i,h=>by
  unfold uY at h;cases he:eq k p.1<;>rw[he]at h
  .simp at h;obtain⟨j,h1,rfl⟩:=h;obtain⟨q,h2,h3⟩:=NQ h1;exact⟨q,by simpa using h2,h3⟩
  .cases h;exact⟨p,rfl,he⟩
theorem Y_{α β:Type}(eq:α->α->Bool):∀(xs:List (α×β)) (k:α) (z:β),b1P eq xs k z=(match uY eq xs k with|some i=>(match xs[i]? with|some p=>p.2|none=>z)|none=>z)
 |[],_,_=>rfl|p::r,k,z=>by
  unfold b1P uY;cases he:eq k p.1
  .rw[Y_ eq r k z]
   grind
  .rfl
variable {β:Type}
theorem b3E(eq:α->α->Bool):∀(xs:List (α×β)) (k:α) (z:β),Pv eq xs k z=(match uY eq xs k with|some i=>(match xs[i]? with|some p=>p.2|none=>z)|none=>z):=
 Y_ eq
theorem Z_{α β:Type}(eq:α->α->Bool):∀(xs:List (α×β)) (k:α),b1Q eq xs k=(uY eq xs k).isSome
 |[],_=>rfl|p::r,k=>by
  unfold b1Q uY;cases he:eq k p.1
  .rw[Z_ eq r k];cases uY eq r k<;>simp
  .rfl
theorem b3F(eq:α->α->Bool):∀(xs:List (α×β)) (k:α),c0F eq xs k=(uY eq xs k).isSome:=
 Z_ eq
theorem a0d{α β:Type}(eq:α->α->Bool):∀(xs:List (α×β)) (k:α) (x:β),b1V eq xs k x=(match uY eq xs k with|some i=>xs.set i (k,x)|none=>xs++[(k,x)])
 |[],_,_=>rfl|p::r,k,x=>by
  unfold b1V uY;cases he:eq k p.1
  .rw[a0d eq r k x];cases uY eq r k<;>simp
  .rfl
theorem a2N(eq:α->α->Bool):∀(xs:List (α×β)) (k:α) (x:β),SG eq xs k x=(match uY eq xs k with|some i=>xs.set i (k,x)|none=>xs++[(k,x)]):=
 a0d eq
theorem YJ:∀{k:Ty} (hf:k.flat=true) (a b:k.den),keq k a b=true↔a=b
 | .bool,_,a,b=>by simp[keq,ji]| .int _,_,a,b=>by simp[keq,x8]| .str,_,a,b=>by simp[keq,seq]| .unit,_,a,b=>⟨λ_=>rfl,λ_=>rfl⟩| .prod p q,hf,a,b=>by simp[Ty.flat,A7]at hf;simp[keq,fF,A7,YJ hf.1,YJ hf.2];exact⟨λh=>Z7 h.1 h.2,λh=>by subst h;exact⟨rfl,rfl⟩⟩| .sl _,hf,_,_=>by cases hf| .ent ..,hf,_,_=>by cases hf
theorem YU{h h' :Array Obj}{ok ok' :Nat->Ty->Prop} :∀{t:Ty} (hf:t.flat=true) {x:t.den} {c d:d4E},oq h ok t x c->oq h' ok' t x d->c=d
 | .bool,_,_,_,_,h1,h2=>by simp_all [oq]| .int _,_,_,_,_,h1,h2=>by simp_all [oq]| .str,_,_,_,_,h1,h2=>by simp_all [oq]| .unit,_,_,_,_,h1,h2=>by simp_all [oq]| .prod p q,hf,_,_,_,h1,h2=>by simp[Ty.flat,A7]at hf;obtain⟨a,b,rfl,a1,a2⟩:=h1;obtain⟨a',b',rfl,b1,b2⟩:=h2;rw[YU hf.1 a1 b1,YU hf.2 a2 b2]
 | .sl _,hf,_,_,_,_,_=>by cases hf| .ent ..,hf,_,_,_,_,_=>by cases hf
theorem a4P{h h' :Array Obj}{ok ok' :Nat->Ty->Prop} :∀{t:Ty} (hf:t.flat=true) {x y:t.den} {c:d4E},oq h ok t x c->oq h' ok' t y c->x=y
 | .bool,_,_,_,_,h1,h2=>by simp_all [oq]| .int _,_,_,_,_,h1,h2=>by simp_all [oq]| .str,_,_,_,_,h1,h2=>by simp_all [oq]| .unit,_,_,_,_,_,_=>rfl| .prod p q,hf,_,_,_,h1,h2=>by simp[Ty.flat,A7]at hf;obtain⟨a,b,rfl,a1,a2⟩:=h1;obtain⟨a',b',e,b1,b2⟩:=h2;obtain⟨rfl,rfl⟩:=List.append_inj e ((iO a1).trans (iO b1).symm);exact Z7 (a4P hf.1 a1 b1) (a4P hf.2 a2 b2)
 | .sl _,hf,_,_,_,_,_=>by cases hf| .ent ..,hf,_,_,_,_,_=>by cases hf
theorem Xh{h:Array Obj}{ok:Nat->Ty->Prop} :∀{k:Ty} (hf:k.flat=true) {x:k.den} {c:d4E},oq h ok k x c->∀{sh:List Ty} {d:d4E},mf sh d->mf (k.leaves++sh) (c++d)
 | .bool,_,x,_,h1,_,_,hd=>by subst h1;exact⟨_,_,rfl,hd⟩| .int _,_,x,_,h1,_,_,hd=>by subst h1;exact⟨_,_,rfl,hd⟩| .str,_,x,_,h1,_,_,hd=>by subst h1;exact⟨_,_,rfl,hd⟩| .unit,_,x,_,h1,_,_,hd=>by subst h1;exact hd| .prod p q,hf,_,_,h1,_,_,hd=>by simp[Ty.flat,A7]at hf;obtain⟨a,b,rfl,a1,a2⟩:=h1;simp[Ty.leaves,G7];exact Xh hf.1 a1 (Xh hf.2 a2 hd)
 | .sl _,hf,_,_,_,_,_,_=>by cases hf| .ent ..,hf,_,_,_,_,_,_=>by cases hf
theorem a3k:∀{a b:List Ty},Xk a b=true->a=b
 |[],[],_=>rfl|[],_::_,h=>by cases h|_::_,[],h=>by cases h|a::r,b::q,h=>by
  unfold Xk at h;cases hb:Ty.beq a b<;>rw[hb]at h
  .cases h
  .rw[Ty.beq_eq hb,a3k (show Xk r q=true from h)]
def Fv(ag:Bool)(k:Ty)(x:k.den)(kv:Value):Prop:=gok ag kv/\oq #[] (λ_ _=>False) k x (uo ag kv)
variable {ag:Bool}
theorem a8T{u v:Value}(hu:gok ag u)(hv:gok ag v)(h:uo ag u=uo ag v):u=v:=by
 cases ag
 .simp_all [uo]
 .obtain⟨a,rfl⟩:=hu;obtain⟨b,rfl⟩:=hv;have:a.toList=b.toList:=h;simp_all
variable {k:Ty}
theorem Fv.det(hf:k.flat=true){x:k.den}{u v:Value}(h1:Fv ag k x u)(h2:Fv ag k x v):u=v:=
 a8T h1.1 h2.1 (YU hf h1.2 h2.2)
theorem TB:∀(v:Value),(∃b,v= .bool b)\/(∃k n,v= .int k n)\/(∃s,v= .string s)->∀n,Instr.sameBits n v v=true:=by
 grind [Instr.sameBits,MapKept.bytes_beq]
theorem Xg{h:Array Obj}{ok:Nat->Ty->Prop} :∀{k:Ty} (hf:k.flat=true) {x:k.den} {c:d4E},oq h ok k x c->∀v∈c,(∃b,v= .bool b)\/(∃k n,v= .int k n)\/(∃s,v= .string s)
 | .bool,_,x,_,h1,v,hv=>by simp_all [oq]| .int _,_,x,_,h1,v,hv=>by simp_all [oq]| .str,_,x,_,h1,v,hv=>by simp_all [oq]| .unit,_,x,_,h1,v,hv=>by simp_all [oq]| .prod p q,hf,_,_,h1,v,hv=>by
  simp[Ty.flat,A7]at hf;obtain⟨a,b,rfl,a1,a2⟩:=h1;rcases D6.1 hv with hv|hv
  .exact Xg hf.1 a1 v hv
  .exact Xg hf.2 a2 v hv
 | .sl _,hf,_,_,_,_,_=>by cases hf| .ent ..,hf,_,_,_,_,_=>by cases hf
theorem Fv.stays{w:World}(hf:k.flat=true){x:k.den}(h:Fv ag k x v):(Instr.keyThatStays v v).run P w= .ok v w:=by
 have hs:Instr.sameBits 10000 v v=true:=by
  have hc:=Xg hf h.2;cases ag
  .simp_all [TB,uo]
  .obtain⟨arr,rfl⟩:=h.1;simp only[Instr.sameBits,beq_self_eq_true,qO,kG];intro p hp;obtain⟨i,hi,e⟩:=Y5 hp;rw[List.getElem_zip]at e;rw[←e];exact TB _ (hc _ (P8 _)) _
 simp[Instr.keyThatStays,hs]
variable {M:MT}
section
variable {X:Fx} {cl ch:Nat} {S:Sm} {m:Mp} {ok:Nat->Ty->Prop} {a:Act} {w:World} {T:d4F} {o:Oper}
theorem G_(H:FxOk X){ke:Nat}{i:TI}(hi:TiOk X.P ke i)(hk:a6y X.E ke i.td k=true)(hf:k.flat=true){x:k.den}{u:Value}(hu:Fv (dX i.td) k x u)(w:World):
  (∀em,(Instr.checkKey em 10000 ke u).run X.P w= .ok () w)/\
  ∀{β:Type} (es:List MapEntry) (xs:List (k.den×β)),es.length=xs.length->(∀(j:Nat) (p:k.den×β),xs[j]? =some p->∃e:MapEntry,es[j]? =some e/\Fv (dX i.td) k p.1 e.key)->
   (Instr.findKey ke u es).run X.P w= .ok ((uY (keq k) xs x).bind λj=>(es[j]?).map λe=>(j,e.val)) w:=by
 have htd:=hi.td;have scal:∀d,X.P.underlying ke=some d->dX i.td=false->(∀y v,Fv (dX i.td) k y v->Instr.sameNow d u v=some (keq k x y))->
   ∀{β:Type} (es:List MapEntry) (xs:List (k.den×β)),es.length=xs.length->(∀(j:Nat) (p:k.den×β),xs[j]? =some p->∃e:MapEntry,es[j]? =some e/\Fv (dX i.td) k p.1 e.key)->
   (Instr.findKey ke u es).run X.P w= .ok ((uY (keq k) xs x).bind λj=>(es[j]?).map λe=>(j,e.val)) w:=by
  intro d hd _ hs β es xs hl he;refine MapKept.run_findKey hd ?_;have:∀(es:List MapEntry) (xs:List (k.den×β)) (n:Nat),es.length=xs.length->(∀(j:Nat) (p:k.den×β),xs[j]? =some p->∃e:MapEntry,es[j]? =some e/\Fv (dX i.td) k p.1 e.key)->
    Instr.findNow d u es n=some ((uY (keq k) xs x).bind λj=>(es[j]?).map λe=>(n+j,e.val)):=by
   intro es;induction es with
   |nil=>
    intro xs n hl he;cases xs with
    |nil=>rfl|cons _ _=>cases hl
   |cons e es ih=>
    intro xs n hl he;cases xs with
    |nil=>cases hl|cons p xs=>
     obtain⟨e',h1,h2⟩:=he 0 p rfl;simp only[di,E9]at h1;subst h1;unfold Instr.findNow uY;rw[hs _ _ h2];cases hq:keq k x p.1
     .simp only[cond_false];rw[ih xs (n+1) (by simpa using hl) (λj q hj=>by simpa using he (j+1) q (by simpa using hj))];cases uY (keq k) xs x with
      |none=>rfl|some j=>simp[jm,Nat.add_comm 1 j]
     .simp
  simpa using this es xs 0 hl he
 have one:∀{v:Value} {y:k.den},dX i.td=false->Fv (dX i.td) k y v->oq #[] (λ_ _=>False) k y [v]:=λha h=>by have:=h.2;rw[ha]at this;exact this
 unfold a6y at hk;split at hk
 .rename_i htd';rw[htd']at htd;have ha:dX i.td=false:=by rw[htd'];rfl
  have hu1:=one ha hu;simp only[oq,J3,and_true]at hu1;subst hu1;refine⟨λem=>vM htd (by simp[MapKept.IsKey]) em 9999,scal _ htd ha λy v hv=>?_⟩;have hv1:=one ha hv;simp only[oq,J3,and_true]at hv1;subst hv1;rfl
 .rename_i p q htd';have:=of_decide_eq_true hk;subst this;rw[htd']at htd;have ha:dX i.td=false:=by rw[htd'];rfl
  have hu1:=one ha hu;simp only[oq,J3,and_true]at hu1;subst hu1;refine⟨λem=>vM htd (by simp[MapKept.IsKey]) em 9999,scal _ htd ha λy v hv=>?_⟩;have hv1:=one ha hv
  grind [oq,Instr.sameNow,keq,x8]
 .rename_i htd';rw[htd']at htd;have ha:dX i.td=false:=by rw[htd'];rfl
  have hu1:=one ha hu;simp only[oq,J3,and_true]at hu1;subst hu1;refine⟨λem=>vM htd (by simp[MapKept.IsKey]) em 9999,scal _ htd ha λy v hv=>?_⟩<;>grind [oq,Instr.sameNow,keq,seq,MapKept.bytes_beq]
 .rename_i k _ _ fs htd';cases hkf:k.flat<;>rw[hkf]at hk
  .grind
  simp only[cond_true]at hk;cases hq:fZ X.E.eqs ke with
  |none=>simp_all|some sh=>
  rw[hq]at hk;have hsh:=a3k (show Xk sh k.leaves=true from hk);subst hsh;obtain⟨⟨fields,hund⟩,hks⟩:=(H.eqs ke _ hq).2;have ha:dX i.td=true:=by rw[htd'];rfl
  rw[ha]at hu;obtain⟨xs0,rfl⟩:=hu.1;have shp:∀{y:k.den} {arr:Array Value},Fv true k y (.agg arr)->mf k.leaves arr.toList:=λ{y arr} h=>by have:=Xh hf (show oq #[] (λ_ _=>False) k y arr.toList from h.2) (sh:=[]) (d:=[]) rfl;simp_all
  obtain⟨c1,c2⟩:=hks w xs0 (shp hu);refine⟨c1,λ{β} es xs hl he=>?_⟩;rw[run_findKey_eq w (by grind)];rw[ha]at he;have:∀(es:List MapEntry) (xs:List (k.den×β)) (n:Nat),es.length=xs.length->(∀(j:Nat) (p:k.den×β),xs[j]? =some p->∃e:MapEntry,es[j]? =some e/\Fv true k p.1 e.key)->
    (Instr.findAsking ke (.agg xs0) es n).run X.P w= .ok ((uY (keq k) xs x).bind λj=>(es[j]?).map λe=>(n+j,e.val)) w:=by
   intro es;induction es with
   |nil=>
    intro xs n hl he;cases xs with
    |nil=>rfl|cons _ _=>grind
   |cons e es ih=>
    intro xs n hl he;cases xs with
    |nil=>grind|cons p xs=>
     obtain⟨e',h1,h2⟩:=he 0 p rfl;simp only[di,E9]at h1;subst h1;obtain⟨ys,hys⟩:=h2.1;rw[hys]at h2;obtain⟨r,hr,hre⟩:=c2 ys (shp h2);have hrq:r=keq k x p.1:=by
      rw[Bool.eq_iff_iff,hre,YJ hf];constructor
      .intro h;have h3:=h2.2;rw[show uo true (Value.agg ys)=ys.toList from rfl,←h]at h3;exact a4P hf hu.2 h3
      .intro h;have h3:=h2.2;rw[←h]at h3;exact YU hf hu.2 h3
     subst hrq;unfold Instr.findAsking uY;simp only[hys,H5,hr,N7];cases hq:keq k x p.1
     .simp only[cond_false,Bool.false_eq_true,if_false];rw[ih xs (n+1) (by simp_all) (λj q hj=>by simpa using he (j+1) q (by simp_all))];cases uY (keq k) xs x<;>grind
     .simp
  grind
 .grind
theorem JG(H:FxOk X){t:Nat}(h:MO X.E t=some M):X.P.underlying t=some (.map M.ke M.el)/\M.k.flat=true/\
  (∃i,TiOk X.P M.ke i/\a6y X.E M.ke i.td M.k=true/\M.ka=dX i.td)/\(∃j,TiOk X.P M.el j/\j.ty=some M.v/\M.va=dX j.td):=by
 unfold MO at h;split at h<;>try (cases h)
 rename_i i hi;split at h<;>try (cases h)
 rename_i ke el htd;split at h<;>try (cases h)
 rename_i p q hp hq;split at h<;>try (cases h)
 rename_i k v hk hv;cases hc:(a6y X.E ke p.td k&&k.flat)<;>rw[hc]at h
 .grind
 .simp at h;subst h;simp at hc;have h1:=(H.tt t i hi).td;rw[htd]at h1;exact⟨h1,hc.2,⟨p,H.tt _ p hp,hc.1,rfl⟩,⟨q,H.tt _ q hq,hv,rfl⟩⟩
theorem QY{t:Ty}{v:V}{x:Value}{K:t.den->Cmd α}(R:Rel X cl ch S m ok a w)(hT:Tk X S m ok w T)(hv:nU ⟨w.heap,ok,m⟩ v x)
  (hK:∀S' ok' y,Rel X cl ch S' m ok' a w->Tk X S' m ok' w T->(∀b t,ok b t->ok' b t)->dD S S' ->gok ag x->oq w.heap ok' t y (uo ag x)->(K y).post S' Q):
  (b3g ag t v K).post S Q:=by
 refine Kt hv λcs us hg hl=>?_;refine Jh t R hT hl λS1 ok1 y q us1 us' R1 T1 k1 s1 e1 h1 l1=>?_;cases q with
 |cons _ _=>trivial|nil=>
 subst l1;simp at e1;subst e1;have hgc:gok ag x/\uo ag x=us:=by
  cases ag
  .subst hg;exact⟨Be h1 x x9,rfl⟩
  .obtain⟨arr,rfl,rfl⟩:=hg;exact⟨⟨arr,rfl⟩,rfl⟩
 grind
def FC(h:Array Obj)(ok:Nat->Ty->Prop)(t:Ty)(xs:List t.den)(v:Value):Prop:=
 ∃mv,v= .map mv/\(mv=none->xs=[])/\∀blk,mv=some blk->∃(es:Array MapEntry) (ck:Nat),h[blk]? =some (.map es ck)/\xF es ck (xs:List t.den).length/\
  ∀(i:Nat) (x:t.den),(xs:List t.den)[i]? =some x->∃e:MapEntry,es[i]? =some e/\SX t e/\oq h ok t x (Cj t e)
theorem FC.of_rep{ok:Nat->Ty->Prop}{t:Ty}{xs:List t.den}(ht:t.isEnt=true)(hr:oq h ok (.sl t) xs [v]):FC h ok t xs v:=by obtain⟨mv,e,h1,h2⟩:=(a4Q ht).1 hr;exact⟨mv,by simp_all,h1,λblk hb=>(h2 blk hb).2⟩
theorem FC.of_arr{t:Ty}{xs:List t.den}(ht:t.isEnt=true)(ha:arrOk C t xs l)(hv:l.view none v):FC C.h C.ok t xs v:=by
 cases l with
 |nil=>have:=ha.2;simp_all|st b=>cases ha|arr blk off len cap sz=>have:=ha.1;simp_all|mp b=>subst hv;exact⟨_,rfl,(λh=>nomatch h),λblk hb=>by cases hb;exact ha.2⟩
theorem a9A(R:Rel X cl ch S m ok a w)(hu:u.isEnt=true){v:V}{x:Value}{K:List u.den->Cmd α}(hv:nU ⟨w.heap,ok,m⟩ v x)
  (hK:∀xs,FC w.heap ok u xs x->(K xs).post S Q):(b6O u v K).post S Q:=by
 unfold b6O;split<;>try trivial
 .refine iw λe=>?_;subst e;exact hK _ (FC.of_rep hu hv)
 .obtain⟨l,hm,hvw⟩:=hv;refine aO ?_;split<;>try trivial
  .rename_i t xs hS;obtain⟨l',hm',ha⟩:=R.own_arr hS;rw[hm]at hm';cases hm';refine iw λe=>?_;subst e;exact hK _ (FC.of_arr hu ha hvw)
  .rename_i t xs hS;obtain⟨l',hm',ha,_⟩:=R.own_frz hS;rw[hm]at hm';cases hm';refine iw λe=>?_;subst e;exact hK _ (FC.of_arr hu ha hvw)
theorem Jc{ok:Nat->Ty->Prop}{x:M.k.den×M.v.den}{e:MapEntry}(h1:SX M.ent e)(h2:oq h ok M.ent x (Cj M.ent e)):
  gok M.ka e.key/\gok M.va e.val/\oq h ok M.k x.1 (uo M.ka e.key)/\oq h ok M.v x.2 (uo M.va e.val):=by
 obtain⟨g1,g2,g3⟩:=h1;obtain⟨c,d,e1,r1,r2⟩:=h2;obtain⟨rfl,rfl⟩:=List.append_inj (show uo M.ka e.key++uo M.va e.val=c++d from e1) (g3.trans (iO r1).symm)<;>grind
theorem a6h{ok:Nat->Ty->Prop}{x:M.k.den}{y:M.v.den}{e:MapEntry}(g1:gok M.ka e.key)(g2:gok M.va e.val)(r1:oq h ok M.k x (uo M.ka e.key))(r2:oq h ok M.v y (uo M.va e.val)):
  SX M.ent e/\oq h ok M.ent (x,y) (Cj M.ent e):=⟨⟨g1,g2,iO r1⟩,_,_,rfl,r1,r2⟩
theorem a4K{c:V}(h:yR C c v):a0z C c v:=by cases c<;>simp only[yR]at h<;>try exact h
theorem a0A{cs:List V}{us:d4E}{x:Value}(hg:Xd ag x us)(hl:jc C cs us):a0z C (mkV ag cs) x:=by
 cases ag
 .subst hg;cases cs with
  |nil=>grind [jc]|cons c r=>
   obtain⟨v,r',e,h1,h2,h3⟩:=hl;obtain⟨rfl,rfl⟩:=e;cases r with
   |nil=>exact a4K h1|cons d r=>obtain⟨_,_,e,_⟩:=h3;grind
 .obtain⟨arr,rfl,rfl⟩:=hg;exact⟨arr,rfl,hl⟩
theorem Qz(h:gok ag v):Xd ag v (uo ag v):=by
 cases ag
 .rfl
 .obtain⟨arr,rfl⟩:=h;exact⟨arr,rfl,rfl⟩
theorem Yz{w:World}{t ke el:TypeId}{mv:Option Nat}{es:Array MapEntry}{key z:Value}{ok:Bool}(hund:P.underlying t=some (.map ke el))
  (hes:mv=none/\es=#[]\/∃r ck,mv=some r/\w.heap[r]? =some (.map es ck)) (hck:∀em,(Instr.checkKey em 10000 ke key).run P w= .ok () w) {r:Option (Nat×Value)}
  (hfind:(Instr.findKey ke key es.toList).run P w= .ok r w) (hz:(zeroValue el).run P w= .ok z w):
  (Instr.lookup t (.map mv) key ok).run P w= .ok (if ok then .tuple #[(r.map (·.2)).getD z,.bool r.isSome]else(r.map (·.2)).getD z) w:=by
 rcases hes with⟨rfl,rfl⟩|⟨b,ck,rfl,hb⟩
 .simp[Instr.lookup,H5,run_underlying hund,N7,bJ,hck,hfind];cases r<;>simp_all
 .simp[Instr.lookup,H5,run_underlying hund,DC hb,N7,bJ,hck,hfind];cases r<;>simp_all
theorem b3U(H:FxOk X)(R:Rel X cl ch S m ok a w){x ix:Operand}{okk:Bool}(ho:o.op= .lookup t x ix okk):(fM X.E q o).post S (λ_ S' =>kF X cl ch o a w m ok S'):=by
 unfold fM;simp only[ho];refine dC R λu hu=>dC R λkv hk=>?_;unfold b1J;cases hM:MO X.E t with
 |none=>trivial|some M=>
 obtain⟨hund,hf,⟨i,hi,hko,hka⟩,⟨j,hj,hjt,hva⟩⟩:=JG H hM;simp only[];refine QY (T:=[]) R Tk.nil hk λS1 ok1 key R1 T1 k1 s1 hg hr=>?_;refine a9A R1 rfl (RX k1 hu) λxs hxs=>?_;obtain⟨mv,hx,hnil,hmap⟩:=hxs;have hkey:Fv (dX i.td) M.k key (a.eval ix):=by rw[←hka];exact⟨hg,su hf hr⟩
 obtain⟨c1,c2⟩:=G_ H hi hko hf hkey w;obtain⟨inf,hinf,_,_,_,hzero⟩:=hj.info;obtain⟨_,z,hz,hzr⟩:=hzero _ hjt;have hzrun:(zeroValue M.el).run X.P w= .ok z w:=by simp_all [zeroValue,typeInfo]
 have hzg:gok M.va z/\oq w.heap ok1 M.v M.v.zero (uo M.va z):=by
  have hr0:oq w.heap ok1 M.v M.v.zero z.cells.toList:=gU (λ_ _ h=>h.elim) (λ_ _ h=>h.elim) hzr;have hag:=hj.agg inf z hinf hz;rw[←hva]at hag;cases hva' :M.va
  .have h1:=hag.2 hva';have hcz:z.cells.toList=[z]:=by cases z<;>first|rfl|cases h1
   rw[hcz]at hr0;exact⟨h1,hr0⟩
  .exact⟨hag.1 hva',hr0⟩
 have hE:∃es:Array MapEntry,(mv=none/\es=#[]\/∃r ck,mv=some r/\w.heap[r]? =some (.map es ck))/\es.size=xs.length/\
   ∀(i:Nat) (x:M.k.den×M.v.den),xs[i]? =some x->∃e:MapEntry,es[i]? =some e/\SX M.ent e/\oq w.heap ok1 M.ent x (Cj M.ent e):=by
  cases mv with
  |none=>simp_all|some blk=>obtain⟨es,ck,h1,h2,h3⟩:=hmap blk rfl;exact⟨es,.inr ⟨blk,ck,rfl,h1⟩,h2.1,h3⟩
 obtain⟨es,hes,hsz,hent⟩:=hE;have hfind:=c2 (β:=M.v.den) es.toList xs l7 (λj p hp=>by obtain⟨e,h1,h2,h3⟩:=hent j p hp;obtain⟨g1,g2,r1,r2⟩:=Jc h2 h3;exact⟨e,by simp_all,by rw[←hka];exact⟨g1,su hf r1⟩⟩)
 have run:=Yz (ok:=okk) hund hes c1 hfind hzrun;have hval:∃val,(((uY (keq M.k) xs key).bind λj=>(es.toList[j]?).map λe=>(j,e.val)).map (·.2)).getD z=val/\gok M.va val/\
   oq w.heap ok1 M.v (Pv (keq M.k) xs key M.v.zero) (uo M.va val)/\(((uY (keq M.k) xs key).bind λj=>(es.toList[j]?).map λe=>(j,e.val))).isSome=c0F (keq M.k) xs key:=by
  rw[b3E,b3F];cases hfi:uY (keq M.k) xs key with
  |none=>simp_all|some j=>obtain⟨p,hp,_⟩:=NQ hfi;obtain⟨e,h1,h2,h3⟩:=hent j p hp;obtain⟨g1,g2,r1,r2⟩:=Jc h2 h3<;>simp_all
 obtain⟨val,e1,g,r,e2⟩:=hval;rw[e1,e2]at run;have hrel:=Qz g;have hL:=qR (C:=⟨w.heap,ok1,m⟩) r;cases okk
 .simp only[cond_false];refine xI H R1 (λ_ _ h=>h) k1 (VF hrel hL) ?_<;>simp_all [execOp]
 .simp only[cond_true];refine xI H R1 (λ_ _ h=>h) k1 (v:=.tup _) (x:=.tuple #[val,.bool (c0F (keq M.k) xs key)]) ⟨_,rfl,⟨_,_,rfl,a0A hrel hL,_,_,rfl,rfl,rfl⟩⟩ ?_<;>simp_all [execOp]
theorem xF.push{es:Array MapEntry}{ck n m:Nat}{k v:Value}(h:xF es ck n)(hm:m=n+1):xF (es.push { key:=k,val:=v,born:=ck }) (ck+1) m:=by obtain⟨h1,h2,h3⟩:=h;refine⟨by simp[h1,hm],λe he=>?_,?_⟩<;>grind
theorem xF.modify{es:Array MapEntry}{ck n m j:Nat}{k v:Value}(h:xF es ck n)(hm:m=n):xF (es.modify j λe=> { e with key:=k,val:=v }) ck m:=by
 obtain⟨h1,h2,h3⟩:=h;have hb:((es.modify j λe=> { e with key:=k,val:=v }).toList.map (·.born))=es.toList.map (·.born):=by apply aB<;>grind
 refine⟨by simp_all,λe he=>?_,by simp_all⟩;have:e.born∈(es.modify j λe=> { e with key:=k,val:=v }).toList.map (·.born):=J6.2 ⟨e,he,rfl⟩
 grind
theorem a9s(H:FxOk X)(R:Rel X (CB*q) (CB*q+CB) S m ok a w){r:Option Operand}(ho:o.op= .makeMap t r):(fM X.E q o).post S (λ_ S' =>kF X (CB*q) (CB*q+CB) o a w m ok S'):=by
 have go:((Instr.makeMap t (r.map a.eval)).run X.P w= .ok (.map (some w.heap.size)) (w.alloc (.map #[] 0)))->
   (Qj X.E (U2 q o.dst) t λv=>gW X.E o.dst v).post S (λ_ S' =>kF X (CB*q) (CB*q+CB) o a w m ok S'):=λrun=>by
  unfold Qj;cases hM:MO X.E t with
  |none=>trivial|some M=>
  refine MP (l:=.mp w.heap.size) (obj:=.map #[] 0) H R x9 (by simp[V5]) (λhn hc=>?_) ⟨.mp w.heap.size,x9,rfl⟩ ?_
  .exact⟨.mp w.heap.size,x9,rfl,#[],0,heap_alloc_new w _,⟨rfl,x9,x9⟩,λi x h=>by grind⟩
  simp_all [execOp]
 unfold fM;simp[ho];cases r with
 |none=>simp_all [Instr.makeMap]|some hd=>
  refine dC R λv hv=>?_;split<;>try trivial
  cases hM:MO X.E t with
  |none=>unfold Qj;rw[hM];trivial|some M=>
  refine go ?_;simp[Instr.makeMap,xX hv,run_underlying (JG H hM).1,asInt,asIntOf]
theorem Vp(H:FxOk X)(R:Rel X cl ch S m ok a w){x ix y:Operand}(ho:o.op= .mapUpdate t x ix y\/o.op= .insert t x ix y):(fM X.E q o).post S (λ_ S' =>kF X cl ch o a w m ok S'):=by
 suffices h:((match o.dst with|none=>wK x λm=>wK ix λk=>wK y λv=>a5l X.E t m k v|some _=> .fail:Cmd Unit)).post S (λ_ S' =>kF X cl ch o a w m ok S') by
  grind [fM]
 cases hd:o.dst with
 |some _=>trivial|none=>
 refine dC R λu hu=>dC R λkv hk=>dC R λyv hy=>?_;unfold a5l;cases hM:MO X.E t with
 |none=>trivial|some M=>
 obtain⟨hund,hf,⟨i,hi,hko,hka⟩,⟨j,hj,hjt,hva⟩⟩:=JG H hM;simp only[];refine QY (T:=[]) R Tk.nil hk λS1 ok1 key R1 T1 k1 s1 hg hr=>?_;refine QY R1 T1 (RX k1 hy) λS2 ok2 z R2 T2 k2 s2 hg2 hr2=>?_;have hkey:Fv (dX i.td) M.k key (a.eval ix):=by rw[←hka];exact⟨hg,su hf hr⟩
 obtain⟨c1,c2⟩:=G_ H hi hko hf hkey w;split<;>try trivial
 rename_i bx;obtain⟨l0,hm0,hvw⟩:=hu;simp only at hm0;refine aO ?_;split<;>try trivial
 rename_i u xs hS;refine iw λe=>?_;subst e;refine iP ?_;obtain⟨l,hm,ha⟩:=R2.own_arr hS;rw[hm0]at hm;cases hm;cases l0 with
 |nil=>exact absurd ha.2 (by simp[Ty.isEnt])|st b=>cases ha|arr blk off len cap sz=>exact absurd ha.1 (by simp[Ty.isEnt])|mp blk=>
 simp only[Loc.view]at hvw;obtain⟨_,es,ck,hb,⟨hsz,hst,hnd⟩,hent⟩:=ha;simp only at hb hent;have hown:V5 m bx (S2 (Z4+bx))=[blk]:=by simp_all [V5]
 have hsep:=R2.sep bx blk (by simp_all);have hfind:=c2 (β:=M.v.den) es.toList xs l7 (λj p hp=>by obtain⟨e,h1,h2,h3⟩:=hent j p hp;obtain⟨g1,g2,r1,r2⟩:=Jc h2 h3;exact⟨e,by simp_all,by rw[←hka];exact⟨g1,su hf r1⟩⟩)
 have fin:∀(es' :Array MapEntry) (ck' :Nat) (xs' :List (M.k.den×M.v.den)),xs' =SG (keq M.k) xs key z->
   (Instr.mapUpdate t (a.eval x) (a.eval ix) (a.eval y)).run X.P w= .ok () { w with heap:=w.heap.setIfInBounds blk (.map es' ck') }->xF es' ck' xs'.length->
   (∀(i:Nat) (x:M.k.den×M.v.den),xs'[i]? =some x->∃e:MapEntry,es'[i]? =some e/\SX M.ent e/\oq w.heap ok2 M.ent x (Cj M.ent e))->
   kF X cl ch o a w m ok (upd S2 (Z4+bx) (.barr M.ent (SG (keq M.k) xs key z))):=by
  intro es' ck' xs' hxs' run hsz' hent';subst hxs';obtain⟨q1,q2⟩:=MapKept.heap_set (o' :=.map es' ck') hb;have R3:Rel X cl ch (upd S2 (Z4+bx) (.barr M.ent (SG (keq M.k) xs key z))) m ok2 a { w with heap:=w.heap.setIfInBounds blk (.map es' ck') }:=by refine R2.mod (by simp_all [V5]) x9 rfl rfl rfl x9 (λb hb=>q2 b (by simp_all)) ?_;refine⟨.mp blk,hm0,rfl,es',ck',q1,hsz',λi x hx=>?_⟩;obtain⟨e,h1,h2,h3⟩:=hent' i x hx;exact⟨e,h1,h2,gU (λ_ _ h=>h) (λb t hb=>q2 b (λe=>hsep.1 t (e▸hb))) h3⟩
  intro next Q hn
  unfold Oper.wp;have e:(execOp a.eval o).run X.P w= .ok .skip { w with heap:=w.heap.setIfInBounds blk (.map es' ck') }:=by rcases ho with ho|ho<;>simp[execOp,ho,run]
  rw[e,Oper.upon_skip,hd];exact hn m ok2 a _ R3 (λ_ _ h=>h) (λb t h=>k2 b t (k1 b t h))
 have hnew:∀n,SX M.ent { key:=a.eval ix,val:=a.eval y,born:=n }/\oq w.heap ok2 M.ent (key,z) (Cj M.ent { key:=a.eval ix,val:=a.eval y,born:=n }):=λn=>
  a6h (e:={ key:=a.eval ix,val:=a.eval y,born:=n }) hg hg2 (su hf hr) hr2
 show kF X cl ch o a w m ok (upd S2 (Z4+bx) (.barr M.ent (SG (keq M.k) xs key z)));cases hfi:uY (keq M.k) xs key with
 |none=>
  rw[hfi]at hfind;refine fin (es.push { key:=a.eval ix,val:=a.eval y,born:=ck }) (ck+1) (xs++[(key,z)]) (by rw[a2N,hfi]) ?_ (xF.push ⟨hsz,hst,hnd⟩ x9) λi x hx=>?_
  .rw[hvw];simp only[Instr.mapUpdate,H5,run_underlying hund,DC hb,N7,c1,hfind,Option.bind_none];exact oO _ hb
  .rw[List.getElem?_append]at hx;split at hx
   .grind
   .rename_i hge;have hi0:i=xs.length:=by
     grind
    subst hi0;simp at hx;subst hx;exact⟨_,by grind,hnew ck⟩
 |some j=>
  obtain⟨p,hp,hpk⟩:=NQ hfi;obtain⟨e,h1,h2,h3⟩:=hent j p hp;obtain⟨g1,g2,r1,r2⟩:=Jc h2 h3;have h1' :es.toList[j]? =some e:=by simp_all
  have hpe:=(YJ hf _ _).1 hpk;have hke:e.key=a.eval ix:=Fv.det hf (ag:=M.ka) (x:=key) ⟨g1,by grind [su]⟩ ⟨hg,su hf hr⟩;rw[hfi]at hfind;simp only[kH,h1',iC]at hfind;refine fin (es.modify j λe=> { e with key:=a.eval ix,val:=a.eval y }) ck (xs.set j (key,z)) (by rw[a2N,hfi]) ?_ (xF.modify ⟨hsz,hst,hnd⟩ x9) λi x hx=>?_
  .rw[hvw];simp only[Instr.mapUpdate,H5,run_underlying hund,DC hb,N7,c1,hfind,h1,iC,Z9,hke,Fv.stays (P:=X.P) (w:=w) hf hkey];exact oO _ hb
  grind
theorem TZ{α β:Type}(eq:α->α->Bool):∀(xs:List (α×β)) (k:α),b1L eq xs k=(match uY eq xs k with|some i=>xs.eraseIdx i|none=>xs)
 |[],_=>rfl|p::r,k=>by
  unfold b1L uY;cases h:eq k p.1
  .rw[TZ eq r k];cases uY eq r k<;>rfl
  .rfl
theorem xF.erase{es:Array MapEntry}{ck n m i:Nat}(h:xF es ck n)(hi:i<n)(hm:m+1=n):xF (es.eraseIdxIfInBounds i) ck m:=by
 obtain⟨h1,h2,h3⟩:=h;have he:(es.eraseIdxIfInBounds i).toList=es.toList.eraseIdx i:=by simp
 refine⟨?_,λe h=>?_,?_⟩<;>grind
theorem b3T(H:FxOk X)(R:Rel X cl ch S m ok a w){c:Call}(ho:o.op= .call c)(hc:c.callee= .builtin .delete):(fM X.E q o).post S (λ_ S' =>kF X cl ch o a w m ok S'):=by
 obtain⟨cal,args,ats⟩:=c;simp only at hc;subst hc;unfold fM;simp only[ho];refine mF R _ λvs hvs=>?_;split<;>try trivial
 rename_i d t rt x ix hd hat
 obtain⟨xv,r,he,hu,kv,r2,he2,hk,hr⟩:=hvs;simp only[jk]at hr;subst hr;unfold b1v;cases hM:MO X.E t with
 |none=>trivial|some M=>
 obtain⟨hund,hf,⟨i,hi,hko,hka⟩,⟨j,hj,hjt,hva⟩⟩:=JG H hM;simp only[];refine QY (T:=[]) R Tk.nil hk λS1 ok1 key R1 T1 k1 s1 hg hr=>?_;have hkey:Fv (dX i.td) M.k key kv:=by rw[←hka];exact⟨hg,su hf hr⟩
 obtain⟨c1,c2⟩:=G_ H hi hko hf hkey w;split<;>try trivial
 rename_i bx;obtain⟨l0,hm0,hvw⟩:=hu;simp only at hm0;refine aO ?_;split<;>try trivial
 rename_i u xs hS;refine iw λe=>?_;subst e;refine iP ?_;obtain⟨l,hm,ha⟩:=R1.own_arr hS;rw[hm0]at hm;cases hm;cases l0 with
 |nil=>exact absurd ha.2 (by simp[Ty.isEnt])|st b=>cases ha|arr blk off len cap sz=>exact absurd ha.1 (by simp[Ty.isEnt])|mp blk=>
 simp only[Loc.view]at hvw;subst hvw;obtain⟨_,es,ck,hb,hso,hent⟩:=ha;simp only at hb hent;have hown:V5 m bx (S1 (Z4+bx))=[blk]:=by simp_all [V5]
 have hsep:=R1.sep bx blk (by simp_all);have hfind:=c2 (β:=M.v.den) es.toList xs (by rw[O0];exact hso.1) (λj p hp=>by obtain⟨e,h1,h2,h3⟩:=hent j p hp;obtain⟨g1,g2,r1,r2⟩:=Jc h2 h3;exact⟨e,by simp_all,by rw[←hka];exact⟨g1,su hf r1⟩⟩)
 have h0:ats[0]? =some t:=by obtain⟨l⟩:=ats<;>simp_all
 have hargs:args.map a.eval=#[.map (some blk),kv]:=by
  grind
 have fin:∀(es' :Array MapEntry) (xs' :List (M.k.den×M.v.den)),xs' =Yw (keq M.k) xs key->
   (Builtin.delete_ ats o.type #[.map (some blk),kv]).run X.P w= .ok (.tuple #[]) { w with heap:=w.heap.setIfInBounds blk (.map es' ck) }->xF es' ck xs'.length->
   (∀(i:Nat) (x:M.k.den×M.v.den),xs'[i]? =some x->∃e:MapEntry,es'[i]? =some e/\SX M.ent e/\oq w.heap ok1 M.ent x (Cj M.ent e))->
   kF X cl ch o a w m ok (upd S1 (Z4+bx) (.barr M.ent (Yw (keq M.k) xs key))):=by
  intro es' xs' hxs' run hsz' hent';subst hxs';obtain⟨q1,q2⟩:=MapKept.heap_set (o' :=.map es' ck) hb;have R3:Rel X cl ch (upd S1 (Z4+bx) (.barr M.ent (Yw (keq M.k) xs key))) m ok1 a { w with heap:=w.heap.setIfInBounds blk (.map es' ck) }:=by refine R1.mod (by simp_all [V5]) x9 rfl rfl rfl x9 (λb hb=>q2 b (by simp_all)) ?_;refine⟨.mp blk,hm0,rfl,es',ck,q1,hsz',λi x hx=>?_⟩;obtain⟨e,h1,h2,h3⟩:=hent' i x hx;exact⟨e,h1,h2,gU (λ_ _ h=>h) (λb t hb=>q2 b (λe=>hsep.1 t (e▸hb))) h3⟩
  intro next Q hn
  unfold Oper.wp;have e:(execOp a.eval o).run X.P w= .ok (.value (.tuple #[])) { w with heap:=w.heap.setIfInBounds blk (.map es' ck) }:=by simp_all [execOp,resolve,invoke,builtin]
  rw[e,jh,hd];exact hn m ok1 a _ R3 (λ_ _ h=>h) k1
 show kF X cl ch o a w m ok (upd S1 (Z4+bx) (.barr M.ent (Yw (keq M.k) xs key)));have hk0:ats[0]? =some t/\(#[Value.map (some blk),kv]:Array Value)[0]? =some (.map (some blk))/\(#[Value.map (some blk),kv]:Array Value)[1]? =some kv:=⟨h0,rfl,rfl⟩;cases hfi:uY (keq M.k) xs key with
 |none=>rw[hfi]at hfind;refine fin es xs (by simp_all [Yw,TZ]) ?_ hso λi x hx=>hent i x hx;simp only[Builtin.delete_,hk0.1,hk0.2.1,hk0.2.2,H5,run_underlying hund,DC hb,N7,c1,hfind,Option.bind_none];rw[oO _ hb];rfl|some j=>
  obtain⟨p,hp,hpk⟩:=NQ hfi;obtain⟨e,h1,h2,h3⟩:=hent j p hp;have h1' :es.toList[j]? =some e:=by simp_all
  have hj:j<xs.length:=(U8.1 hp).1;rw[hfi]at hfind;simp only[kH,h1',iC]at hfind;refine fin (es.eraseIdxIfInBounds j) (xs.eraseIdx j) (by simp_all [Yw,TZ]) ?_ (hso.erase hj (by grind)) λi x hx=>?_
  .simp only[Builtin.delete_,hk0.1,hk0.2.1,hk0.2.2,H5,run_underlying hund,DC hb,N7,c1,hfind];rw[oO _ hb];rfl
  grind
end
end Go.GP
namespace Go.GP
theorem a3p:∀(n:Nat) (vs a b:List V),Gq n vs=some (a,b)->vs=a++b/\a.length=n
 |0,vs,a,b,h=>by simp_all [Gq]|n+1,[],a,b,h=>by grind [Gq]|n+1,v::vs,a,b,h=>by
  unfold Gq at h;cases hs:Gq n vs with
  |none=>simp[hs]at h|some p=>simp[hs,E9,aH]at h;obtain⟨rfl,rfl⟩:=h;obtain⟨rfl,hl⟩:=a3p n vs _ _ hs;exact⟨rfl,by simp[hl]⟩
theorem Yh{C:Cx} :∀{a b:List V} {xs ys:d4E},a.length=xs.length->jk C (a++b) (xs++ys)->jk C a xs/\jk C b ys
 |[],b,xs,ys,hl,h=>by
  have:xs=[]:=by grind
  subst this;exact⟨rfl,h⟩
 |c::a,b,xs,ys,hl,h=>by
  cases xs with
  |nil=>simp at hl|cons x xs=>obtain⟨v,r,e,h1,h2⟩:=h;obtain⟨rfl,rfl⟩:=e;obtain⟨h3,h4⟩:=Yh (by simpa using hl) h2;exact⟨⟨_,_,rfl,h1,h3⟩,h4⟩
theorem b2q{C:Cx} :∀{a:List V} {xs:d4E},Ep a=false->jk C a xs->a4M C a xs
 |[],xs,_,h=>h|c::a,xs,ht,⟨v,r,e,h1,h2⟩=>by
  have ht2:=by cases c<;>first|exact ht|grind [Ep]
  refine⟨v,r,e,?_,b2q ht2 h2⟩;cases c<;>first|exact h1|grind [Ep]
variable {v:Value}
theorem b7C{C:Cx}{a:List V}{xs:d4E}{n:Nat}(ht:Ep a=false)(h:jk C a xs)(hr:Wp n v xs):nU C (a7x a) v:=by
 obtain⟨_,hv⟩:=hr;cases a with
 |nil=>subst h;subst hv;exact⟨_,rfl,rfl⟩|cons c a=>
  obtain⟨x,r,rfl,h1,h2⟩:=h;cases a with
  |nil=>subst h2;subst hv;exact h1|cons d a=>obtain⟨y,r',rfl,h3,h4⟩:=h2;subst hv;exact⟨_,rfl,b2q ht ⟨_,_,rfl,h1,_,_,rfl,h3,h4⟩⟩
theorem ZH{h:Array Obj}{ok ok' :Nat->Ty->Prop} :∀{ts:List Ty} {x:Xu ts} {vs:d4E},(∀b u,ok b u->XU u ts=true->ok' b u)->Jo h ok (Xr ts x) vs->Jo h ok' (Xr ts x) vs
 |[],_,_,_,hr=>hr|[t],x,_,f,hr=>by obtain⟨v,r,e,⟨b,o,es,hv,hb,hc,hp⟩,h2⟩:=hr;exact⟨v,r,e,⟨b,o,es,hv,f _ _ hb (by simp[XU]),hc,BL (λb u h k=>f b u h (by simp[XU,k])) hp⟩,h2⟩
 |t::t' ::ts,x,_,f,hr=>by obtain⟨v,r,e,⟨b,o,es,hv,hb,hc,hp⟩,h2⟩:=hr;exact⟨v,r,e,⟨b,o,es,hv,f _ _ hb (by simp[XU]),hc,BL (λb u h k=>f b u h (by simp[XU,k])) hp⟩,ZH (λb u h k=>f b u h (by rw[XU,k];simp)) h2⟩
theorem Wv{h:Array Obj}{ok ok' :Nat->Ty->Prop}{m:Mp}{t:Ty}{xs:List t.den}{l:Loc}(f:∀b u,ok b u->Ty.occ u t=true->ok' b u)(hr:arrOk ⟨h,ok,m⟩ t xs l):arrOk ⟨h,ok',m⟩ t xs l:=by
 cases l with
 |nil=>exact hr|st b=>exact hr|mp b=>obtain⟨h1,es,ck,h2,h3,h4⟩:=hr;refine⟨h1,es,ck,h2,h3,λi y hi=>?_⟩<;>grind [BL]
 |arr blk off len cap sz=>obtain⟨h0,h1,h2,h3,c,T,g,h4,hz,h5,h6⟩:=hr;refine⟨h0,h1,h2,h3,c,T,g,h4,hz,h5,λi y hi=>?_⟩<;>grind [BL]
theorem Ho{h:Array Obj}{ok ok' :Nat->Ty->Prop} :∀{m:M} {ho:Option Nat} {x:m.den} {cs:d4E} {O:d4F},(∀b u,ok b u->m.occ u=true->ok' b u)->qc h ok m ho x cs O->qc h ok' m ho x cs O
 | .dat t,_,_,_,_,f,hr=>⟨BL f hr.1,hr.2⟩| .unit,_,_,_,_,_,hr=>hr| .pair a b,_,_,_,_,f,⟨c,d,O1,O2,e,eo,h1,h2⟩=>⟨c,d,O1,O2,e,eo,Ho (λb u h k=>f b u h (by simp[M.occ,k])) h1,Ho (λb u h k=>f b u h (by simp[M.occ,k])) h2⟩| .box m,_,_,_,_,f,⟨blk,arr,T,O',e,hh,hr,eo⟩=>⟨blk,arr,T,O',e,hh,Ho f hr,eo⟩| .own t,ho,_,_,_,f,⟨v,e,h1,ha⟩=>by
  refine⟨v,e,h1,?_⟩;split at ha
  .omega
  .obtain⟨l,hv,ha,hO⟩:=ha;exact⟨l,hv,Wv f ha,hO⟩
 | .owns m,ho,_,_,_,f,⟨v,e,h1,ha⟩=>by
  refine⟨v,e,h1,?_⟩;split at ha
  .omega
  .obtain⟨he,l,Os,hv,ha,hO⟩:=ha;exact⟨he,l,Os,hv,yl (λ_ _=>rfl) (λi x es O _ hr=>Ho f hr) ha,hO⟩
 | .ownb t,_,_,_,_,f,⟨l,v,e,hv,ha,hO⟩=>⟨l,v,e,hv,Wv f ha,hO⟩| .rp t,_,_,_,_,f,⟨v,e,⟨b,o,es,hv,hb,hc,hp⟩,h2⟩=>⟨v,e,⟨b,o,es,hv,f _ _ hb (by simp[M.occ]),hc,BL (λb u h k=>f b u h (by simp[M.occ,k])) hp⟩,h2⟩| .fn g ts,_,_,_,_,f,⟨vs,e,h1,h2⟩=>⟨vs,e,ZH f h1,h2⟩| .ifc t m,_,_,_,_,f,⟨u,e,h1⟩=>⟨u,e,Ho f h1⟩| .cell _,_,_,_,_,_,h=>h| .lp t,_,_,_,_,f,⟨v,e,⟨b,o,es,hv,hb,hc,hp⟩,h2⟩=>⟨v,e,⟨b,o,es,hv,f _ _ hb (by simp[M.occ]),hc,BL (λb u h k=>f b u h (by simp[M.occ,k])) hp⟩,h2⟩
theorem a0E{h:Array Obj}{ok ok' :Nat->Ty->Prop} :∀{ms:List MG} {x:bF ms} {vs:d4E} {O:d4F},(∀b u,ok b u->Qo u ms=true->ok' b u)->oP h ok ms x vs O->oP h ok' ms x vs O
 |[],_,_,_,_,e=>e|[m],_,_,_,f,⟨v,cs,e,hg,hr⟩=>⟨v,cs,e,hg,Ho (λb u h k=>f b u h (by simp[Qo,k])) hr⟩|m::m' ::r,_,_,_,f,⟨v,cs,vs',O1,O2,e,eo,hg,h1,h2⟩=>
  ⟨v,cs,vs',O1,O2,e,eo,hg,Ho (λb u h k=>f b u h (by simp[Qo,k])) h1,a0E (λb u h k=>f b u h (by grind [Qo])) h2⟩
theorem Vj{u:Ty} :∀{a b:List MG},Qo u (a++b)=(Qo u a || Qo u b)
 |[],_=>rfl|m::a,b=>by simp[Qo,Vj,Bool.or_assoc]
theorem WY:∀{fs:List (Nat×FSpec)} {f:Nat} {vs:List V} {s:FSpec},a2X fs f vs=some s->(f,s)∈fs
 |[],_,_,_,h=>by grind [a2X]|(g,s')::r,f,vs,s,h=>by
  unfold a2X at h;cases hb:(Nat.beq g f&&TR s'.ps vs)
  .rw[hb]at h;exact X9 _ (WY h)
  .rw[hb]at h;simp at h;subst h;simp only[A7]at hb;have:=ik hb.1;subst this;exact kT
theorem c1Z{l l0:Loc}(h:l.view none v)(h0:l0.view none v)(hs:∀b o n c s b' o' n' c' s',l= .arr b o n c s->l0= .arr b' o' n' c' s' ->s=s'):l=l0:=by
 cases l<;>cases l0<;>simp[Loc.view]at h h0
 all_goals grind
theorem Tz{h:Array Obj}{ok:Nat->Ty->Prop} :∀{ms:List MG} {x:bF ms} {vs:d4E} {O:d4F},oP h ok ms x vs O->vs.length=ms.length
 |[],_,_,_,e=>by simp[e.1]|[m],_,_,_,⟨v,cs,e,hg,hr⟩=>by grind|m::m' ::r,_,_,_,⟨v,cs,vs',O1,O2,e,eo,hg,h1,h2⟩=>by have:=Tz h2;subst e;simp[this]
variable {q:Nat}{f:FuncId}{vs:List V}{vals:d4E}{s:FSpec}{c:Call}
section
variable {X:Fx} {cl ch:Nat} {S:Sm} {m:Mp} {ok:Nat->Ty->Prop} {a:Act} {w:World} {o:Oper}
theorem bM{α:Type}{Q:α->Sm->Prop}{h0:Array Obj}{ok0:Nat->Ty->Prop}{m0:Mp} :∀(ms:List MG) {vs:List V} {vals:d4E} {ws:List V} {os:d4E} {B:d4F} {K:Cmd α} {S:Sm}
  (R:Rel X cl ch S m ok a w) (hm:∀k l,m0 k=some l->m k=some l) (hT:Tk X S m ok w B) (hv:jk ⟨h0,ok0,m0⟩ vs vals) (ho:vJ w.heap ms vals os B) (hw:jk ⟨w.heap,ok,m⟩ ws os)
  (hK:∀S',Rel X cl ch S' m ok a w->K.post S' Q),(aX ms vs ws K).post S Q
 |[],vs,vals,ws,os,B,K,S,R,hm,hT,hv,ho,hw,hK=>by
  cases vs with
  |cons _ _=>unfold aX;trivial|nil=>
   cases ws with
   |cons _ _=>unfold aX;trivial|nil=>unfold aX<;>simp_all
 |(g,.dat t)::ms,vs,vals,ws,os,B,K,S,R,hm,hT,hv,ho,hw,hK=>by
  cases vs with
  |nil=>unfold aX;trivial|cons v vs=>obtain⟨x,r,rfl,h1,h2⟩:=hv;unfold aX;exact bM ms R hm hT h2 ho hw hK
 |(g,.own t)::ms,vs,vals,ws,os,B,K,S,R,hm,hT,hv,ho,hw,hK=>by
  cases vs with
  |nil=>unfold aX;trivial|cons v vs=>obtain⟨x,r,rfl,h1,h2⟩:=hv;unfold aX;exact bM ms R hm hT h2 ho hw hK
 |(g,.pair p q)::ms,vs,vals,ws,os,B,K,S,R,hm,hT,hv,ho,hw,hK=>by
  cases vs with
  |nil=>unfold aX;trivial|cons v vs=>obtain⟨x,r,rfl,h1,h2⟩:=hv;unfold aX;exact bM ms R hm hT h2 ho hw hK
 |(g,.unit)::ms,vs,vals,ws,os,B,K,S,R,hm,hT,hv,ho,hw,hK=>by
  cases vs with
  |nil=>unfold aX;trivial|cons v vs=>obtain⟨x,r,rfl,h1,h2⟩:=hv;unfold aX;exact bM ms R hm hT h2 ho hw hK
 |(g,.cell _)::ms,vs,vals,ws,os,B,K,S,R,hm,hT,hv,ho,hw,hK=>by
  cases vs with
  |nil=>unfold aX;trivial|cons v vs=>obtain⟨x,r,rfl,h1,h2⟩:=hv;unfold aX;exact bM ms R hm hT h2 ho hw hK
 |(g,.box md)::ms,vs,vals,ws,os,B,K,S,R,hm,hT,hv,ho,hw,hK=>by
  cases vs with
  |nil=>unfold aX;trivial|cons v0 vs=>
  cases v0<;>try (unfold aX;trivial)
  case ptr bx off=>
  cases ws with
  |nil=>unfold aX;trivial|cons o0 ws=>
  cases o0<;>try (unfold aX;trivial)
  case agg cs=>
   unfold aX;refine aO ?_;split<;>try trivial
   rename_i hS;obtain⟨x,r,rfl,h1,h2⟩:=hv;obtain⟨y,r',rfl,h3,h4⟩:=hw;obtain⟨b,arr,T,os',B',e1,hh,e2,rfl,ho'⟩:=ho;obtain⟨rfl,rfl⟩:=e2;obtain⟨blk,hmb,e3⟩:=h1;subst e1;obtain⟨rfl,rfl⟩:=e3;obtain⟨arr',e4,hl⟩:=h3;simp only[Value.agg.injEq]at e4;subst e4;have hmb' :=hm _ _ hmb;obtain⟨R',T'⟩:=R.backV (n:=bx) (v:=.bcells cs) (O1:=[b]) (B:=B') x9 (by simp_all) (by grind [V5]) ⟨b,_,T,hmb',hh,hl⟩;exact bM ms R' hm T' h2 ho' h4 hK
 |(g,.ifc t (.box md))::ms,vs,vals,ws,os,B,K,S,R,hm,hT,hv,ho,hw,hK=>by
  cases vs with
  |nil=>unfold aX;trivial|cons v0 vs=>
  cases v0<;>try (unfold aX;trivial)
  case ifc t' v1=>
  cases v1<;>try (unfold aX;trivial)
  case ptr bx off=>
  cases ws with
  |nil=>unfold aX;trivial|cons o0 ws=>
  cases o0<;>try (unfold aX;trivial)
  case agg cs=>
   unfold aX;refine aO ?_;split<;>try trivial
   rename_i hS;obtain⟨x,r,rfl,h1,h2⟩:=hv;obtain⟨y,r',rfl,h3,h4⟩:=hw;obtain⟨t2,b,arr,T,os',B',e1,hh,e2,rfl,ho'⟩:=ho;obtain⟨rfl,rfl⟩:=e2;obtain⟨u,e5,_,h1⟩:=h1;obtain⟨blk,hmb,e3⟩:=h1;subst e1;subst e3;obtain⟨rfl,rfl,rfl⟩:=e5;obtain⟨arr',e4,hl⟩:=h3;simp only[Value.agg.injEq]at e4;subst e4;have hmb' :=hm _ _ hmb;obtain⟨R',T'⟩:=R.backV (n:=bx) (v:=.bcells cs) (O1:=[b]) (B:=B') x9 (by simp_all) (by grind [V5]) ⟨b,_,T,hmb',hh,hl⟩;exact bM ms R' hm T' h2 ho' h4 hK
 |(g,.ownb t)::ms,vs,vals,ws,os,B,K,S,R,hm,hT,hv,ho,hw,hK=>by
  cases vs with
  |nil=>unfold aX;trivial|cons v0 vs=>
  obtain⟨x,r,rfl,h1,h2⟩:=hv;obtain⟨os',rfl,ho'⟩:=ho;cases v0<;>try (unfold aX;trivial)
  case nl=>
   cases ws with
   |nil=>unfold aX;trivial|cons o0 ws=>
   cases o0<;>try (unfold aX;trivial)
   case own nm vw=>
   cases vw with
   |some _=>unfold aX;trivial|none=>
   unfold aX;obtain⟨y,r',e,h3,h4⟩:=hw;obtain⟨rfl,rfl⟩:=e;refine iP ?_;have T1:=Tk.kill R hT nm (bs:=[]) (λb h=>by grind) bZ;rw[G9]at T1;exact bM ms (R.kill nm) hm T1 h2 ho' h4 hK
  case own bx vw=>
   cases vw with
   |some _=>unfold aX;trivial|none=>
   cases ws with
   |nil=>unfold aX;trivial|cons o0 ws=>
   cases o0<;>try (unfold aX;trivial)
   case own nm vw=>
   cases vw with
   |some _=>unfold aX;trivial|none=>
   unfold aX;obtain⟨y,r',e,h3,h4⟩:=hw;obtain⟨rfl,rfl⟩:=e;obtain⟨l0,hm0,hv0⟩:=h1;obtain⟨l,hml,hvl⟩:=h3;have hm0' :=hm _ _ hm0;refine aO ?_;split<;>try trivial
   rename_i u xs hS;refine iP (aO ?_);split<;>try trivial
   rename_i t' hS2;refine iw λe=>?_;subst e;obtain⟨l',hml',ha⟩:=R.own_arr hS;simp only at hml;rw[hml]at hml';cases hml';have R1:=R.kill nm;have hob:V5 m nm (S (Z4+nm))=l.blks:=by rw[hS];cases l<;>first|(simp[V5,hml,Loc.blks];done)|cases ha
   have T1:=Tk.kill R hT nm (bs:=l.blks) (λb h=>by simp_all) (Loc.blks_nodup l);have hg:=R1.box bx;rw[hS2]at hg;obtain⟨l1,hm1,hsz⟩:=hg;rw[hm0']at hm1;cases hm1;have hll:l=l0:=c1Z hvl hv0 (λb o n c s b' o' n' c' s' e1 e2=>by subst e1;rw[hsz _ _ _ _ _ e2];exact ha.2.1);subst hll;obtain⟨R',T'⟩:=R1.backV (n:=bx) (v:=.barr u xs) (O1:=l.blks) (B:=B) x9 (T1.perm lC) (by simp_all [V5]) ⟨l,hm0',ha⟩;exact bM ms R' hm T' h2 ho' h4 hK
 |(g,.lp _)::ms,vs,vals,ws,os,B,K,S,R,hm,hT,hv,ho,hw,hK=>by
  cases vs with
  |nil=>unfold aX;trivial|cons v vs=>obtain⟨x,r,rfl,h1,h2⟩:=hv;unfold aX;exact bM ms R hm hT h2 ho hw hK
 |(g,.owns md)::ms,vs,vals,ws,os,B,K,S,R,hm,hT,hv,ho,hw,hK=>by
  cases vs with
  |nil=>unfold aX;trivial|cons v vs=>obtain⟨x,r,rfl,h1,h2⟩:=hv;unfold aX;exact bM ms R hm hT h2 ho hw hK
 |(g,.rp t)::ms,vs,vals,ws,os,B,K,S,R,hm,hT,hv,ho,hw,hK=>by
  cases vs with
  |nil=>unfold aX;trivial|cons v vs=>obtain⟨x,r,rfl,h1,h2⟩:=hv;unfold aX;exact bM ms R hm hT h2 ho hw hK
 |(g,.fn f ts)::ms,vs,vals,ws,os,B,K,S,R,hm,hT,hv,ho,hw,hK=>by
  cases vs with
  |nil=>unfold aX;trivial|cons v vs=>obtain⟨x,r,rfl,h1,h2⟩:=hv;unfold aX;exact bM ms R hm hT h2 ho hw hK
 |(g,.ifc t (.dat u))::ms,vs,vals,ws,os,B,K,S,R,hm,hT,hv,ho,hw,hK=>by
  cases vs with
  |nil=>unfold aX;trivial|cons v vs=>obtain⟨x,r,rfl,h1,h2⟩:=hv;unfold aX;exact bM ms R hm hT h2 ho hw hK
 |(g,.ifc t (.own u))::ms,vs,vals,ws,os,B,K,S,R,hm,hT,hv,ho,hw,hK=>by
  cases vs with
  |nil=>unfold aX;trivial|cons v vs=>obtain⟨x,r,rfl,h1,h2⟩:=hv;unfold aX;exact bM ms R hm hT h2 ho hw hK
 |(g,.ifc t (.pair p q))::ms,vs,vals,ws,os,B,K,S,R,hm,hT,hv,ho,hw,hK=>by
  cases vs with
  |nil=>unfold aX;trivial|cons v vs=>obtain⟨x,r,rfl,h1,h2⟩:=hv;unfold aX;exact bM ms R hm hT h2 ho hw hK
 |(g,.ifc t (.unit))::ms,vs,vals,ws,os,B,K,S,R,hm,hT,hv,ho,hw,hK=>by
  cases vs with
  |nil=>unfold aX;trivial|cons v vs=>obtain⟨x,r,rfl,h1,h2⟩:=hv;unfold aX;exact bM ms R hm hT h2 ho hw hK
 |(g,.ifc t (.cell _))::ms,vs,vals,ws,os,B,K,S,R,hm,hT,hv,ho,hw,hK=>by
  cases vs with
  |nil=>unfold aX;trivial|cons v vs=>obtain⟨x,r,rfl,h1,h2⟩:=hv;unfold aX;exact bM ms R hm hT h2 ho hw hK
 |(g,.ifc t (.lp _))::ms,vs,vals,ws,os,B,K,S,R,hm,hT,hv,ho,hw,hK=>by
  cases vs with
  |nil=>unfold aX;trivial|cons v vs=>obtain⟨x,r,rfl,h1,h2⟩:=hv;unfold aX;exact bM ms R hm hT h2 ho hw hK
 |(g,.ifc t (.owns md))::ms,vs,vals,ws,os,B,K,S,R,hm,hT,hv,ho,hw,hK=>by
  cases vs with
  |nil=>unfold aX;trivial|cons v vs=>obtain⟨x,r,rfl,h1,h2⟩:=hv;unfold aX;exact bM ms R hm hT h2 ho hw hK
 |(g,.ifc t (.ownb u))::ms,vs,vals,ws,os,B,K,S,R,hm,hT,hv,ho,hw,hK=>by
  cases vs with
  |nil=>unfold aX;trivial|cons v vs=>obtain⟨x,r,rfl,h1,h2⟩:=hv;unfold aX;exact bM ms R hm hT h2 ho hw hK
 |(g,.ifc t (.rp u))::ms,vs,vals,ws,os,B,K,S,R,hm,hT,hv,ho,hw,hK=>by
  cases vs with
  |nil=>unfold aX;trivial|cons v vs=>obtain⟨x,r,rfl,h1,h2⟩:=hv;unfold aX;exact bM ms R hm hT h2 ho hw hK
 |(g,.ifc t (.fn f ts))::ms,vs,vals,ws,os,B,K,S,R,hm,hT,hv,ho,hw,hK=>by
  cases vs with
  |nil=>unfold aX;trivial|cons v vs=>obtain⟨x,r,rfl,h1,h2⟩:=hv;unfold aX;exact bM ms R hm hT h2 ho hw hK
 |(g,.ifc t (.ifc t2 md))::ms,vs,vals,ws,os,B,K,S,R,hm,hT,hv,ho,hw,hK=>by
  cases vs with
  |nil=>unfold aX;trivial|cons v vs=>obtain⟨x,r,rfl,h1,h2⟩:=hv;unfold aX;exact bM ms R hm hT h2 ho hw hK
theorem IM{P:Program}{w:World}{fn:Func}(hf:P.funcs[f]? =some fn)(hb:fn.body.isSome=true)(hn:(fn.name== "runtime.NumGoroutine")=false)(args:Array Value):
  (callFunc f args).run P w= .ok (.enter f args) w:=by
 have hb' :¬fn.body=none:=by grind
 simp_all [callFunc]
theorem b3c(H:FxOk X)(R:Rel X (CB*q) (CB*q+CB) S m ok a w){h0:Array Obj}{ok0:Nat->Ty->Prop}{r:bF (s.rs++s.outs)}{rs os:d4E}{O' B:d4F}
  (hT:Tk X S m ok w (O' ++B)) (hv:jk ⟨h0,ok0,m⟩ vs vals) (hret:Wp s.rs.length v rs) (ho:vJ w.heap s.ps vals os B) (hr:oP w.heap ok (s.rs++s.outs) r (rs++os) O') {Q:Unit->Sm->Prop}
  (hK:∀S' m',Rel X (CB*q) (CB*q+CB) S' m' ok (a.put o.dst v) w->(∀k l,m k=some l->m' k=some l)->Q () S'):
  (Il (s.rs++s.outs) r (U2 q o.dst) λws n' =>bif Nat.ble n' (U2 q o.dst+64)then(match Gq s.rs.length ws with
    |some (a,o')=>bif Ep a then .fail else aX s.ps vs o' (gW X.E o.dst (a7x a))
    |none=> .fail)else .fail).post S Q:=by
 have hcl:CB*q<=U2 q o.dst:=by
  cases o.dst with
  |none=>exact Z8 _ _|some t=>exact Z8 _ _
 refine NE _ R hcl hT hr λS1 m1 ws n1 ch1 R1 c1 T1 k1 s1 l1 e1=>eP λhle=>?_;have hle' :=X4 hle;split<;>try trivial
 rename_i p p' hsp;obtain⟨rfl,hpl⟩:=a3p _ _ _ _ hsp;obtain⟨l2,l3⟩:=Yh (by rw[hpl,hret.1]) l1;cases ht:Ep p
 .refine bM s.ps R1 k1 T1 hv ho l3 λS2 R2=>?_;have hres:=b7C ht l2 hret;cases hd:o.dst with
  |none=>have hin:=tu H (q:=q) none (λt h=>by grind);rw[hd]at hle' hK;exact hK S2 m1 (R2.chmono l7) k1
  |some t=>refine eP λhb=>?_;have hin:=tu H (q:=q) (some t) (λt' h=>by simp_all [jX]);rw[hd]at hle' hK;have R3:Rel X (CB*q) (CB*q+CB) S2 m1 ok a w:=R2.chmono l7;exact hK _ m1 (R3.put H.ntB hb hres) k1
 .trivial
theorem b1s(H:FxOk X)(hvs:jk ⟨w.heap,ok,m⟩ vs vals){S1:Sm}{ok1:Nat->Ty->Prop}(R1:Rel X (CB*q) (CB*q+CB) S1 m ok1 a w){O:d4F}(T1:Tk X S1 m ok1 w O)
  (k1:∀b t,ok b t->ok1 b t) {okc:Nat->Ty->Prop} (hokc:okL (Gg s) S1 m ok1=okc) {r:bF (s.rs++s.outs)} {e:Ending} {w' :World}
  (hp:∃v ok' O' rs os B,e= .returned v/\Frame' (X.E.gl=[]) w w' O/\(∀b t,okc b t->ok' b t)/\(∀b t,ok' b t->b<w'.heap.size/\(okc b t\/w.heap.size<=b\/b∈O))/\
   (O' ++B).Nodup/\(∀b∈O' ++B,(∀t,¬ok' b t)/\b<w'.heap.size/\(w.heap.size<=b\/b∈O))/\
   Wp s.rs.length v rs/\vJ w'.heap s.ps vals os B/\oP w'.heap ok' (s.rs++s.outs) r (rs++os) O'):
  (Il (s.rs++s.outs) r (U2 q o.dst) λws n' =>bif Nat.ble n' (U2 q o.dst+64)then(match Gq s.rs.length ws with
   |some (a,o')=>bif Ep a then .fail else aX s.ps vs o' (gW X.E o.dst (a7x a))
   |none=> .fail)else .fail).post S1 (λ_ S' =>∃v m' okf,e= .returned v/\Rel X (CB*q) (CB*q+CB) S' m' okf (a.put o.dst v) w' /\(∀k l,m k=some l->m' k=some l)/\(∀b t,ok b t->okf b t)):=by
 have c1:∀b t,ok1 b t->okc b t:=λb t h=>by rw[←hokc];exact .inl h
 have hsep1:∀b t,ok1 b t->∀n,b∉V5 m n (S1 (Z4+n)):=λb t h n e=>(R1.sep n b e).1 t h;have hown:∀b,(w.heap.size<=b\/b∈O)->(X.w0.heap.size<=b\/b∈X.O)/\∀n,b∉V5 m n (S1 (Z4+n)):=λb hb=>by
  rcases hb with hb|hb
  .have:=R1.frame.size;exact⟨.inl l7,λn e=>by have:=(R1.sep n b e).2.1;omega⟩
  .exact(T1.free b hb).2.2
 obtain⟨v,ok',O',rs,os,B,rfl,fr,k2,hok',hnd,hfr,hret,houts,hrel'⟩:=hp;have k3:∀b t,ok1 b t->(ok' b t/\∀n,b∉V5 m n (S1 (Z4+n))):=λb t h=>⟨k2 b t (c1 b t h),hsep1 b t h⟩;have R2:Rel X (CB*q) (CB*q+CB) S1 m (λb t=>ok' b t/\∀n,b∉V5 m n (S1 (Z4+n))) a w' :=by
  refine R1.world fr.os fr.tape fr.output fr.size (λb hb h=>fr.block b hb λhO=>?_) k3 (λb t h=>⟨(hok' b t h.1).1,?_⟩) fr.drawn
  .obtain⟨f1,f2,f3,f4⟩:=T1.free b hO<;>simp_all
  .rcases(hok' b t h.1).2 with h'|h'
   .rw[←hokc]at h';rcases h' with h'|⟨_,n,h',_⟩<;>simp_all
   simp_all
 have hrel2:oP w'.heap (λb t=>ok' b t/\∀n,b∉V5 m n (S1 (Z4+n))) (s.rs++s.outs) r (rs++os) O' :=by
  refine a0E (λb u h k=>⟨h,λn e=>?_⟩) hrel';rcases(hok' b u h).2 with h'|h'
  .rw[←hokc]at h';rcases h' with h'|⟨hl,_⟩<;>grind [Vj,Gg]
  simp_all
 refine b3c H R2 (h0:=w.heap) (ok0:=ok) (vals:=vals) (rs:=rs) (os:=os) (O' :=O') (B:=B) (v:=v) ⟨hnd,λb hb=>?_⟩ hvs hret houts hrel2 λS' m' R' km=>⟨v,m',_,rfl,R',km,λb t hb=>k3 b t (k1 b t hb)⟩<;>simp_all
theorem a2e(H:FxOk X)(hvs:jk ⟨w.heap,ok,m⟩ vs vals){S1:Sm}{ok1:Nat->Ty->Prop}(R1:Rel X (CB*q) (CB*q+CB) S1 m ok1 a w){O:d4F}(T1:Tk X S1 m ok1 w O)
  (k1:∀b t,ok b t->ok1 b t) {okc:Nat->Ty->Prop} (hokc:okL (Gg s) S1 m ok1=okc) {r:bF (s.rs++s.outs)}
  (hC:Calls X.P f vals.toArray w λe w' =>∃v ok' O' rs os B,e= .returned v/\Frame' (X.E.gl=[]) w w' O/\(∀b t,okc b t->ok' b t)/\(∀b t,ok' b t->b<w'.heap.size/\(okc b t\/w.heap.size<=b\/b∈O))/\
   (O' ++B).Nodup/\(∀b∈O' ++B,(∀t,¬ok' b t)/\b<w'.heap.size/\(w.heap.size<=b\/b∈O))/\
   Wp s.rs.length v rs/\vJ w'.heap s.ps vals os B/\oP w'.heap ok' (s.rs++s.outs) r (rs++os) O')
  (hrun:(execOp a.eval o).run X.P w= .ok (.enter f vals.toArray) w):
  (Il (s.rs++s.outs) r (U2 q o.dst) λws n' =>bif Nat.ble n' (U2 q o.dst+64)then(match Gq s.rs.length ws with
   |some (a,o')=>bif Ep a then .fail else aX s.ps vs o' (gW X.E o.dst (a7x a))
   |none=> .fail)else .fail).post S1 (λ_ S' =>kF X (CB*q) (CB*q+CB) o a w m ok S'):=by
 revert hC;generalize hPost:(λ(e:Ending) (w' :World)=>∃v ok' O' rs os B,e= .returned v/\Frame' (X.E.gl=[]) w w' O/\(∀b t,okc b t->ok' b t)/\(∀b t,ok' b t->b<w'.heap.size/\(okc b t\/w.heap.size<=b\/b∈O))/\
  (O' ++B).Nodup/\(∀b∈O' ++B,(∀t,¬ok' b t)/\b<w'.heap.size/\(w.heap.size<=b\/b∈O))/\
  Wp s.rs.length v rs/\vJ w'.heap s.ps vals os B/\oP w'.heap ok' (s.rs++s.outs) r (rs++os) O')=Post
 intro hC;have hall:∀p: { p:Ending×World // Post p.1 p.2 },(Il (s.rs++s.outs) r (U2 q o.dst) λws n' =>bif Nat.ble n' (U2 q o.dst+64)then(match Gq s.rs.length ws with
   |some (a,o')=>bif Ep a then .fail else aX s.ps vs o' (gW X.E o.dst (a7x a))
   |none=> .fail)else .fail).post S1 (λ_ S' =>∃v m' okf,p.1.1= .returned v/\Rel X (CB*q) (CB*q+CB) S' m' okf (a.put o.dst v) p.1.2/\(∀k l,m k=some l->m' k=some l)/\(∀b t,ok b t->okf b t)):=by
  rintro⟨⟨e,w'⟩,hp⟩;rw[←hPost]at hp;exact b1s H hvs R1 T1 k1 hokc hp
 refine xU ?_ (MV hall);intro _ S' hS' next Q hn
 unfold Oper.wp;rw[hrun];refine Calls.mono hC λe w' hp=>?_;obtain⟨v,m',okf,he,R',km,kok⟩:=hS' ⟨(e,w'),hp⟩<;>grind
theorem a5S(H:FxOk X)(R:Rel X (CB*q) (CB*q+CB) S m ok a w)(hvs:jk ⟨w.heap,ok,m⟩ vs vals)
  (run:∀fn,X.P.funcs[f]? =some fn->fn.body.isSome=true->(fn.name== "runtime.NumGoroutine")=false->(execOp a.eval o).run X.P w= .ok (.enter f vals.toArray) w):
  (b1r X.E q o.dst f vs).post S (λ_ S' =>kF X (CB*q) (CB*q+CB) o a w m ok S'):=by
 unfold b1r;cases hPB:Nat.ble 1000000000 f
 case true=>trivial
 split
 .trivial
 rename_i s hs;have hmem:=WY hs;have hF:=H.fs _ hmem;unfold b2T at hF;simp[PB,hPB,cond_false]at hF;obtain⟨fn,hf,hb,hnm⟩:=H.fn _ hmem;simp[b3s,PB,hPB,cond_false]at hf;have hrun:=run fn hf hb hnm;refine d_ R hvs s.ps hvs λhdv=>?_;refine FT s.ps R Tk.nil hvs λS1 ok1 x O R1 T1 k1 s1 hrel=>gG λr hr=>?_;generalize hokc:okL (Gg s) S1 m ok1=okc at hrel;have c1:∀b t,ok1 b t->okc b t:=λb t h=>by rw[←hokc];exact .inl h
 have hlt:∀b t,okc b t->b<w.heap.size:=λb t h=>by
  rw[←hokc]at h;rcases h with h|⟨_,n,h,_⟩
  .exact R1.okLt b t h
  .exact(R1.sep n b h).2.1
 have hfree:∀b∈O,(∀t,¬okc b t)/\b<w.heap.size:=λb hb=>by obtain⟨f1,f2,f3,f4⟩:=T1.free b hb;refine⟨λt h=>?_,f2⟩;rw[←hokc]at h;rcases h with h|⟨_,n,h,_⟩<;>simp_all
 have hC:=hF w okc O _ x r hlt T1.nodup hfree (λg u hg=>by obtain⟨g1,g3,g2⟩:=R1.gl g u hg;refine⟨c1 _ _ g1,g3,λi y hi=>?_⟩<;>grind [gU]) hrel hdv hr
 exact a2e H hvs R1 T1 k1 hokc hC hrun
theorem b5s(H:FxOk X)(R:Rel X (CB*q) (CB*q+CB) S m ok a w)(hvs:jk ⟨w.heap,ok,m⟩ vs vals)
  (run:∀fn,X.P.funcs[f]? =some fn->fn.body.isSome=true->(fn.name== "runtime.NumGoroutine")=false->(execOp a.eval o).run X.P w= .ok (.enter f vals.toArray) w):
  (b5r X.E q o.dst f vs).post S (λx S' =>match x with|none=>kF X (CB*q) (CB*q+CB) o a w m ok S'|some c=>c≠0/\c2f X (CB*q) (CB*q+CB) o a w m ok c S'):=by
 unfold b5r;split
 .trivial
 rename_i s hs;have hmem:=WY hs;have hF:=H.fs _ hmem;have hPB:Nat.ble 1000000000 (1000000000+f)=true:=pK (Z8 _ _);have hsub:1000000000+f -1000000000=f:=Nat.add_sub_cancel_left _ _;unfold b2T at hF;simp only[PB,hPB,cond_true,hsub]at hF;obtain⟨fn,hf,hb,hnm⟩:=H.fn _ hmem;simp only[b3s,PB,hPB,cond_true,hsub]at hf;have hrun:=run fn hf hb hnm;obtain⟨ps,rs,outs,fn0⟩:=s;obtain⟨rs0,h,hF⟩:=hF;subst h;simp only at hF;show(a8r X.E q o.dst vs ps (cd::rs0) outs fn0).post S _;unfold a8r;refine d_ R hvs ps hvs λhdv=>?_;refine FT (ln:=Gg ⟨ps,rs0,outs,λ_=>none⟩) (T:=[]) ps R Tk.nil hvs λS1 ok1 x O R1 T1 k1 s1 hrel=>gG λr hr=>?_;simp only[P6]at T1;generalize hokc:okL (Gg ⟨ps,rs0,outs,λ_=>none⟩) S1 m ok1=okc at hrel;have c1:∀b t,ok1 b t->okc b t:=λb t h=>by rw[←hokc];exact .inl h
 have hlt:∀b t,okc b t->b<w.heap.size:=λb t h=>by
  rw[←hokc]at h;rcases h with h|⟨_,n,h,_⟩
  .exact R1.okLt b t h
  .exact(R1.sep n b h).2.1
 have hfree:∀b∈O,(∀t,¬okc b t)/\b<w.heap.size:=λb hb=>by obtain⟨f1,f2,f3,f4⟩:=T1.free b hb;refine⟨λt h=>?_,f2⟩;rw[←hokc]at h;rcases h with h|⟨_,n,h,_⟩<;>simp_all
 have hC:=hF w okc O _ x r hlt T1.nodup hfree (λg u hg=>by obtain⟨g1,g3,g2⟩:=R1.gl g u hg;refine⟨c1 _ _ g1,g3,λi y hi=>?_⟩<;>grind [gU]) hrel hdv hr
 refine⟨λhz=>?_,λhz=>?_⟩
 .have hz:a8Y (rs0++outs) r=0:=of_decide_eq_true hz;refine Ee (xU ?_ (a2e H (s:=⟨ps,rs0,outs,λ_=>none⟩) hvs R1 T1 k1 hokc (r:=tlT (rs0++outs) r) (hC.mono ?_) hrun))
  .exact λ_ S' h=>h
  simp_all
 .have hz:a8Y (rs0++outs) r≠0:=of_decide_eq_false hz;refine⟨hz,λnext Q hQ=>?_⟩;unfold Oper.wp;rw[hrun,Oper.upon_enter];refine Calls.mono hC λe w' hp=>?_;rcases hp with⟨h,_⟩|⟨_,rfl,fr⟩
  .omega
  .refine hQ m ok1 w' (R1.world fr.os fr.tape fr.output fr.size (λb hb h=>fr.block b hb λhO=>?_) (λ_ _ h=>h) (λb t h=>⟨by have:=R1.okLt b t h;have:=fr.size;omega,.inl h⟩) fr.drawn) (λ_ _ h=>h) k1;obtain⟨f1,f2,f3,f4⟩:=T1.free b hO<;>simp_all
theorem c4O(H:FxOk X)(R:Rel X (CB*q) (CB*q+CB) S m ok a w)(ho:Iq X.E o=some f):
  (opP X.E q o f).post S (λx S' =>match x with|none=>kF X (CB*q) (CB*q+CB) o a w m ok S'|some c=>c≠0/\c2f X (CB*q) (CB*q+CB) o a w m ok c S'):=by
 unfold Iq at ho;split at ho<;>try (cases ho)
 rename_i c hoc;split at ho<;>try (cases ho)
 rename_i f' hcal;obtain⟨cal,args,ats⟩:=c;have hff:f' =f:=by
  grind
 subst hff;unfold opP;simp[hoc];have e:args.map a.eval=(args.toList.map a.eval).toArray:=by grind
 have hrun:∀fn,X.P.funcs[f']? =some fn->fn.body.isSome=true->(fn.name== "runtime.NumGoroutine")=false->(execOp a.eval o).run X.P w= .ok (.enter f' (args.toList.map a.eval).toArray) w:=λfn hf hb hnm=>by simp_all [IM,execOp,resolve,Deferred.ofValue,Act.eval,invoke]
 refine mF R _ λvs hvs=>?_;exact b5s H R hvs hrun
theorem c0M(H:FxOk X)(R:Rel X (CB*q) (CB*q+CB) S m ok a w)(ho:o.op= .call c)(hc:c.callee= .value (.func f)):(fM X.E q o).post S (λ_ S' =>kF X (CB*q) (CB*q+CB) o a w m ok S'):=by
 obtain⟨cal,args,ats⟩:=c;subst hc;unfold fM;simp[ho];have e:args.map a.eval=(args.toList.map a.eval).toArray:=by grind
 have hrun:∀fn,X.P.funcs[f]? =some fn->fn.body.isSome=true->(fn.name== "runtime.NumGoroutine")=false->(execOp a.eval o).run X.P w= .ok (.enter f (args.toList.map a.eval).toArray) w:=λfn hf hb hnm=>by simp_all [IM,execOp,resolve,Deferred.ofValue,Act.eval,invoke]
 refine mF R _ λvs hvs=>?_;exact a5S H R hvs hrun
theorem Og{C:Cx} :∀{a b:List V} {xs ys:d4E},jk C a xs->jk C b ys->jk C (a++b) (xs++ys)
 |[],_,_,_,h,k=>by simp_all [jk]|c::a,b,_,_,⟨v,r,e,h1,h2⟩,k=>by subst e;exact⟨v,r++_,rfl,h1,Og h2 k⟩
theorem a0F{C:Cx} :∀{caps:List ((t:Ty)×t.den)} {vs:d4E},Jo C.h C.ok caps vs->jk C (caps.map c8b) vs
 |[],_,h=>h|c::cs,_,⟨v,r,e,h1,h2⟩=>⟨v,r,e,h1,a0F h2⟩
theorem b6G(H:FxOk X)(R:Rel X (CB*q) (CB*q+CB) S m ok a w){x:Operand}(ho:o.op= .call c)(hc:c.callee= .value x)(hx:∀f,x≠.func f):(fM X.E q o).post S (λ_ S' =>kF X (CB*q) (CB*q+CB) o a w m ok S'):=by
 obtain⟨cal,args,ats⟩:=c;subst hc;unfold fM;simp[ho];refine mF R _ λvs hvs=>?_;refine dC R λu hu=>?_;split<;>try trivial
 obtain⟨cs,hv,hcaps⟩:=hu;refine a5S H R (Og hvs (a0F hcaps)) λfn hf hb hnm=>?_<;>simp_all [IM,execOp,resolve,Deferred.ofValue,invoke]
theorem d4w:∀{l:List ((Nat×String)×Nat×Option Nat)} {t:Nat} {n:String} {r:Nat×Option Nat},d4x l t n=some r->((t,n),r)∈l
 |[],_,_,_,h=>by grind [d4x]|((u,k),r')::l,t,n,r,h=>by
  unfold d4x at h;cases hb:(Nat.beq u t&&(k==n))<;>rw[hb]at h
  .exact X9 _ (d4w h)
  .simp at h;subst h;simp only[A7,beq_iff_eq]at hb;have:=ik hb.1;subst this;rw[hb.2];exact kT
theorem d4z(H:FxOk X)(R:Rel X (CB*q) (CB*q+CB) S m ok a w){x:Operand}{n:String}(ho:o.op= .call c)(hc:c.callee= .invoke x n):(fM X.E q o).post S (λ_ S' =>kF X (CB*q) (CB*q+CB) o a w m ok S'):=by
 obtain⟨cal,args,ats⟩:=c;subst hc;unfold fM;simp[ho];refine mF R _ λvs hvs=>dC R λu hu=>?_;split<;>try trivial
 rename_i t v;obtain⟨z,hz,hz1,hzv⟩:=hu;have e3:(#[a.eval x]++args.map a.eval)[0]? =some (a.eval x):=by simp[qw]
 have e4:(args.map a.eval).extract 0 args.size=args.map a.eval:=by simp
 have fin:∀(f:Nat) (r:Value) (fn:Func),X.P.funcs[f]? =some fn->fn.body.isSome=true->(fn.name== "runtime.NumGoroutine")=false->(method (X.P.types.size+Made.depth) t z n).run X.P w= .ok (f,r) w->
   (execOp a.eval o).run X.P w= .ok (.enter f (r::args.toList.map a.eval).toArray) w:=λf r fn hf hb hnm hM=>by
  have:=IM (w:=w) hf hb hnm (#[r]++args.map a.eval);have e:#[r]++args.map a.eval=(r::args.toList.map a.eval).toArray:=x9;simp[execOp,ho,resolve,H5,bJ,N7,invoke,e3];simp[hz,callMethod,hM,e4,this]
 split<;>try trivial
 .rename_i f hmt;have hM:=H.ms _ (d4w hmt);exact a5S H R ⟨z,_,rfl,a4N hzv,hvs⟩ λfn hf hb hnm=>fin f z fn hf hb hnm (hM z w)
 .rename_i f e0 hmt;have hM:=H.ms _ (d4w hmt);refine JF H R (a4N hzv) λv' u ad hv' hp hr=>?_;refine a5S H R ⟨u,_,rfl,hv',hvs⟩ λfn hf hb hnm=>fin f u fn hf hb hnm ?_;rw[hM z w ad hp,hr];rfl
end
end Go.GP
namespace Go.GP
variable {q:Nat}{ops:Array Oper}{i:Nat}
section
variable {X:Fx} {S:Sm} {m:Mp} {ok:Nat->Ty->Prop} {a:Act} {w:World} {o:Oper}
theorem ZG{α:Type}{Q:α->Sm->Prop}{cl ch:Nat} :∀(ms:List MG) {vs:List V} {xs:d4E} {K:List ((t:Ty)×t.den)->Cmd α} {S:Sm} {ok:Nat->Ty->Prop} (R:Rel X cl ch S m ok a w)
  (hv:jk ⟨w.heap,ok,m⟩ vs xs)
  (hK:∀S' ok' cs,Rel X cl ch S' m ok' a w->(∀b t,ok b t->ok' b t)->Jo w.heap ok' cs xs->(K cs).post S' Q),(zQ ms vs K).post S Q
 |[],vs,xs,K,S,ok,R,hv,hK=>by
  cases vs with
  |cons _ _=>trivial|nil=>exact hK S ok [] R (λ_ _ h=>h) hv
 |(g,.rp t)::ms,vs,xs,K,S,ok,R,hv,hK=>by
  cases vs with
  |nil=>trivial|cons v vs=>
   obtain⟨x,r,rfl,h1,h2⟩:=hv;unfold zQ;have key:yR ⟨w.heap,ok,m⟩ v x->(rpC t v λx=>zQ ms vs λcs=>K (⟨t,x⟩::cs)).post S Q:=λh1=>by refine a7E t R Tk.nil h1 λS1 ok1 y R1 T1 k1 s1 d1=>?_;refine ZG ms R1 (QB k1 h2) λS2 ok2 cs R2 k2 d2=>?_;exact hK S2 ok2 _ R2 (λb t h=>k2 b t (k1 b t h)) ⟨x,r,rfl,Jb k2 (λ_ _ _=>rfl) d1,d2⟩
   cases v<;>first|exact key h1|(trivial)
 |(g,.dat t)::ms,vs,xs,K,S,ok,R,hv,hK=>by cases vs<;>(trivial)|(g,.own t)::ms,vs,xs,K,S,ok,R,hv,hK=>by cases vs<;>(trivial)|(g,.pair p q)::ms,vs,xs,K,S,ok,R,hv,hK=>by cases vs<;>(trivial)|(g,.unit)::ms,vs,xs,K,S,ok,R,hv,hK=>by cases vs<;>(trivial)|(g,.cell _)::ms,vs,xs,K,S,ok,R,hv,hK=>by cases vs<;>(trivial)|(g,.lp _)::ms,vs,xs,K,S,ok,R,hv,hK=>by cases vs<;>(trivial)|(g,.box p)::ms,vs,xs,K,S,ok,R,hv,hK=>by cases vs<;>(trivial)|(g,.owns p)::ms,vs,xs,K,S,ok,R,hv,hK=>by cases vs<;>(trivial)|(g,.ownb p)::ms,vs,xs,K,S,ok,R,hv,hK=>by cases vs<;>(trivial)|(g,.fn f ts)::ms,vs,xs,K,S,ok,R,hv,hK=>by cases vs<;>(trivial)|(g,.ifc t p)::ms,vs,xs,K,S,ok,R,hv,hK=>by cases vs<;>(trivial)
theorem a6X(H:FxOk X)(R:Rel X (CB*q) (CB*q+CB) S m ok a w){f:FuncId}{first caps:Array Operand}(ho:o.op= .makeFunc (.func f) first caps):(fM X.E q o).post S (λ_ S' =>kF X (CB*q) (CB*q+CB) o a w m ok S'):=by
 unfold fM;simp[ho];refine bP λhb=>?_;split<;>try trivial
 refine mF R _ λvs hvs=>ZG _ R hvs λS' ok' cs R' k hc=>?_;refine xI H R' (λ_ _ h=>h) k ⟨caps.map a.eval,rfl,by simp_all⟩ ?_;simp_all [execOp,Instr.makeFunc]
theorem WV(H:FxOk X)(R:Rel X (CB*q) (CB*q+CB) S m ok a w){t:TypeId}{x:Operand}(ho:o.op= .makeInterface t x):(fM X.E q o).post S (λ_ S' =>kF X (CB*q) (CB*q+CB) o a w m ok S'):=by
 unfold fM;simp[ho];refine nH H λi hi=>?_;have htd:=hi.td;have key:∀d,X.P.underlying t=some d->(∀ms,d≠.interface ms)->(wK x λv=>(match v with
   | .b ..| .i ..| .s ..| .ptr ..=>gW X.E o.dst (.ifc t v)
   |_=> .fail:Cmd Unit)).post S (λ_ S' =>kF X (CB*q) (CB*q+CB) o a w m ok S'):=λd hd hne=>by
  refine dC R λv hv=>?_;have run:(execOp a.eval o).run X.P w= .ok (.value (.iface t (a.eval x))) w:=by simp_all [execOp,Instr.makeInterface,run_underlying]
  cases v<;>try trivial
  case b y=>exact dH H R ⟨_,rfl,by rw[Xe hv];rfl,hv⟩ run
  case i k n=>exact dH H R ⟨_,rfl,by rw[xX hv];rfl,hv⟩ run
  case s l=>exact dH H R ⟨_,rfl,by rw[QA hv];rfl,hv⟩ run
  case ptr bx off=>obtain⟨blk,h1,h2⟩:=hv;exact dH H R ⟨_,rfl,by rw[h2];rfl,⟨blk,h1,h2⟩⟩ run
 cases htd' :i.td<;>rw[htd']at htd<;>try trivial
 all_goals exact key _ htd (λ_ e=>by cases e)
theorem d4y(H:FxOk X)(R:Rel X (CB*q) (CB*q+CB) S m ok a w){xt t:TypeId}{x:Operand}{okk:Bool}(ho:o.op= .typeAssert x xt t okk):(fM X.E q o).post S (λ_ S' =>kF X (CB*q) (CB*q+CB) o a w m ok S'):=by
 unfold fM;simp[ho];refine nH H λi hi=>?_;have htd:=hi.td;have key:∀d,X.P.underlying t=some d->(∀ms,d≠.interface ms)->(wK x λv=>(match v with
   | .ifc t' v=>bif Nat.beq t' t then gW X.E o.dst (bif okk then .tup [v,.b true]else v)else .fail
   |_=> .fail:Cmd Unit)).post S (λ_ S' =>kF X (CB*q) (CB*q+CB) o a w m ok S'):=λd hd hne=>by
  refine dC R λv hv=>?_;cases v<;>try trivial
  case ifc t' c=>
  obtain⟨u,hx,h1,hc⟩:=hv;refine bP λhb=>?_;have hb' :=ik hb;have run:(execOp a.eval o).run X.P w= .ok (.value (if okk then .tuple #[u,.bool true]else u)) w:=by simp_all [execOp,Instr.typeAssert,run_underlying]
  cases okk
  .exact dH H R (a4N hc) run
  .refine dH H R ⟨_,rfl,⟨_,_,rfl,?_,_,_,rfl,rfl,rfl⟩⟩ run;cases c<;>first|exact hc|cases hc
 cases htd' :i.td<;>rw[htd']at htd<;>try trivial
 case struct fs=>obtain⟨fields,hu,_⟩:=htd<;>grind
 all_goals exact key _ htd (λ_ e=>by cases e)
theorem c4P(H:FxOk X)(R:Rel X (CB*q) (CB*q+CB) S m ok a w)(o:Oper):(fM X.E q o).post S (λ_ S' =>kF X (CB*q) (CB*q+CB) o a w m ok S'):=by
 have fin:∀{α:Type} {Q:α->Sm->Prop},(Cmd.fail:Cmd α).post S Q:=trivial;cases ho:o.op
 case move x=>simp_all [b2e,fM]
 case assign x=>simp_all [b2e,fM]
 case pick c x y=>grind [c0P]
 case alloc t=>exact b6D H R ho
 case box t x=>exact c4Q H R ho
 case build t ps=>grind [b6F]
 case buildSlice t n ps=>exact a1C H R ho
 case load t x=>exact c0N H R ho
 case store t x y=>grind [b6K]
 case binOp op t x y yt=>grind [b6E]
 case unOp op t x=>grind [c0Q]
 case convert s t x=>exact a9q H R ho
 case makeSlice t l c=>exact a4v H R ho
 case slice t x lo hi mx=>
  cases mx with
  |none=>exact b6J H R ho|some _=>simp_all [fM]
 case fieldAddr t x f=>grind [a4t]
 case field t x f=>grind [d4A]
 case indexAddr t x ix=>grind [a4u]
 case index t x ix=>grind [b6H]
 case extract x n=>grind [a9r]
 case nilCheck x=>simp_all [a6Y]
 case call c=>
  cases hc:c.callee
  case builtin b=>
   cases b
   case len=>simp_all [c4S]
   case append=>exact b3Q H R ho hc
   case delete=>simp_all [b3T]
   case min=>simp_all [a2R]
   case max=>simp_all [a2R]
   all_goals
    unfold fM;simp only[ho];exact mF R _ λvs hvs=>by simp[hc];exact fin
  case value f=>
   cases f
   case func f=>exact c0M H R ho hc
   all_goals exact b6G H R ho hc (λf e=>by cases e)
  case invoke x n=>exact d4z H R ho hc
 case makeFunc f first caps=>
  cases f
  case func f=>exact a6X H R ho
  all_goals simp_all [fM]
 case makeInterface t x=>exact WV H R ho
 case typeAssert x xt t ok=>exact d4y H R ho
 case makeMap t r=>exact a9s H R ho
 case lookup t x ix ok=>grind [b3U]
 case mapUpdate t x ix y=>grind [Vp]
 case insert t x ix y=>exact Vp H R (.inr ho)
 all_goals simp_all [fM]
def PE(X:Fx)(cl ch:Nat)(ops:Array Oper)(i:Nat)(a:Act)(w:World)(m:Mp)(ok:Nat->Ty->Prop)(S' :Sm):Prop:=
 ∀(next:Act->World->Prop) (Q:Exit->Act->World->Prop),
  (∀m' ok' a' w',Rel X cl ch S' m' ok' a' w' ->(∀k l,m k=some l->m' k=some l)->(∀b t,ok b t->ok' b t)->next a' w')->wpOp X.P ops Q i next a w
theorem Ul(H:FxOk X){cl ch:Nat}(R:Rel X cl ch S m ok a w)(hi:ops[i]? =some o)(hw:Region.wanted o (yielded ops a.tmps)=false):
  (gW X.E o.dst .un).post S (λ_ S' =>PE X cl ch ops i a w m ok S'):=by
 have h:∀S',Rel X cl ch S' m ok (a.put o.dst Go.undef) w->PE X cl ch ops i a w m ok S' :=λS' R' next Q hn=>by unfold wpOp;simp[hi,hw,Bool.false_eq_true,if_false];exact hn m ok _ w R' (λ_ _ h=>h) (λ_ _ h=>h)
 cases hd:o.dst with
 |none=>rw[hd]at h;exact h S R
 |some d=>rw[hd]at h;exact eP λhb=>h _ (R.put H.ntB hb rfl)
theorem Tc{tmps:Array Value}{t:Nat}{v:Value}(h:tmps.getD t Go.undef=v)(hv:v≠Go.undef):tmps[t]? =some v:=by
 rw[X7]at h
 grind
theorem b4x(H:FxOk X)(R:Rel X (CB*q) (CB*q+CB) S m ok a w)(hi:ops[i]? =some o):
  (Oq X.E q ops.toList o).post S (λ_ S' =>PE X (CB*q) (CB*q+CB) ops i a w m ok S'):=by
 have yes:Region.wanted o (yielded ops a.tmps)=true->(fM X.E q o).post S (λ_ S' =>PE X (CB*q) (CB*q+CB) ops i a w m ok S'):=λhw=>by
  refine xU ?_ (c4P H R o);intro _ S' h next Q hn
  unfold wpOp;simp[hi,hw,if_true];exact .inl (h next Q hn)
 unfold Oq;cases hg:o.guard with
 |none=>simp_all [Region.wanted]|some p=>
  obtain⟨j,want⟩:=p;cases hj:ops.toList[j]? with
  |none=>simp[hj];trivial|some p=>
   simp only[hj];cases hd:p.dst with
   |none=>trivial|some t=>
    refine eP λhlt=>aO ?_;have hsl:=R.slot t (Lr hlt);have hyd:yielded ops a.tmps j=match a.tmps[t]? with|some (.bool b)=>some b|_=>none:=by
     grind [yielded]
    split<;>try trivial
    .rename_i y hS;rw[hS]at hsl;have hb:=hsl;have hy:yielded ops a.tmps j=some y:=by
      rw[hyd,Tc hb (by simp[Go.undef])]
     have hwt:Region.wanted o (yielded ops a.tmps)=(bif want then y else !y):=by
      grind [Region.wanted]
     cases hc:(bif want then y else !y)
     .exact Ul H R hi (hwt.trans hc)
     simp_all
    .rename_i hS;rw[hS]at hsl;have hb:=hsl;have hwt:Region.wanted o (yielded ops a.tmps)=false:=by
      unfold Region.wanted;rw[hg];simp only[hyd];rw[X7]at hb;cases hx:a.tmps[t]? with
      |none=>rfl|some x=>rw[hx]at hb;subst hb;rfl
     exact Ul H R hi hwt
def a3G(X:Fx)(cl ch:Nat)(ops:Array Oper)(i:Nat)(a:Act)(w:World)(m:Mp)(ok:Nat->Ty->Prop)(c:Int)(S' :Sm):Prop:=
 ∀(next:Act->World->Prop) (Q:Exit->Act->World->Prop),
  (∀m' ok' w',Rel X cl ch S' m' ok' a w' ->(∀k l,m k=some l->m' k=some l)->(∀b t,ok b t->ok' b t)->Q (.panic (Bq X.P c)) a w')->wpOp X.P ops Q i next a w
theorem a0X(H:FxOk X)(R:Rel X (CB*q) (CB*q+CB) S m ok a w)(hi:ops[i]? =some o){f:FuncId}(hp:Iq X.E o=some f):
  (Nb X.E q ops.toList o f).post S (λx S' =>match x with|none=>PE X (CB*q) (CB*q+CB) ops i a w m ok S'|some c=>c≠0/\a3G X (CB*q) (CB*q+CB) ops i a w m ok c S'):=by
 have yes:Region.wanted o (yielded ops a.tmps)=true->(opP X.E q o f).post S (λx S' =>match x with|none=>PE X (CB*q) (CB*q+CB) ops i a w m ok S'|some c=>c≠0/\a3G X (CB*q) (CB*q+CB) ops i a w m ok c S'):=λhw=>by
  refine xU ?_ (c4O H R hp);intro x S' h;cases x with
  |none=>
   intro next Q hn
   unfold wpOp;simp[hi,hw,if_true];exact .inl (h next Q hn)
  |some c=>refine⟨h.1,λnext Q hn=>?_⟩;unfold wpOp;simp[hi,hw,if_true];exact .inl (h.2 next Q hn)
 have no:Region.wanted o (yielded ops a.tmps)=false->((gW X.E o.dst .un).bind λ_=>(.ret none:Cmd d4H)).post S (λx S' =>match x with|none=>PE X (CB*q) (CB*q+CB) ops i a w m ok S'|some c=>c≠0/\a3G X (CB*q) (CB*q+CB) ops i a w m ok c S'):=λhw=>
  Ee (xU (λ_ S' h=>h) (Ul H R hi hw))
 unfold Nb;cases hg:o.guard with
 |none=>simp_all [Region.wanted]|some p=>
  obtain⟨j,want⟩:=p;cases hj:ops.toList[j]? with
  |none=>simp[hj];trivial|some p=>
   simp[hj];cases hd:p.dst with
   |none=>trivial|some t=>
    refine eP λhlt=>aO ?_;have hsl:=R.slot t (Lr hlt);have hyd:yielded ops a.tmps j=match a.tmps[t]? with|some (.bool b)=>some b|_=>none:=by
     grind [yielded]
    split<;>try trivial
    .rename_i y hS;rw[hS]at hsl;have hb:=hsl;have hy:yielded ops a.tmps j=some y:=by
      rw[hyd,Tc hb (by simp[Go.undef])]
     grind [Region.wanted]
    .rename_i hS;rw[hS]at hsl;have hb:=hsl;have hwt:Region.wanted o (yielded ops a.tmps)=false:=by
      unfold Region.wanted;rw[hg];simp only[hyd];rw[X7]at hb;cases hx:a.tmps[t]? with
      |none=>rfl|some x=>rw[hx]at hb;subst hb;rfl
     simp_all
theorem b0B(H:FxOk X)(R:Rel X (CB*q) (CB*q+CB) S m ok a w)(hi:ops[i]? =some o):
  (qU X.E q ops.toList o).post S (λ_ S' =>PE X (CB*q) (CB*q+CB) ops i a w m ok S'):=by
 unfold qU;cases hp:Iq X.E o with
 |none=>exact b4x H R hi|some f=>
  refine Ee (xU ?_ (a0X H R hi hp));intro x S' h;cases x with
  |none=>exact h|some c=>trivial
end
end Go.GP
namespace Go.GP
def Zg(E:Env)(q:Nat)(all l:List Oper)(S:Nat->Sm)(T:Nat->Tr):Prop:=
 ∀i o,l[i]? =some o->(qU E q all o).eval (S i) ([],[])=some ((),S (i+1),T i)
def a0P(s:Sm)(S:Nat->Sm):Nat->Sm|0=>s|i+1=>S i
def a0Q(t:Tr)(T:Nat->Tr):Nat->Tr|0=>t|i+1=>T i
variable {R:Type}
theorem Oc{t:Nat}{s:St}{K:St->Option R}{r:R}(h:VA t s K=some r):∃s0,Y1 s0=Y1 s/\K s0=some r:=by
 unfold VA at h;rw[MI]at h;split at h<;>try (simp at h)
 .rename_i y hy;have key:∀b,y=b->Y1 (.kv t (.b b)::s)=Y1 s:=λb hb=>by
   rw[yJ];funext k;by_cases e:k=t<;>simp_all [Z5]
  cases y
  .exact⟨_,key false rfl,h⟩
  .exact⟨_,key true rfl,h⟩
 grind
def YC(n:Nat)(E:Env)(q:Nat)(all l:List Oper)(S:Nat->Sm)(T:Nat->Tr):Prop:=
 ∀i o,i<n->l[i]? =some o->(qU E q all o).eval (S i) ([],[])=some ((),S (i+1),T i)
variable {E:Env}{q:Nat}{all:List Oper}{o:Oper}
theorem b0A(h:Iq E o=none):qU E q all o=Oq E q all o:=by simp_all [qU]
theorem b0C{f:Nat}(h:Iq E o=some f):qU E q all o=(Nb E q all o f).bind c8q:=by simp_all [qU]
def a5t(E:Env)(q:Nat)(all l:List Oper)(P:Int->St->Tr->Trs->Option R)(s:St)(t:Trs)(K:St->Trs->Option R)(r:R):Prop:=
  (∃s' S T,S 0=Y1 s/\S l.length=Y1 s' /\Zg E q all l S T/\K s' (((List.range l.length).map T).reverse++t)=some r)\/
  (∃k o f c s' tr S T,l[k]? =some o/\Iq E o=some f/\S 0=Y1 s/\YC k E q all l S T/\(Nb E q all o f).eval (S k) ([],[])=some (some c,Y1 s',tr)/\P c s' tr (((List.range k).map T).reverse++t)=some r)
theorem a5t.cons{P:Int->St->Tr->Trs->Option R}{l:List Oper}{s s0 s1:St}{t:Trs}{tr:Tr}{K:St->Trs->Option R}{r:R}(hs0:Y1 s0=Y1 s)
  (e:(qU E q all o).eval (Y1 s0) ([],[])=some ((),Y1 s1,tr)) (h:a5t E q all l P s1 (tr::t) K r):a5t E q all (o::l) P s t K r:=by
 rcases h with⟨s',S,T,h0,h1,h2,h3⟩|⟨k,o',f,c,s',tr',S,T,g1,g2,h0,h2,g3,h3⟩
 .refine .inl ⟨s',a0P (Y1 s) S,a0Q tr T,rfl,h1,λi o' hi=>?_,?_⟩
  .cases i with
   |zero=>simp at hi;subst hi;show(qU E q all o).eval (Y1 s) ([],[])=some ((),S 0,tr);simp_all|succ i=>exact h2 i o' (by simp_all)
  .rw[H7,jr,aS,lS,G7,pJ];exact h3
 .refine .inr ⟨k+1,o',f,c,s',tr',a0P (Y1 s) S,a0Q tr T,by simp_all,g2,rfl,λi o'' hik hi=>?_,g3,?_⟩
  .cases i with
   |zero=>simp at hi;subst hi;show(qU E q all o).eval (Y1 s) ([],[])=some ((),S 0,tr);simp_all|succ i=>exact h2 i o'' l7 (by simp_all)
  .rw[jr,aS,lS,G7,pJ];exact h3
theorem Hq{R:Type}{E:Env}{q:Nat}{all:List Oper}{P:Int->St->Tr->Trs->Option R} :∀(l:List Oper) {s:St} {t:Trs} {K:St->Trs->Option R} {r:R},Ii E q all P l s t K=some r->
  a5t E q all l P s t K r
 |[],s,t,K,r,h=> .inl ⟨s,λ_=>Y1 s,λ_=>([],[]),rfl,rfl,λi o hi=>by simp_all,by simp_all [Ii]⟩|o::l,s,t,K,r,h=>by
  have key:∀s0,Y1 s0=Y1 s->Iq E o=none->(Oq E q all o).runK s0 ([],[]) (λ_ s' tr=>Ii E q all P l s' (tr::t) K)=some r->a5t E q all (o::l) P s t K r:=λs0 hs0 hp h=>by obtain⟨x,s1,tr,e,hk⟩:=jT h;exact a5t.cons hs0 (by rw[b0A hp];exact e) (Hq l hk)
  have keyP:∀s0 f,Y1 s0=Y1 s->Iq E o=some f->(Nb E q all o f).runK s0 ([],[]) (λx s' tr=>match x with|none=>Ii E q all P l s' (tr::t) K|some c=>P c s' tr t)=some r->a5t E q all (o::l) P s t K r:=λs0 f hs0 hp h=>by
   obtain⟨x,s1,tr,e,hk⟩:=jT h;cases x with
   |none=>refine a5t.cons hs0 ?_ (Hq l hk);rw[b0C hp,BA,e];rfl|some c=>exact .inr ⟨0,o,f,c,s1,tr,λ_=>Y1 s,λ_=>([],[]),rfl,hp,rfl,λi o' hi=>by omega,by rw[←hs0];exact e,by simpa using hk⟩
  unfold Ii at h;split at h
  .grind [Oc]
  .rename_i f hp;split at h
   .exact keyP s f rfl hp h
   .obtain⟨s0,e,h⟩:=Oc h;exact keyP s0 f e hp h
theorem uK{α:Type}(T:Nat->α)(n:Nat):((List.range (n+1)).map T).reverse=T n::((List.range n).map T).reverse:=by simp[gq]
theorem Bz{a b:d4F}(h:UH a b=true):∀k∈a,k∉b:=by
 induction a with
 |nil=>simp|cons x a ih=>
  unfold UH at h;cases hm:He x b
  .intro k hk hkb;rcases C9.1 hk with rfl|hk
   .have:∀(l:d4F),He k l=false->k∉l:=by
     intro l;induction l with
     |nil=>simp|cons y l ih=>intro hm hk<;>simp_all [He]
    simp_all
   simp_all
  simp_all
theorem V_{k:Nat} :∀{l:d4F},He k l=true->k∈l
 |[],h=>by grind [He]|y::l,h=>by
  unfold He at h;cases hb:Nat.beq y k
  .simp[hb,cond_false]at h;exact X9 _ (V_ h)
  .have:=ik hb;subst this;simp
def a1S(x y:Tr):Prop:=(∀k∈x.2,k∉y.1/\k∉y.2)/\∀k∈x.1,k∉y.2
theorem XV{b:Bool}{x y:Tr}(h:a0i b x y=true):b=true\/a1S x y:=by
 unfold a0i at h;cases b
 .simp at h;exact .inr ⟨λk hk=>⟨Bz h.1.1 k hk,Bz h.1.2 k hk⟩,λk hk=>Bz h.2 k hk⟩
 .simp
theorem NT{mask:Nat}{y:Tr}{T:Nat->Tr} :∀n,RF mask y ((List.range n).map T).reverse n=true->∀i,i<n->Nat.testBit mask i=true\/a1S (T i) y
 |0,_,i,hi=>by omega|n+1,h,i,hi=>by
  rw[uK]at h;unfold RF at h;simp at h;by_cases e:i=n
  .subst e;exact XV h.1
  .exact NT n h.2 i l7
theorem Qp{M:Nat->Nat}{T:Nat->Tr} :∀n,Ud ((List.range n).map M).reverse ((List.range n).map T).reverse=true->∀i j,i<j->j<n->Nat.testBit (M j) i=true\/a1S (T i) (T j)
 |0,_,i,j,_,hj=>by omega|n+1,h,i,j,hi,hj=>by
  rw[uK,uK]at h;unfold Ud at h;simp at h;by_cases e:j=n
  .grind [NT]
  .exact Qp n h.2 i j hi l7
theorem QI:∀{a b:d4F},KZ a b=true->a=b
 |[],[],_=>rfl|[],_::_,h=>by cases h|_::_,[],h=>by cases h|a::l,b::m,h=>by
  unfold KZ at h;cases hb:Nat.beq a b
  .simp[hb]at h
  .simp[hb,cond_true]at h;rw[ik hb,QI h]
def a5x(ord:Nat->Nat->Prop)(ex:Nat->Nat->Prop)(T:Nat->Tr)(i j:Nat):Prop:=
 ord i j\/((∀k∈(T i).2,k∉(T j).1/\k∉(T j).2)/\((∀k∈(T i).1,k∉(T j).2)\/
  (ex i j/\(∀k∈(T i).2,k∉(T i).1)/\∀m,i<m->m<j->ord m j\/∀k∈(T i).1,k∉(T m).2)))
theorem b6h{P:Nat->Prop} :∀(n:Nat),(∃j,j<n/\P j)->∃j,j<n/\P j/\∀m,j<m->m<n->¬P m
 |0,⟨j,h,_⟩=>by omega|n+1,⟨j,h,hp⟩=>by
  by_cases e:P n
  .grind
  .have:j≠n:=λe2=>e (e2▸hp);obtain⟨j',h1,h2,h3⟩:=b6h n ⟨j,l7,hp⟩<;>grind
variable {n:Nat}
theorem a5z{c:Nat->Cmd Unit}{S:Nat->Sm}{T:Nat->Tr}(hs:∀i,i<n->(c i).eval (S i) ([],[])=some ((),S (i+1),T i)){ord ex:Nat->Nat->Prop}
  (hc:∀i j,i<j->j<n->a5x ord ex T i j) (hex:∀i j,i<j->j<n->ex i j->∃S',(c i).eval (S (j+1)) ([],[])=some ((),S',T i)/\∀k∈(T i).2,S' k=S (i+1) k)
  {D:d4F} {i:Nat} (hi:i<n) (hD:i∉D) (hlt:∀j∈D,j<n) (hp:∀j,ord j i->j∈D) (hdown:∀j∈D,∀k,ord k j->k∈D):
  (c i).eval (SD S T D n) ([],[])=some ((),SD S T (i::D) n,T i):=by
 have before:∀k,(k∈(T i).1\/k∈(T i).2)->∀j,j<i->k∈(T j).2->j∈D:=λk hk j hj hw=>by rcases hc j i hj hi with h|⟨h1,_⟩<;>simp_all
 have afterW:∀k,k∈(T i).2->∀j,i<j->j<n->k∈(T j).2->j∉D:=λk hk j hj hjn hw hjD=>by rcases hc i j hj hjn with h|⟨h1,h2⟩<;>grind
 have fin:∀S0 S1:Sm,(c i).eval S0 ([],[])=some ((),S1,T i)->(∀k∈(T i).2,S1 k=S (i+1) k)->(∀k∈(T i).1,SD S T D n k=S0 k)->(c i).eval (SD S T D n) ([],[])=some ((),SD S T (i::D) n,T i):=λS0 S1 he hv hr=>by
  obtain⟨T',h1,_,h3,h4⟩:=wY he (SD S T D n) hr;rw[h1];have:T' =SD S T (i::D) n:=by
   funext k;by_cases hk:k∈(T i).2
   .rw[h4 k hk x9,hv k hk];rw[Us (i::D) k (i+1) n l7 (λj h1 h2 hw=>by
     grind)]
    simp[SD,hk]
   simp_all [b1b]
  grind
 by_cases hx:∃j,j<n/\(i<j/\j∈D/\∃k∈(T i).1,k∈(T j).2)
 .obtain⟨j,hjn,⟨hij,hjD,k0,hk0,hk1⟩,hmax⟩:=b6h n hx;rcases hc i j hij hjn with h|⟨_,h2⟩
  .grind
  .rcases h2 with h2|⟨h3,h4,h5⟩
   .simp_all
   .obtain⟨S',he,hv⟩:=hex i j hij hjn h3;refine fin (S (j+1)) S' he hv λk hk=>?_;rw[Us D k (j+1) n l7 (λm g1 g2 hw hmD=>hmax m l7 g2 ⟨l7,hmD,k,hk,hw⟩)];refine IY hs D k (j+1) l7 λm hm hw=>?_<;>grind
 .refine fin (S i) (S (i+1)) (hs i hi) (λ_ _=>rfl) λk hk=>?_;rw[Us D k i n l7 (λj h1 h2 hw hjD=>by
   grind)]
  exact IY hs D k i l7 (before k (.inl hk))
def uH(e:Edge):Prop:=match e.ground with| .textOnly _=>False| .gcOnly _=>False|_=>True
theorem uH.binds{e:Edge}(h:uH e)(md:Region.Mode):Region.binds md e=true:=by
 grind [uH,Region.binds]
theorem a2c{e:Edge}(h:Region.binds .any e=true):uH e:=by
 grind [Region.binds,uH]
theorem LD{M:Nat->Nat}{n k:Nat}(hk:k<n):(((List.range n).map M).reverse).getD (n -1 -k) 0=M k:=by
 grind
theorem TP{M:Nat->Nat}{n:Nat} :∀(es:List Edge) {m m' :Nat},SV ((List.range n).map M).reverse n es m=some m' ->
  (∀e∈es,uH e->e.on<n)/\∀j,Nat.testBit m' j=true->Nat.testBit m j=true\/∃e∈es,uH e/\(j=e.on\/Nat.testBit (M e.on) j=true)
 |[],m,m',h=>by simp[SV]at h;subst h;exact⟨λ_ h=>absurd h x9,λj hj=> .inl hj⟩|e::es,m,m',h=>by
  have plain:(bif Nat.blt e.on n then SV ((List.range n).map M).reverse n es (m ||| 2^e.on ||| (((List.range n).map M).reverse).getD (n -1 -e.on) 0)else none)=some m' ->uH e->
    (∀e' ∈e::es,uH e' ->e'.on<n)/\∀j,Nat.testBit m' j=true->Nat.testBit m j=true\/∃e' ∈e::es,uH e' /\(j=e'.on\/Nat.testBit (M e'.on) j=true):=λh hp=>by
   cases hb:Nat.blt e.on n
   .simp_all
   .simp only[hb,cond_true]at h;have hlt:=Lr hb;rw[LD hlt]at h;obtain⟨h1,h2⟩:=TP es h<;>grind
  have skip:SV ((List.range n).map M).reverse n es m=some m' ->¬uH e->
    (∀e' ∈e::es,uH e' ->e'.on<n)/\∀j,Nat.testBit m' j=true->Nat.testBit m j=true\/∃e' ∈e::es,uH e' /\(j=e'.on\/Nat.testBit (M e'.on) j=true):=λh hp=>by
   obtain⟨h1,h2⟩:=TP es h<;>simp_all
  unfold SV at h;cases hg:e.ground<;>simp only[hg]at h
  case textOnly=>simp_all [uH]
  case gcOnly=>simp_all [uH]
  all_goals exact plain h (by simp[uH,hg])
theorem MW:∀(l:List Oper) {n:Nat} {M:Nat->Nat} {ms:d4F},Yy l n ((List.range n).map M).reverse=some ms->
  ∃M' :Nat->Nat,ms=((List.range (n+l.length)).map M').reverse/\(∀k,k<n->M' k=M k)/\
   ∀i o,l[i]? =some o->(∀e∈o.after.toList,uH e->e.on<n+i)/\∀j,Nat.testBit (M' (n+i)) j=true->∃e∈o.after.toList,uH e/\(j=e.on\/Nat.testBit (M' e.on) j=true)
 |[],n,M,ms,h=>by simp only[Yy,E9]at h;subst h;exact⟨M,rfl,λ_ _=>rfl,λi o hi=>by simp_all⟩|o::l,n,M,ms,h=>by
  unfold Yy at h;cases he:SV ((List.range n).map M).reverse n o.after.toList 0 with
  |none=>simp_all|some m=>
   simp only[he]at h;obtain⟨h1,h2⟩:=TP _ he;have hM:m::((List.range n).map M).reverse=((List.range (n+1)).map (λk=>if k=n then m else M k)).reverse:=by
    grind [uK,List.map_congr_left]
   rw[hM]at h;obtain⟨M',e1,e2,e3⟩:=MW l h;have hMn:M' n=m:=by simp_all
   have hMk:∀k,k<n->M' k=M k:=λk hk=>by grind
   refine⟨M',by grind,hMk,λi o' hi=>?_⟩;cases i<;>grind
theorem Ve:∀(n:Nat) {D:d4F},D.Nodup->(∀x∈D,x<n)->D.length<=n
 |0,D,_,h=>by
  cases D with
  |nil=>simp|cons x D=>have:=h x x9;omega
 |n+1,D,hD,h=>by
  by_cases hn:n∈D
  .have h1:=Ve n (hD.erase n) (λx hx=>by
    have:=(hD.mem_erase_iff).1 hx;have:=h x this.2;omega)
   rw[List.length_erase_of_mem hn]at h1;omega
  .have h1:=Ve n hD (λx hx=>by
    have:=h x hx;have:x≠n:=λe=>hn (e▸hx);omega)
   omega
theorem b3P{D:d4F}(hD:D.Nodup)(h:∀x∈D,x<n)(hl:n<=D.length):∀i,i<n->i∈D:=λi hi=>by
 refine aF λhn=>?_;have:=Ve n (az.2 ⟨hn,hD⟩) (λx hx=>by
  grind)
 grind
def FD(md:Region.Mode)(ops:Array Oper):Prop:=∃rk:Nat->Nat,∀i o,ops[i]? =some o->∀e∈o.after.toList,Region.binds md e=true->e.on<ops.size/\rk e.on<rk i
theorem Ya:∀{es:List Edge},WZ es=true->∀e∈es,uH e
 |[],_,e,he=>by grind|e::es,h,e',he' =>by
  unfold WZ at h;have hp:uH e:=by cases hg:e.ground<;>simp[hg]at h<;>simp[uH,hg]
  have hr:=by cases hg:e.ground<;>simp[hg]at h<;>exact h
  rcases C9.1 he' with rfl|he'
  .exact hp
  .exact Ya hr e' he'
theorem LM:∀{l:List Oper},EQ l=true->∀o∈l,∀e∈o.after.toList,uH e
 |[],_,o,ho=>by grind|o::l,h,o',ho' =>by
  unfold EQ at h;cases hp:WZ o.after.toList
  .simp[hp]at h
  .simp[hp,cond_true]at h;rcases C9.1 ho' with rfl|ho'
   .exact Ya hp
   .exact LM h o' ho'
theorem Yd{md:Region.Mode}{done:d4F} :∀{es:List Edge},Ug md done es=true->∀e∈es,Region.binds md e=true->e.on∈done
 |[],_,e,he,_=>by grind|e::es,h,e',he',hb=>by
  unfold Ug at h;cases hc:(!Region.binds md e || He e.on done)
  .simp[hc]at h
  .simp[hc,cond_true]at h;rcases C9.1 he' with rfl|he'
   .rw[hb]at hc;exact V_ hc
   .exact Yd h e' he' hb
theorem OM{md:Region.Mode}{done:d4F} :∀{l:List Oper} {n i:Nat},Az md done l n=some i->∃o,l[i -n]? =some o/\n<=i/\i<n+l.length/\Ug md done o.after.toList=true
 |[],n,i,h=>by grind [Az]|o::l,n,i,h=>by
  unfold Az at h;have rec' :Az md done l (n+1)=some i->∃o',(o::l)[i -n]? =some o' /\n<=i/\i<n+(o::l).length/\Ug md done o'.after.toList=true:=λh=>by obtain⟨o',h1,h2,h3,h4⟩:=OM h<;>grind
  grind
theorem Zl:∀{n:Nat} {d:d4F},b1d n d=true->∀i,i<n->i∈d
 |0,d,_,i,hi=>by omega|n+1,d,h,i,hi=>by
  unfold b1d at h;simp at h;by_cases e:i=n
  .subst e;exact V_ h.1
  .exact Zl h.2 i l7
theorem Ej{md:Region.Mode}{ops:Array Oper} :∀(k:Nat) {done:d4F} {rk:Nat->Nat},a1d md ops.toList k done=true->
  (∀x∈done,rk x<done.length)->(∀i∈done,∀o,ops[i]? =some o->∀e∈o.after.toList,Region.binds md e=true->e.on∈done/\e.on<ops.size/\rk e.on<rk i)->(∀x∈done,x<ops.size)->FD md ops
 |0,done,rk,h,h1,h2,h3=>by have hall:=Zl h;simp only[O0]at hall;exact⟨rk,λi o hi e he hb=>(h2 i (hall i (I9.1 hi).1) o hi e he hb).2⟩|k+1,done,rk,h,h1,h2,h3=>by
  unfold a1d at h;cases hf:Az md done ops.toList 0 with
  |none=>simp_all|some n=>
   simp only[hf]at h;obtain⟨o,e1,_,e2,e3⟩:=OM hf;simp only[Nat.sub_zero,J7,gQ,O0]at e1 e2;by_cases hn:n∈done
   .refine Ej k (rk:=rk) h (λx hx=>?_) (λi hi o' ho' e he hb=>?_) (λx hx=>?_)<;>grind
   .refine Ej k (rk:=λx=>if x=n then done.length else rk x) h (λx hx=>?_) (λi hi o' ho' e he hb=>?_) (λx hx=>?_)<;>grind [Yd]
end Go.GP
namespace Go.GP
section
variable {X:Fx} {q:Nat} {ops:Array Oper} {S:Nat->Sm} {T:Nat->Tr} {m0:Mp} {ok0:Nat->Ty->Prop} {Q:Exit->Act->World->Prop}
theorem Jq(H:FxOk X){i:Nat}{o:Oper}(hi:ops[i]? =some o){S1 S2:Sm}{t:Tr}(he:(qU X.E q ops.toList o).eval S1 ([],[])=some ((),S2,t)){m:Mp}{ok:Nat->Ty->Prop}{a:Act}{w:World}
  (R:Rel X (CB*q) (CB*q+CB) S1 m ok a w) {next:Act->World->Prop}
  (hn:∀m' ok' a' w',Rel X (CB*q) (CB*q+CB) S2 m' ok' a' w' ->(∀k l,m k=some l->m' k=some l)->(∀b t,ok b t->ok' b t)->next a' w'):wpOp X.P ops Q i next a w:=
 pY (b0B H R hi) he next Q hn
theorem Yn(H:FxOk X)(hc:Zg X.E q ops.toList ops.toList S T)
  (hQ:∀m' ok' a' w',Rel X (CB*q) (CB*q+CB) (S ops.size) m' ok' a' w' ->(∀k l,m0 k=some l->m' k=some l)->(∀b t,ok0 b t->ok' b t)->Q .normal a' w'):
  ∀(n k:Nat) {m:Mp} {ok:Nat->Ty->Prop} {a:Act} {w:World},k+n=ops.size->Rel X (CB*q) (CB*q+CB) (S k) m ok a w->(∀k l,m0 k=some l->m k=some l)->(∀b t,ok0 b t->ok b t)->wpOps X.P ops Q (List.range' k n) a w
 |0,k,m,ok,a,w,hk,R,hm,hok=>by have:k=ops.size:=l7;subst this;exact hQ m ok a w R hm hok
 |n+1,k,m,ok,a,w,hk,R,hm,hok=>by have hi:ops[k]? =some (ops[k]'l7):=I5 _;refine Jq H hi (hc k _ x9) R λm' ok' a' w' R' k1 k2=>?_;exact Yn H hc hQ n (k+1) l7 R' (λk l h=>k1 k l (hm k l h)) (λb t h=>k2 b t (hok b t h))
theorem b2Y(H:FxOk X){md:Region.Mode}(hc:Zg X.E q ops.toList ops.toList S T){M:Nat->Nat}
  {ex:Nat->Nat->Prop} (hpair:∀i j,i<j->j<ops.size->a5x (λi j=>Nat.testBit (M j) i=true) ex T i j)
  (hex:∀i j,i<j->j<ops.size->ex i j->∃S',(qU X.E q ops.toList (ops.getD i default)).eval (S (j+1)) ([],[])=some ((),S',T i)/\∀k∈(T i).2,S' k=S (i+1) k)
  (hM:∀i o,ops[i]? =some o->∀j,Nat.testBit (M i) j=true->∃e∈o.after.toList,uH e/\(j=e.on\/Nat.testBit (M e.on) j=true)) (hrk:FD md ops)
  (hQ:∀m' ok' a' w',Rel X (CB*q) (CB*q+CB) (S ops.size) m' ok' a' w' ->(∀k l,m0 k=some l->m' k=some l)->(∀b t,ok0 b t->ok' b t)->Q .normal a' w'):
  ∀(kK:Nat) {D:d4F} {uX:Array Bool} {m:Mp} {ok:Nat->Ty->Prop} {a:Act} {w:World},kK+D.length=ops.size->D.Nodup->(∀j∈D,j<ops.size)->uX.size=ops.size->(∀i,i<ops.size->(uX.getD i false=true↔i∈D))->
   (∀j∈D,∀k,Nat.testBit (M j) k=true->k∈D)->Rel X (CB*q) (CB*q+CB) (SD S T D ops.size) m ok a w->(∀k l,m0 k=some l->m k=some l)->(∀b t,ok0 b t->ok b t)->
   wpAny X.P md ops Q kK uX a w:=by
 have hs:∀i,i<ops.size->(qU X.E q ops.toList (ops.getD i default)).eval (S i) ([],[])=some ((),S (i+1),T i):=λi hi=>by refine hc i _ ?_;simp[Array.getD,hi]
 obtain⟨rk,hrk⟩:=hrk;intro kK;induction kK with
 |zero=>
  intro D uX m ok a w hf hD hlt hsz hl hdown R hm hok;have hall:=b3P hD hlt l7;refine⟨?_,?_⟩
  .cases hr:Region.ready md ops uX with
   |nil=>rfl|cons x xs=>
    have hx:x∈Region.ready md ops uX:=by rw[hr];simp
    obtain⟨h1,o,ho,_⟩:=mem_ready.1 hx;have hxl:=(I9.1 ho).1;have:=(hl x hxl).2 (hall x hxl);rw[X7]at h1 this;cases hg:uX[x]? with
    |none=>rw[hg]at this;cases this|some y=>rw[hg]at h1 this;simp only[Z9]at h1 this;rw[h1]at this;cases this
  .refine hQ m ok a w ?_ hm hok;rwa[b4S (c:=λi=>qU X.E q ops.toList (ops.getD i default)) hs hall]at R
 |succ kK ih=>
  intro D uX m ok a w hf hD hlt hsz hl hdown R hm hok;refine⟨λhr=>?_,λi hi=>?_⟩
  .have hall:∀n i,rk i<n->i<ops.size->i∈D:=by
    intro n;induction n with
    |zero=>intro i hi _;omega|succ n ihn=>
     intro i hi hil;refine aF λhni=>?_;have hin:i∈Region.ready md ops uX:=by refine mem_ready.2 ⟨?_,ops[i],I5 hil,λe he hb=>?_⟩<;>grind
     simp_all
   refine hQ m ok a w ?_ hm hok;rwa[b4S (c:=λi=>qU X.E q ops.toList (ops.getD i default)) hs (λi hi=>hall _ i (Nat.lt_succ_self _) hi)]at R
  .obtain⟨h1,o,ho,h2⟩:=mem_ready.1 hi;have hil:=(I9.1 ho).1;have hnD:i∉D:=λh=>by
    grind
   have hp:∀j,Nat.testBit (M i) j=true->j∈D:=λj hj=>by
    obtain⟨e,he,hpl,h3⟩:=hM i o ho j hj;have hlst:=h2 e (by simp_all) (hpl.binds md)
    grind
   have hgd:ops.getD i default=o:=by simp_all
   have hstep:=a5z (c:=λi=>qU X.E q ops.toList (ops.getD i default)) (S:=S) (T:=T) (n:=ops.size) hs (ord:=λi j=>Nat.testBit (M j) i=true) (ex:=ex)
    hpair hex hil hnD hlt hp hdown
   simp only[hgd]at hstep;refine Jq H ho hstep R λm' ok' a' w' R' k1 k2=>?_;refine ih (D:=i::D) (by grind) (az.2 ⟨hnD,hD⟩) (λj hj=>?_) (by grind) (λj hj=>?_) (λj hj k hk=>?_) R' (λk l h=>k1 k l (hm k l h)) (λb t h=>k2 b t (hok b t h))
   .grind
   .by_cases e:i=j
    .simp_all
    .rw[getD_set_ne false e,hl j hj]
     grind
   grind
theorem Ye(H:FxOk X){s s' :St}(h0:S 0=Y1 s)(h1:S ops.size=Y1 s')(hc:Zg X.E q ops.toList ops.toList S T){draw:Bool}{ex:Nat->Nat->Prop}
  (hex:∀i j,i<j->j<ops.size->ex i j->∃S',(qU X.E q ops.toList (ops.getD i default)).eval (S (j+1)) ([],[])=some ((),S',T i)/\∀k∈(T i).2,S' k=S (i+1) k)
  (hdraw:draw=true->∃M:Nat->Nat,Yy ops.toList 0 []=some ((List.range ops.size).map M).reverse/\(∀i j,i<j->j<ops.size->a5x (λi j=>Nat.testBit (M j) i=true) ex T i j)/\
   (bif EQ ops.toList then true else a1d .text ops.toList ops.toList.length []&&a1d .gc ops.toList ops.toList.length [])=true):
  (∀k,(∀x∈((List.range ops.size).map T).reverse,k∉x.2)->Y1 s' k=Y1 s k)/\
   ∀{m:Mp} {ok:Nat->Ty->Prop} {a:Act} {w:World} {id:Nat} {Q:Exit->Act->World->Prop},Rel X (CB*q) (CB*q+CB) (Y1 s) m ok a w->
    (∀m' ok' a' w',Rel X (CB*q) (CB*q+CB) (Y1 s') m' ok' a' w' ->(∀k l,m k=some l->m' k=some l)->(∀b t,ok b t->ok' b t)->Q .normal a' w')->(Code.region id ops draw).wp X.P Q a w:=by
 have hfr:∀k,(∀x∈((List.range ops.size).map T).reverse,k∉x.2)->Y1 s' k=Y1 s k:=λk hk=>by
  have:∀n,n<=ops.size->S n k=S 0 k:=by
   intro n;induction n with
   |zero=>intro _;rfl|succ n ih=>intro hn;have hi:ops[n]? =some (ops[n]'l7):=I5 _;rw[uS (hc n (ops[n]'l7) (by rw[J7];exact hi)) k (hk (T n) (by simp;exact⟨n,l7,rfl⟩)),ih l7]
  rw[←h1,←h0];exact this ops.size (D5 _)
 cases draw with
 |false=>refine⟨hfr,λ{m ok a w id Q} R hQ=>wp_region ?_⟩;rw[lX];rw[←h0]at R;refine Yn H hc (m0:=m) (ok0:=ok) (by rw[h1];exact hQ) ops.size 0 l7 R (λ_ _ h=>h) (λ_ _ h=>h)|true=>
  obtain⟨M0,hp,hpair,hd⟩:=hdraw rfl;obtain⟨M,hMM,_,hM⟩:=MW (M:=λ_=>0) ops.toList (n:=0) hp;simp only[gQ,O0]at hd hM hMM;have hMM:∀k,k<ops.size->M0 k=M k:=λk hk=>by simp_all
  have hM:∀i o,ops[i]? =some o->(∀e∈o.after.toList,uH e->e.on<i)/\∀j,Nat.testBit (M0 i) j=true->∃e∈o.after.toList,uH e/\(j=e.on\/Nat.testBit (M0 e.on) j=true):=λi o ho=>by
   grind
  have hidr:∀md,(∀(i:Nat) (o:Oper),ops[i]? =some o->∀e∈o.after.toList,Region.binds md e=true->uH e)->FD md ops:=λmd hpl=>by refine⟨λi=>i,λi o ho e he hb=>?_⟩<;>grind
  have hany:FD .any ops:=hidr .any λi o ho e he hb=>a2c hb;have hboth:FD .text ops/\FD .gc ops:=by
   cases hpo:EQ ops.toList
   .simp only[hpo,cond_false,A7]at hd;exact⟨Ej (rk:=λ_=>0) _ hd.1 x9 x9 x9,Ej (rk:=λ_=>0) _ hd.2 x9 x9 x9⟩
   .have hpl:∀(i:Nat) (o:Oper),ops[i]? =some o->∀e∈o.after.toList,uH e:=λi o ho e he=>LM hpo o (by grind) e he
    grind
  refine⟨hfr,λ{m ok a w id Q} R hQ=>wp_region_draw λt=>?_⟩;have R' :Rel X (CB*q) (CB*q+CB) (SD S T [] ops.size) m ok a { w with drawn:=w.drawn+1 }:=by rw[b4T,h0];exact R.same rfl rfl rfl rfl (λ_=>iF _)
  have main:∀md,FD md ops->∀t,wpOps X.P ops Q (Region.linearise md ops t) a { w with drawn:=w.drawn+1 }:=λmd hr t=>by unfold Region.linearise;refine wpAny_sound ops.size t _ a _ ?_;refine b2Y H hc hpair hex (λi o ho=>(hM i o ho).2) hr (m0:=m) (ok0:=ok) (by rw[h1];omega) ops.size (D:=[]) x9 bZ x9 x9 (λi hi=>?_) x9 R' (λ_ _ h=>h) (λ_ _ h=>h);simp_all
  unfold Region.schedule<;>grind
theorem a4J(H:FxOk X){R:Type}{s:St}{wr:Rgs}{K:St->Rgs->Option R}{PP:Int->St->d4F->Option R}{r:R}{draw:Bool}(h:a4I X.E q ops draw s wr K PP=some r):
  (∃c s' ws,PP c s' ws=some r/\∀{m:Mp} {ok:Nat->Ty->Prop} {a:Act} {w:World} {id:Nat} {Q:Exit->Act->World->Prop},Rel X (CB*q) (CB*q+CB) (Y1 s) m ok a w->
   (c≠0->∀S3 m' ok' a' w',Rel X (CB*q) (CB*q+CB) S3 m' ok' a' w' ->(∀k l,m k=some l->m' k=some l)->(∀b t,ok b t->ok' b t)->(∀z,z∉ws->S3 z=Y1 s' z)->Q (.panic (Bq X.P c)) a' w')->(Code.region id ops draw).wp X.P Q a w)\/
  ∃s' w',K s' w' =some r/\(∃t:Trs,w' =zf t wr/\∀k,(∀x∈t,k∉x.2)->Y1 s' k=Y1 s k)/\
   ∀{m:Mp} {ok:Nat->Ty->Prop} {a:Act} {w:World} {id:Nat} {Q:Exit->Act->World->Prop},Rel X (CB*q) (CB*q+CB) (Y1 s) m ok a w->
    (∀m' ok' a' w',Rel X (CB*q) (CB*q+CB) (Y1 s') m' ok' a' w' ->(∀k l,m k=some l->m' k=some l)->(∀b t,ok b t->ok' b t)->Q .normal a' w')->(Code.region id ops draw).wp X.P Q a w:=by
 unfold a4I at h;have pick:∀(dr:Bool) (s' :St) (T:Nat->Tr),(bif draw then(bif dr then K s' (zf ((List.range ops.size).map T).reverse wr)else none)else K s' (zf ((List.range ops.size).map T).reverse wr))=some r->
   K s' (zf ((List.range ops.size).map T).reverse wr)=some r/\(draw=true->dr=true):=λdr s' T h=>by
  grind
 rcases Hq _ h with⟨s',S,T,h0,h1,hc,hk⟩|⟨k,o,f,c,s',tr,S,T,g1,g2,h0,hc,he,hk⟩
 case inr=>cases hk
 right;simp only[O0,G9]at h1 hk;obtain⟨hk,hd⟩:=pick _ s' T hk;obtain⟨hfr,hwp⟩:=Ye H h0 h1 hc (draw:=draw) (ex:=λ_ _=>False) (λ_ _ _ _ h=>h.elim) λhdr=>by
  have hd:=hd hdr;unfold b5E at hd;cases hp:Yy ops.toList 0 []with
  |none=>simp_all|some ms=>
  simp only[hp]at hd;obtain⟨M,hms,_,_⟩:=MW (M:=λ_=>0) ops.toList (n:=0) hp;simp only[gQ,O0]at hms;subst hms;cases hod:Ud ((List.range ops.size).map M).reverse ((List.range ops.size).map T).reverse
  .simp_all
  simp only[hod,cond_true]at hd;exact⟨M,rfl,λi j hi hj=>(Qp _ hod i j hi hj).imp id λh=>⟨h.1,.inl h.2⟩,hd⟩
 grind
end
end Go.GP
namespace Go.GP
def Wr(w:Rgs)(k:Nat):Prop:=∃p∈w,p.1<=k/\k<p.2
theorem a3H{k:Nat} :¬Wr [] k:=λ⟨p,h,_⟩=>by grind
theorem Iu{p:Nat×Nat}{w:Rgs}{k:Nat} :Wr (p::w) k↔(p.1<=k/\k<p.2)\/Wr w k:=by
 constructor
 .rintro⟨x,h,h1⟩;rcases C9.1 h with rfl|h
  .omega
  .exact .inr ⟨x,h,h1⟩
 .rintro(h|⟨x,h,h1⟩)
  .exact⟨p,x9,h⟩
  .exact⟨x,by grind,h1⟩
theorem LX{w:Rgs}{k:Nat} :∀{ks:d4F},Wr (OT ks w) k↔k∈ks\/Wr w k
 |[]=>by simp[OT]|x::ks=>by
  unfold OT;rw[Iu,LX];simp;constructor
  .rintro(⟨h1,h2⟩|h|h)
   .exact .inl (.inl l7)
   .exact .inl (.inr h)
   .exact .inr h
  .rintro((rfl|h)|h)
   .simp
   .exact .inr (.inl h)
   .exact .inr (.inr h)
theorem Ut{b:Rgs}{k:Nat} :∀{a:Rgs},Wr (Yo a b) k↔Wr a k\/Wr b k
 |[]=>by simp[Yo,a3H]|x::a=>by unfold Yo;rw[Iu,Iu,Ut,or_assoc]
theorem DL{w:Rgs}{k:Nat} :∀{t:Trs},Wr (zf t w) k↔(∃x∈t,k∈x.2)\/Wr w k
 |[]=>by simp[zf]|x::t=>by unfold zf;rw[LX,DL,←or_assoc];simp
theorem a2A{lo hi:Nat} :∀{rs:Rgs},A_ lo hi rs=true->∃p∈rs,p.1<=lo/\hi<=p.2
 |[],h=>by grind [A_]|(a,b)::r,h=>by
  unfold A_ at h;cases hb:(Nat.ble a lo&&Nat.ble hi b)
  .simp[hb,cond_false]at h;obtain⟨p,h1,h2⟩:=a2A h;exact⟨p,by simp[h1],h2⟩
  .simp only[A7]at hb;exact⟨(a,b),x9,X4 hb.1,X4 hb.2⟩
theorem XA{lim:Nat}{rs:Rgs} :∀{w:Rgs},ZP lim rs w=true->∀k,Wr w k->lim<=k\/Wr rs k
 |[],_,k,h=>absurd h a3H|(a,b)::w,h,k,hk=>by
  unfold ZP at h;cases hc:(Nat.ble lim a || A_ a b rs)
  .simp_all
  .simp[hc,cond_true]at h;rcases Iu.1 hk with⟨h1,h2⟩|hk
   .simp only[Bool.or_eq_true]at hc;rcases hc with hc|hc
    .have:=X4 hc;omega
    .obtain⟨p,h3,h4,h5⟩:=a2A hc;exact .inr ⟨p,h3,l7,l7⟩
   .exact XA h k hk
theorem Eb{s:St}{k:Nat} :∀{rs:Rgs},¬Wr rs k->Y1 (uh rs s) k=Y1 s k
 |[],_=>rfl|(a,b)::r,h=>by
  rw[Iu]at h;show(bif Nat.ble a k&&Nat.blt k b then V.undef else Y1 (uh r s) k)=Y1 s k;cases hb:(Nat.ble a k&&Nat.blt k b)
  .simp_all [Eb]
  .simp at hb;simp_all [X4,Lr]
theorem JH{s:St}{k:Nat} :∀{rs:Rgs},Wr rs k->Y1 (uh rs s) k= .undef
 |[],h=>absurd h a3H|(a,b)::r,h=>by
  show(bif Nat.ble a k&&Nat.blt k b then V.undef else Y1 (uh r s) k)=V.undef;cases hb:(Nat.ble a k&&Nat.blt k b)
  .rcases Iu.1 h with⟨h1,h2⟩|h
   .have e1:=pK h1;have e2:Nat.blt k b=true:=by rw[dA];exact h2
    simp[e1,e2]at hb
   .exact JH h
  .simp
variable {h0:Array Obj}{h1:Array Obj}{ok0:Nat->Ty->Prop}{ok1:Nat->Ty->Prop}{m:Mp}{m1:Mp}{m2:Mp}
theorem a0B(hm:∀k l,m k=some l->m2 k=m1 k):∀{c:V} {v0 v1:Value} (a:yR ⟨h0,ok0,m⟩ c v0) (b:yR ⟨h1,ok1,m1⟩ c v1),yR ⟨h1,ok1,m2⟩ c v1:=by
 intro c;induction c using V.rec (motive_2:=λ_=>True)<;>try trivial
 all_goals grind [yR]
theorem a0C{h0 h1:Array Obj}{ok0 ok1:Nat->Ty->Prop}{m m1 m2:Mp}(hm:∀k l,m k=some l->m2 k=m1 k):∀{cs:List V} {v0 v1:d4E},jc ⟨h0,ok0,m⟩ cs v0->jc ⟨h1,ok1,m1⟩ cs v1->jc ⟨h1,ok1,m2⟩ cs v1
 |[],_,_,_,b=>b|_::_,_,_,⟨_,_,_,a1,_,a3⟩,⟨v,r,e,b1,b2,b3⟩=>⟨v,r,e,a0B hm a1 b1,b2,a0C hm a3 b3⟩
variable {c:V}
theorem a7u(hm:∀k l,m k=some l->m2 k=m1 k){v0 v1:Value}(a:a0z ⟨h0,ok0,m⟩ c v0)(b:a0z ⟨h1,ok1,m1⟩ c v1):a0z ⟨h1,ok1,m2⟩ c v1:=by
 cases c<;>simp[a0z]at a b ⊢<;>try exact a0B hm a b
 grind [a0C]
theorem a7w{h0 h1:Array Obj}{ok0 ok1:Nat->Ty->Prop}{m m1 m2:Mp}(hm:∀k l,m k=some l->m2 k=m1 k):∀{cs:List V} {v0 v1:d4E},a4M ⟨h0,ok0,m⟩ cs v0->a4M ⟨h1,ok1,m1⟩ cs v1->a4M ⟨h1,ok1,m2⟩ cs v1
 |[],_,_,_,b=>b|_::_,_,_,⟨_,_,_,a1,a3⟩,⟨v,r,e,b1,b3⟩=>⟨v,r,e,a7u hm a1 b1,a7w hm a3 b3⟩
theorem b7A(hm:∀k l,m k=some l->m2 k=m1 k){v0 v1:Value}(a:nU ⟨h0,ok0,m⟩ c v0)(b:nU ⟨h1,ok1,m1⟩ c v1):nU ⟨h1,ok1,m2⟩ c v1:=by
 cases c<;>simp[nU]at a b ⊢<;>try exact a7u hm a b
 grind [a7w]
theorem a9a(hm:∀k l,m k=some l->m2 k=m1 k){sz:Nat}{l0 l1:Loc}{hole:Option (Nat×Nat×Option Nat)}(a:y_ ⟨h0,ok0,m⟩ sz l0 hole)(b:y_ ⟨h1,ok1,m1⟩ sz l1 hole):y_ ⟨h1,ok1,m2⟩ sz l1 hole:=by
 obtain _|⟨i,o,_|n⟩:=hole
 .trivial
 .trivial
 .obtain⟨_,_,_,_,_,l',_,_,e,_⟩:=a;obtain⟨b1,b2,b3,b4,b5,l2,c1,c2,c3,c4⟩:=b;exact⟨b1,b2,b3,b4,b5,l2,c1,c2,by simp_all,c4⟩
theorem b7z(hm:∀k l,m k=some l->m2 k=m1 k)(hk:m2.kid=m1.kid)(km:∀k l,m k=some l->m1 k=some l){n:Nat}(a:Gl ⟨h0,ok0,m⟩ n c)(b:∀l,m n=some l->Gl ⟨h1,ok1,m1⟩ n c):Gl ⟨h1,ok1,m2⟩ n c:=by
 cases c<;>simp only[Gl]at a b ⊢
 case bcells cs=>
  grind [a0C]
 case barr t xs=>obtain⟨_,e0,_⟩:=a;obtain⟨l,e,b⟩:=b _ e0;exact⟨l,by simp_all,tq (λ_ _ h=>h) (λ_ _ _=>rfl) (λ_ _=>rfl) b⟩
 case bfrz t xs=>obtain⟨_,e0,_⟩:=a;obtain⟨l,e,b,hb⟩:=b _ e0;exact⟨l,by simp_all,tq (λ_ _ h=>h) (λ_ _ _=>rfl) (λ_ _=>rfl) b,hb⟩
 case barrs md xs hole=>obtain⟨he,_,_,e0,⟨_,ha⟩,_⟩:=a;obtain⟨_,l,Os,e,⟨b,hl⟩,hb⟩:=b _ e0;exact⟨he,l,Os,by simp_all,⟨b,a9a hm ha hl⟩,by simp_all⟩
 all_goals grind [a0B]
def cut(m:Mp)(N:Nat):Mp:=⟨λn=>if n<N then m n else none,m.kid⟩
section
variable {X:Fx} {cl ch N:Nat} {S S1 S2:Sm} {m m1:Mp} {ok ok1:Nat->Ty->Prop} {a a1:Act} {w w1:World}
theorem Rel.climb(R:Rel X cl ch S m ok a w){cl' :Nat}(h:cl<=cl'):Rel X cl' ch S m ok a w:={ R with fresh:=λn h1 h2=>R.fresh n l7 h2 }
theorem Rel.rebase{X0:Fx}(R0:Rel X0 cl N S m ok a w){cl1 ch1:Nat}(R1:Rel X cl1 ch1 S1 m1 ok1 a1 w1)(km:∀k l,m k=some l->m1 k=some l)
  (hS:∀k,S2 k= .undef\/(S2 k=S k/\(k<Z4+N->S1 k=S k))):
  Rel X N N S2 (cut m1 N) ok1 a1 w1/\(∀T,Tk X S1 m1 ok1 w1 T->Tk X S2 (cut m1 N) ok1 w1 T)/\(∀k l,m k=some l->cut m1 N k=some l):=by
 have hdom:∀k l,m k=some l->k<N:=λk l h=>by
  rcases Nat.lt_or_ge k N with h1|h1
  .omega
  .rw[R0.strict k h1]at h;grind
 have hagree:∀k l,m k=some l->cut m1 N k=m1 k:=λk l h=>by simp_all [cut]
 have hown:∀n,V5 (cut m1 N) n (S2 (Z4+n))=V5 m1 n (S1 (Z4+n))\/V5 (cut m1 N) n (S2 (Z4+n))=[]:=λn=>by
  rcases hS (Z4+n)with h1|⟨h1,h2⟩
  .right;rw[h1];rfl
  .rcases Nat.lt_or_ge n N with hn|hn
   .grind [JM,cut]
   .right;have hc:m n=none:=R0.strict n hn;have hb:=R0.box n;rw[h1];cases hv:S (Z4+n)<;>rw[hv]at hb<;>try rfl
    case bcells=>obtain⟨_,_,_,e,_⟩:=hb<;>simp_all
    case barr=>obtain⟨_,e,_⟩:=hb<;>simp_all
    case barrs=>obtain⟨_,_,_,e,_⟩:=hb<;>simp_all
    case barrp=>obtain⟨_,_,_,_,e,_⟩:=hb<;>simp_all
 have hownM:∀n b,b∈V5 (cut m1 N) n (S2 (Z4+n))->b∈V5 m1 n (S1 (Z4+n)):=λn b h=>by
  grind
 refine⟨{ kept:=R1.kept,size:=R1.size,nodef:=R1.nodef,dfs:=R1.dfs,okLt:=R1.okLt,okIn:=R1.okIn,okOut:=R1.okOut,frame:=R1.frame,gl:=R1.gl,slot:=λn hn=>?_,box:=λn=>?_,inj:=λn n' b h h' =>R1.inj n n' b (hownM n b h) (hownM n' b h'),nd:=λn=>(hown n).elim (λe=>by rw[e];exact R1.nd n) (λe=>by simp_all),sep:=λn b h=>R1.sep n b (hownM n b h),fresh:=λn h1 _=>?_,strict:=λn h=>?_ },λT hT=>⟨hT.nodup,λb hb=>?_⟩,λk l h=>by simp_all⟩
 .rcases hS n with h1|⟨h1,h2⟩
  .rw[h1];trivial
  .rw[h1];refine b7A hagree (R0.slot n hn) ?_;rw[←h2 l7];exact R1.slot n hn
 .rcases hS (Z4+n)with h1|⟨h1,h2⟩
  .rw[h1];trivial
  .rw[h1];refine b7z hagree rfl km (R0.box n) λl hl=>?_;rw[←h2 (by simp_all)];exact R1.box n
 .grind [cut]
 .grind [cut]
 .obtain⟨f1,f2,f3,f4⟩:=hT.free b hb<;>grind
theorem kE{R:Type}{q:Nat}{sg:Sig}{rs:Rgs}{s:St}{wr:Rgs}{K:jY sg->Option R}{r:R}(h:KH q sg rs s wr K=some r):
  ∃x,K x=some r/\∀{X0:Fx} {s0:St} {cl cl1 ch1:Nat} {m m1:Mp} {ok ok1:Nat->Ty->Prop} {a a1:Act} {w w1:World},Rel X0 cl (CB*q) (Y1 s0) m ok a w->Rel X cl1 ch1 (Y1 s) m1 ok1 a1 w1->(∀k l,m k=some l->m1 k=some l)->
   (∀k,¬Wr wr k->Y1 s k=Y1 s0 k)->∃m2 ok2 O,Rel X (CB*q) (CB*q) (Y1 (uh rs s0)) m2 ok2 a1 w1/\Tk X (Y1 (uh rs s0)) m2 ok2 w1 O/\
    TJ w1.heap ok2 sg x a1.tmps O/\(∀k l,m k=some l->m2 k=some l):=by
 obtain⟨x,s1,tr,he,hk⟩:=jT h;cases hc:ZP (Z4+CB*q) rs (OT tr.2 wr)
 .simp_all
 simp[hc,cond_true]at hk;refine⟨x,hk,λ{X0 s0 cl cl1 ch1 m m1 ok ok1 a a1 w w1} R0 R1 km hun=>?_⟩;have key:=pY (l_ R1 (Q:=λy S' =>∃m' ok' O,Rel X cl1 ch1 S' m' ok' a1 w1/\Tk X S' m' ok' w1 O/\(∀k l,m1 k=some l->m' k=some l)/\TJ w1.heap ok' sg y a1.tmps O)
  λS' m' ok' y O R' T' km' _ hr=>⟨m',ok',O,R',T',km',hr⟩) he
 obtain⟨m',ok',O,R',T',km',hr⟩:=key;have hcov:=XA hc;obtain⟨R2,hT2,hm2⟩:=R0.rebase (S2:=Y1 (uh rs s0)) R' (λk l h=>km' k l (km k l h)) (λk=>by
  by_cases hw:Wr rs k
  .simp_all [JH]
  .refine .inr ⟨Eb hw,λhlt=>?_⟩;have hnw:¬Wr (OT tr.2 wr) k:=λh=>by
    grind
   rw[LX,not_or]at hnw;rw[uS he k hnw.1];simp_all)
 grind
theorem qg{R:Type}{q:Nat}{sg:Sig}{rs:Rgs}{s:St}{x:jY sg}{K:St->Rgs->Option R}{r:R}(h:enter q sg rs s x K=some r):
  ∃s' w',K s' w' =some r/\(∀k,Wr rs k->Wr w' k)/\(∀k,¬Wr w' k->Y1 s' k=Y1 s k)/\
   ∀{N:Nat} {m:Mp} {ok:Nat->Ty->Prop} {a:Act} {w:World} {O:d4F},N<=CB*q->Rel X N N (Y1 (uh rs s)) m ok a w->Tk X (Y1 (uh rs s)) m ok w O->
    TJ w.heap ok sg x a.tmps O->
    ∃m',Rel X (CB*(q+1)) (CB*(q+1)) (Y1 s') m' ok a w/\(∀k l,m k=some l->m' k=some l):=by
 obtain⟨u,s',tr,he,hk⟩:=jT h;refine⟨s',_,hk,λk hk=>LX.2 (.inr hk),λk hk=>?_,λ{N m ok a w O} hN R1 T1 hr=>?_⟩
 .rw[LX,not_or]at hk;rw[uS he k hk.1,Eb hk.2]
 .have key:=pY (a8L (Q:=λ_ S' =>∃m',Rel X N (max N (CB*q+CB)) S' m' ok a w/\(∀k l,m k=some l->m' k=some l)) R1 hN T1 hr
   λS' m' R' k=>⟨m',R',k⟩) he
  obtain⟨m',R',k⟩:=key;have e:CB*(q+1)=CB*q+CB:=by grind
  exact⟨m',(R'.climb l7).chmono l7,k⟩
end
end Go.GP
namespace Go.GP
variable {q:Nat}{m:Mp}{a:Act}{w:World}{s:St}{wr:Rgs}{q':Nat}{n:Nat}
section
variable {X:Fx} {rt:Ret} {ρ:Type} {mE:Mp} {RetP:ρ->Exit->Act->World->Prop}
def Lf(e:Exit):Prop:=e= .ret\/(∃ch,e= .panic ch)\/∃l,e= .goto l
def TK(X:Fx)(q:Nat)(m:Mp)(s:St)(wr:Rgs)(s' :St)(w' :Rgs)(a:Act)(w:World):Prop:=
 ∃m' ok',Rel X (CB*q) (CB*q) (Y1 s') m' ok' a w/\(∀k l,m k=some l->m' k=some l)/\(∀k,Wr wr k->Wr w' k)/\(∀k,¬Wr w' k->Y1 s' k=Y1 s k)
def a8j(X:Fx)(RetP:ρ->Exit->Act->World->Prop)(q:Nat)(m:Mp)(s:St)(wr:Rgs)(fl:Flow ρ)(s' :St)(w' :Rgs)(e:Exit)(a:Act)(w:World):Prop:=
 match fl with
 | .nm=>e= .normal/\TK X q m s wr s' w' a w| .ex id=>e= .exit id/\TK X q m s wr s' w' a w| .rt x=>Lf e/\RetP x e a w
def LU(X:Fx)(RetP:ρ->Exit->Act->World->Prop)(q:Nat)(m:Mp)(s:St)(wr:Rgs){R:Type}(K:Flow ρ->St->Rgs->Option R)(r:R)(e:Exit)(a:Act)(w:World):Prop:=
 ∃fl s' w',K fl s' w' =some r/\a8j X RetP q m s wr fl s' w' e a w
structure DOk (X:Fx) (mE:Mp) (RetP:ρ->Exit->Act->World->Prop) (D:Den ρ) (c:Code) (n:Nat):Prop where
 run:∀{q:Nat} {an:Ann} {s:St} {wr:Rgs} {R:Type} {K:Flow ρ->St->Rgs->Option R} {r:R},D q an s wr R K=some r->
  ∀{m:Mp} {ok:Nat->Ty->Prop} {a:Act} {w:World},Rel X (CB*q) (CB*q) (Y1 s) m ok a w->(∀k l,mE k=some l->m k=some l)->
   c.wp X.P (LU X RetP (q+n) m s wr K r) a w
def Lp(X:Fx)(rt:Ret){ρ:Type}(ret:rt.den->ρ)(mE:Mp)(RetP:ρ->Exit->Act->World->Prop):Prop:=
 ∀{s:St} {R:Type} {K:rt.den->Option R} {r:R},(b7D X.E rt).runK s ([],[]) (λx _ _=>K x)=some r->
  ∃x,K x=some r/\∀{cl ch:Nat} {m:Mp} {ok:Nat->Ty->Prop} {a:Act} {w:World},Rel X cl ch (Y1 s) m ok a w->(∀k l,mE k=some l->m k=some l)->RetP (ret x) .ret a w
def Lm(X:Fx){ρ:Type}(pan:SC ρ)(mE:Mp)(RetP:ρ->Exit->Act->World->Prop):Prop:=
 ∀{c:Int⊕Nat} {S S' :Sm} {tr:Tr} {x:ρ},c≠.inl 0->(pan c).eval S ([],[])=some (x,S',tr)->∀{cl ch:Nat} {m:Mp} {ok:Nat->Ty->Prop} {a:Act} {w:World},Rel X cl ch S m ok a w->(∀k l,mE k=some l->m k=some l)->RetP x (match c with| .inl c=> .panic (Bq X.P c)| .inr l=> .goto l) a w
theorem b1t{p q:Nat}(h:p<=q):CB*p<=CB*q:=Nat.mul_le_mul_left _ h
theorem Rel.upq{p q:Nat}{S:Sm}{ok:Nat->Ty->Prop}(R:Rel X (CB*p) (CB*p) S m ok a w)(h:p<=q):Rel X (CB*q) (CB*q) S m ok a w:=
 (R.climb (b1t h)).chmono (b1t h)
theorem TK.here{ok:Nat->Ty->Prop}(R:Rel X (CB*q) (CB*q) (Y1 s) m ok a w)(h:q<=q'):TK X q' m s wr s wr a w:=
 ⟨m,ok,R.upq h,λ_ _ h=>h,λ_ h=>h,λ_ _=>rfl⟩
theorem TK.up{s s' :St}{wr w' :Rgs}(h:TK X q m s wr s' w' a w)(hq:q<=q'):TK X q' m s wr s' w' a w:=by obtain⟨m',ok',R,h1,h2,h3⟩:=h;exact⟨m',ok',R.upq hq,h1,h2,h3⟩
theorem TK.trans{m m1:Mp}{s s1 s2:St}{wr w1 w2:Rgs}(k1:∀k l,m k=some l->m1 k=some l)(k2:∀k,Wr wr k->Wr w1 k)(k3:∀k,¬Wr w1 k->Y1 s1 k=Y1 s k)
  (h:TK X q m1 s1 w1 s2 w2 a w) (hq:q<=q'):TK X q' m s wr s2 w2 a w:=by
 obtain⟨m',ok',R,h1,h2,h3⟩:=h;exact⟨m',ok',R.upq hq,λk l h=>h1 k l (k1 k l h),λk h=>h2 k (k2 k h),λk h=>(h3 k h).trans (k3 k λh' =>h (h2 k h'))⟩
theorem a8j.up{s s' :St}{wr w' :Rgs}{fl:Flow ρ}{e:Exit}(h:a8j X RetP q m s wr fl s' w' e a w)(hq:q<=q'):a8j X RetP q' m s wr fl s' w' e a w:=by
 cases fl with
 |nm=>exact⟨h.1,h.2.up hq⟩|ex id=>exact⟨h.1,h.2.up hq⟩|rt x=>exact h
theorem a8j.trans{m m1:Mp}{s s1 s2:St}{wr w1 w2:Rgs}{fl:Flow ρ}{e:Exit}(k1:∀k l,m k=some l->m1 k=some l)(k2:∀k,Wr wr k->Wr w1 k)(k3:∀k,¬Wr w1 k->Y1 s1 k=Y1 s k)
  (h:a8j X RetP q m1 s1 w1 fl s2 w2 e a w) (hq:q<=q'):a8j X RetP q' m s wr fl s2 w2 e a w:=by
 cases fl with
 |nm=>exact⟨h.1,h.2.trans k1 k2 k3 hq⟩|ex id=>exact⟨h.1,h.2.trans k1 k2 k3 hq⟩|rt x=>exact h
theorem QV(hq:q+1<=n){s s3:St}{wr w3:Rgs}{m m2:Mp}{ok2:Nat->Ty->Prop}
  (km:∀k l,m k=some l->m2 k=some l) (hout:∀k,¬Wr w3 k->Y1 s3 k=Y1 s k)
  (hR:∃m',Rel X (CB*(q+1)) (CB*(q+1)) (Y1 s3) m' ok2 a w/\(∀k l,m2 k=some l->m' k=some l)):TK X n m s wr s3 (Yo w3 wr) a w:=by
 obtain⟨m',R,k⟩:=hR;exact⟨m',ok2,R.upq hq,λk' l h=>k _ _ (km _ _ h),λk h=>Ut.2 (.inr h),λk h=>hout k λh' =>h (Ut.2 (.inl h'))⟩
theorem xu{core:Den ρ}{c:Code}(hc:DOk X mE RetP core c n):DOk X mE RetP (Nl core) c (n+1):=by
 refine⟨?_⟩;intro q an s wr R K r h m ok a w Rl hE;have plain:core (q+1) an s wr R K=some r->c.wp X.P (LU X RetP (q+(n+1)) m s wr K r) a w:=λh=>by
  have:=hc.run h (Rl.upq (iF q)) hE
  grind
 cases an
 case join rs nm an=>
  unfold Nl at h;obtain⟨x,h1,h2⟩:=AU h;obtain⟨s3,w3,hk3,hrs,hout,hR⟩:=qg h2;refine wp_mono (hc.run h1 (Rl.upq (iF q)) hE) ?_;rintro e a' w' ⟨fl,s',wr',hk,hfl⟩;cases fl with
  |ex id=>grind|rt x=>grind|nm=>obtain⟨rfl,m',ok',R1,k1,k2,k3⟩:=hfl;obtain⟨x',hx,hL⟩:=kE hk;cases hx;obtain⟨m2,ok2,O,R2,T2,hr,km⟩:=hL Rl R1 k1 k3;exact⟨.nm,s3,_,hk3,rfl,QV l7 km hout (hR (D5 _) R2 T2 hr)⟩
 case joinR rs nm an=>
  unfold Nl at h;obtain⟨o,h1,h2⟩:=AU h;refine wp_mono (hc.run h1 (Rl.upq (iF q)) hE) ?_;rintro e a' w' ⟨fl,s',wr',hk,hfl⟩;cases fl with
  |ex id=>grind|rt x=>cases hk;exact⟨.rt x,_,_,h2,hfl⟩|nm=>obtain⟨rfl,m',ok',R1,k1,k2,k3⟩:=hfl;obtain⟨x',hx,hL⟩:=kE hk;cases hx;obtain⟨s3,w3,hk3,hrs,hout,hR⟩:=qg (show enter q nm rs s x' (λs' w' =>K .nm s' (Yo w' wr))=some r from h2);obtain⟨m2,ok2,O,R2,T2,hr,km⟩:=hL Rl R1 k1 k3;exact⟨.nm,s3,_,hk3,rfl,QV l7 km hout (hR (D5 _) R2 T2 hr)⟩
 all_goals exact plain h
theorem a9d{core:Den ρ}{c:Code}(hc:DOk X mE RetP core c n):DOk X mE RetP (a6H core) (.loop c) (2+n):=by
 refine⟨?_⟩;intro q an s wr R K r h m ok a w Rl hE;cases an
 case loop rs hd xid xs an=>
  unfold a6H at h;simp only at h;obtain⟨x0,hk0,hL0⟩:=kE (X:=X) h;obtain⟨m2,ok2,O,R2,T2,hr,km⟩:=hL0 Rl Rl (λ_ _ h=>h) (λ_ _=>rfl);obtain⟨y,hl,hen⟩:=AU hk0;clear hk0 h hL0;obtain⟨s3,w3,hk3,hrs,hout,hR⟩:=qg (X:=X) hen;refine wp_loop_rounds kK ?_;unfold X8 at hl;have key:∀(f:Nat) {x:jY hd} {m2:Mp} {ok2:Nat->Ty->Prop} {O:d4F} {a:Act} {w:World},
    qC (λx=>b7H core q rs hd xid xs an s x) f x=some y->
    Rel X (CB*q) (CB*q) (Y1 (uh rs s)) m2 ok2 a w->Tk X (Y1 (uh rs s)) m2 ok2 w O->TJ w.heap ok2 hd x a.tmps O->(∀k l,m k=some l->m2 k=some l)->
    Code.rounds X.P c (LU X RetP (q+(2+n)) m s wr K r) f a w:=by
   intro f;induction f with
   |zero=>simp[qC]|succ f ih=>
    intro x m2 ok2 O a w h R2 T2 hr km;rw[rounds_succ];unfold qC at h;split at h
    .rename_i x' hf;obtain⟨s1,w1,hcore,_,hout1,hR1⟩:=qg (X:=X) (show enter q hd rs s x _=some _ from hf);obtain⟨m1,R1,km1⟩:=hR1 (D5 _) R2 T2 hr;refine wp_mono (hc.run hcore (R1.upq l7) (λk l h=>km1 _ _ (km _ _ (hE _ _ h)))) ?_;rintro e a' w' ⟨fl,s',wr',hk,hfl⟩;cases fl with
     |rt x=>grind|ex id=>
      simp only at hk;cases hb:Nat.beq id xid
      .simp_all
      .simp only[hb,cond_true]at hk;obtain⟨y',hx,_⟩:=kE (X:=X) hk
       grind
     |nm=>obtain⟨rfl,m',ok',R1',k1,k2,k3⟩:=hfl;obtain⟨y',hx,hL⟩:=kE (X:=X) hk;cases hx;obtain⟨m4,ok4,O4,R4,T4,hr4,km4⟩:=hL Rl R1' (λk l h=>k1 _ _ (km1 _ _ (km _ _ h))) (λk h=>(k3 k h).trans (hout1 k λh' =>h (k2 k h')));exact ih h R4 T4 hr4 km4
    .rename_i y' hf;cases h;obtain⟨s1,w1,hcore,_,hout1,hR1⟩:=qg (X:=X) (show enter q hd rs s x _=some _ from hf);obtain⟨m1,R1,km1⟩:=hR1 (D5 _) R2 T2 hr;refine wp_mono (hc.run hcore (R1.upq l7) (λk l h=>km1 _ _ (km _ _ (hE _ _ h)))) ?_;rintro e a' w' ⟨fl,s',wr',hk,hfl⟩;cases fl with
     |rt x=>grind|nm=>
      simp only at hk;obtain⟨y',hx,_⟩:=kE (X:=X) hk
      grind
     |ex id=>
      simp only at hk;cases hb:Nat.beq id xid
      .simp_all
      .simp only[hb,cond_true]at hk;have hid:=ik hb;subst hid;obtain⟨rfl,m',ok',R1',k1,k2,k3⟩:=hfl;obtain⟨y',hx,hL⟩:=kE (X:=X) hk;cases hx;obtain⟨m4,ok4,O4,R4,T4,hr4,km4⟩:=hL Rl R1' (λk l h=>k1 _ _ (km1 _ _ (km _ _ h))) (λk h=>(k3 k h).trans (hout1 k λh' =>h (k2 k h')));exact⟨.ex id,s3,_,hk3,rfl,QV (q:=q+1) l7 km4 hout (hR (b1t (iF q)) R4 T4 hr4)⟩
    grind
  grind
 case loopR rs hd xid xs an=>
  unfold a6H at h;simp only at h;obtain⟨x0,hk0,hL0⟩:=kE (X:=X) h;obtain⟨m2,ok2,O,R2,T2,hr,km⟩:=hL0 Rl Rl (λ_ _ h=>h) (λ_ _=>rfl);obtain⟨y,hl,hen⟩:=AU hk0;clear hk0 h hL0;refine wp_loop_rounds kK ?_;unfold bD at hl;have key:∀(f:Nat) {x:jY hd} {m2:Mp} {ok2:Nat->Ty->Prop} {O:d4F} {a:Act} {w:World},
    qi (λx=>b7I core q rs hd xid xs an s x) f x=some y->
    Rel X (CB*q) (CB*q) (Y1 (uh rs s)) m2 ok2 a w->Tk X (Y1 (uh rs s)) m2 ok2 w O->TJ w.heap ok2 hd x a.tmps O->(∀k l,m k=some l->m2 k=some l)->
    Code.rounds X.P c (LU X RetP (q+(2+n)) m s wr K r) f a w:=by
   intro f;induction f with
   |zero=>simp[qi]|succ f ih=>
    intro x m2 ok2 O a w h R2 T2 hr km;rw[rounds_succ];unfold qi at h;split at h
    .rename_i x' hf;obtain⟨s1,w1,hcore,_,hout1,hR1⟩:=qg (X:=X) (show enter q hd rs s x _=some _ from hf);obtain⟨m1,R1,km1⟩:=hR1 (D5 _) R2 T2 hr;refine wp_mono (hc.run hcore (R1.upq l7) (λk l h=>km1 _ _ (km _ _ (hE _ _ h)))) ?_;rintro e a' w' ⟨fl,s',wr',hk,hfl⟩;cases fl with
     |rt x=>grind|ex id=>
      simp only at hk;cases hb:Nat.beq id xid
      .simp_all
      .simp only[hb,cond_true]at hk;obtain⟨y',hx,_⟩:=kE (X:=X) hk
       grind
     |nm=>obtain⟨rfl,m',ok',R1',k1,k2,k3⟩:=hfl;obtain⟨y',hx,hL⟩:=kE (X:=X) hk;cases hx;obtain⟨m4,ok4,O4,R4,T4,hr4,km4⟩:=hL Rl R1' (λk l h=>k1 _ _ (km1 _ _ (km _ _ h))) (λk h=>(k3 k h).trans (hout1 k λh' =>h (k2 k h')));exact ih h R4 T4 hr4 km4
    .rename_i y' hf;cases h;obtain⟨s3,w3,hk3,hrs,hout,hR⟩:=qg (X:=X) (show enter (q+1) xs rs s y' (λs' w' =>K (.ex xid) s' (Yo w' wr))=some r from hen);obtain⟨s1,w1,hcore,_,hout1,hR1⟩:=qg (X:=X) (show enter q hd rs s x _=some _ from hf);obtain⟨m1,R1,km1⟩:=hR1 (D5 _) R2 T2 hr;refine wp_mono (hc.run hcore (R1.upq l7) (λk l h=>km1 _ _ (km _ _ (hE _ _ h)))) ?_;rintro e a' w' ⟨fl,s',wr',hk,hfl⟩;cases fl with
     |rt x=>grind|nm=>
      simp only at hk;obtain⟨y',hx,_⟩:=kE (X:=X) hk
      grind
     |ex id=>
      simp only at hk;cases hb:Nat.beq id xid
      .simp_all
      .simp only[hb,cond_true]at hk;have hid:=ik hb;subst hid;obtain⟨rfl,m',ok',R1',k1,k2,k3⟩:=hfl;obtain⟨y',hx,hL⟩:=kE (X:=X) hk;cases hx;obtain⟨m4,ok4,O4,R4,T4,hr4,km4⟩:=hL Rl R1' (λk l h=>k1 _ _ (km1 _ _ (km _ _ h))) (λk h=>(k3 k h).trans (hout1 k λh' =>h (k2 k h')));exact⟨.ex id,s3,_,hk3,rfl,QV (q:=q+1) l7 km4 hout (hR (b1t (iF q)) R4 T4 hr4)⟩
    .rename_i r' hf;cases h;obtain⟨s1,w1,hcore,_,hout1,hR1⟩:=qg (X:=X) (show enter q hd rs s x _=some _ from hf);obtain⟨m1,R1,km1⟩:=hR1 (D5 _) R2 T2 hr;refine wp_mono (hc.run hcore (R1.upq l7) (λk l h=>km1 _ _ (km _ _ (hE _ _ h)))) ?_;rintro e a' w' ⟨fl,s',wr',hk,hfl⟩;cases fl with
     |rt x=>cases hk;obtain⟨hl,hp⟩:=hfl;rcases hl with rfl|⟨ch,rfl⟩|⟨ch,rfl⟩<;>exact⟨.rt r',[],[],hen,by simp[Lf],hp⟩
     |nm=>
      simp only at hk;obtain⟨y',hx,_⟩:=kE (X:=X) hk
      grind
     |ex id=>
      simp only at hk;cases hb:Nat.beq id xid
      .simp_all
      .simp only[hb,cond_true]at hk;obtain⟨y',hx,_⟩:=kE (X:=X) hk
       grind
    grind
  grind
 all_goals simp_all [a6H]
theorem vS(H:FxOk X){ret:rt.den->ρ}{pan:SC ρ}(hret:Lp X rt ret mE RetP)(hpan:Lm X pan mE RetP):∀c:Code,DOk X mE RetP (FK X.E rt ret pan c) c (yh c)
 | .skip=>xu ⟨λ{q an s wr R K r} h {m ok a w} Rl hE=>wp_skip ⟨.nm,s,wr,h,rfl,TK.here Rl l7⟩⟩| .label l=>xu ⟨λ{q an s wr R K r} h {m ok a w} Rl hE=>wp_label ⟨.nm,s,wr,h,rfl,TK.here Rl l7⟩⟩| .exit id=>xu ⟨λ{q an s wr R K r} h {m ok a w} Rl hE=>wp_exit ⟨.ex id,s,wr,h,rfl,TK.here Rl l7⟩⟩| .ret=>xu ⟨λ{q an s wr R K r} h {m ok a w} Rl hE=>by obtain⟨x,hk,hp⟩:=hret h;exact wp_ret ⟨.rt (ret x),[],[],hk,.inl rfl,hp Rl hE⟩⟩
 | .region id ops draw=>xu ⟨λ{q an s wr R K r} h {m ok a w} Rl hE=>by
  rcases a4J H h with⟨c,s',ws,hk,hR⟩|⟨s',w',hk,⟨t,rfl,hfr⟩,hR⟩
  case inl=>
   obtain⟨x,s3,tr,he,hk⟩:=jT hk;cases hd:UH tr.1 ws
   .simp_all
   simp only[hd,cond_true]at hk;have hd:=Bz hd;refine hR (Rl.chmono (Z8 _ _)) λhz S3 m' ok' a' w2 R' k1 k2 k3=>?_;obtain⟨T',g1,_⟩:=wY he S3 (λz hzr=>k3 z (hd z hzr));exact⟨.rt x,[],[],hk,.inr (.inl ⟨_,rfl⟩),hpan (λe=>hz (Sum.inl.inj e)) g1 R' (λk l h=>k1 _ _ (hE _ _ h))⟩
  refine hR (Rl.chmono (Z8 _ _)) λm' ok' a' w2 R' k1 k2=>⟨.nm,s',_,hk,rfl,m',ok',?_,k1,λk h=>DL.2 (.inr h),λk h=>hfr k λx hx hkx=>h (DL.2 (.inl ⟨x,hx,hkx⟩))⟩;have e:CB*(q+1)=CB*q+CB:=by grind
  exact R'.climb (Z8 _ _)⟩
 | .seq x y=>by
  have hx:=vS H hret hpan x;have hy:=vS H hret hpan y;have:=xu (c:=.seq x y) (n:=yh x+yh y) (core:=λq a s w R K=>FK X.E rt ret pan x q a.l s w R λfl s' w' =>match fl with
   | .nm=>FK X.E rt ret pan y (q+yh x) a.r s' w' R K| .ex id=>K (.ex id) s' w'
   | .rt r=>K (.rt r) s' w') (DOk.mk λ{q an s wr R K r} h {m ok a w} Rl hE=>by
    refine wp_seq (wp_mono (hx.run h Rl hE) ?_);rintro e a' w' ⟨fl,s',wr',hk,hfl⟩;cases fl with
    |nm=>obtain⟨rfl,m',ok',R1,k1,k2,k3⟩:=hfl;refine wp_mono (hy.run hk R1 (λk l h=>k1 _ _ (hE _ _ h))) ?_;rintro e a2 w2 ⟨fl,s2,wr2,hk2,hfl2⟩;exact⟨fl,s2,wr2,hk2,hfl2.trans k1 k2 k3 l7⟩
    |ex id=>obtain⟨rfl,hs⟩:=hfl;exact⟨.ex id,s',wr',hk,rfl,hs.up l7⟩
    |rt x=>obtain⟨hl,hs⟩:=hfl;rcases hl with rfl|⟨ch,rfl⟩|⟨ch,rfl⟩<;>exact⟨.rt x,s',wr',hk,by simp[Lf],hs⟩)
  rw[show yh (.seq x y)=yh x+yh y+1 by grind [yh]];exact this
 | .block id x=>by
  have hx:=vS H hret hpan x;have:=xu (c:=.block id x) (core:=λq a s w R K=>FK X.E rt ret pan x q a.l s w R λfl s' w' =>match fl with
   | .nm=>K .nm s' w'| .ex j=>bif Nat.beq j id then K .nm s' w' else K (.ex j) s' w'
   | .rt r=>K (.rt r) s' w') (DOk.mk λ{q an s wr R K r} h {m ok a w} Rl hE=>by
    refine wp_block (wp_mono (hx.run h Rl hE) ?_);rintro e a' w' ⟨fl,s',wr',hk,hfl⟩;cases fl with
    |nm=>obtain⟨rfl,hs⟩:=hfl;exact⟨.nm,s',wr',hk,rfl,hs⟩
    |ex j=>
     obtain⟨rfl,hs⟩:=hfl;cases hb:Nat.beq j id
     .simp only[hb,cond_false]at hk;have hne:j≠id:=λe=>by simp_all
      simp only[Exit.inBlock,hne,if_false];exact⟨.ex j,s',wr',hk,rfl,hs⟩
     .simp only[hb,cond_true]at hk;have:=ik hb;subst this;simp only[Exit.inBlock,if_true];exact⟨.nm,s',wr',hk,rfl,hs⟩
    |rt x=>obtain⟨hl,hs⟩:=hfl;rcases hl with rfl|⟨ch,rfl⟩|⟨ch,rfl⟩<;>exact⟨.rt x,s',wr',hk,by simp[Lf],hs⟩)
  rw[show yh (.block id x)=yh x+1 by grind [yh]];exact this
 | .cond c x y=>by
  have hx:=vS H hret hpan x;have hy:=vS H hret hpan y;have:=xu (X:=X) (c:=.cond c x y) (n:=yh x+yh y) (core:=λq a s w R K=>(wK c λv=>Cmd.ret v:Cmd V).runK s ([],[]) λv s' _=>match v with
   | .b t=>l9 t (FK X.E rt ret pan x q a.l s' w R K) (FK X.E rt ret pan y (q+yh x) a.r s' w R K)
   |_=>none) (DOk.mk λ{q an s wr R K r} h {m ok a w} Rl hE=>by
    obtain⟨v,s',tr,he,hk⟩:=jT h;obtain⟨hv,hs⟩:=pY (dC Rl (K:=λv=>Cmd.ret v) (Q:=λv S' =>nU ⟨w.heap,ok,m⟩ v (a.eval c)/\S' =Y1 s) λv hv=>⟨hv,rfl⟩) he;cases v<;>try (simp at hk)
    case b t=>
     have R1:Rel X (CB*q) (CB*q) (Y1 s') m ok a w:=by simp_all
     refine wp_cond_split (Xe hv) (λht=>?_) (λht=>?_)
     .subst ht;refine wp_mono (hx.run (show FK X.E rt ret pan x q an.l s' wr R K=some r from hk) R1 hE) ?_;rintro e a2 w2 ⟨fl,s2,wr2,hk2,hfl2⟩;exact⟨fl,s2,wr2,hk2,hfl2.trans (λ_ _ h=>h) (λ_ h=>h) (λk _=>by rw[hs]) l7⟩
     .subst ht;refine wp_mono (hy.run (show FK X.E rt ret pan y (q+yh x) an.r s' wr R K=some r from hk) (R1.upq l7) hE) ?_;rintro e a2 w2 ⟨fl,s2,wr2,hk2,hfl2⟩;exact⟨fl,s2,wr2,hk2,hfl2.trans (λ_ _ h=>h) (λ_ h=>h) (λk _=>by rw[hs]) l7⟩)
  rw[show yh (.cond c x y)=yh x+yh y+1 by grind [yh]];exact this
 | .loop x=>by have hx:=vS H hret hpan x;have:=xu (a9d hx);rw[show yh (.loop x)=2+yh x+1 by grind [yh]];exact this| .goto l=>xu ⟨λ{q an s wr R K r} h {m ok a w} Rl hE=>by obtain⟨x,s3,tr,he,hk⟩:=jT h;exact wp_goto ⟨.rt x,[],[],hk,.inr (.inr ⟨_,rfl⟩),hpan (λe=>by grind) he Rl hE⟩⟩| .scope x=>⟨λh=>by grind [FK]⟩| .rangeFunc ..=>⟨λh=>by grind [FK]⟩| .refuse ..=>⟨λh=>by grind [FK]⟩
end
end Go.GP
namespace Go.GP
structure EnvOk (P:Program) (E:Env):Prop where
 nt:64*E.nt<=999936
 tt:∀t i,fZ E.tt t=some i->TiOk P t i
 fs:∀p∈E.fs,b2T P E.gl p
 eqs:∀t sh,fZ E.eqs t=some sh->QS P t sh
 ms:∀p∈E.ms,Jj P p.1.1 p.1.2 p.2.1 p.2.2
 fn:∀p∈E.fs,∃fn,P.funcs[b3s p.1]? =some fn/\fn.body.isSome=true/\(fn.name== "runtime.NumGoroutine")=false
 pl:∀p∈E.pl,PlP P p.1 p.2.1 p.2.2
theorem VG{C:Cx} :∀{a:List V} {xs:d4E},jk C a xs->a.length=xs.length
 |[],_,h=>by simp only[jk]at h;simp[h]|c::a,_,⟨v,r,e,h1,h2⟩=>by subst e;simp[VG h2]
def Xj(tmps:Array Value):ResultVar->Sem Value
 | .tmp t=>pure (tmps.getD t undef)| .cell a t=>do loadVar t (←asAddr (tmps.getD a undef))
def b4P(h:Array Obj)(tm:Nat->Value):d4F->d4E->d4F->Prop
 |[],os,B=>os=[]/\B=[]|n::ns,os,B=>(∃b arr T os' B',tm n= .pointer (some ⟨b,0,none⟩)/\h[b]? =some (.cells arr T (0,0))/\os= .agg arr::os' /\B=b::B' /\b4P h tm ns os' B')\/
  (∃t b arr T os' B',tm n= .iface t (.pointer (some ⟨b,0,none⟩))/\h[b]? =some (.cells arr T (0,0))/\os= .agg arr::os' /\B=b::B' /\b4P h tm ns os' B')\/
  (∃l os',Loc.view l none (tm n)/\os=tm n::os' /\b4P h tm ns os' B)
def Zd(h:Array Obj)(ok:Nat->Ty->Prop):List MG->d4E->Prop
 |[],vs=>vs=[]|m::ms,vs=>∃v r cs x O,vs=v::r/\Xd m.1 v cs/\qc h ok m.2 none x cs O/\Zd h ok ms r
theorem a1U{h:Array Obj}{ok:Nat->Ty->Prop} :∀{ms:List MG} {x:bF ms} {vs:d4E} {O:d4F},oP h ok ms x vs O->Zd h ok ms vs
 |[],_,_,_,e=>e.1|[m],x,_,_,⟨v,cs,e,hg,hr⟩=>⟨v,[],cs,x,_,e,hg,hr,rfl⟩|m::m' ::r,x,_,_,⟨v,cs,vs',O1,O2,e,eo,hg,h1,h2⟩=>⟨v,vs',cs,x.1,O1,e,hg,h1,a1U h2⟩
section
variable {X:Fx} {cl ch:Nat} {m:Mp} {a:Act} {w:World}
theorem QD{α:Type}{Q:α->Sm->Prop}(H:FxOk X){S:Sm}{ok:Nat->Ty->Prop}(R:Rel X cl ch S m ok a w):∀(l:List ResultVar) {K:List V->Cmd α}
  (hK:∀vs rvs,jk ⟨w.heap,ok,m⟩ vs rvs->rvs.length=l.length->(l.mapM (Xj a.tmps)).run X.P w= .ok rvs w->(K vs).post S Q),(Xi X.E l K).post S Q
 |[],K,hK=>hK [] [] rfl rfl x9
 | .tmp t::l,K,hK=>by unfold Xi;refine eP λhb=>aO ?_;refine QD H R l λvs rvs hr hl hrun=>?_;refine hK _ (a.tmps.getD t undef::rvs) ⟨_,_,rfl,R.slot t (Lr hb),hr⟩ (by simp[hl]) ?_;simp only[List.mapM_cons,H5,Xj,bJ,N7,hrun]
 | .cell p t::l,K,hK=>by unfold Xi;refine eP λhb=>aO ?_;refine JF H R (R.slot p (Lr hb)) λv u ad hv hx hload=>?_;refine QD H R l λvs rvs hr hl hrun=>?_;refine hK _ (u::rvs) ⟨_,_,rfl,hv,hr⟩ (by simp[hl]) ?_;simp only[List.mapM_cons,H5,Xj,hx,asAddr,bJ,N7,hload,hrun]
theorem KN{α:Type}{Q:α->Sm->Prop} :∀(ns:d4F) {S:Sm} {ok:Nat->Ty->Prop} {T:d4F} {K:List V->Cmd α} (R:Rel X cl ch S m ok a w) (hT:Tk X S m ok w T)
  (hK:∀S' ws os B,Rel X cl ch S' m ok a w->Tk X S' m ok w (T++B)->b4P w.heap (λn=>a.tmps.getD n Go.undef) ns os B->jk ⟨w.heap,ok,m⟩ ws os->(K ws).post S' Q),(WW ns K).post S Q
 |[],S,ok,T,K,R,hT,hK=>hK S [] [] [] R (by simpa using hT) ⟨rfl,rfl⟩ rfl|n::ns,S,ok,T,K,R,hT,hK=>by
  unfold WW;refine bP λhb=>aO ?_;have hsl:=R.slot n (by rw[dA]at hb;exact hb);split<;>try trivial
  .rename_i bx hSn;rw[hSn]at hsl;obtain⟨blk,hm,hv⟩:=hsl;refine aO ?_;split<;>try trivial
   rename_i cs hS;obtain⟨blk',arr,Ty,hm',hh,hl⟩:=R.own_cells hS;simp only at hm;rw[hm]at hm';cases hm';refine iP ?_;have hT1:Tk X (upd S (Z4+bx) .dead) m ok w (T++[blk]):=hT.kill R bx (λb hb=>by simp at hb;subst hb;simp[V5,hS,hm]) x9;refine KN ns (R.kill bx) hT1 λS' ws os B R' T' ho hw=>?_;exact hK S' _ (.agg arr::os) (blk::B) R' (by simpa using T') (.inl ⟨blk,arr,Ty,os,B,hv,hh,rfl,rfl,ho⟩) ⟨_,_,rfl,⟨arr,rfl,hl⟩,hw⟩
  .rename_i t u hSn;rw[hSn]at hsl;obtain⟨z,hz,_,hsl⟩:=hsl;split<;>try trivial
   rename_i bx;obtain⟨blk,hm,hv⟩:=hsl;refine aO ?_;split<;>try trivial
   rename_i cs hS;obtain⟨blk',arr,Ty,hm',hh,hl⟩:=R.own_cells hS;simp only at hm;rw[hm]at hm';cases hm';refine iP ?_;have hT1:Tk X (upd S (Z4+bx) .dead) m ok w (T++[blk]):=hT.kill R bx (λb hb=>by simp at hb;subst hb;simp[V5,hS,hm]) x9;refine KN ns (R.kill bx) hT1 λS' ws os B R' T' ho hw=>?_;exact hK S' _ (.agg arr::os) (blk::B) R' (by simpa using T') (.inr (.inl ⟨t,blk,arr,Ty,os,B,hv▸hz,hh,rfl,rfl,ho⟩)) ⟨_,_,rfl,⟨arr,rfl,hl⟩,hw⟩
  .rename_i bx hSn;rw[hSn]at hsl;obtain⟨l,hm,hv⟩:=hsl;refine KN ns R hT λS' ws os B R' T' ho hw=>?_;exact hK S' _ (a.tmps.getD n Go.undef::os) B R' T' (.inr (.inr ⟨l,os,hv,rfl,ho⟩)) ⟨_,_,rfl,⟨l,hm,hv⟩,hw⟩
end
theorem Ur{l:Loc}{v:Value}(h:l.view none v):(∃a n c,v= .slice a n c)\/∃b,v= .map (some b):=by
 cases l with
 |nil=>exact .inl ⟨_,_,_,h⟩|st b=>cases h|mp b=>exact .inr ⟨_,h⟩|arr blk off len cap sz=>exact .inl ⟨_,_,_,h⟩
theorem b3X{h h0:Array Obj}{ok0:Nat->Ty->Prop}{tm:Nat->Value} :∀(ms:List MG) (k:Nat) {vals:d4E} {os:d4E} {B:d4F},a6S ms=true->
  Zd h0 ok0 ms vals->(∀i v,k+i∈kN ms k->vals[i]? =some v->tm (k+i)=v)->b4P h tm (kN ms k) os B->vJ h ms vals os B:=by
 have tail:∀{m:List MG} {k:Nat} {v:Value} {r:d4E},(∀i u,k+i∈kN m (k+1)->(v::r)[i]? =some u->tm (k+i)=u)->∀i u,(k+1)+i∈kN m (k+1)->r[i]? =some u->tm ((k+1)+i)=u:=by intro m k v r h i u hi hu;have e:k+(i+1)=k+1+i:=l7;have:=h (i+1) u (by rw[e];exact hi) (by simpa using hu);rwa[e]at this
 have tail2:∀{m:List MG} {k:Nat} {v:Value} {r:d4E},(∀i u,k+i∈k::kN m (k+1)->(v::r)[i]? =some u->tm (k+i)=u)->(tm k=v)/\∀i u,(k+1)+i∈kN m (k+1)->r[i]? =some u->tm ((k+1)+i)=u:=λh=>
  ⟨by have:=h 0 _ x9 rfl;simpa using this,tail (λi u hi hu=>h i u (X9 _ hi) hu)⟩
 intro ms;induction ms with
 |nil=>intro k vals os B hsb hs ht ho;simp only[Zd]at hs;subst hs;exact ho|cons m ms ih=>
  intro k vals os B hsb hs ht ho;obtain⟨v,r,cs,x,O,rfl,hg,hr,hs⟩:=hs;obtain⟨g,m⟩:=m;cases m
  case box md=>
   unfold kN at ht ho;obtain⟨htv,ht⟩:=tail2 ht;obtain⟨blk,arr,T,O',hc,_⟩:=hr;have hv:v= .pointer (some ⟨blk,0,none⟩)\/∃ar,v= .agg ar:=by
    cases g
    .left;have hg:cs=[v]:=hg;rw[hg]at hc;simpa using hc
    .right;obtain⟨ar,e,_⟩:=hg;exact⟨ar,e⟩
   rcases ho with⟨b,arr,T,os',B',e,hh,e1,e2,ho'⟩|⟨t,b,arr,T,os',B',e,_⟩|⟨l,os',e,_⟩
   .exact⟨b,arr,T,os',B',htv.symm.trans e,hh,e1,e2,ih (k+1) hsb hs ht ho'⟩
   .rw[htv]at e;rcases hv with rfl|⟨_,rfl⟩<;>cases e
   .rcases Ur e with⟨_,_,_,e⟩|⟨_,e⟩<;>rw[htv]at e<;>rcases hv with rfl|⟨_,rfl⟩<;>cases e
  case ownb u=>
   unfold kN at ht ho;obtain⟨htv,ht⟩:=tail2 ht;obtain⟨l,v',hc,hvv,_⟩:=hr;have hv:((∃a n c,v= .slice a n c)\/∃b,v= .map (some b))\/∃ar,v= .agg ar:=by
    cases g
    .left;have hg:cs=[v]:=hg;rw[hg]at hc;simp only[J3,and_true]at hc;subst hc;exact Ur hvv
    .right;obtain⟨ar,e,_⟩:=hg;exact⟨ar,e⟩
   rcases ho with⟨b,arr,T,os',B',e,_⟩|⟨t,b,arr,T,os',B',e,_⟩|⟨l,os',e,rfl,ho'⟩
   .rw[htv]at e;rcases hv with(⟨_,_,_,rfl⟩|⟨_,rfl⟩)|⟨_,rfl⟩<;>cases e
   .rw[htv]at e;rcases hv with(⟨_,_,_,rfl⟩|⟨_,rfl⟩)|⟨_,rfl⟩<;>cases e
   .rw[htv];exact⟨os',rfl,ih (k+1) hsb hs ht ho'⟩
  case ifc t md=>
   cases md
   case box md=>
    unfold kN at ht ho;obtain⟨htv,ht⟩:=tail2 ht;obtain⟨u,hc,blk,arr,T,O',hu,_⟩:=hr;have hv:v= .iface t u\/∃ar,v= .agg ar:=by
     cases g
     .left;have hg:cs=[v]:=hg;rw[hg]at hc;simpa using hc
     .right;obtain⟨ar,e,_⟩:=hg;exact⟨ar,e⟩
    rcases ho with⟨b,arr,T,os',B',e,_⟩|⟨t,b,arr,T,os',B',e,hh,e1,e2,ho'⟩|⟨l,os',e,_⟩
    .rw[htv]at e;rcases hv with rfl|⟨_,rfl⟩<;>cases e
    .exact⟨t,b,arr,T,os',B',htv.symm.trans e,hh,e1,e2,ih (k+1) hsb hs ht ho'⟩
    .rcases Ur e with⟨_,_,_,e⟩|⟨_,e⟩<;>rw[htv]at e<;>rcases hv with rfl|⟨_,rfl⟩<;>cases e
   all_goals
    unfold kN at ht ho;exact ih (k+1) hsb hs (tail ht) ho
  all_goals
   unfold kN at ht ho;exact ih (k+1) hsb hs (tail ht) ho
theorem a7U:∀{a b:d4F},a7T a b=true->∀n∈a,n∈b
 |[],_,_,_,h=>by cases h|a::r,b,h,n,hn=>by
  unfold a7T at h;cases hb:He a b<;>rw[hb]at h
  .cases h
  .rcases C9.1 hn with rfl|hn
   .exact a2J hb
   .exact a7U h n hn
theorem XW:∀{ms:List MG} {k n:Nat},n∈kN ms k->k<=n/\n<k+ms.length
 |[],k,n,h=>by cases h|(g,m)::ms,k,n,h=>by
  have key:n∈k::kN ms (k+1)->k<=n/\n<k+(ms.length+1):=λh=>by
   rcases C9.1 h with rfl|h
   .omega
   .have:=XW h;omega
  cases m
  case box md=>exact key h
  case ownb u=>exact key h
  case ifc t md=>
   cases md
   case box md=>exact key h
   all_goals exact key (X9 _ h)
  all_goals exact key (X9 _ h)
variable {P:Program}{fn:Func}
theorem a7F{w:World}{tmps:Array Value}{rvs:d4E}(h:(fn.results.toList.mapM (Xj tmps)).run P w= .ok rvs w):
  ∃v,(results fn tmps).run P w= .ok v w/\Wp rvs.length v rvs:=by
 have hm:(fn.results.mapM (Xj tmps)).run P w= .ok rvs.toArray w:=by rw[Array.mapM_eq_mapM_toList];simp[h]
 have e:results fn tmps=(do let vs ←fn.results.mapM (Xj tmps);pure (if h:vs.size=1 then vs[0]else .tuple vs):Sem Value):=by unfold results;congr 1
 rw[e,H5,hm];clear h hm e;rcases rvs with _|⟨x,_|⟨y,r⟩⟩
 .exact⟨.tuple #[],rfl,rfl,rfl⟩
 .exact⟨x,rfl,rfl,rfl⟩
 .exact⟨.tuple (x::y::r).toArray,x9,rfl,rfl⟩
section
variable {X:Fx} {cl ch:Nat} {m:Mp} {ok:Nat->Ty->Prop} {a:Act} {w:World}
theorem b3m{Q:Unit->Sm->Prop}{xall:d4E}(hall:∀k p,xall[k]? =some p->a.tmps.getD k Go.undef=p):∀(ms:List MG) (n:Nat) {xs:d4E} {S:Sm} {K:Cmd Unit}
  (R:Rel X cl ch S m ok a w) (hxs:∀i v,xs[i]? =some v->a.tmps.getD (n+i) Go.undef=v) (hl:ms.length=xs.length) (hd:Zh w.heap xall ms xs)
  (hK:∀S',Rel X cl ch S' m ok a w->K.post S' Q),(a3W ms n K).post S Q:=by
 intro ms;induction ms with
 |nil=>intro n xs S K R hxs hl hd hK;exact hK S R|cons md ms ih=>
  intro n xs S K R hxs hl hd hK;obtain⟨g,md⟩:=md;cases xs with
  |nil=>cases hl|cons x xs=>
   have hxs' :∀i v,xs[i]? =some v->a.tmps.getD (n+1+i) Go.undef=v:=λi v h=>by have:=hxs (i+1) v (by simpa using h);rwa[show n+(i+1)=n+1+i by omega]at this
   have hl' :ms.length=xs.length:=by simpa using hl
   cases md
   all_goals
    unfold a3W;exact ih (n+1) R hxs' hl' hd hK
end
theorem b0F{X:Fx}(H:FxOk X){ρ:Type}{rt:Ret}{ret:rt.den->ρ}{pan:SC ρ}(hG:∀l,pan (.inr l)= .fail)(hres:fn.results.toList=rt.rs.map (·.1)){c:Code}{an:Ann}{q:Nat}{s:St}{mE:Mp}{ok1:Nat->Ty->Prop}{y:ρ}
  {D:Den ρ} {nn:Nat} (hD:∀{RetP:ρ->Exit->Act->World->Prop},Lp X rt ret mE RetP->Lm X pan mE RetP->DOk X mE RetP D c nn)
  (hk:D q an s [] ρ (λfl s' _=>c0n X.E rt ret fl s')=some y)
  {act:Act} {w1:World} (Rq:Rel X (CB*q) (CB*q) (Y1 s) mE ok1 act w1) {ps:List MG} {vals:d4E} {h00:Array Obj} {ok00:Nat->Ty->Prop} (hsame:rt.outs.map (·.1)=kN ps 0) (hsub:∀n∈rt.outs.map (·.1),n∈X.E.kp) (hnosb:a6S ps=true)
  (hshp:Zd h00 ok00 ps vals) (htm:∀i v,0+i∈kN ps 0->vals[i]? =some v->X.tm0.getD (0+i) Go.undef=v) {Rr:Ending->World->Prop}
  (hN:∀r0 v w' ok' O' rs os B,y=ret r0->Frame' (X.E.gl=[]) X.w0 w' X.O->(∀b t,X.ok0 b t->ok' b t)->(∀b t,ok' b t->b<w'.heap.size/\(X.ok0 b t\/X.w0.heap.size<=b\/b∈X.O))->
   (O' ++B).Nodup->(∀b∈O' ++B,(∀t,¬ok' b t)/\b<w'.heap.size/\(X.w0.heap.size<=b\/b∈X.O))->
   Wp (rt.rs.map (·.2)).length v rs->vJ w'.heap ps vals os B->oP w'.heap ok' (rt.rs.map (·.2)++rt.outs.map (·.2)) r0 (rs++os) O' ->Rr (.returned v) w')
  (hP:∀{c:Int} {S S' :Sm} {tr:Tr} {cl ch:Nat} {m:Mp} {ok:Nat->Ty->Prop} {a' :Act} {w' :World},c≠0->(pan (.inl c)).eval S ([],[])=some (y,S',tr)->Rel X cl ch S m ok a' w' ->(∀k l,mE k=some l->m k=some l)->
   Leaves X.P fn a'.tmps Rr a'.defers (.panicking (Bq X.P c)) w'):
  c.wp X.P (bodyPostD X.P fn Rr) act w1:=by
 let RetN:rt.den->Act->World->Prop:=λr0 a' w' =>(∀d∈a'.defers,b0X X.P d)/\∃v,(results fn a'.tmps).run X.P w' = .ok v w' /\
  ∃ok' O' rs os B,Frame' (X.E.gl=[]) X.w0 w' X.O/\(∀b t,X.ok0 b t->ok' b t)/\(∀b t,ok' b t->b<w'.heap.size/\(X.ok0 b t\/X.w0.heap.size<=b\/b∈X.O))/\
   (O' ++B).Nodup/\(∀b∈O' ++B,(∀t,¬ok' b t)/\b<w'.heap.size/\(X.w0.heap.size<=b\/b∈X.O))/\
   Wp (rt.rs.map (·.2)).length v rs/\vJ w'.heap ps vals os B/\oP w'.heap ok' (rt.rs.map (·.2)++rt.outs.map (·.2)) r0 (rs++os) O'
 let RetP:ρ->Exit->Act->World->Prop:=λz e a' w' =>(e= .ret->∃r0,z=ret r0/\RetN r0 a' w')/\
  (∀ch,e= .panic ch->∃(c:Int) (S S' :Sm) (tr:Tr) (cl ch' :Nat) (m:Mp) (ok:Nat->Ty->Prop),ch=Bq X.P c/\c≠0/\(pan (.inl c)).eval S ([],[])=some (z,S',tr)/\Rel X cl ch' S m ok a' w' /\(∀k l,mE k=some l->m k=some l))/\∀l,e≠.goto l
 have hretN:∀{s:St} {R:Type} {K:rt.den->Option R} {r:R},(b7D X.E rt).runK s ([],[]) (λx _ _=>K x)=some r->
   ∃x,K x=some r/\∀{cl ch:Nat} {m:Mp} {ok:Nat->Ty->Prop} {a:Act} {w:World},Rel X cl ch (Y1 s) m ok a w->RetN x a w:=by
  intro s R K r h;obtain⟨x,s',tr,he,hk⟩:=jT h;refine⟨x,hk,λ{cl ch m ok1 a1 w1} R1=>?_⟩;refine pY (Q:=λx _=>RetN x a1 w1) ?_ he;unfold b7D;refine QD H R1 _ λvs1 rvs hv1 hl1 hrun=>KN (T:=[]) _ R1 Tk.nil λS2 ws os B R2 T2 hout hws=>?_;refine Ak _ R2 T2 λS2 m2 R2 T2 km2=>?_;refine a6m _ R2 T2 (a4O km2 (Og hv1 hws)) λS3 ok3 y O3 R3 T3 k3 s3 hy=>?_;simp only[P6]at T3;have hp:(B++O3).Perm (O3++B):=lC;rw[←hres]at hrun;obtain⟨v,hv,hrv⟩:=a7F hrun;refine⟨R3.nodef,v,hv,ok3,O3,rvs,os,B,R3.frame,R3.okIn,λb t hb=>⟨R3.okLt b t hb,R3.okOut b t hb⟩,hp.nodup_iff.1 T3.nodup,λb hb=>?_,?_,b3X ps 0 hnosb hshp (λi v hi hv=>?_) (by rw[hsame]at hout;exact hout),hy⟩
  .obtain⟨f1,f2,f3,_⟩:=T3.free b (hp.mem_iff.2 hb);exact⟨f1,f2,f3⟩
  .refine⟨by rw[hl1];simp,hrv.2⟩
  .rw[R1.kept (0+i) (hsub _ (by rw[hsame];exact hi))];exact htm i v hi hv
 have hret:Lp X rt ret mE RetP:=by intro s R K r h;obtain⟨x,hk,hx⟩:=hretN h;exact⟨x,hk,λR1 _=>⟨λ_=>⟨x,rfl,hx R1⟩,λch e=>(by cases e),λl e=>by cases e⟩⟩
 have hpan:Lm X pan mE RetP:=λ{c S S' tr x} hc he {cl ch m ok a w} R1 km=>by
  cases c with
  |inl c=>exact⟨λe=>(by cases e),λch' e=>(by cases e;exact⟨c,S,S',tr,cl,ch,m,ok,rfl,λe=>hc (by rw[e]),he,R1,km⟩),λl e=>by cases e⟩|inr l=>rw[hG]at he;cases he
 have fin:∀{r0:rt.den} {a' :Act} {w' :World},y=ret r0->RetN r0 a' w' ->Leaves X.P fn a'.tmps Rr a'.defers .returning w' :=λhy h=>by obtain⟨h1,v,h2,ok',O',rs,os,B,g1,g2,g3,g4,g5,g6,g7,g8⟩:=h;exact XJ ⟨v,h2,hN _ v _ ok' O' rs os B hy g1 g2 g3 g4 g5 g6 g7 g8⟩ _ h1
 have hwp:=(hD hret hpan).run hk Rq (λ_ _ h=>h);refine wp_mono hwp ?_;rintro e a' w' ⟨fl,s',wr',hk2,hfl⟩;cases fl with
 |ex id=>cases hk2|rt z=>
  have hk2:some z=some y:=hk2;cases hk2;obtain⟨hl,h1,h2,h3⟩:=hfl;rcases hl with rfl|⟨ch,rfl⟩|⟨l,rfl⟩
  .obtain⟨r0,hy,hn⟩:=h1 rfl;exact fin hy hn
  .obtain⟨c,S,S',tr,cl,ch',m,ok,rfl,hc,he,R1,km⟩:=h2 ch rfl;exact hP hc he R1 km
  .exact absurd rfl (h3 l)
 |nm=>obtain⟨rfl,m',ok',R',k1,_,_⟩:=hfl;obtain⟨r0,hy,hp⟩:=hretN (K:=λr=>some (ret r)) hk2;simp only[E9]at hy;exact fin hy.symm (hp R')
theorem ZB{E:Env}{f:FuncId}{c:Code}{ps:List MG}{ρ:Type}{rt:Ret}{ret:rt.den->ρ}{pan:SC ρ}{an:Ann}{df:Option (List Deferred)}{D:Den ρ}{nn:Nat}(hG:∀l,pan (.inr l)= .fail)
  (hD:∀{X:Fx},X.P=P->X.E=E->FxOk X->∀{mE:Mp} {RetP:ρ->Exit->Act->World->Prop},Lp X rt ret mE RetP->Lm X pan mE RetP->DOk X mE RetP D c nn) (hdf:∀l,df=some l->[]=l)
  (hdf2:∀l,df=some l->∀p∈E.pl,Nat.beq p.2.2 0=false) (hf:P.funcs[f]? =some fn) (hb:fn.body=some c) (hnt:fn.ntmps=E.nt)
  (hres:fn.results.toList=rt.rs.map (·.1)) (hE:EnvOk P E) {w:World} {ok:Nat->Ty->Prop} {O:d4F} {vals:d4E} {x:bF ps} {y:ρ}
  (hlt:∀b t,ok b t->b<w.heap.size) (hnd:O.Nodup) (hO:∀b∈O,(∀t,¬ok b t)/\b<w.heap.size) (hgl:∀g u,fZ E.gl g=some u->Ph ⟨w.heap,ok,nom⟩ g u.1 u.2)
  (hrel:oP w.heap ok ps x vals O) (hdv:Zh w.heap vals ps vals)
  (hle00:(Nat.ble ps.length E.nt&&KZ (rt.outs.map (·.1)) (kN ps 0)&&a7T (rt.outs.map (·.1)) E.kp&&a6S ps)=true)
  (hden:((Il ps x 0 λvs n=>bif Nat.ble n CB then Lc (List.range vs.length) vs (a3W ps 0 (.ret ()))else .fail).runK [] ([],[]) λ_ s _=>
   D 1 an s [] ρ (λfl s' _=>c0n E rt ret fl s'))=some y) {Rr:Ending->World->Prop}
  (hN:∀r0 v w' ok' O' rs os B,y=ret r0->Frame' (E.gl=[]) w w' O->(∀b t,ok b t->ok' b t)->(∀b t,ok' b t->b<w'.heap.size/\(ok b t\/w.heap.size<=b\/b∈O))->
   (O' ++B).Nodup->(∀b∈O' ++B,(∀t,¬ok' b t)/\b<w'.heap.size/\(w.heap.size<=b\/b∈O))->
   Wp (rt.rs.map (·.2)).length v rs->vJ w'.heap ps vals os B->oP w'.heap ok' (rt.rs.map (·.2)++rt.outs.map (·.2)) r0 (rs++os) O' ->Rr (.returned v) w')
  (hP:∀{c:Int} {S S' :Sm} {tr:Tr} {a' :Act} {w' :World},c≠0->(pan (.inl c)).eval S ([],[])=some (y,S',tr)->Frame' (E.gl=[]) w w' O->(∀l,df=some l->a'.defers=l)->
   Leaves P fn a'.tmps Rr a'.defers (.panicking (Bq P c)) w'):Calls P f vals.toArray w Rr:=by
 let X:Fx:=⟨P,E,w,O,ok,vals.toArray++Array.replicate (E.nt -vals.length) undef,df⟩;have H:FxOk X:=⟨hE.nt,hE.tt,hE.fs,hE.eqs,hE.ms,hE.fn,hE.pl,hdf2⟩;refine calls_of_wp_defers hf hb ?_;simp only[List.size_toArray];rw[hnt];generalize hact:({ tmps:=vals.toArray++Array.replicate (E.nt -vals.length) undef,defers:=[] } :Act)=act;have hvl:vals.length=ps.length:=Tz hrel;simp only[A7]at hle00;obtain⟨⟨⟨hle0,hsame⟩,hsub⟩,hnosb⟩:=hle00;have hsame:=QI hsame;have hsub:=a7U hsub;have hle1:=X4 hle0;obtain⟨u,s,tr,he,hk⟩:=jT hden;have hsize:act.tmps.size=E.nt:=by subst hact;simp;omega
 have hslots:∀n,n<vals.length->act.tmps.getD n undef=vals.getD n undef:=λn hn=>by subst hact;simp only[X7];rw[qw (by simpa using hn)];simp[BG]
 have R0:Rel X 0 0 (Y1 []) nom ok act w:={ size:=hsize,nodef:=(by subst hact;intro d hd;cases hd),dfs:=(by subst hact;exact hdf),slot:=λn _=>trivial,box:=λn=>trivial,inj:=λn n' b h=>(by simp[Y1,V5]at h),nd:=λn=>(by simp[Y1,V5]),sep:=λn b h=>(by simp[Y1,V5]at h),okLt:=hlt,okIn:=λb t h=>h,okOut:=λb t h=> .inl h,frame:=Frame'.refl w O,fresh:=λ_ _ _=>rfl,strict:=λ_ _=>rfl,gl:=hgl,kept:=λn _=>by subst hact;rfl };have T0:Tk X (Y1 []) nom ok w (O++[]):=⟨by simpa using hnd,λb hb=>by simp only[G9]at hb;obtain⟨h1,h2⟩:=hO b hb;exact⟨h1,h2,.inr hb,λn e=>by simp[Y1,V5]at e⟩⟩
 have key:=pY (NE (T:=[]) ps (Q:=λ_ S' =>∃m' vs,Rel X 0 CB S' m' ok act w/\jk ⟨w.heap,ok,m'⟩ vs vals) R0 (D5 0) T0 hrel
  (K:=λvs n=>bif Nat.ble n CB then Lc (List.range vs.length) vs (a3W ps 0 (.ret ()))else .fail) λS1 m1 vs n1 ch1 R1 c1 T1 k1 s1 l1 e1=>eP λhb=>by
   have hn1:=X4 hb;have hvs:=VG l1;have hr:vals=(List.range vs.length).map λn=>act.tmps.getD n Go.undef:=by
    apply mW
    .simp[hvs]
    .intro i h1 h2;simp only[List.getElem_map,List.getElem_range];rw[hslots i h1,BG,dE h1];rfl
   have hall:∀k p,vals[k]? =some p->act.tmps.getD k Go.undef=p:=λk p hk=>by rw[hslots k (U8.1 hk).1,BG,hk];rfl
   refine Oo _ (R1.chmono (ch' :=CB) l7) (by rw[←hr];exact l1) λS' R' =>?_;refine b3m hall ps 0 R' (λi v hi=>by rw[gQ];exact hall i v hi) hvl.symm hdv λS2 R2=>⟨m1,vs,R2,l1⟩) he
 obtain⟨mE,vs,RE,hvs⟩:=key;have Rq:Rel X (CB*1) (CB*1) (Y1 s) mE ok act w:=(RE.climb (lU _)).chmono (by rw[Nat.mul_one];exact D5 _);refine b0F H hG hres (D:=D) (nn:=nn) (hD rfl rfl H) hk Rq hsame hsub hnosb (a1U hrel) (λi v hi hv=>?_) hN (λ{c S S' tr cl ch m ok' a' w'} hc he R1 _=>hP hc he R1.frame R1.dfs);have hlt2:=(XW hi).2;have h2:=hslots (0+i) (by rw[hvl];omega);rw[←hact]at h2;refine h2.trans ?_;rw[BG,gQ,hv];rfl
theorem TN{P:Program}{E:Env}{f:FuncId}{fn:Func}{c:Code}{ps:List MG}{rt:Ret}{an:Ann}{F:bF ps->Option rt.den}(hf:P.funcs[f]? =some fn)(hb:fn.body=some c)(hnt:fn.ntmps=E.nt)
  (hres:fn.results.toList=rt.rs.map (·.1)) (hE:EnvOk P E) (hF:∀x r,F x=some r->b3l E ps rt c an x=some r):
  iZ P E.gl f ⟨ps,rt.rs.map (·.2),rt.outs.map (·.2),F⟩:=by
 intro w ok O vals x r hlt hnd hO hgl hrel hdv hfn;have hden:=hF x r hfn;clear hfn hF;unfold b3l at hden;cases hle00:(Nat.ble ps.length E.nt&&KZ (rt.outs.map (·.1)) (kN ps 0)&&a7T (rt.outs.map (·.1)) E.kp&&a6S ps)
 .simp only[hle00,cond_false]at hden;cases hden
 simp only[hle00,cond_true]at hden;refine ZB (hG:=λ_=>rfl) (D:=FK E rt (λr=>r) (λ_=> .fail) c) (λ{X} h1 h2 H {mE RetP} a b=>by subst h1;subst h2;exact vS H a b c) (df:=none) (λl h=>by cases h) (λl h=>by cases h) hf hb hnt hres hE hlt hnd hO hgl hrel hdv hle00 (an:=an) (y:=r) (ret:=λr=>r) (pan:=λ_=> .fail) hden ?_ ?_
 .intro r0 v w' ok' O' rs os B hy g1 g2 g3 g4 g5 g6 g7 g8;subst hy;exact⟨v,ok',O',rs,os,B,rfl,g1,g2,g3,g4,g5,g6,g7,g8⟩
 .intro c S S' tr a' w' _ he;cases he
def zV:V->Value->Bool
 | .undef,v=>v.oneCell'| .b x,.bool y=>x==y| .i k n,.int k' n' =>decide (k=k')&&decide (n=n')| .s l,.string s=>decide (l=s.data.toList)| .nl,.slice none 0 0=>true| .sl t xs,.map none=>t.isEnt&&xs.isEmpty|_,_=>false
def zL:List V->d4E->Bool
 |[],[]=>true|c::cs,v::vs=>zV c v&&zL cs vs|_,_=>false
theorem c2c{C:Cx}{c:V}{v:Value}(h:zV c v=true):yR C c v/\v.oneCell' =true:=by
 unfold zV at h;split at h
 .exact⟨trivial,h⟩
 .simp at h;subst h;exact⟨rfl,rfl⟩
 .simp at h;obtain⟨rfl,rfl⟩:=h;exact⟨rfl,rfl⟩
 .have:=of_decide_eq_true h;subst this;exact⟨rfl,rfl⟩
 .exact⟨rfl,rfl⟩
 .simp at h;obtain⟨h1,rfl⟩:=h;exact⟨(a4Q h1).2 ⟨none,rfl,λ_=>rfl,λ_ h=>nomatch h⟩,rfl⟩
 grind
theorem b2M{C:Cx} :∀{cs:List V} {vs:d4E},zL cs vs=true->jc C cs vs
 |[],[],_=>rfl|[],_::_,h=>by grind [zL]|_::_,[],h=>by grind [zL]|c::cs,v::vs,h=>by unfold zL at h;simp at h;obtain⟨h1,h2⟩:=c2c h.1;exact⟨v,vs,rfl,h1,h2,b2M h.2⟩
def VI:(t:Ty)->d4E->Option d4E
 | .bool,.bool b::r=>bif b then none else some r| .int k,.int k' n::r=>bif decide (k=k')&&decide (n=0)then some r else none| .str,.string s::r=>bif decide (s.data.toList=[])then some r else none| .sl t,.slice none 0 0::r=>bif t.isEnt then none else some r| .sl t,.map none::r=>bif t.isEnt then some r else none
 | .prod a b,vs=>match VI a vs with|some r=>VI b r|none=>none
 | .unit,vs=>some vs|_,_=>none
theorem Xf:∀{t:Ty} {vs r:d4E},VI t vs=some r->∃cs,vs=cs++r/\oq #[] (λ_ _=>False) t t.zero cs
 | .bool,vs,r,h=>by
  cases vs with
  |nil=>cases h|cons v vs=>
   cases v<;>try (cases h)
   case bool b=>
    cases b
    .simp[VI,cond_false,E9]at h;subst h;exact⟨[.bool false],rfl,rfl⟩
    grind [VI]
 | .int k,vs,r,h=>by
  cases vs with
  |nil=>cases h|cons v vs=>
   cases v<;>try (cases h)
   case int k' n=>
    unfold VI at h;cases hc:(decide (k=k')&&decide (n=0))
    .simp_all
    .simp[hc,cond_true,E9]at h;simp at hc;obtain⟨rfl,rfl⟩:=hc;subst h;exact⟨[.int k 0],rfl,rfl⟩
 | .str,vs,r,h=>by
  cases vs with
  |nil=>cases h|cons v vs=>
   cases v<;>try (cases h)
   case string s=>
    unfold VI at h;cases hc:decide (s.data.toList=[])
    .simp_all
    .simp only[hc,cond_true,E9]at h;subst h;have he:=of_decide_eq_true hc;refine⟨[.string s],rfl,?_⟩;obtain⟨⟨l⟩⟩:=s;subst he;rfl
 | .sl t,vs,r,h=>by
  cases vs with
  |nil=>cases h|cons v vs=>
   cases v<;>try (cases h)
   case slice a n c=>
    cases a<;>try (cases h)
    cases n<;>try (cases h)
    cases c<;>try (cases h)
    cases ht:t.isEnt<;>simp only[VI,ht,cond_true,cond_false,E9]at h
    .subst h;exact⟨[.slice none 0 0],rfl,.inl ⟨ht,none,0,rfl,D5 _,λi x hi=>by grind [Ty.zero]⟩⟩
    grind
   case map mv=>
    cases mv<;>try (cases h)
    cases ht:t.isEnt<;>simp only[VI,ht,cond_true,cond_false,E9]at h
    .grind
    .subst h;exact⟨[.map none],rfl,.inr ⟨ht,none,rfl,λ_=>rfl,λ_ h=>nomatch h⟩⟩
 | .ent ..,vs,r,h=>by
  cases vs with
  |nil=>cases h|cons v vs=>cases v<;>cases h
 | .unit,vs,r,h=>by
  have:vs=r:=by simp_all [VI]
  subst this;exact⟨[],rfl,rfl⟩
 | .prod a b,vs,r,h=>by
  have h' :(match VI a vs with|some r=>VI b r|none=>none)=some r:=by cases vs<;>exact h
  cases ha:VI a vs with
  |none=>simp[ha]at h'|some r1=>simp[ha]at h';obtain⟨c,rfl,h1⟩:=Xf ha;obtain⟨d,rfl,h2⟩:=Xf h';exact⟨c++d,x9,c,d,rfl,h1,h2⟩
def b3o:List (Nat×Nat)->List Field->Bool
 |[],[]=>true|(t,o)::r,f::fs=>Nat.beq f.type t&&Nat.beq f.offset o&&b3o r fs|_,_=>false
theorem a2m:∀{a:List (Nat×Nat)} {b:List Field},b3o a b=true->b.map (λf=>(f.type,f.offset))=a
 |[],[],_=>rfl|[],_::_,h=>by grind [b3o]|_::_,[],h=>by grind [b3o]|(t,o)::r,f::fs,h=>by unfold b3o at h;simp only[A7]at h;have h1:=ik h.1.1;have h2:=ik h.1.2;simp[a2m h.2,←h1,←h2]
def b9t(P:Program)(t:TypeId)(td:TD):Bool:=
 match P.underlying t with
 |none=>false
 |some d=>match td,d with
  | .bool,.bool=>true| .int k,.int k' =>decide (k=k')| .str,.string=>true| .sl e,.slice e' =>Nat.beq e e'| .ptr e,.pointer e' =>Nat.beq e e'| .struct fs,.struct fields=>b3o fs fields.toList| .arr n e,.array n' e' =>Nat.beq n n' &&Nat.beq e e'| .map k e,.map k' e' =>Nat.beq k k' &&Nat.beq e e'| .other,.struct _=>false| .other,.array _ _=>false| .other,_=>true|_,_=>false
theorem b0I{t:TypeId}{td:TD}(h:b9t P t td=true):b9u P t td:=by
 unfold b9t at h;split at h
 .grind
 .rename_i d hd;split at h<;>try (cases h)
  .exact hd
  .have:=of_decide_eq_true h;subst this;exact hd
  .exact hd
  .have:=ik h;subst this;exact hd
  .have:=ik h;subst this;exact hd
  .rename_i fs fields;exact⟨fields,hd,a2m h⟩
  .simp only[A7]at h;have h1:=ik h.1;have h2:=ik h.2;subst h1;subst h2;exact hd
  .simp only[A7]at h;have h1:=ik h.1;have h2:=ik h.2;subst h1;subst h2;exact hd
  .refine⟨d,hd,?_⟩<;>simp_all
def b2N(inf:TypeInfo)(i:TI):Bool:=
 bif Nat.beq i.zero.length i.size then(match inf.zero with|some z=>zL i.zero z.cells.toList|none=>false)else true
def c3E(inf:TypeInfo)(i:TI):Bool:=
 match i.ty with
 |none=>true|some u=>Nat.beq u.size i.size&&(match inf.zero with|some z=>(match VI u z.cells.toList with|some []=>true|_=>false)|none=>false)
def c2h(inf:TypeInfo)(i:TI):Bool:=
 match inf.zero with
 |none=>true|some z=>bif dX i.td then(match z with| .agg _=>true|_=>false)else z.oneCell'
def b9y(P:Program)(t:TypeId)(i:TI):Bool:=
 match P.info? t with
 |none=>false|some inf=>Nat.beq inf.size i.size&&Nat.beq inf.bytes i.bytes&&b2N inf i&&c3E inf i&&b9t P t i.td&&(dX i.td || Nat.beq i.size 1)&&c2h inf i
theorem b0K{t:TypeId}{i:TI}(h:b9y P t i=true):TiOk P t i:=by
 unfold b9y at h;split at h
 .grind
 .rename_i inf hi;simp only[A7,Bool.or_eq_true]at h;obtain⟨⟨⟨⟨⟨⟨h1,h2⟩,h3⟩,h4⟩,h5⟩,h6⟩,h8⟩:=h;refine⟨⟨inf,hi,ik h1,ik h2,λhl=>?_,λu hu=>?_⟩,b0I h5,λha=>?_,λinf' z hinf hz=>?_⟩<;>grind [Nat.eq_of_beq_eq_true,b2N,b2M,c3E,Xf,c2h]
def a8b(P:Program):List (Nat×TI)->Bool
 |[]=>true|(t,i)::r=>b9y P t i&&a8b P r
theorem a1f{P:Program} :∀{tt:List (Nat×TI)},a8b P tt=true->∀t i,fZ tt t=some i->TiOk P t i
 |[],_,t,i,h=>by grind [fZ]|(k,v)::r,hc,t,i,h=>by
  unfold a8b at hc;simp at hc;unfold fZ at h;cases hb:Nat.beq k t
  .simp[hb,cond_false]at h;exact a1f hc.2 t i h
  .simp[hb,cond_true,E9]at h;have:=ik hb;subst this;subst h;exact b0K hc.1
def XF(P:Program):List (Nat×FSpec)->Bool
 |[]=>true|(f,_)::r=>(match P.funcs[b3s f]? with|some fn=>fn.body.isSome&&!(fn.name== "runtime.NumGoroutine")|none=>false)&&XF P r
theorem t_{P:Program} :∀{l:List (Nat×FSpec)},XF P l=true->∀p∈l,∃fn,P.funcs[b3s p.1]? =some fn/\fn.body.isSome=true/\(fn.name== "runtime.NumGoroutine")=false
 |[],_,p,h=>by grind|(k,v)::r,hc,p,h=>by
  unfold XF at hc;simp at hc;rcases C9.1 h with rfl|h
  .grind
  .exact t_ hc.2 p h
end Go.GP
namespace Go.GP
def a8h(P:Program)(gl:List (Nat×(t:Ty)×List t.den)):List (Nat×FSpec)->Prop
 |[]=>True|p::r=>b2T P gl p/\a8h P gl r
theorem a1R{P:Program}{gl:List (Nat×(t:Ty)×List t.den)} :∀{l:List (Nat×FSpec)},a8h P gl l->∀p∈l,b2T P gl p
 |[],_,p,h=>by grind|(k,v)::r,hc,p,h=>by
  rcases C9.1 h with rfl|h
  .exact hc.1
  .exact a1R hc.2 p h
def YZ(P:Program):List ((Nat×String)×Nat×Option Nat)->Prop
 |[]=>True|(k,r)::l=>Jj P k.1 k.2 r.1 r.2/\YZ P l
theorem Za{P:Program} :∀{l:List ((Nat×String)×Nat×Option Nat)},YZ P l->∀p∈l,Jj P p.1.1 p.1.2 p.2.1 p.2.2
 |[],_,p,h=>by grind|(k,v)::r,hc,p,h=>by
  rcases C9.1 h with rfl|h
  .exact hc.1
  .exact Za hc.2 p h
def Zb(P:Program):List (Nat×Nat×Nat)->Prop
 |[]=>True|(f,off,sz)::l=>PlP P f off sz/\Zb P l
theorem Zc{P:Program} :∀{l:List (Nat×Nat×Nat)},Zb P l->∀p∈l,PlP P p.1 p.2.1 p.2.2
 |[],_,p,h=>by grind|(f,off,sz)::l,hc,p,h=>by
  rcases C9.1 h with rfl|h
  .exact hc.1
  .exact Zc hc.2 p h
theorem MC{P:Program}{E:Env}(hnt:Nat.ble (64*E.nt) 999936=true)(htt:a8b P E.tt=true)(heq:∀t sh,fZ E.eqs t=some sh->QS P t sh)(hfn:XF P E.fs=true)(hms:YZ P E.ms)(hfs:a8h P E.gl E.fs)(hpl:Zb P E.pl):EnvOk P E:=
 ⟨X4 hnt,a1f htt,a1R hfs,heq,Za hms,t_ hfn,Zc hpl⟩
end Go.GP
namespace Go.GP
def NF(rec:TypeId->List Ty->Bool)(cells:TypeId->Nat):Nat->List Field->List Ty->Bool
 |_,[],sh=>sh.isEmpty|off,f::r,sh=>(f.name != "_")&&Nat.beq f.offset off&&Nat.ble (cells f.type) sh.length&&rec f.type (sh.take (cells f.type))&&NF rec cells (off+cells f.type) r (sh.drop (cells f.type))
def Dh(P:Program):Nat->TypeId->List Ty->Bool
 |0,_,_=>false
 |n+1,t,sh=>match P.underlying t with
  |some .bool=>(match sh with|[.bool]=>true|_=>false)|some (.int k)=>(match sh with|[.int k']=>decide (k=k')|_=>false)|some .string=>(match sh with|[.str]=>true|_=>false)|some (.struct fs)=> !P.stoodInHeld t&&(P.info? t).isSome&&Nat.beq (P.cellsOf t) sh.length&&NF (Dh P n) P.cellsOf 0 fs.toList sh|_=>false
theorem mf.length:∀{sh:List Ty} {vs:d4E},mf sh vs->vs.length=sh.length
 |[],_,h=>by simp_all [mf]| .bool::ts,_,⟨_,_,rfl,h⟩=>by simp[mf.length h]| .int _::ts,_,⟨_,_,rfl,h⟩=>by simp[mf.length h]| .str::ts,_,⟨_,_,rfl,h⟩=>by simp[mf.length h]| .sl _::_,_,h=>h.elim| .prod _ _::_,_,h=>h.elim| .unit::_,_,h=>h.elim
theorem mf.take_drop:∀{sh:List Ty} {vs:d4E} (n:Nat),mf sh vs->mf (sh.take n) (vs.take n)/\mf (sh.drop n) (vs.drop n)
 |sh,vs,0,h=>⟨by simp[mf],h⟩|[],_,n+1,h=>by simp_all [mf]| .bool::ts,_,n+1,⟨b,r,rfl,h⟩=>by have:=mf.take_drop n h;exact⟨⟨b,_,rfl,this.1⟩,this.2⟩| .int _::ts,_,n+1,⟨b,r,rfl,h⟩=>by have:=mf.take_drop n h;exact⟨⟨b,_,rfl,this.1⟩,this.2⟩| .str::ts,_,n+1,⟨b,r,rfl,h⟩=>by have:=mf.take_drop n h;exact⟨⟨b,_,rfl,this.1⟩,this.2⟩| .sl _::_,_,_+1,h=>h.elim| .prod _ _::_,_,_+1,h=>h.elim| .unit::_,_,_+1,h=>h.elim
theorem Na{C:Cx} :∀{sh:List Ty} {cs:List V} {vs:d4E},EZ sh cs=true->jc C cs vs->mf sh vs
 |[],[],vs,_,h=>h|[],_::_,_,h,_=>by grind [EZ]|t::ts,[],_,h,_=>by simp_all [EZ]|t::ts,c::cs,_,h,⟨v,r,rfl,h1,_,h3⟩=>by
  cases t<;>cases c<;>simp[EZ,A7,decide_eq_true_eq]at h<;>try (cases h;done)
  case bool.b x=>subst h1;exact⟨_,_,rfl,Na h h3⟩
  case int.i k k' n=>obtain⟨rfl,h⟩:=h;subst h1;exact⟨_,_,rfl,Na h h3⟩
  case str.s l=>subst h1;exact⟨_,_,rfl,Na h h3⟩
theorem a3Y{a b:V}{r q:List V}{e:Bool}(h:EC (a::r) (b::q)=some e):∃e1 e2,eq1 a b=some e1/\EC r q=some e2/\e=(e1&&e2):=by
 unfold EC at h;split at h
 .grind
 .rename_i e1 h1;split at h
  .cases h;exact⟨_,true,h1,rfl,x9⟩
  .split at h
   .rename_i e2 h2;cases h;exact⟨_,_,h1,h2,rfl⟩
   grind
theorem UI{C:Cx} :∀{cs ds:List V} {xs ys:d4E} {e:Bool},jc C cs xs->jc C ds ys->EC cs ds=some e->(e=true↔xs=ys)
 |[],[],xs,ys,e,h1,h2,h=>by simp_all [jc,EC]|[],_::_,_,_,_,_,_,h=>by grind [EC]|_::_,[],_,_,_,_,_,h=>by grind [EC]|a::r,b::q,xs,ys,e,hx,hy,h=>by
  obtain⟨v,vs,rfl,hv,_,hvs⟩:=hx;obtain⟨u,us,rfl,hu,_,hus⟩:=hy;obtain⟨e1,e2,k1,k2,rfl⟩:=a3Y h;have ih:=UI hvs hus k2;have hd:e1=true↔v=u:=by
   cases a<;>cases b<;>simp[eq1]at k1<;>try (cases k1)
   case b.b x y=>
    have hv:v= .bool x:=hv;have hu:u= .bool y:=hu
    grind [ji]
   case i.i j x k y=>
    have hv:v= .int j x:=hv;have hu:u= .int k y:=hu
    grind [x8]
   case s.s x y=>
    have hv:v= .string ⟨x.toArray⟩:=hv;have hu:u= .string ⟨y.toArray⟩:=hu
    grind [seq]
  simp_all
def VOf(P:Program)(t:TypeId)(xs:d4E)(v:Value):Prop:=match P.underlying t with
 |some (.struct _)=>v= .agg xs.toArray|_=>xs=[v]
variable {P:Program}{t:TypeId}
theorem a8t{i:TypeInfo}(h:P.info? t=some i):P.cellsOf t=i.size:=by simp[Program.cellsOf,h]
variable {n:Nat}{sh:List Ty}
theorem a0n(hc:Dh P n t sh=true)(hcs:P.cellsOf t=sh.length){cs:Array Value}{off:Nat}(hl:off+sh.length<=cs.size)(w:World):
  ∃v,(part t cs off).run P w= .ok v w/\VOf P t ((cs.toList.drop off).take sh.length) v:=by
 cases n with
 |zero=>cases hc|succ n=>
  unfold Dh at hc;split at hc
  all_goals try (cases hc;done)
  .rename_i ht;split at hc<;>try (cases hc;done)
   simp only[H7,jf]at hl ⊢;refine⟨cs[off]'l7,?_,?_⟩
   .have h1:=MX (P:=P) (t:=t) (d:=.bool) ht w
    grind [part,Sem.run_bind,Result.andThen_ok,dX,Sem.run_pure]
   .simp only[VOf,ht];apply mW
    all_goals grind
  .rename_i k ht;split at hc<;>try (cases hc;done)
   simp only[H7,jf]at hl ⊢;refine⟨cs[off]'l7,?_,?_⟩
   .have h1:=MX (P:=P) (t:=t) (d:=.int k) ht w
    grind [part,Sem.run_bind,Result.andThen_ok,dX,Sem.run_pure]
   .simp only[VOf,ht];apply mW
    all_goals grind
  .rename_i ht;split at hc<;>try (cases hc;done)
   simp only[H7,jf]at hl ⊢;refine⟨cs[off]'l7,?_,?_⟩
   .have h1:=MX (P:=P) (t:=t) (d:=.str) ht w
    grind [part,Sem.run_bind,Result.andThen_ok,dX,Sem.run_pure]
   .simp only[VOf,ht];apply mW
    all_goals grind
  .rename_i fs ht;simp only[A7]at hc;obtain⟨⟨⟨_,h2⟩,_⟩,_⟩:=hc;obtain⟨inf,hinf⟩:=Option.isSome_iff_exists.1 h2;have hsz:=a8t hinf;refine⟨.agg (cs.extract off (off+inf.size)),?_,?_⟩
   .have h1:=MX (P:=P) (t:=t) (d:=.struct (fs.toList.map λf=>(f.type,f.offset))) ⟨fs,ht,rfl⟩ w;simp_all [sizeOf,typeInfo,part,dX]
   .simp only[VOf,ht];congr 1
    grind
theorem WH{P:Program} :∀(n:Nat) (t:TypeId) (sh:List Ty),Dh P n t sh=true->∀(d:Nat),n<=d->∀(xs ys:d4E) (v u:Value),mf sh xs->mf sh ys->VOf P t xs v->VOf P t ys u->∀w:World,
  ∃r,(Op.equalIn d t v u).run P w= .ok r w/\(r=true↔xs=ys)
 |0,_,_,h,_,_,_,_,_,_,_,_,_,_,_=>by cases h|n+1,t,sh,h,d,hd,xs,ys,v,u,hx,hy,hv,hu,w=>by
  obtain⟨d,rfl⟩:∃k,d=k+1:=⟨d -1,l7⟩;unfold Dh at h;split at h
  all_goals try (cases h;done)
  .rename_i ht;split at h<;>try (cases h;done)
   obtain⟨a,r1,rfl,h1⟩:=hx;obtain⟨b,r2,rfl,h2⟩:=hy;simp only[mf]at h1 h2;subst h1;subst h2;simp only[VOf,ht]at hv hu;obtain rfl:=(bf hv).1;obtain rfl:=(bf hu).1;simp_all [run_equalIn_bool]
  .rename_i k ht;split at h<;>try (cases h;done)
   have:=of_decide_eq_true h;subst this;obtain⟨a,r1,rfl,h1⟩:=hx;obtain⟨b,r2,rfl,h2⟩:=hy;simp only[mf]at h1 h2;subst h1;subst h2;simp only[VOf,ht]at hv hu;obtain rfl:=(bf hv).1;obtain rfl:=(bf hu).1;exact⟨a==b,run_equalIn_int w d t k k a b ht,x9⟩
  .rename_i ht;split at h<;>try (cases h;done)
   obtain⟨a,r1,rfl,h1⟩:=hx;obtain⟨b,r2,rfl,h2⟩:=hy;simp only[mf]at h1 h2;subst h1;subst h2;simp only[VOf,ht]at hv hu;obtain rfl:=(bf hv).1;obtain rfl:=(bf hu).1;refine⟨a.toList==b.toList,run_equalIn_string w d t a b ht,?_⟩;constructor
   .intro h;have h:=eq_of_beq h;rw[ByteArray.toList_eq,ByteArray.toList_eq]at h;obtain⟨⟨x⟩⟩:=a<;>simp_all
   simp_all
  .rename_i fs ht;simp only[A7,aQ]at h;obtain⟨⟨⟨h1,h2⟩,h3⟩,h4⟩:=h;have hlen:=ik h3;simp only[VOf,ht]at hv hu;subst hv;subst hu;have hfo:P.fieldsOf t=fs:=by grind [Program.fieldsOf]
   rw[run_equalIn_struct w d t _ _ (by simp_all) h1,hfo];have hxl:=hx.length;have hyl:=hy.length;have key:∀(l:List Field) (off:Nat) (s:List Ty),NF (Dh P n) P.cellsOf off l s=true->s=sh.drop off->off<=sh.length->∃r,(Op.eqFields d xs.toArray ys.toArray l).run P w= .ok r w/\(r=true↔xs.drop off=ys.drop off):=by
    intro l;induction l with
    |nil=>
     intro off s hs he ho;unfold NF at hs;have:s=[]:=by simp_all
     have hoff:off=sh.length:=by
      have:=congrArg List.length (he.symm.trans this)
      grind
     refine⟨true,rfl,?_⟩<;>simp_all [jq]
    |cons f r ih=>
     intro off s hs he ho;unfold NF at hs;simp only[A7]at hs;obtain⟨⟨⟨⟨g1,g2⟩,g3⟩,g4⟩,g5⟩:=hs;have g2:=ik g2;have g3:=X4 g3;subst he;simp only[List.length_drop]at g3;have hsl:((sh.drop off).take (P.cellsOf f.type)).length=P.cellsOf f.type:=by simp_all
     obtain⟨v1,e1,o1⟩:=a0n g4 hsl.symm (cs:=xs.toArray) (off:=off) (by grind) w;obtain⟨u1,e2,o2⟩:=a0n g4 hsl.symm (cs:=ys.toArray) (off:=off) (by grind) w;rw[hsl]at o1 o2;obtain⟨b1,e3,q1⟩:=WH n f.type _ g4 d l7 _ _ v1 u1 (((hx.take_drop off).2).take_drop _).1 (((hy.take_drop off).2).take_drop _).1 o1 o2 w;obtain⟨b2,e4,q2⟩:=ih (off+P.cellsOf f.type) _ g5 x9 l7;have hne:f.name≠ "_":=by simp_all
     have split:(xs.drop off=ys.drop off)↔((xs.drop off).take (P.cellsOf f.type)=(ys.drop off).take (P.cellsOf f.type)/\xs.drop (off+P.cellsOf f.type)=ys.drop (off+P.cellsOf f.type)):=by
      grind [List.drop_drop,List.take_append_drop]
     simp only[Op.eqFields,if_pos hne,H5,g2,e1,e2,e3,N7];cases b1<;>simp_all
   grind
theorem a2i{P:Program}(em:Bool):∀(n:Nat) (t:TypeId) (sh:List Ty),Dh P n t sh=true->∀(d:Nat),n<=d->∀(xs:d4E) (v:Value),mf sh xs->VOf P t xs v->∀w:World,
  (Instr.checkKey em d t v).run P w= .ok () w
 |0,_,_,h,_,_,_,_,_,_,_=>by cases h|n+1,t,sh,h,d,hd,xs,v,hx,hv,w=>by
  obtain⟨d,rfl⟩:∃k,d=k+1:=⟨d -1,l7⟩;unfold Dh at h;split at h
  all_goals try (cases h)
  .rename_i ht;split at h<;>try (cases h)
   obtain⟨a,r1,rfl,h1⟩:=hx;simp[Instr.checkKey,run_underlying ht]
  .rename_i k ht;split at h<;>try (cases h)
   have:=of_decide_eq_true h;obtain⟨a,r1,rfl,h1⟩:=hx;simp[VOf,ht]at hv;simp[Instr.checkKey,run_underlying ht]
  .rename_i ht;split at h<;>try (cases h)
   obtain⟨a,r1,rfl,h1⟩:=hx;simp[VOf,ht]at hv;simp[Instr.checkKey,run_underlying ht]
  .rename_i fs ht;simp at h;obtain⟨⟨⟨h1,h2⟩,h3⟩,h4⟩:=h;simp[VOf,ht]at hv;have hxl:=hx.length;have key:∀(l:List Field) (off:Nat) (s:List Ty),NF (Dh P n) P.cellsOf off l s=true->s=sh.drop off->off<=sh.length->
     (forIn l PUnit.unit (λ(f:Field) (_:PUnit)=>(do
      if f.name≠ "_" then Instr.checkKey em d f.type (←part f.type xs.toArray f.offset)
      pure (ForInStep.yield PUnit.unit):Sem (ForInStep PUnit)))).run P w= .ok PUnit.unit w:=by
    intro l;induction l with
    |nil=>simp|cons f r ih=>
     intro off s hs he ho;unfold NF at hs;simp only[A7]at hs;obtain⟨⟨⟨⟨g1,g2⟩,g3⟩,g4⟩,g5⟩:=hs;have g2:=ik g2;subst he;have hsl:((sh.drop off).take (P.cellsOf f.type)).length=P.cellsOf f.type:=by simp_all
     obtain⟨v1,e1,o1⟩:=a0n g4 hsl.symm (cs:=xs.toArray) (off:=off) (by grind) w;rw[hsl]at o1;have e3:=a2i em n f.type _ g4 d l7 _ v1 (((hx.take_drop off).2).take_drop _).1 o1 w
     grind [List.drop_drop,Sem.run_bind,Result.andThen_ok,Sem.run_pure]
   have:=key fs.toList 0 sh h4 x9 l7;simp_all [Instr.checkKey,run_underlying]
theorem a6z(hn:n<=10000)(h:Dh P n t sh=true)(hs:(match P.underlying t with|some (.struct _)=>true|_=>false)=true):a5v P t sh:=by
 have hv:∀zs,VOf P t zs.toList (.agg zs):=λzs=>by
  grind [VOf]
 refine⟨?_,λw xs hx=>⟨λem=>a2i em n t sh h 10000 hn _ _ hx (hv xs) w,λys hy=>WH n t sh h 10000 hn _ _ _ _ hx hy (hv xs) (hv ys) w⟩⟩<;>grind
theorem a8M(hn:n<=10000)(h:Dh P n t sh=true)(hs:(match P.underlying t with|some (.struct _)=>true|_=>false)=true)(hg:P.eqGuardType P.depth t=false):QS P t sh:=by
 refine⟨?_,a6z hn h hs⟩;intro w C cs ds xs ys e op x y s1 s2 h1 h2 he hop;have hv:∀zs,VOf P t zs.toList (.agg zs):=λzs=>by
  grind [VOf]
 obtain⟨r,hr,hq⟩:=WH n t sh h 10000 hn _ _ _ _ (Na s1 h1) (Na s2 h2) (hv xs) (hv ys) w<;>grind [UI,Sem.run_bind,run_eqGuard_agg,Result.andThen_ok,run_eql_struct,run_neq_struct]
def a8N(P:Program):List (Nat×List Ty)->Bool
 |[]=>true|(t,sh)::r=>Dh P 20 t sh&&(match P.underlying t with|some (.struct _)=>true|_=>false)&&!P.eqGuardType P.depth t&&a8N P r
theorem a6j{P:Program} :∀{l:List (Nat×List Ty)},a8N P l=true->∀t sh,fZ l t=some sh->QS P t sh
 |[],_,t,sh,h=>by grind [fZ]|(k,v)::r,hc,t,sh,h=>by
  unfold a8N at hc;simp at hc;unfold fZ at h;cases hb:Nat.beq k t
  .simp[hb,cond_false]at h;exact a6j hc.2 t sh h
  .simp[hb,cond_true,E9]at h;have:=ik hb;subst this;subst h;exact a8M l7 hc.1.1.1 hc.1.1.2 hc.1.2
end Go.GP
namespace Go.GP
open Go.ChangeShapes Go.WideShapes Go.RowKit
def wf:(t:Ty)->t.den->Prop
 | .bool,_=>True| .int k,n=>(Lit.int k n).wf=true| .str,l=>l.length<=reachBytes| .sl t,xs=>xs.length<=reachBytes/\∀x∈xs,wf t x| .prod a b,x=>wf a x.1/\wf b x.2| .unit,_=>True| .any _,_=>True| .ent _ _ a b,x=>wf a x.1/\wf b x.2
def Jd(rec:TypeId->Ty->Bool)(cells:TypeId->Nat):Nat->List Field->Ty->Bool
 |off,fs,u=>match fs with
  |[]=>false
  |f::r=>match r with
   |[]=>Nat.beq f.offset off&&rec f.type u&&Nat.beq (cells f.type) u.size
   |g::r' =>match u with
    | .prod a b=>Nat.beq f.offset off&&rec f.type a&&Nat.beq (cells f.type) a.size&&Jd rec cells (off+a.size) (g::r') b|_=>false
termination_by _ fs _=>fs.length
def a5j(P:Program):Nat->TypeId->Ty->Bool
 |0,_,_=>false
 |n+1,t,u=>match P.underlying t with
  |some .bool=>(match u with| .bool=>true|_=>false)|some (.int k)=>(match u with| .int k' =>decide (k=k')|_=>false)|some .string=>(match u with| .str=>true|_=>false)|some (.slice e)=>(match u with| .sl v=>a5j P n e v&&Nat.beq (P.cellsOf e) v.size&&Nat.blt 0 v.size&&Nat.blt 0 (P.bytesOf e)&&!v.isEnt|_=>false)|some (.struct fs)=>Jd (a5j P n) P.cellsOf 0 fs.toList u&&Nat.beq (P.cellsOf t) u.size|_=>false
theorem UV{α:Type}{Q:Nat->α->Prop} :∀(n:Nat),(∀i,i<n->∃x,Q i x)->∃xs:List α,xs.length=n/\∀i x,xs[i]? =some x->Q i x
 |0,_=>⟨[],rfl,λi x h=>by grind⟩
 |n+1,h=>by obtain⟨xs,hl,hx⟩:=UV n λi hi=>h i l7;obtain⟨y,hy⟩:=h n l7;refine⟨xs++[y],by simp[hl],λi x hi=>?_⟩<;>grind
variable {n:Nat}
theorem ZK{w:World}{a:Addr}{es:d4E}(hn:0<n)(h:w.cells? 0 a n=some es):
  a.spot=none/\a.block<w.heap.size/\fP w.heap a.block a.off n=some es:=by
 obtain⟨blk,off,spot⟩:=a;simp only[World.cells?,lU,if_true]at h;have hlen:es.length=n:=by simpa using Lib.mapM_length h
 have hat:∀i,i<n->∃b,es[i]? =some b/\w.cell? (Addr.add ⟨blk,off,spot⟩ i)=some b:=λi hi=>Lib.mapM_at h i i (by grind);obtain⟨b0,_,h0⟩:=hat 0 hn;simp only[Addr.add,if_true,World.cell?]at h0;cases hb:w.heap[blk]? with
 |none=>simp_all|some o=>
  cases o<;>simp only[hb]at h0<;>try (cases h0;done)
  rename_i c T f;have hs:spot=none:=by simp_all
  subst hs;have hat' :∀i,i<n->es[i]? =c[off+i]?/\off+i<c.size:=λi hi=>by
   grind [Addr.add,World.cell?]
  refine⟨rfl,(I9.1 hb).1,?_⟩;have hle:off+n<=c.size:=by have:=(hat' (n -1) l7).2;omega
  rw[nX hb _ _ hle];congr 1;apply aB<;>grind
section
variable {H:Type} {enc:TypeId×Value->H} {P:Program} {w:World} {sp:Nat->Bool} {held:Bool} {ok:Nat->Ty->Prop}
theorem QN{e:TypeId} :∀{l:List (DataW H)} {d:DataW H},d∈l->∀b∈d.weights P e,b∈DataW.weightsAll P e l
 |x::l,d,h,b,hb=>by
  simp[DataW.weightsAll,D6];rcases C9.1 h with rfl|h
  .exact .inl hb
  .exact .inr (QN h b hb)
theorem n_{n:Nat}(IH:∀t u,a5j P n t u=true->∀kK cs d ps,DataW.trod enc P w 0 sp held kK t cs=some (d,ps)->(∀b∈d.weights P t,b<=reachBytes)->∃x,oq w.heap ok u x cs/\wf u x){cs:d4E}{m:Nat} :
  ∀(fs:List Field) (off:Nat) (u:Ty),Jd (a5j P n) P.cellsOf off fs u=true->∀(xs:List (DataW H×List MemPlace)),xs.length=fs.length->
   (∀(i:Nat) (f:Field),fs[i]? =some f->DataW.trod enc P w 0 sp held m f.type ((cs.drop f.offset).take (P.cellsOf f.type))=xs[i]?)->(∀b∈DataW.weightsEach P (fs.map (·.type)) (xs.map (·.1)),b<=reachBytes)->
   ∃x,oq w.heap ok u x ((cs.drop off).take u.size)/\wf u x
 |[],off,u,h,_,_,_,_=>by simp_all [Jd]|[f],off,u,h,xs,hl,hx,hw=>by
  unfold Jd at h;simp only[A7]at h;have h1:=ik h.1.1;have h3:=ik h.2;match xs,hl with
  |[y],_=>
   have h4:=hx 0 f rfl
   grind [DataW.weightsEach]
 |f::g::r,off,u,h,xs,hl,hx,hw=>by
  unfold Jd at h;cases u<;>try (cases h)
  rename_i a b;simp only[A7]at h;obtain⟨⟨⟨h1,h2⟩,h3⟩,h4⟩:=h;have h1:=ik h1;have h3:=ik h3;match xs,hl with
  |y::ys,hl=>
   have h5:=hx 0 f rfl;rw[h1,h3]at h5;obtain⟨p,hp,wp⟩:=IH _ _ h2 _ _ y.1 y.2 (by simpa using h5) λc hc=>hw c (by grind [DataW.weightsEach]);obtain⟨q,hq,wq⟩:=n_ IH (g::r) (off+a.size) b h4 ys (by simp_all) (λi f' hf=>by have:=hx (i+1) f' (by simp_all);simpa using this) λc hc=>hw c (by simp_all [DataW.weightsEach])
   refine⟨(p,q),⟨_,_,?_,hp,hq⟩,wp,wq⟩;show(cs.drop off).take (a.size+b.size)=_;rw[List.take_add,bz]
theorem QC(hok:∀b t,b<w.heap.size->ok b t):∀(n:Nat) (t:TypeId) (u:Ty),a5j P n t u=true->∀(kK:Nat) (cs:d4E) (d:DataW H) (ps:List MemPlace),DataW.trod enc P w 0 sp held kK t cs=some (d,ps)->
  (∀b∈d.weights P t,b<=reachBytes)->∃x,oq w.heap ok u x cs/\wf u x
 |0,_,_,h,_,_,_,_,_,_=>by cases h|n+1,t,u,h,kK,cs,d,ps,hd,hw=>by
  unfold a5j at h;split at h
  .rename_i ht;cases u<;>try (cases h)
   obtain⟨b,rfl,hx⟩:=DataW.trod_bool ht hd;exact⟨b,rfl,trivial⟩
  .rename_i k ht;cases u<;>try (cases h)
   have:=of_decide_eq_true h;subst this;obtain⟨b,rfl,hx,hwf⟩:=DataW.trod_int ht hd;exact⟨b,rfl,hwf⟩
  .rename_i ht;cases u<;>try (cases h)
   obtain⟨s,rfl,hx,hs⟩:=DataW.trod_string ht hd;obtain⟨rfl,rfl⟩:=hx;refine⟨s.data.toList,rfl,hw _ ?_⟩;simp[DataW.weights]
  .rename_i e ht;cases u<;>try (cases h)
   rename_i v;simp only[A7,aQ]at h;obtain⟨⟨⟨⟨h1,h2⟩,h3⟩,h4⟩,hE0⟩:=h;have h2:=ik h2;rw[dA]at h3 h4;rcases DataW.trod_slice ht hd with⟨rfl,hx⟩|⟨a,len,cap,elems,rest,m,rfl,rfl,hx,hb,hl,hm,hlen,hel,_,_⟩
   .exact⟨[],.inl ⟨hE0,none,0,rfl,D5 _,λi x hi=>by simp_all⟩,x9,λx hx=>by simp_all⟩
   .obtain⟨rfl,rfl⟩:=hx;have hW:DataW.weights P t (.slice (elems.map (·.1)) (rest.map (·.1)):DataW H)=((elems.map (·.1)).length+(rest.map (·.1)).length)*P.bytesOf e::(DataW.weightsAll P e (elems.map (·.1))++DataW.weightsAll P e (rest.map (·.1))):=by
     simp_all [DataW.weights]
    rw[hW]at hw;have hsz:=hw _ (kT ..);simp at hsz;have hlr:=by have h6:(elems.length+rest.length)*1<=(elems.length+rest.length)*P.bytesOf e:=Nat.mul_le_mul_left _ h4;omega
    have each:∀i,i<len->∃x,wf v x/\a.spot=none/\a.block<w.heap.size/\∃es,fP w.heap a.block (a.off+i*v.size) v.size=some es/\oq w.heap ok v x es:=by
     intro i hi;have h5:=hel i hi;rw[h2]at h5;rw[dE l7]at h5;obtain⟨es,hc,hd2⟩:=Option.bind_eq_some_iff.1 h5;obtain⟨x,hx,wx⟩:=QC hok n e v h1 m es _ _ hd2 λb hb=>hw b (by refine X9 _ (Y6 _ (QN (J6.2 ⟨_,P8 l7,rfl⟩) b hb)))
     obtain⟨s1,s2,s3⟩:=ZK h3 hc;by_cases hz:i*v.size=0
     .grind [Addr.add]
     .obtain⟨es0,hc0,_⟩:=Option.bind_eq_some_iff.1 (by rw[hel 0 l7,dE l7]);rw[h2]at hc0;have s0:=(ZK h3 hc0).1
      grind [Addr.add]
    obtain⟨xs,hxl,hxs⟩:=UV len each;refine⟨xs,.inl ⟨hE0,some a,cap,by grind,l7,λi x hi=>?_⟩,l7,λx hx=>?_⟩
    .obtain⟨_,s1,s2,es,s3,s4⟩:=hxs i x hi;refine⟨a.block,a.off,es,?_,hok _ _ s2,s3,s4⟩;obtain⟨b,o,s⟩:=a<;>simp_all
    .obtain⟨i,hi,rfl⟩:=List.mem_iff_getElem.1 hx;exact(hxs i _ (dE hi)).1
  .rename_i fs ht;simp only[A7]at h;have h2:=ik h.2;obtain⟨xs,m,rfl,hx,hl,hlen,hf⟩:=DataW.trod_struct ht hd;obtain⟨rfl,rfl⟩:=hx;have hW:DataW.weights P t (.agg (xs.map (·.1)):DataW H)=DataW.weightsEach P (fs.toList.map (·.type)) (xs.map (·.1)):=by simp_all [DataW.weights]
   rw[hW]at hw;have:=n_ (λt u hu kK cs d ps hd hw=>QC hok n t u hu kK cs d ps hd hw) fs.toList 0 u h.1 xs l7 (λi f hi=>hf i f (by simp_all)) hw
   grind
  grind
end
def b4U(P:Program)(t:TypeId):Bool:=match P.underlying t with|some (.struct _)=>true|_=>false
variable {P:Program}
theorem c1b{W:World}{base n:Nat}{t:TypeId}{u:Ty}{v:Value}(h:a5j P n t u=true)(hv:Value.okWide P W .any base t v):Xd (b4U P t) v v.cells.toList:=by
 cases n with
 |zero=>cases h|succ n=>
  unfold a5j at h;unfold b4U;split at h
  .rename_i ht;simp[Value.okWide,ht,Cell.okWide,Cell.ok]at hv ⊢;cases v<;>first|rfl|simp_all
  .rename_i ht;simp[Value.okWide,ht,Cell.okWide,Cell.ok]at hv ⊢;cases v<;>first|rfl|simp_all
  .rename_i ht;simp[Value.okWide,ht,Cell.okWide,Cell.ok]at hv ⊢;cases v<;>first|rfl|simp_all
  .rename_i ht;simp[Value.okWide,ht,Cell.okWide,Cell.ok]at hv ⊢;cases v<;>first|rfl|simp_all
  .rename_i ht;simp[Value.okWide,ht]at hv ⊢;obtain⟨cs,rfl,_,_⟩:=hv;exact⟨cs,rfl,rfl⟩
  grind
def uA(P:Program)(n:Nat):List TypeId->List MG->Bool
 |[],[]=>true|t::ts,(g,.dat u)::ms=>a5j P n t u&&(b4U P t==g)&&P.readableRec t&&Nat.blt t P.types.size&&uA P n ts ms|_,_=>false
def wfM:(m:M)->m.den->Prop
 | .dat t,x=>wf t x|_,_=>True
def a8g:(ms:List MG)->bF ms->Prop
 |[],_=>True|[m],x=>wfM m.2 x|m::m' ::r,x=>wfM m.2 x.1/\a8g (m' ::r) x.2
section
variable {H:Type} {enc:TypeId×Value->H} {P:Program} {W:World} {base n:Nat} {ok:Nat->Ty->Prop}
theorem a3f(hok:∀b t,b<W.heap.size->ok b t):∀{ts:List TypeId} {ms:List MG} {vs:d4E} {ds:List (DataW H)} {ps:List MemPlace},uA P n ts ms=true->DataW.TrodAll enc P W 0 (λ_=>true) true ts vs ds ps->
  (∀(j:Nat) t v,ts[j]? =some t->vs[j]? =some v->Value.okWide P W .any base t v)->(∀b∈DataW.weightsEach P ts ds,b<=reachBytes)->∃x,oP W.heap ok ms x vs []/\a8g ms x
 |[],[],vs,ds,ps,h,hd,hv,hw=>by obtain⟨rfl,rfl,rfl⟩:=trodAll_nil hd;exact⟨(),⟨rfl,rfl⟩,trivial⟩
 |[],_::_,_,_,_,h,_,_,_=>by grind [uA]|_::_,[],_,_,_,h,_,_,_=>by grind [uA]|t::ts,(g,m)::ms,vs,ds,ps,h,hd,hv,hw=>by
  cases m<;>simp only[uA,A7]at h<;>try (cases h;done)
  rename_i u;obtain⟨⟨⟨⟨h1,h2⟩,_⟩,_⟩,h3⟩:=h;have h2:=eq_of_beq h2;subst h2;obtain⟨v,vs',d,ds',p,q,rfl,rfl,rfl,⟨kK,h4⟩,h5⟩:=trodAll_cons hd;have hw' :∀b∈d.weights P t++DataW.weightsEach P ts ds',b<=reachBytes:=by simp_all [DataW.weightsEach]
  obtain⟨x,hx,wx⟩:=QC hok n t u h1 _ _ _ _ h4 λb hb=>hw' b (Y6 _ hb);have hg:=c1b h1 (hv 0 t v rfl rfl);obtain⟨y,hy,wy⟩:=a3f hok h3 h5 (λj t v hj hk=>hv (j+1) t v (by simp_all) (by simp_all)) λb hb=>hw' b (ed _ hb);cases ms with
  |nil=>
   cases ts with
   |cons _ _=>grind [uA]|nil=>obtain⟨rfl,rfl,rfl⟩:=trodAll_nil h5;exact⟨x,⟨v,_,rfl,hg,hx,rfl⟩,wx⟩
  |cons m' ms=>exact⟨(x,y),⟨v,_,vs',[],[],rfl,rfl,hg,⟨hx,rfl⟩,hy⟩,wx,wy⟩
theorem TF(hl:laidOutB P=true){W' :World}(hb:Below W.heap.size W W'){sp:Nat->Bool} :∀{ts:List TypeId} {ms:List MG} {vs:d4E} {ds:List (DataW H)} {ps:List MemPlace},uA P n ts ms=true->
  DataW.TrodAll enc P W 0 (λ_=>true) true ts vs ds ps->(∀x∈ps,x.block<W.heap.size)->(∀x∈ps,sp x.block=true)->DataW.TrodAll enc P W' 0 sp true ts vs ds ps
 |[],ms,vs,ds,ps,h,hd,_,_=>by obtain⟨rfl,rfl,rfl⟩:=trodAll_nil hd;rfl
 |_::_,[],_,_,_,h,_,_,_=>by grind [uA]|t::ts,(g,m)::ms,vs,ds,ps,h,hd,hlt,hsp=>by
  cases m<;>simp only[uA,A7]at h<;>try (cases h;done)
  obtain⟨⟨⟨⟨h1,h2⟩,h6⟩,h7⟩,h3⟩:=h;rw[dA]at h7;obtain⟨v,vs',d,ds',p,q,rfl,rfl,rfl,h4,h5⟩:=trodAll_cons hd;exact⟨p,q,WideElems.Trod_stays hl h6 h7 h4 (λx hx=>hb.same (hlt x (Y6 _ hx))) (λx hx=>hsp x (Y6 _ hx)),
   TF hl hb h3 h5 (λx hx=>hlt x (ed _ hx)) (λx hx=>hsp x (ed _ hx)),rfl⟩
end
theorem b5L{W:World}{name:String}{g:Nat}{k:IntKind}{zs:d4D}(hg:P.globalNamed name=some g)(hz:0<zs.length)(h:Lib.TabIs P W name k zs):
  Ph ⟨W.heap,λb _=>b<W.heap.size,nom⟩ g (.int k) zs:=by
 have hc:∀i z,zs[i]? =some z->W.cell? ⟨g,i,none⟩=some (.int k z):=λi z hi=>by have:=World.var?_cell hg h i;simp_all
 have key:∀i z,zs[i]? =some z->g<W.heap.size/\fP W.heap g i 1=some [.int k z]:=λi z hi=>by
  have h2:W.cells? 0 ⟨g,i,none⟩ 1=some [.int k z]:=by simp_all [World.cells?,Addr.add]
  obtain⟨_,s2,s3⟩:=ZK l7 h2<;>simp_all
 refine⟨(key 0 zs[0] (dE hz)).1,?_,λi z hi=>⟨_,?_,rfl⟩⟩
 .unfold Lib.TabIs World.var? at h;simp[hg,kH]at h;split at h
  .rename_i cs T f hb;simp at h;subst h;exact⟨_,T,f,hb,by simp[Ty.size]⟩
  grind
 simp_all [Ty.size]
theorem c0T{h:Array Obj}{all:d4E} :∀{ms:List MG} {ts:List TypeId} {vs:d4E},uA P n ts ms=true->Zh h all ms vs:=by
 intro ms;induction ms with
 |nil=>intro ts vs _;trivial|cons md ms ih=>
  intro ts vs hp;obtain⟨g,md⟩:=md;cases ts with
  |nil=>cases hp|cons t ts=>
   cases md<;>simp[uA,A7]at hp<;>try (cases hp;done)
   cases vs with
   |nil=>trivial|cons v vs=>exact ih hp.2
theorem a4h{H:Type}{enc:TypeId×Value->H}{gl:List (Nat×(t:Ty)×List t.den)}{f:FuncId}{fn:Func}{s:ChangeSpec}{ms:List MG}{F:bF ms->d4G}{tb:TypeId}
  (hlaid:laidOutB P=true) (hF:iZ P gl f ⟨ms,[(false,.dat .bool)],[],F⟩) (law:∀x,a8g ms x->F x=some true) (hpars:uA P 30 fn.params.toList ms=true) (hres:fn.resultTypes=#[tb]) (hbool:P.underlying tb=some .bool)
  (hvars:s.vars=[]) (hsfn:∀ds:List (DataW H),ds.length=ms.length->s.fn H ds= { results:=[.lit (.bool true)],args:=ds })
  {W:World} {base:Nat} {args:Array Value} {ds gs:List (DataW H)} {before:List MemPlace} {apart fresh handsOn again:Bool}
  (hgl:∀g u,fZ gl g=some u->Ph ⟨W.heap,λb _=>b<W.heap.size,nom⟩ g u.1 u.2)
  (hval:∀(j:Nat) t v,fn.params[j]? =some t->args[j]? =some v->Value.okWide P W .any base t v)
  (hW:DataW.Whole enc P fn.params.toList s.vars apart W args.toList ds gs before)
  (hz:(DataW.weightsEach P (fn.params.toList++s.plain.varTypes P) (ds++gs)).all (·<=reachBytes)=true):
  Calls P f args W λe W' =>∃v,e= .returned v/\s.post enc P fn apart fresh handsOn again W args v W' :=by
 have hW' :=hW;obtain⟨p,q,hA,hV,rfl,hfz,hnd⟩:=hW;rw[hvars]at hV;obtain⟨rfl,rfl⟩:=trodVars_none hV;have hlen:ds.length=ms.length:=by
  have:∀{ts:List TypeId} {ms:List MG} {vs:d4E} {ds:List (DataW H)} {ps:List MemPlace},uA P 30 ts ms=true->DataW.TrodAll enc P W 0 (λ_=>true) true ts vs ds ps->ds.length=ms.length:=by
   intro ts;induction ts with
   |nil=>
    grind [trodAll_nil,uA]
   |cons t ts ih=>
    intro ms vs ds ps h hd;obtain⟨v,vs',d,ds',p,q,rfl,rfl,rfl,h4,h5⟩:=trodAll_cons hd;cases ms with
    |nil=>grind [uA]|cons m ms=>
     obtain⟨g,m⟩:=m;cases m<;>simp only[uA,A7]at h<;>try (cases h;done)
     grind
  grind
 have hvt:s.plain.varTypes P=[]:=by grind [ChangeSpec.plain,DataSpec.varTypes]
 rw[hvt]at hz;simp only[G9,kG,decide_eq_true_eq]at hz;obtain⟨x,hx,wx⟩:=a3f (ok:=λb _=>b<W.heap.size) (λb t hb=>hb) hpars hA (λj t v hj hv=>hval j t v (by simp_all) (by simp_all)) hz;have hc:=hF W (λb _=>b<W.heap.size) [] args.toList x true (λb t hb=>hb) bZ (λb hb=>by grind) hgl hx (c0T hpars) (law x wx);simp only[Array.toArray_toList]at hc;refine hc.mono λe W' ⟨v,ok',O',rs,os,B,he,hfr,_,_,_,_,hrv,hos,hrel⟩=>?_;subst he;have hnoos:os=[]:=by
  have:∀{ms:List MG} {vs:d4E} {ts:List TypeId},uA P 30 ts ms=true->vJ W'.heap ms vs os B->os=[]:=by
   intro ms;induction ms with
   |nil=>
    grind [vJ]
   |cons m ms ih=>
    intro vs ts h ho;obtain⟨g,m⟩:=m;cases ts with
    |nil=>grind [uA]|cons t ts=>
     cases m<;>simp only[uA,A7]at h<;>try (cases h;done)
     cases vs<;>grind [vJ]
  grind
 subst hnoos;obtain⟨v1,cs,hvs,hg,⟨hrep,_⟩⟩:=hrel;simp only[G9]at hvs;subst hvs;have hv1:v1= .bool true:=by have h1:cs=[v1]:=hg;have h2:cs=[.bool true]:=hrep;simp_all
 subst hv1;have hv:v= .bool true:=hrv.2;subst hv;have hbel:Below W.heap.size W W' :=⟨hfr.os,hfr.tape,hfr.output,hfr.size,λk hk=>hfr.block k hk x9⟩;simp only[G9]at hW' hfz;have hlt:∀x∈p,x.block<W.heap.size:=λx hx=>by simpa using hW'.lt x hx
 have hres1:∀(b:Nat) (sp:Nat->Bool) (hd:Bool),DataW.TrodAll enc P W' b sp hd fn.resultTypes.toList ((Value.bool true).resultList fn.resultTypes.size) (s.fn H (ds++[])).results []:=λb sp hd=>by rw[G9,hsfn ds hlen,hres];exact trodAll_cons_mk (shut_bool hbool _) trodAll_mk0
 have hargs1:∀sp:Nat->Bool,(∀x∈p,sp x.block=true)->DataW.TrodAll enc P W' 0 sp true fn.params.toList args.toList (s.fn H (ds++[])).args p:=λsp hs=>by rw[G9,hsfn ds hlen];exact TF hlaid hbel hpars hA hlt hs
 have hvars1:∀sp:Nat->Bool,DataW.TrodVars enc P W' sp s.vars (s.fn H (ds++[])).vars []:=λsp=>by rw[G9,hsfn ds hlen,hvars];rfl
 refine⟨_,rfl,ds,[],p,[],p,[],hW',hres1 _ _ _,hargs1 _ (λx hx=>by simp_all),hvars1 _,World.keptBut_mono (λx hx=>⟨hx,.inr (.inl hx)⟩) (hbel.frame (·∈p)),λ_=>⟨ok_one hres rfl (okWide_bool_mk hbool _),_,_,([]++p)++[],⟨[]++p,[],trodAll_append (hargs1 _ (λ_ _=>rfl)) (hres1 _ _ _),hvars1 _,rfl,?_,?_⟩,?_⟩⟩
 .intro b off hp;simp only[P6,G9]at hp;rw[hbel.frozen (hlt _ hp)];exact hfz b off hp
 all_goals grind
end Go.GP
namespace Go.GP
open Go.RowKit
theorem b5Y{P:Program}{w w' :World}(hb:Below w.heap.size w w'){ok:Nat->Ty->Prop}(hlt:∀b t,ok b t->b<w.heap.size){ps:List MG}{vals:d4E}(hps:vJ w'.heap ps vals [] []){t:Ty}{x:t.den}{v:Value}(hr:oq w'.heap ok t x [v]){μ:Prop}(hdr:μ->w.drawn<=w'.drawn):
  ∃v' ok' O' rs os B,(Ending.returned v)= .returned v' /\Frame' μ w w' []/\(∀b t,ok b t->ok' b t)/\(∀b t,ok' b t->b<w'.heap.size/\(ok b t\/w.heap.size<=b\/b∈([]:d4F)))/\
   (O' ++B).Nodup/\(∀b∈O' ++B,(∀t,¬ok' b t)/\b<w'.heap.size/\(w.heap.size<=b\/b∈([]:d4F)))/\
   Wp 1 v' rs/\vJ w'.heap ps vals os B/\oP w'.heap ok' ([(false,.dat t)]++[]) x (rs++os) O' :=
 ⟨v,ok,[],[v],[],[],rfl,⟨hb.os,hb.tape,hb.output,hb.size,λb h _=>hb.block b h,hdr⟩,λb t h=>h,λb t h=>⟨Y9 (hlt b t h) hb.size,.inl h⟩,x9,x9,⟨rfl,rfl⟩,hps,⟨v,[v],rfl,rfl,hr,rfl⟩⟩
end Go.GP
namespace Go.GP
def c2d(Q:Nat->((t:Ty)×List t.den)->Prop):List (Nat×(t:Ty)×List t.den)->Prop
 |[]=>True|(g,u)::r=>Q g u/\c2d Q r
theorem Zi{Q:Nat->((t:Ty)×List t.den)->Prop} :∀{l:List (Nat×(t:Ty)×List t.den)},c2d Q l->∀g u,fZ l g=some u->Q g u
 |[],_,g,u,h=>by grind [fZ]|(k,v)::r,hc,g,u,h=>by
  unfold fZ at h;cases hb:Nat.beq k g
  .simp[hb,cond_false]at h;exact Zi hc.2 g u h
  .simp[hb,cond_true,E9]at h;have:=ik hb;subst this;subst h;exact hc.1
end Go.GP
namespace Go.GP
open Go.RowKit Go.Sort
def b0l(x:Int):d4D->d4D
 |[]=>[x]|y::l=>bif S9 x y then x::y::l else y::b0l x l
def MK:d4D->d4D
 |[]=>[]|x::l=>b0l x (MK l)
def ddp(p:Int):d4D->d4D
 |[]=>[]|y::l=>bif x8 y p then ddp p l else y::ddp y l
def dd:d4D->d4D
 |[]=>[]|x::l=>x::ddp x l
theorem Xn(x:Int):∀l,(b0l x l).Perm (x::l)
 |[]=> .refl _|y::l=>by
  unfold b0l;cases S9 x y
  .exact(List.Perm.cons y (Xn x l)).trans (List.Perm.swap x y l)
  .exact .refl _
theorem FY:∀l,(MK l).Perm l
 |[]=> .refl _|x::l=>(Xn x (MK l)).trans ((FY l).cons x)
theorem Yk(x:Int):∀{l:d4D},l.Pairwise (·<=·)->(b0l x l).Pairwise (·<=·)
 |[],_=>by simp[b0l]|y::l,h=>by
  have h' :=ah.1 h;unfold b0l;cases hxy:S9 x y
  .have hxy' :y<x:=by simp_all [S9]
   refine ah.2 ⟨λz hz=>?_,Yk x h'.2⟩<;>grind [Xn]
  .have hxy' :x<=y:=by simp_all [S9]
   refine ah.2 ⟨λz hz=>?_,h⟩<;>grind
theorem EG:∀l,(MK l).Pairwise (·<=·)
 |[]=>List.Pairwise.nil|x::l=>Yk x (EG l)
theorem Yx(l:d4D):(l.mergeSort λx y=>decide (x<=y))=MK l:=by
 grind [List.Perm.eq_of_pairwise,EG,List.mergeSort_perm,FY,List.pairwise_mergeSort]
theorem ZQ(y:Int):∀(l:d4D) (p:Int),ddp p (l++[y])=ddp p l++(bif x8 y ((p::l).getLast x9)then[]else[y])
 |[],p=>rfl|z::l,p=>by
  have hg:(p::z::l).getLast x9=(z::l).getLast x9:=List.getLast_cons _;simp[cO,ddp];by_cases h:z=p
  .subst h;simp[x8,decide_true,cond_true];exact ZQ y l z
  .have h' :x8 z p=false:=by simp[x8,h]
   rw[h'];rw[ZQ y l z];rfl
theorem WA(l:d4D)(y:Int)(m:Nat)(hm:m<=l.length):Lib.compactUpTo (l++[y]).toArray m=Lib.compactUpTo l.toArray m:=by
 grind [Lib.compactUpTo,Lib.keeps,List.filter_congr,List.map_congr_left]
theorem a3T(x y:Int)(l:d4D):Lib.compact (x::l++[y])=Lib.compact (x::l)++(bif x8 y ((x::l).getLast x9)then[]else[y]):=by
 have hlen:(x::l++[y]).length=(x::l).length+1:=x9;have h1:Lib.compact (x::l++[y])=Lib.compactUpTo (x::l++[y]).toArray (x::l).length++(if Lib.keeps (x::l++[y]).toArray (x::l).length=true then[(x::l++[y]).toArray[(x::l).length]!]else[]):=by
  grind [Lib.compact,Lib.compactUpTo,List.range_succ]
 grind [WA,Lib.keeps,Lib.compact,x8]
theorem a7P{motive:d4D->Prop}(h0:motive [])(h1:∀l y,motive l->motive (l++[y])):∀n (l:d4D),l.length=n->motive l
 |0,l,h=>by simp_all|n+1,l,h=>by
  have hne:l≠[]:=by grind
  rw[←List.dropLast_concat_getLast hne];exact h1 _ _ (a7P h0 h1 n _ (by simp_all))
theorem a8A(l:d4D):Lib.compact l=dd l:=by
 cases l with
 |nil=>rfl|cons x l=>
  refine a7P (motive:=λl=>Lib.compact (x::l)=x::ddp x l) ?_ (λl y ih=>?_) l.length l rfl
  .simp[Lib.compact,Lib.compactUpTo,Lib.keeps,ddp]
  .have:=a3T x y l;simp_all [ZQ]
def Cf(xs:d4D):Option d4D:=bif Nat.blt xs.length 4611686018427387904 then some (MK xs)else none
def vV(xs:d4D):Option d4D:=bif Nat.blt xs.length 4611686018427387904 then some (dd xs)else none
def Ce(s t:d4C):d4G:=match t with
 |[c]=>some (decide (0<=Lib.indexByte s c))|_=>none
def xE(a b:Int):Option (Int×Int):=if 0<=a/\a<18446744073709551616/\0<=b/\b<18446744073709551616 then some (a*b / 18446744073709551616,a*b % 18446744073709551616)else none
variable {w:World}{ok:Nat->Ty->Prop}
theorem UO{m:Mp}{xs:d4D}{blk off len cap sz:Nat}(h:arrOk ⟨w.heap,ok,m⟩ (.int .i64) xs (.arr blk off len cap sz)):Holds (Value.int .i64) w blk off xs.toArray:=by
 obtain⟨_,rfl,rfl,hc,c,T,f,hb,hz,hs,hx⟩:=h;have hz:=hz.elim id (λh=>nomatch h.1);intro j hj;have hj' :=l7;obtain⟨es,he,hr⟩:=hx j xs[j] (dE hj');subst hr;have he' :fP w.heap blk (off+j*1) 1=some [.int .i64 xs[j]]:=he;refine⟨?_,?_⟩
 .have:=zl he' (j:=0) rfl;simp_all
 grind [World.frozen?]
variable {blk:Nat}{off:Nat}{n:Nat}{c:Array Value}{T:TypeId}
theorem b4h{fr:Nat×Nat}(hb:w.heap[blk]? =some (.cells c T fr))(d:Array Int):
  (putRow (Value.int .i64) (Sort.ahead w n) blk off d).heap[blk]? =some (.cells (putCells (Value.int .i64) off d c) T fr):=by
 show(w.heap.modify blk (onCells (putCells (Value.int .i64) off d)))[blk]? =_;rw[Array.getElem?_modify,if_pos rfl,hb];rfl
theorem a9I{blk off n b:Nat}(h:b≠blk)(d:Array Int):(putRow (Value.int .i64) (Sort.ahead w n) blk off d).heap[b]? =w.heap[b]?:=by
 show(w.heap.modify blk (onCells (putCells (Value.int .i64) off d)))[b]? =_
 grind
theorem b1m{h:Array Obj}{m:Mp}{blk off cap:Nat}{d:Array Int}{ys:d4D}(hb:h[blk]? =some (.cells (putCells (Value.int .i64) off d c) T (0,0)))
  (hfit:off+cap<=c.size) (hd:d.size<=cap) (hl:ys.length<=d.size) (hy:∀(i:Nat) (y:Int),ys[i]? =some y->d[i]? =some y):arrOk ⟨h,ok,m⟩ (.int .i64) ys (.arr blk off ys.length cap 1):=by
 refine⟨rfl,rfl,rfl,l7,_,T,_,hb,.inl rfl,by simp[putCells,Ty.size];omega,λi y hi=>⟨[.int .i64 y],?_,rfl⟩⟩<;>grind [putCells,fP,List.drop_eq_getElem_cons]
theorem b2u{μ:Prop}{P:Program}{d:Array Int}{os:Array Obj}(hlt:∀b t,ok b t->b<w.heap.size)(hfree:(∀t,¬ok blk t)/\blk<w.heap.size)
  (hb:w.heap[blk]? =some (.cells c T (0,0))) {w' :World} (hw:w' =Sort.grow (putRow (Value.int .i64) (Sort.ahead w n) blk off d) os):
  w'.heap[blk]? =some (.cells (putCells (Value.int .i64) off d c) T (0,0))/\Frame' μ w w' [blk]/\(∀b t,ok b t->b<w'.heap.size/\(ok b t\/w.heap.size<=b\/b∈[blk]))/\blk<w'.heap.size:=by
 subst hw;have hsz:(putRow (Value.int .i64) (Sort.ahead w n) blk off d).heap.size=w.heap.size:=x9;have hge:w.heap.size<=(Sort.grow (putRow (Value.int .i64) (Sort.ahead w n) blk off d) os).heap.size:=x9;have hold:∀b,b<w.heap.size->(Sort.grow (putRow (Value.int .i64) (Sort.ahead w n) blk off d) os).heap[b]? =(putRow (Value.int .i64) (Sort.ahead w n) blk off d).heap[b]?:=λb hb=>by
  show((putRow (Value.int .i64) (Sort.ahead w n) blk off d).heap++os)[b]? =_
  grind
 refine⟨by rw[hold blk hfree.2];exact b4h hb d,⟨rfl,rfl,rfl,hge,λb h1 h2=>?_,λ_=>Z8 _ _⟩,λb t h=>⟨Y9 (hlt b t h) hge,.inl h⟩,Y9 hfree.2 hge⟩<;>grind [a9I]
variable {P:Program}{f:Nat}
theorem b0x{gl:List (Nat×(t:Ty)×List t.den)}
  (hC:∀(blk off cap:Nat) (zs:d4D) (w:World) (hH:Holds (Value.int .i64) w blk off zs.toArray) (hblk:blk<w.heap.size) (hsz:zs.length<4611686018427387904),
   Calls P f #[.slice (some ⟨blk,off,none⟩) zs.length cap] w λe w' =>e= .returned (.tuple #[])/\∃n os,w' =Sort.grow (putRow (Value.int .i64) (Sort.ahead w n) blk off (zs.mergeSort λx y=>decide (x<=y)).toArray) os)
  (hN:∀(p:Option Addr) (cap:Nat) (w:World),Calls P f #[.slice p 0 cap] w λe w' =>e= .returned (.tuple #[])/\w' =w):
  iZ P gl f ⟨[(false,.ownb (.int .i64))],[],[(false,.own (.int .i64))],λx=>Cf x⟩:=by
 intro w ok O vals x r hlt hnd hO _ hrel hdv hfn;obtain⟨v,cs,rfl,h1,l,v',hcs,hv,ha,rfl⟩:=hrel;have h1:cs=[v]:=h1;rw[h1]at hcs;simp at hcs;subst hcs;simp[Cf]at hfn;cases hx0:Nat.blt x.length 4611686018427387904<;>rw[hx0]at hfn
 .grind
 rw[dA]at hx0;have hx:=hx0;rw[←Yx]at hfn;cases hfn;cases l with
 |st b=>cases ha|mp b=>cases ha.1|nil=>
  have ha:=ha.1;have hv:v= .slice none 0 0:=hv;subst hv;refine(hN none 0 w).mono λe w' ⟨he,hw⟩=>?_;subst he;subst hw;exact⟨_,ok,[],[],[.slice none 0 0],[],rfl,Frame'.refl _ _,λ_ _ h=>h,λb t h=>⟨hlt b t h,.inl h⟩,x9,x9,⟨rfl,rfl⟩,⟨[],rfl,rfl,rfl⟩,
   ⟨_,_,rfl,rfl,zy.2 ⟨.nil,_,rfl,rfl,(by simp_all),rfl⟩⟩⟩
 |arr blk off len cap sz=>
  have hH:=UO ha;obtain⟨_,rfl,rfl,hc,c,T,f,hb,hz,hs,hx'⟩:=ha;have hz:f=(0,0):=hz.elim id (λh=>nomatch h.1);subst hz;have hv:v= .slice (some ⟨blk,off,none⟩) x.length cap:=hv;subst hv;have hfree:=hO blk (by simp[Loc.blks]);refine(hC blk off cap x w hH hfree.2 hx).mono λe w' ⟨he,n,os,hw⟩=>?_;subst he;obtain⟨g1,g2,g3,g4⟩:=b2u (P:=P) hlt hfree hb hw;have hlen:(x.mergeSort λx y=>decide (x<=y)).length=x.length:=List.length_mergeSort ..;have hfit:off+cap<=c.size:=by simp_all [Ty.size]
  have harr:=b1m (ok:=ok) (m:=nom) (cap:=cap) (ys:=x.mergeSort λx y=>decide (x<=y)) g1 hfit (by simp_all) x9 (λi y hi=>by simp_all);rw[hlen]at harr;refine⟨_,ok,[blk],[],[.slice (some ⟨blk,off,none⟩) x.length cap],[],rfl,g2,λ_ _ h=>h,g3,x9,λb hb=>?_,⟨rfl,rfl⟩,⟨[],rfl,rfl,rfl⟩,⟨_,_,rfl,rfl,zy.2 ⟨.arr blk off x.length cap 1,_,rfl,rfl,harr,rfl⟩⟩⟩<;>simp_all [Loc.blks]
theorem a8B(zs:d4D):(Lib.compact zs).length<=zs.length:=by
 grind [Lib.compact,Lib.compactUpTo]
theorem a1t{gl:List (Nat×(t:Ty)×List t.den)}
  (hC:∀(blk off cap:Nat) (zs:d4D) (w:World) (hH:Holds (Value.int .i64) w blk off zs.toArray) (hsz:zs.length<=9223372036854775807) (hcap:zs.length<=cap),
   Calls P f #[.slice (some ⟨blk,off,none⟩) zs.length cap] w λe w' =>e= .returned (.slice (some ⟨blk,off,none⟩) (Lib.compact zs).length cap)/\∃q,w' =putRow (Value.int .i64) (Sort.ahead w q) blk off (Lib.compact zs++List.replicate (zs.length -(Lib.compact zs).length) 0).toArray)
  (hN:∀(a:Option Addr) (cap:Nat) (w:World),Calls P f #[.slice a 0 cap] w λe w' =>e= .returned (.slice a 0 cap)/\w' =w):
  iZ P gl f ⟨[(false,.own (.int .i64))],[(false,.own (.int .i64))],[],λx=>vV x⟩:=by
 intro w ok O vals x r hlt hnd hO _ hrel hdv hfn;obtain⟨v,cs,rfl,h1,hrm⟩:=hrel;obtain⟨l,v',hcs,hv,ha,rfl⟩:=zy.1 hrm;have h1:=h1;rw[h1]at hcs;simp at hcs;subst hcs;simp[vV]at hfn;cases hx0:Nat.blt x.length 4611686018427387904<;>rw[hx0]at hfn
 .grind
 rw[dA]at hx0;have hx:=hx0;rw[←a8A]at hfn;cases hfn;cases l with
 |st b=>cases ha|mp b=>cases ha.1|nil=>
  have ha:x=[]:=ha.1;subst ha;have hv:v= .slice none 0 0:=hv;subst hv;refine(hN none 0 w).mono λe w' ⟨he,hw⟩=>?_;subst he;subst hw;exact⟨_,ok,[],[.slice none 0 0],[],[],rfl,Frame'.refl _ _,λ_ _ h=>h,λb t h=>⟨hlt b t h,.inl h⟩,x9,x9,⟨rfl,rfl⟩,⟨rfl,rfl⟩,
   ⟨_,_,rfl,rfl,zy.2 ⟨.nil,_,rfl,rfl,⟨rfl,rfl⟩,rfl⟩⟩⟩
 |arr blk off len cap sz=>
  have hH:=UO ha;obtain⟨_,rfl,rfl,hc,c,T,f,hb,hz,hs,hx'⟩:=ha;have hz:f=(0,0):=hz.elim id (λh=>nomatch h.1);subst hz;have hv:v= .slice (some ⟨blk,off,none⟩) x.length cap:=hv;subst hv;have hfree:=hO blk (by simp[Loc.blks]);refine(hC blk off cap x w hH l7 hc).mono λe w' ⟨he,n,hw⟩=>?_;subst he;have hle:=a8B x;obtain⟨g1,g2,g3,g4⟩:=b2u (P:=P) (n:=n) (off:=off) (d:=(Lib.compact x++List.replicate (x.length -(Lib.compact x).length) 0).toArray) (os:=#[]) (w' :=w') hlt hfree hb (by simp_all);have hfit:off+cap<=c.size:=by simp_all [Ty.size]
  have harr:=b1m (ok:=ok) (m:=nom) (cap:=cap) (ys:=Lib.compact x) g1 hfit (by simp_all) x9 (λi y hi=>by
   grind)
  refine⟨_,ok,[blk],[.slice (some ⟨blk,off,none⟩) (Lib.compact x).length cap],[],[],rfl,g2,λ_ _ h=>h,g3,x9,λb hb=>?_,⟨rfl,rfl⟩,⟨rfl,rfl⟩,⟨_,_,rfl,rfl,zy.2 ⟨.arr blk off (Lib.compact x).length cap 1,_,rfl,rfl,harr,rfl⟩⟩⟩<;>simp_all [Loc.blks]
theorem Yq{gl:List (Nat×(t:Ty)×List t.den)}
  (hC:∀(s:ByteArray) (c:UInt8) (w:World),Calls P f #[.string s,.string ⟨#[c]⟩] w λe w' =>e= .returned (.bool (decide (0<=Lib.indexByte s.data.toList c)))/\w' =w):
  iZ P gl f ⟨[(false,.dat .str),(false,.dat .str)],[(false,.dat .bool)],[],λx=>Ce x.1 x.2⟩:=by
 intro w ok O vals x r hlt _ _ _ hrel hdv hfn;obtain⟨v,cs,vs',O1,O2,rfl,rfl,h1,⟨h2,rfl⟩,v2,cs2,rfl,h3,h4,rfl⟩:=hrel;subst h1;subst h3;obtain rfl:=(bf h2).1;obtain rfl:=(bf h4).1;simp[Ce]at hfn;split at hfn
 .rename_i c hx;cases hfn;rw[hx];refine(hC ⟨x.1.toArray⟩ c w).mono λe w' ⟨he,hw⟩=>?_;subst he;subst hw;exact b5Y (P:=P) (t:=.bool) (ps:=[(false,.dat .str),(false,.dat .str)]) (vals:=[_,_]) ⟨rfl,rfl,rfl,D5 _,λ_ _=>rfl⟩ hlt ⟨rfl,rfl⟩ rfl (λ_=>D5 _)
 grind
theorem a6O{gl:List (Nat×(t:Ty)×List t.den)}
  (hC:∀(x y:Nat) (hx:x<18446744073709551616) (hy:y<18446744073709551616) (w:World),
   Calls P f #[.int .u64 x,.int .u64 y] w λe w' =>e= .returned (.tuple #[.int .u64 ((x*y / 18446744073709551616:Nat):Int),.int .u64 ((x*y % 18446744073709551616:Nat):Int)])/\w' =w):
  iZ P gl f ⟨[(false,.dat (.int .u64)),(false,.dat (.int .u64))],[(false,.dat (.int .u64)),(false,.dat (.int .u64))],[],λx=>xE x.1 x.2⟩:=by
 intro w ok O vals x r hlt _ _ _ hrel hdv hfn;obtain⟨v,cs,vs',O1,O2,rfl,rfl,h1,⟨h2,rfl⟩,v2,cs2,rfl,h3,h4,rfl⟩:=hrel;subst h1;subst h3;obtain rfl:=(bf h2).1;obtain rfl:=(bf h4).1;simp only[xE]at hfn;split at hfn
 .rename_i hx;cases hfn;obtain⟨a,b⟩:=x;obtain⟨p,rfl⟩:=nN hx.1;obtain⟨q,rfl⟩:=nN hx.2.2.1;refine(hC p q l7 l7 w).mono λe w' ⟨he,hw⟩=>?_;subst he;subst hw;refine⟨_,ok,[],[_,_],[],[],rfl,⟨rfl,rfl,rfl,D5 _,λ_ _ _=>rfl,λ_=>D5 _⟩,λ_ _ h=>h,λb t h=>⟨hlt b t h,.inl h⟩,x9,x9,⟨rfl,rfl⟩,⟨rfl,rfl⟩,?_⟩;exact⟨_,_,_,[],[],rfl,rfl,rfl,⟨rfl,rfl⟩,_,_,rfl,rfl,rfl,rfl⟩
 grind
def jR{α:Type}(xs:List α):Option (List α):=fE [] xs
theorem PS{E:Env}{f:FuncId}{fn:Func}{c:Code}{t:Ty}(hf:P.funcs[f]? =some fn)(hb:fn.body=some c)(hnt:fn.ntmps=E.nt)(hres:fn.results.toList=[.tmp 2])(hE:EnvOk P E)
  (h0:∀b,b3l E [(false,.cell (some (some b)))] ⟨[(.tmp 2,(false,.own t))],[]⟩ c .leaf ()=some [])
  (h2:∀xs,b3l E [(false,.dat (.sl t))] ⟨[(.tmp 2,(false,.own t))],[]⟩ c .leaf xs=l9 (x8 (o9 xs) 0) none (o5 (fE [] xs) λz=>some z))
  (ht:t.isEnt=false:=by rfl):
  iZ P E.gl f ⟨[(false,.dat (.sl t))],[(false,.own t)],[],λxs=>jR xs⟩:=by
 intro w ok O vals x r hlt hnd hO hgl hrel hdv hfn;obtain⟨v,cs,rfl,h1,hr,rfl⟩:=hrel;subst h1;cases x with
 |nil=>
  obtain⟨a,cap,e,_,_⟩:=(DJ ht).1 hr;have e:=(bf e).1;have hr:r=[]:=by
   grind [jR,fE]
  subst hr;exact TN (ps:=[(false,.cell (some (some a.isNone)))]) (rt:=⟨[(.tmp 2,(false,.own t))],[]⟩) (F:=λ_=>some []) hf hb hnt hres hE (λx r h=>by cases h;exact h0 a.isNone) w ok [] [v] () [] hlt hnd hO hgl
   ⟨v,[v],rfl,rfl,v,rfl,by subst e;rfl,(λh=>nomatch h),(λb h=>by simp_all),rfl⟩ trivial rfl
 |cons z zs=>
  exact TN (rt:=⟨[(.tmp 2,(false,.own t))],[]⟩) hf hb hnt hres hE (λx r h=>(h2 x).trans h) w ok [] [v] (z::zs) r hlt hnd hO hgl
   ⟨v,[v],rfl,rfl,hr,rfl⟩ trivial (by
    have h3:x8 (o9 (z::zs)) 0=false:=by grind [x8,o9]
    have h4:fE [] (z::zs)=some r:=hfn
    grind [l9,o5,fE])
theorem a6M{t f e:Nat}{n:String}{inf:TypeInfo}{m:Method}(ht:P.info? t=some inf)(hm:inf.methods.find? (·.name==n)=some m)(hp:m.path.toList=[])
  (hf:m.func=some (f,false)) (hu:P.underlying t=some (.pointer e)):Jj P t n f (some e):=by
 intro v w ad h;subst h;have h1:∀d,(method (d+1) t (.pointer (some ad)) n).run P w=((loadVar e ad).run P w).andThen λu w' => .ok (f,u) w' :=by
  intro d;unfold method;have hti:(typeInfo t).run P w= .ok inf w:=by simp[typeInfo,ht]
  rw[H5,hti];simp only[Result.andThen,hm,hp,hf];rw[H5];simp only[follow,bJ,Result.andThen];have hr:∀wr,(receiverAt t (.val (.pointer (some ad))) false wr).run P w=(loadVar e ad).run P w:=by
   intro wr;unfold receiverAt;rw[H5,run_underlying hu];have hw:∀s,Builtin.ssaWrapNilChk_ #[t] t #[.pointer (some ad),strVal "",strVal s]=pure (.pointer (some ad)):=λs=>rfl
   grind [Result.andThen,Place.get,asAddr]
  rw[H5,hr];rfl
 exact h1 _
def b1O(P:Program)(t:Nat)(n:String)(f e:Nat):Bool:=match P.info? t with
 |some inf=>match inf.methods.find? (·.name==n)with
  |some m=>match m.path.toList,m.func,P.underlying t with
   |[],some (f',false),some (.pointer e')=>Nat.beq f' f&&Nat.beq e' e|_,_,_=>false
  |none=>false
 |none=>false
theorem Ua{t f e:Nat}{n:String}(h:b1O P t n f e=true):Jj P t n f (some e):=by
 unfold b1O at h;split at h
 .rename_i inf hi;split at h
  .rename_i m hm;split at h
   .rename_i h1 h2 h3;simp only[A7]at h;have e1:=ik h.1;have e2:=ik h.2;subst e1;subst e2;exact a6M hi hm h1 h2 h3
   grind
  grind
 grind
end Go.GP
namespace Go.GP
noncomputable def Ws {α R:Type} (dom:α->Prop) (F:α->Option R):Option R:=
 open Classical in if h:∃r,(∃a,dom a)/\∀a,dom a->F a=some r then some (Classical.choose h)else none
theorem a1Y{α R:Type}{dom:α->Prop}{F:α->Option R}{r:R}(h:Ws dom F=some r):(∃a,dom a)/\∀a,dom a->F a=some r:=by unfold Ws at h;split at h<;>grind
theorem a3J{α R:Type}{dom:α->Prop}{F:α->Option R}{r:R}(h1:∃a,dom a)(h2:∀a,dom a->F a=some r):Ws dom F=some r:=by
 have hh:∃r,(∃a,dom a)/\∀a,dom a->F a=some r:=⟨r,h1,h2⟩;have e:Ws dom F=some (Classical.choose hh):=by grind [Ws]
 grind
structure NSpec where
 α:Type
 ps:List MG
 rs:List MG
 outs:List MG
 dom:bF ps->α->Prop
 fn:α->bF ps->Option (bF (rs++outs))
def b4Q(μ:Prop)(w:World)(ok:Nat->Ty->Prop)(O:d4F)(vals:d4E)(ps rs outs:List MG)(r:bF (rs++outs))(e:Ending)(w' :World):Prop:=
 ∃v ok' O' rs' os B,e= .returned v/\Frame' μ w w' O/\(∀b t,ok b t->ok' b t)/\(∀b t,ok' b t->b<w'.heap.size/\(ok b t\/w.heap.size<=b\/b∈O))/\
   (O' ++B).Nodup/\(∀b∈O' ++B,(∀t,¬ok' b t)/\b<w'.heap.size/\(w.heap.size<=b\/b∈O))/\
   Wp rs.length v rs' /\vJ w'.heap ps vals os B/\oP w'.heap ok' (rs++outs) r (rs' ++os) O'
def Wj(P:Program)(gl:List (Nat×(t:Ty)×List t.den))(f:FuncId)(s:NSpec):Prop:=
 ∀(w:World) (ok:Nat->Ty->Prop) (O:d4F) (vals:d4E) (x:bF s.ps),
  (∀b t,ok b t->b<w.heap.size)->O.Nodup->(∀b∈O,(∀t,¬ok b t)/\b<w.heap.size)->(∀g u,fZ gl g=some u->Ph ⟨w.heap,ok,nom⟩ g u.1 u.2)->
  oP w.heap ok s.ps x vals O->Zh w.heap vals s.ps vals->(∃a,s.dom x a)->(∀a,s.dom x a->∃r,s.fn a x=some r)->
  Calls P f vals.toArray w λe w' =>∃a r,s.dom x a/\s.fn a x=some r/\b4Q (gl=[]) w ok O vals s.ps s.rs s.outs r e w'
def c4Z(sp:NSpec)(vs:List V):Cmd (List V×bF sp.ps):=dvC vs sp.ps vs (OL (Gg ⟨sp.ps,sp.rs,sp.outs,λ_=>none⟩) sp.ps vs λx=> .ret (vs,x))
def d3J(E:Env)(q:Nat)(d:Option Tmp)(sp:NSpec)(vs:List V)(r:bF (sp.rs++sp.outs)):Cmd Unit:=
 Il (sp.rs++sp.outs) r (U2 q d) λws n' =>bif Nat.ble n' (U2 q d+64)then(match Gq sp.rs.length ws with
  |some (a,o)=>bif Ep a then .fail else aX sp.ps vs o (gW E d (a7x a))
  |none=> .fail)else .fail
variable {R:Type}
def YI(E:Env)(q:Nat)(ops:Array Oper)(s:St)(K:St->Trs->Option R):Option R:=
 Ii E q ops.toList (λ_ _ _ _=>none) (ops.toList.take (ops.toList.length -1)) s [] K
noncomputable def c5a {R:Type} (E:Env) (q:Nat) (ops:Array Oper) (f:Nat) (sp:NSpec) (s:St) (w:Rgs) (K:St->Rgs->Option R):Option R:=
 YI E q ops s λs1 t=>match ops.toList[ops.toList.length -1]? with
  |some o=>(match o.guard,o.op with
   |none,.call ⟨.value (.func g),args,_⟩=>bif Nat.beq g f then
     (OV args.toList λvs=>c4Z sp vs).runK s1 ([],[]) λp s2 tr=>Ws (sp.dom p.2) λa=>(Cmd.opt (sp.fn a p.2) λr=>d3J E q o.dst sp p.1 r).runK s2 tr λ_ s3 tr3=>K s3 (zf (tr3::t) w)
    else none
   |_,_=>none)
  |none=>none
variable {r:R}
section
variable {X:Fx} {q:Nat} {ops:Array Oper} {m0:Mp} {ok0:Nat->Ty->Prop} {Q:Exit->Act->World->Prop}
def a3D(j0 k:Nat)(E:Env)(q:Nat)(all:List Oper)(S:Nat->Sm)(T:Nat->Tr):Prop:=
 ∀i o,j0<=i->i<k->all[i]? =some o->(qU E q all o).eval (S i) ([],[])=some ((),S (i+1),T i)
theorem a1m(H:FxOk X){S:Nat->Sm}{T:Nat->Tr}{j0 k:Nat}(hk:k<=ops.size)(hc:a3D j0 k X.E q ops.toList S T)
  (hQ:∀m' ok' a' w',Rel X (CB*q) (CB*q+CB) (S k) m' ok' a' w' ->(∀k l,m0 k=some l->m' k=some l)->(∀b t,ok0 b t->ok' b t)->wpOps X.P ops Q (List.range' k (ops.size -k)) a' w'):
  ∀(n j:Nat) {m:Mp} {ok:Nat->Ty->Prop} {a:Act} {w:World},j0<=j->j+n=k->Rel X (CB*q) (CB*q+CB) (S j) m ok a w->(∀k l,m0 k=some l->m k=some l)->(∀b t,ok0 b t->ok b t)->wpOps X.P ops Q (List.range' j (ops.size -j)) a w
 |0,j,m,ok,a,w,hj0,hjk,R,hm,hok=>by
  grind
 |n+1,j,m,ok,a,w,hj0,hjk,R,hm,hok=>by rw[show ops.size -j=(ops.size -j -1)+1 by omega,iR];have hj:ops[j]? =some (ops[j]'l7):=I5 _;refine Jq H hj (hc j _ hj0 l7 x9) R λm' ok' a' w' R' k1 k2=>?_;exact a1m H hk hc hQ n (j+1) l7 l7 R' (λk l h=>k1 k l (hm k l h)) (λb t h=>k2 b t (hok b t h))
theorem Ti(H:FxOk X){s:St}{K:St->Trs->Option R}(h:YI X.E q ops s K=some r):
  ∃s1 t,K s1 t=some r/\(∀k,(∀x∈t,k∉x.2)->Y1 s1 k=Y1 s k)/\
   ∀{m:Mp} {ok:Nat->Ty->Prop} {a:Act} {w:World} {id:Nat} {Q:Exit->Act->World->Prop},Rel X (CB*q) (CB*q+CB) (Y1 s) m ok a w->
    (∀m' ok' a' w',Rel X (CB*q) (CB*q+CB) (Y1 s1) m' ok' a' w' ->(∀k l,m k=some l->m' k=some l)->(∀b t,ok b t->ok' b t)->
     wpOps X.P ops Q (List.range' (ops.size -1) (ops.size -(ops.size -1))) a' w')->(Code.region id ops false).wp X.P Q a w:=by
 rcases Hq _ h with⟨s',S,T,h0,h1,hc,hk⟩|⟨_,_,_,_,_,_,_,_,_,_,_,_,_,hk⟩
 case inr=>grind
 have hl:(ops.toList.take (ops.toList.length -1)).length=ops.size -1:=x9;have hc' :a3D 0 (ops.size -1) X.E q ops.toList S T:=λi o _ hi ho=>hc i o (by grind);refine⟨s',_,hk,λk hk=>?_,λ{m ok a w id Q} R hQ=>wp_region ?_⟩
 .have:∀n,n<=ops.size -1->S n k=S 0 k:=by
   intro n;induction n with
   |zero=>simp|succ n ih=>intro hn;rw[uS (hc' n (ops[n]'l7) (lU _) l7 x9) k (hk (T n) (by grind)),ih l7]
  rw[←h1];simp_all
 .rw[lX];rw[←h0]at R;have:=a1m H (Nat.sub_le _ _) hc' (Q:=Q) (by grind) (ops.size -1) 0 (D5 _) l7 R (λ_ _ h=>h) (λ_ _ h=>h);omega
theorem Ji{i:Nat}{o:Oper}{K:Act->World->Prop}{a:Act}{w:World}(hi:ops[i]? =some o)(hg:o.guard=none)(h:o.wp X.P a w K Q):wpOp X.P ops Q i K a w:=by simp_all [wpOp,Region.wanted]
theorem a9M(H:FxOk X){f:Nat}{sp:NSpec}(hN:Wj X.P X.E.gl f sp)(hfn:∃fn,X.P.funcs[f]? =some fn/\fn.body.isSome=true/\(fn.name== "runtime.NumGoroutine")=false)
  {R:Type} {s:St} {wr:Rgs} {K:St->Rgs->Option R} {r:R} (h:c5a X.E q ops f sp s wr K=some r) {m:Mp} {ok:Nat->Ty->Prop} {a:Act} {w:World} {id:Nat} {Q:Exit->Act->World->Prop}
  (Rl:Rel X (CB*q) (CB*q+CB) (Y1 s) m ok a w)
  (hQ:∀s' t m' ok' a' w',K s' (zf t wr)=some r->(∀k,(∀x∈t,k∉x.2)->Y1 s' k=Y1 s k)->Rel X (CB*q) (CB*q+CB) (Y1 s') m' ok' a' w' ->(∀k l,m k=some l->m' k=some l)->(∀b t,ok b t->ok' b t)->Q .normal a' w'):
  (Code.region id ops false).wp X.P Q a w:=by
 unfold c5a at h;obtain⟨s1,t,h1,hfr1,hrun1⟩:=Ti H h;clear h;split at h1
 case h_2=>grind
 rename_i o ho;rw[O0,J7]at ho;have hlt:=(I9.1 ho).1;split at h1
 case h_2=>grind
 rename_i g args ats hg hop;cases hgf:Nat.beq g f
 .simp_all
 have:=ik hgf;subst this;simp only[hgf,cond_true]at h1;obtain⟨p,s2,tr,e2,h2⟩:=jT h1;obtain⟨hex,hall⟩:=a1Y h2;refine hrun1 Rl λm1 ok1 a1 w1 R1 km1 kok1=>?_;rw[show ops.size -(ops.size -1)=1 by omega];show wpOps X.P ops Q [ops.size -1] a1 w1;rw[wpOps_cons];refine Ji ho hg ?_;have e:args.map a1.eval=(args.toList.map a1.eval).toArray:=by grind
 obtain⟨fn,hf,hb,hnm⟩:=hfn;have hrun:(execOp a1.eval o).run X.P w1= .ok (.enter g (args.toList.map a1.eval).toArray) w1:=by simp_all [IM,execOp,resolve,Deferred.ofValue,Act.eval,invoke]
 have key:=pY (Q:=λ(p:List V×bF sp.ps) S2=>∃ok2 O okc,jk ⟨w1.heap,ok1,m1⟩ p.1 (args.toList.map a1.eval)/\Rel X (CB*q) (CB*q+CB) S2 m1 ok2 a1 w1/\Tk X S2 m1 ok2 w1 O/\
   (∀b t,ok1 b t->ok2 b t)/\okL (Gg ⟨sp.ps,sp.rs,sp.outs,λ_=>none⟩) S2 m1 ok2=okc/\
   ((∃a,sp.dom p.2 a)->(∀a,sp.dom p.2 a->∃r,sp.fn a p.2=some r)->Calls X.P g (args.toList.map a1.eval).toArray w1 λe w' =>∃a r,sp.dom p.2 a/\sp.fn a p.2=some r/\b4Q (X.E.gl=[]) w1 okc O (args.toList.map a1.eval) sp.ps sp.rs sp.outs r e w')) (by
  refine mF R1 _ λvs hvs=>?_;unfold c4Z;refine d_ R1 hvs sp.ps hvs λhdv=>?_;refine FT (ln:=Gg ⟨sp.ps,sp.rs,sp.outs,λ_=>none⟩) (T:=[]) sp.ps R1 Tk.nil hvs λS2 ok2 x O R2 T2 k2 s2 hrel=>?_;simp only[P6]at T2;refine⟨ok2,O,_,hvs,R2,T2,k2,rfl,λhx1 hx2=>?_⟩;generalize hokc:okL (Gg ⟨sp.ps,sp.rs,sp.outs,λ_=>none⟩) S2 m1 ok2=okc at hrel ⊢;have c1:∀b t,ok2 b t->okc b t:=λb t h=>by rw[←hokc];exact .inl h
  have hlt:∀b t,okc b t->b<w1.heap.size:=λb t h=>by
   rw[←hokc]at h;rcases h with h|⟨_,n,h,_⟩
   .exact R2.okLt b t h
   .exact(R2.sep n b h).2.1
  have hfree:∀b∈O,(∀t,¬okc b t)/\b<w1.heap.size:=λb hb=>by obtain⟨f1,f2,f3,f4⟩:=T2.free b hb;refine⟨λt h=>?_,f2⟩;rw[←hokc]at h;rcases h with h|⟨_,n,h,_⟩<;>simp_all
  exact hN w1 okc O _ x hlt T2.nodup hfree (λg u hg=>by obtain⟨g1,g3,g2⟩:=R2.gl g u hg;refine⟨c1 _ _ g1,g3,λi y hi=>?_⟩<;>grind [gU]) hrel hdv hx1 hx2) e2
 obtain⟨ok2,O,okc,hvs,R2,T2,k2,hokc,hC⟩:=key;have hC:=hC hex λb hb=>by have:=hall b hb;cases hfb:sp.fn b p.2<;>simp_all [Cmd.runK,o5]
 unfold Oper.wp;rw[hrun,Oper.upon_enter];refine Calls.mono hC λe' w' hp=>?_;obtain⟨b,r',hb,hr',hp⟩:=hp;have hk:=hall b hb;rw[hr']at hk;simp only[Cmd.runK,o5]at hk;obtain⟨u,s3,tr3,e3,hk⟩:=jT hk;obtain⟨v,m',okf,he,R',km,kok⟩:=pY (b1s H (o:=o) (s:=⟨sp.ps,sp.rs,sp.outs,λ_=>none⟩) hvs R2 T2 k2 hokc hp) e3;subst he;refine hQ s3 (tr3::t) m' okf _ w' hk (λk hkx=>?_) R' (λk l h=>km _ _ (km1 _ _ h)) (λb t h=>kok b t (kok1 b t h));have ew:(((OV args.toList λvs=>c4Z sp vs).bind λp=>Cmd.opt (sp.fn b p.2) λr=>d3J X.E q o.dst sp p.1 r)).eval (Y1 s1) ([],[])=some (u,Y1 s3,tr3):=by simp_all [BA,Cmd.eval]
 rw[uS ew k (hkx tr3 x9),hfr1 k λx hx=>hkx x (by grind)]
end
end Go.GP
namespace Go.GP
abbrev Fx.on(X:Fx)(w:World)(O:d4F)(ok:Nat->Ty->Prop)(tm:Array Value):Fx:={ X with w0:=w,O:=O,ok0:=ok,tm0:=tm }
structure Sub (X Y:Fx):Prop where
 frame:Frame' (X.E.gl=[]) X.w0 Y.w0 X.O
 ok:∀b t,X.ok0 b t->Y.ok0 b t
 ok' :∀b t,Y.ok0 b t->X.ok0 b t\/X.w0.heap.size<=b\/b∈X.O
 O:∀b∈Y.O,X.w0.heap.size<=b\/b∈X.O
 kp:∀n∈X.E.kp,Y.tm0.getD n Go.undef=X.tm0.getD n Go.undef
variable {tm:Array Value}{w0:World}{O:d4F}{ok0:Nat->Ty->Prop}{r:Nat}
section
variable {X:Fx} {cl ch:Nat} {S:Sm} {m:Mp} {ok:Nat->Ty->Prop} {a:Act} {w:World}
theorem Rel.frame_up(Sb:Sub X (X.on w0 O ok0 tm))(f:Frame' (X.E.gl=[]) w0 w O):Frame' (X.E.gl=[]) X.w0 w X.O:=
 ⟨f.os.trans Sb.frame.os,f.tape.trans Sb.frame.tape,f.output.trans Sb.frame.output,ay Sb.frame.size f.size,λb hb hO=>by rw[f.block b (Y9 hb Sb.frame.size) λh=>(Sb.O b h).elim (λh=>by omega) hO];exact Sb.frame.block b hb hO,λh=>ay (Sb.frame.drawn h) (f.drawn h)⟩
theorem Rel.up(Sb:Sub X (X.on w0 O ok0 tm))(R:Rel (X.on w0 O ok0 tm) cl ch S m ok a w):Rel X cl ch S m ok a w:=by refine { size:=R.size,nodef:=R.nodef,dfs:=R.dfs,slot:=R.slot,box:=R.box,inj:=R.inj,nd:=R.nd,okLt:=R.okLt,fresh:=R.fresh,strict:=R.strict,gl:=R.gl,sep:=λn b h=>?_,okIn:=λb t h=>R.okIn b t (Sb.ok b t h),okOut:=λb t h=>(R.okOut b t h).elim (Sb.ok' b t) λh=> .inr (h.elim (λh=> .inl (ay Sb.frame.size h)) (Sb.O b)),frame:=Rel.frame_up Sb R.frame,kept:=λn hn=>(R.kept n hn).trans (Sb.kp n hn) };obtain⟨h1,h2,h3⟩:=R.sep n b h;exact⟨h1,h2,h3.elim (λh=> .inl (ay Sb.frame.size h)) (Sb.O b)⟩
theorem Tk.up{L:d4F}(Sb:Sub X (X.on w0 O ok0 tm))(T:Tk (X.on w0 O ok0 tm) S m ok w L):Tk X S m ok w L:=
 ⟨T.nodup,λb hb=>by obtain⟨h1,h2,h3,h4⟩:=T.free b hb;exact⟨h1,h2,h3.elim (λh=> .inl (ay Sb.frame.size h)) (Sb.O b),h4⟩⟩
noncomputable def yM (S:Sm) (m:Mp) (w:World):d4F:=(List.range w.heap.size).filter λb=> @decide (∃n,b∈V5 m n (S (Z4+n))) (Classical.propDecidable _)
theorem Gi(R:Rel X cl ch S m ok a w){b:Nat} :b∈yM S m w↔∃n,b∈V5 m n (S (Z4+n)):=by
 unfold yM;rw[Y0];constructor
 .simp
 .rintro⟨n,h⟩;exact⟨Y7.2 (R.sep n b h).2.1,@decide_eq_true _ (Classical.propDecidable _) ⟨n,h⟩⟩
theorem Rel.down(R:Rel X cl ch S m ok a w){a' :Act}{w' :World}(hos:w'.os=w.os)(htp:w'.tape=w.tape)(hout:w'.output=w.output)(hsz:w'.heap.size=w.heap.size)
  (hh:∀b,b≠r->w'.heap[b]? =w.heap[b]?) (hr1:∀n,r∉V5 m n (S (Z4+n))) (hr2:∀t,¬ok r t) (hsize:a'.tmps.size=a.tmps.size) (hdf:a'.defers=a.defers) {S' :Sm} (hbox:∀n,S' (Z4+n)=S (Z4+n))
  (hslot:∀n,n<Z4->nU ⟨w'.heap,ok,m⟩ (S' n) (a'.tmps.getD n Go.undef)):Rel (X.on w' (yM S m w) ok a'.tmps) cl ch S' m ok a' w' :=by
 have hle:Cx.le ⟨w.heap,ok,m⟩ ⟨w'.heap,ok,m⟩:=⟨λ_ _ h=>h,λb t hb=>hh b λe=>hr2 t (e▸hb),λ_ _ h=>h⟩;refine { size:=hsize.trans R.size,nodef:=(by rw[hdf];exact R.nodef),dfs:=(by rw[hdf];exact R.dfs),slot:=hslot,box:=λn=>(by rw[hbox];exact VB hle rfl (λb hb=>hh b λe=>hr1 n (e▸hb)) (R.box n)),inj:=λn n' b=>(by rw[hbox,hbox];exact R.inj n n' b),nd:=λn=>(by rw[hbox];exact R.nd n),sep:=λn b h=>(by rw[hbox]at h;obtain⟨h1,h2,h3⟩:=R.sep n b h<;>grind [Gi]),okLt:=λb t h=>(by rw[hsz];exact R.okLt b t h),okIn:=λ_ _ h=>h,okOut:=λ_ _ h=> .inl h,frame:=Frame'.refl _ _,fresh:=λn h1 h2=>R.fresh n h1 (by simp_all),strict:=R.strict,gl:=λg u hg=>Ph.le hle (R.gl g u hg),kept:=λ_ _=>rfl }
theorem Rel.sub(R:Rel X cl ch S m ok a w){w' :World}(hos:w'.os=w.os)(htp:w'.tape=w.tape)(hout:w'.output=w.output)(hsz:w'.heap.size=w.heap.size)
  (hh:∀b,b≠r->w'.heap[b]? =w.heap[b]?) (hdr:w.drawn<=w'.drawn) (hr:X.w0.heap.size<=r\/r∈X.O) (hkp:∀n∈X.E.kp,tm.getD n Go.undef=a.tmps.getD n Go.undef):Sub X (X.on w' (yM S m w) ok tm):=by
 refine { frame:=⟨hos.trans R.frame.os,htp.trans R.frame.tape,hout.trans R.frame.output,by rw[hsz];exact R.frame.size,λb hb hO=>?_,λh=>ay (R.frame.drawn h) hdr⟩,ok:=R.okIn,ok' :=R.okOut,O:=λb hb=>?_,kp:=λn hn=>(hkp n hn).trans (R.kept n hn) }
 .rw[hh b λe=>by grind];exact R.frame.block b hb hO
 .obtain⟨n,h⟩:=(Gi R).1 hb;exact(R.sep n b h).2.2
end
theorem Sub.trans{X:Fx}{w0 w1:World}{O O1:d4F}{ok0 ok1:Nat->Ty->Prop}{tm tm1:Array Value}(h:Sub X (X.on w0 O ok0 tm))(k:Sub (X.on w0 O ok0 tm) (X.on w1 O1 ok1 tm1)):Sub X (X.on w1 O1 ok1 tm1):=
 ⟨Rel.frame_up h k.frame,λb t x=>k.ok b t (h.ok b t x),λb t x=>(k.ok' b t x).elim (h.ok' b t) λx=> .inr (x.elim (λx=> .inl (ay h.frame.size x)) (h.O b)),
  λb x=>(k.O b x).elim (λx=> .inl (ay h.frame.size x)) (h.O b),λn hn=>(k.kp n hn).trans (h.kp n hn)⟩
def Ag{α σ:Type}(f:α->σ->Option σ):List α->σ->Option σ
 |[],s=>some s
 |e::r,s=>o5 (f e s) λs' =>Ag f r s'
theorem IV{α σ:Type}{f:α->σ->Option σ} :∀{l k:List α} {s:σ},Ag f (l++k) s=o5 (Ag f l s) (Ag f k)
 |[],k,s=>rfl|e::r,k,s=>by
  show o5 (f e s) (λs' =>Ag f (r++k) s')=o5 (o5 (f e s) λs' =>Ag f r s') (Ag f k);cases f e s with
  |none=>rfl|some s' =>exact IV
def a2O(k:Nat):Rgs->Bool
 |[]=>true|(a,b)::r=>bif Nat.ble a k&&Nat.blt k b then false else a2O k r
theorem Uc{k:Nat} :∀{rs:Rgs},a2O k rs=true->¬Wr rs k
 |[],_=>a3H|(a,b)::r,h=>by
  unfold a2O at h;cases hb:(Nat.ble a k&&Nat.blt k b)<;>rw[hb]at h
  .rw[Iu,not_or];refine⟨λ⟨h1,h2⟩=>?_,Uc h⟩;have:(Nat.ble a k&&Nat.blt k b)=true:=by rw[A7];exact⟨pK h1,by rw[dA];exact h2⟩
   rw[this]at hb;cases hb
  .cases h
theorem a4f{lo:Nat} :∀{rs:Rgs},A_ lo (lo+1) rs=true->Wr rs lo
 |[],h=>by cases h|(a,b)::r,h=>by
  unfold A_ at h;cases hb:(Nat.ble a lo&&Nat.ble (lo+1) b)<;>rw[hb]at h
  .exact Iu.2 (.inr (a4f h))
  .rw[A7]at hb;exact Iu.2 (.inl ⟨X4 hb.1,X4 hb.2⟩)
structure RngA where
 rs:Rgs
 hd:Sig
 an:Ann
def a0H(ops0 ops1 ops2:List Oper):Option (Nat×Operand×Nat×Nat×Nat×Nat):=
 match ops0[ops0.length -1]? with
 |some ⟨some it,.range t x,_,_,_,none⟩=>(match ops1 with
  |[⟨some nx,.next (.tmp it1) false,_,_,_,none⟩,⟨some mo,.extract (.tmp nx1) 0,_,_,_,none⟩]=>(match ops2 with
   |⟨some pr,.entry (.tmp it2),_,_,_,none⟩::_=>bif Nat.beq it it1&&Nat.beq it it2&&Nat.beq nx nx1 then some (t,x,it,nx,mo,pr)else none
   |_=>none)
  |_=>none)
 |_=>none
def a0G(E:Env)(A:RngA)(it nx mo pr:Nat):Bool:=
 OU E it&&OU E nx&&OU E mo&&OU E pr&&a2O it A.rs&&A_ nx (nx+1) A.rs&&A_ mo (mo+1) A.rs&&A_ pr (pr+1) A.rs&&
 !Nat.beq it nx&&!Nat.beq it mo&&!Nat.beq it pr&&!Nat.beq nx mo&&(match A.hd.als with|[]=>true|_=>false)&&!He nx (A.hd.ms.map (·.1))&&!He mo (A.hd.ms.map (·.1))
def c7E(M:MT)(e:M.k.den×M.v.den):V:=.tup [mkV M.ka (flat M.k e.1 []),mkV M.va (flat M.v e.2 [])]
def a9U{ρ:Type}(E:Env)(D:Den ρ)(q:Nat)(A:RngA)(ops2:List Oper)(nb nx mo pr:Nat)(M:MT)(s0:St)(e:M.k.den×M.v.den)(x:jY A.hd):Option (jY A.hd):=
 enter (q+1) A.hd A.rs s0 x λs1 w1=>
  Ii E (q+2) ops2 (λ_ _ _ _=>none) (ops2.drop 1) (.kv pr (c7E M e)::.kv mo .undef::.kv nx .undef::s1) [] λs2 t2=>
   D (q+3) A.an s2 (zf t2 (OT [pr,mo,nx] w1)) (jY A.hd) λfl s4 w4=>match fl with
    | .nm=>KH (q+1) A.hd A.rs s4 w4 some| .ex j=>bif Nat.beq j nb then KH (q+1) A.hd A.rs s4 w4 some else none| .rt _=>none
noncomputable def c5c {ρ:Type} {R:Type} (E:Env) (D:Den ρ) (q:Nat) (A:RngA) (ops2:List Oper) (nb nx mo pr:Nat) (M:MT) (xs:List (M.k.den×M.v.den)) (s0 sb:St) (w:Rgs) (K:St->Rgs->Option R):Option R:=
 KH (q+1) A.hd A.rs s0 [] λx0=>
  Ws (λys=>List.Perm ys xs) λys=>o5 (Ag (λe x=>a9U E D q A ops2 nb nx mo pr M s0 e x) ys x0) λx1=>
   enter (q+1) A.hd A.rs sb x1 λs' w' =>K s' (Yo w' w)
def b6P{α:Type}(u:Ty)(v:V)(K:List u.den->Option Nat->Cmd α):Cmd α:=match v with
 | .sl t xs=>Ty.castL t u xs (λxs=>K xs none) .fail
 | .own bx none=> .get (Z4+bx) λ
  | .barr t xs=>Ty.castL t u xs (λxs=>K xs (some bx)) .fail|_=> .fail
 |_=> .fail
def c2r{R:Type}(rs:Rgs)(b:Option Nat)(s:St)(K:St->Option R):Option R:=match b with
 |none=>K s|some b=>bif a2O (Z4+b) rs then K (.kv (Z4+b) .dead::s)else none
noncomputable def c5d {ρ:Type} {R:Type} (E:Env) (D:Den ρ) (q:Nat) (A:RngA) (ops0 ops1 ops2:Array Oper) (out out' mt nb:Nat) (s:St) (w:Rgs) (K:St->Rgs->Option R):Option R:=
 YI E q ops0 s λs1 t1=>match a0H ops0.toList ops1.toList ops2.toList with
  |some (t,x,it,nx,mo,pr)=>bif a0G E A it nx mo pr&&Nat.beq mo mt&&Nat.beq out out' then(match MO E t with
   |some M=>bif M.v.flat then
     (wK x λv=>b6P M.ent v λxs b=>xQ (U2 q (some it)) .dead (.set it (.ptr (U2 q (some it)) 0) (.ret (xs,b))):Cmd (List (M.k.den×M.v.den)×Option Nat)).runK s1 ([],[]) λp sb tr=>
      c2r A.rs p.2 sb λs0=>c5c E D q A ops2.toList nb nx mo pr M p.1 s0 sb (zf (tr::t1) w) K
    else none
   |none=>none)else none
  |none=>none
def ML(mv:Option Nat)(ck:Nat)(seen:Array Nat):Obj:=match mv with|none=> .mapIter none 0 #[] 0|some b=> .mapIter (some b) ck seen ck
structure ItI (Y:Fx) (r:Nat) (mv:Option Nat) (es:Array MapEntry) (ck:Nat) (seen:Array Nat) (own:Bool):Prop where
 rl:r<Y.w0.heap.size
 rO:r∉Y.O
 rk:∀t,¬Y.ok0 r t
 ri:Y.w0.heap[r]? =some (ML mv ck seen)
 bl:∀blk,mv=some blk->blk<Y.w0.heap.size/\blk∉Y.O/\blk≠r/\Y.w0.heap[blk]? =some (.map es ck)/\(own=true->∀t,¬Y.ok0 blk t)
theorem b3K{P:Program}{w:World}{mv:Option Nat}{es:Array MapEntry}{ck:Nat}{seen:Array Nat}(hr:w.heap[r]? =some (ML mv ck seen))(hb:∀blk,mv=some blk->w.heap[blk]? =some (.map es ck))(hn:mv=none->es=#[])
  (hs:∀e∈es.toList,e.born<ck) (ty:TypeId):
  ((leftOf es seen).size=0/\(Instr.next (.pointer (some ⟨r,0,none⟩)) false ty).run P w= .ok (.tuple #[.bool false]) w)\/
  ∃blk,mv=some blk/\∃e∈(leftOf es seen).toList,∃w1:World,(w1=w\/w1=w.drew)/\(Instr.next (.pointer (some ⟨r,0,none⟩)) false ty).run P w= .ok (.tuple #[.bool true,e.key,e.val]) (ChangeMaps.setBlock w1 r (ML mv ck (seen.push e.born))):=by
 cases mv with
 |none=>left;have:=hn rfl;subst this;refine⟨rfl,?_⟩<;>simp_all [ML,Instr.next,getObj,Sem.run]|some blk=>
  rcases run_next_at (P:=P) w ty r blk ck ck seen es ck hr (hb blk rfl) hs (D5 _)with h|⟨e,he,w1,h1,h2⟩
  .simp_all
  .exact .inr ⟨blk,rfl,e,he,w1,h1,h2⟩
end Go.GP
