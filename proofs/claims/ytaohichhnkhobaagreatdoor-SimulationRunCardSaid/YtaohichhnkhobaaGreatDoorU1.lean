import Derived.Test.YtaohichhnkhobaaGreatDoorU0
import Derived.Laws.MakeOwn
import Derived.ArgAppend
import Derived.MapKept
import Derived.WideKeyRuns
import Derived.Lib.AppendStr
import Derived.Laws.IdiomStrings
import Derived.Orders
import Derived.LoopN
import Derived.Laws.StructEq
set_option linter.all false
namespace Go.GP
variable {α:Type}{t:TypeId}{q:Nat}{sz:Nat}{f:Nat}{P:Program}{j:TI}{x:Operand}{Q:α->Sm->Prop}
section
variable {X:Fx} {cl ch:Nat} {S:Sm} {m:Mp} {ok:Nat->Ty->Prop} {a:Act} {w:World} {o:Oper}
theorem KH(H:FxOk X){t f off n:Nat}{ag:Bool}(h:OW X.E t f=some (off,n,ag)):
  ∃fields fld j,X.P.underlying t=some (.struct fields)/\fields[f]? =some fld/\fld.offset=off/\TiOk X.P fld.type j/\j.size=n/\n≠0/\ag=dA j.td:=by
 unfold OW at h;cases hi:dW X.E.tt t with
 |none=>simp[hi]at h|some i=>
  have Hi:=H.tt t i hi;have htd:=Hi.td;simp only[hi]at h;cases hd:i.td<;>simp only[hd]at h<;>try (simp at h;done)
  rename_i fs;rw[hd]at htd;obtain⟨fields,hu,hf⟩:=htd;cases hfs:fs[f]? with
  |none=>simp[hfs]at h|some x=>
   obtain⟨ft,off'⟩:=x;simp only[hfs]at h;cases hj:dW X.E.tt ft with
   |none=>simp[hj]at h|some j=>
    simp only[hj]at h;cases hb:Nat.beq j.size 0
    .simp only[hb,cond_false,F9,bQ]at h;obtain⟨rfl,rfl,rfl⟩:=h;rw[←hf]at hfs;simp only[fO,mg]at hfs;obtain⟨fld,hfl,he⟩:=hfs;simp only[bQ]at he;obtain⟨rfl,rfl⟩:=he;refine⟨fields,fld,j,hu,by simpa using hfl,rfl,H.tt _ _ hj,rfl,λe=>?_,rfl⟩;rw[e]at hb;simp at hb
    .simp[hb]at h
theorem PZ{t f off:Nat}{fields:Array Field}{fld:Field}(w:World)(hu:P.underlying t=some (.struct fields))(hf:fields[f]? =some fld)(ho:fld.offset=off)
  (hj:TiOk P fld.type j) (hn:j.size≠0) (b p:Nat):(Instr.fieldAt t (.pointer (some ⟨b,p,none⟩)) f).run P w= .ok (.pointer (some ⟨b,p+off,none⟩)) w:=by
 simp[Instr.fieldAt,run_underlying hu,hf,Instr.sureAddr,fieldPlace,sD hj,hn,iU,ho]
theorem a2x(H:FxOk X)(R:Rel X cl ch S m ok a w)(ho:o.op= .fieldAddr t x f):(bF X.E q o).post S (λ_ S' =>jr X cl ch o a w m ok S'):=by
 unfold bF;simp only[ho];refine aG R λp hp=>?_;split<;>try trivial
 rename_i off n ag hfo;obtain⟨fields,fld,j,hu,hf,hoff,hj,hn,hn0,_⟩:=KH H hfo;have hj0:j.size≠0:=l9;cases p<;>try trivial
 case ptr bx o' =>obtain⟨blk,h1,h2⟩:=hp;exact aX H R (v:=.ptr bx (o' +off)) ⟨blk,h1,rfl⟩ (by simp[execOp,ho,h2,PZ w hu hf hoff hj hj0])
 case ep bx ix o' =>obtain⟨blk,o2,len,cap,sz,h1,h2,h3⟩:=hp;exact aX H R (v:=.ep bx ix (o' +off)) ⟨blk,o2,len,cap,sz,h1,h2,rfl⟩ (by simp[execOp,ho,h3,PZ w hu hf hoff hj hj0,iq])
 case dp u y o' =>obtain⟨blk,o2,es,h1,h2⟩:=hp;exact aX H R (v:=.dp u y (o' +off)) ⟨blk,o2,es,rfl,h2⟩ (by simp[execOp,ho,h1,PZ w hu hf hoff hj hj0,iq])
theorem b3M(H:FxOk X)(R:Rel X cl ch S m ok a w)(ho:o.op= .field t x f):(bF X.E q o).post S (λ_ S' =>jr X cl ch o a w m ok S'):=by
 unfold bF;simp only[ho];refine aG R λp hp=>?_;split<;>try trivial
 rename_i off n ag hfo;obtain⟨fields,fld,j,hu,hf,hoff,hj,hn,hn0,rfl⟩:=KH H hfo;refine FP hp λps us hg hl=>Di λhle=>?_;obtain⟨arr,hx,rfl⟩:=hg;have hL:=kS hl;have hlen:((arr.toList.drop off).take n).length=n:=by simp at hL ⊢;omega
 refine aX H R (Ff (yf n (wM off hl)) (λha=>by rw[hlen,←hn];exact hj.one ha)) ?_;have hpart:(part fld.type arr off).run X.P w= .ok (Ve (dA j.td) ((arr.toList.drop off).take n)) w:=by
  unfold part;rw[H6,IB hj.td];simp only[I5];cases ha:dA j.td
  .have h1:=hj.one ha;have hlt:off<arr.size:=by simp at hL;omega
   simp only[df,if_false,Ve];rw[show arr[off]? =some arr[off]from by simp[hlt]];have:n=1:=l9;subst this;simp[List.take_one,hlt]
  .simp only[if_true,Ve,H6,sD hj,I5,hn,Y7];congr 2;apply lC;simp[oh]
 simp[execOp,ho,hx,Instr.field,run_underlying hu,hf,asAgg,hoff,hpart]
theorem MM(H:FxOk X){t n sz:Nat}(h:ML X.E t=some (false,n,sz)):∃e j,X.P.underlying t=some (.slice e)/\TiOk X.P e j/\j.size=sz:=by
 unfold ML at h;cases hi:dW X.E.tt t with
 |none=>simp[hi]at h|some i=>
  have htd:=(H.tt t i hi).td;simp only[hi]at h;cases hd:i.td<;>simp only[hd]at h<;>try (simp at h;done)
  .rename_i e;rw[hd]at htd;cases hj:dW X.E.tt e with
   |none=>simp[hj]at h|some j=>simp[hj]at h;exact⟨e,j,htd,H.tt _ _ hj,h.2⟩
  .rename_i l e;cases hj:dW X.E.tt e<;>simp[hj]at h
theorem a6B(H:FxOk X){t n sz:Nat}(h:ML X.E t=some (true,n,sz)):∃e j,X.P.underlying t=some (.array n e)/\TiOk X.P e j/\j.size=sz:=by
 unfold ML at h;cases hi:dW X.E.tt t with
 |none=>simp[hi]at h|some i=>
  have htd:=(H.tt t i hi).td;simp only[hi]at h;cases hd:i.td<;>simp only[hd]at h<;>try (simp at h;done)
  .rename_i e;cases hj:dW X.E.tt e<;>simp[hj]at h
  .rename_i l e;rw[hd]at htd;cases hj:dW X.E.tt e with
   |none=>simp[hj]at h|some j=>simp[hj]at h;obtain⟨rfl,h⟩:=h;exact⟨e,j,htd,H.tt _ _ hj,h⟩
theorem DC{l:List α}{n:Int}{y:α}(h:G8 l n=some y):0<=n/\l[n.toNat]? =some y/\n.toNat<l.length/\n<l.length:=by
 unfold G8 at h;split at h
 .rename_i h0;have:=(X0.1 h).1;exact⟨h0,h,this,l9⟩
 .cases h
theorem zt{t e:TypeId}(w:World)(hu:P.underlying t=some (.slice e))(hj:TiOk P e j){k:IntKind}{n:Int}{b p len cap:Nat}(h0:0<=n)(hlt:n<len):
  (Instr.indexAt t (.slice (some ⟨b,p,none⟩) len cap) (.int k n)).run P w= .ok (.pointer (some ⟨b,p+n.toNat*j.size,none⟩)) w:=by
 simp[Instr.indexAt,asIntOf,run_underlying hu,h0,hlt,sD hj,iU]
theorem UY{t e:TypeId}(w:World){len:Nat}(hu:P.underlying t=some (.array len e))(hj:TiOk P e j){k:IntKind}{n:Int}{b p:Nat}(h0:0<=n)(hlt:n<len):
  (Instr.indexAt t (.pointer (some ⟨b,p,none⟩)) (.int k n)).run P w= .ok (.pointer (some ⟨b,p+n.toNat*j.size,none⟩)) w:=by
 simp[Instr.indexAt,asIntOf,run_underlying hu,h0,hlt,sD hj,iU,Instr.sureAddr]
theorem MW{w:World}{r:Nat}{es:Array MapEntry}{ck:Nat}(hb:w.heap[r]? =some (.map es ck)):(getObj r).run P w= .ok (.map es ck) w:=by simp[getObj,Sem.run,hb]
theorem Gm{u:Ty}(h:szB sz u=true):u.isEnt=false/\sz=u.size:=by
 unfold szB at h;cases hu:u.isEnt<;>rw[hu]at h
 .exact⟨rfl,iD h⟩
 .cases h
theorem b2c{C:Cx}{t:Ty}{xs:List t.den}{l:Loc}{vw:Option (Nat×Nat)}{v:Value}(h0:t.isEnt=false)(ha:arrOk C t xs l)(hv:l.view vw v){i:Nat}{y:t.den}(hy:(jT vw xs)[i]? =some y):
  ∃blk off len cap,l= .arr blk off len cap t.size/\xs[a4y vw+i]? =some y/\∃p c,v= .slice (some ⟨blk,p,none⟩) (jT vw xs).length c/\p+i*t.size=off+(a4y vw+i)*t.size:=by
 cases l with
 |nil=>obtain⟨ha,_⟩:=ha;subst ha;rcases vw with _|⟨lo,hi⟩<;>simp[jT,oU]at hy
 |st b=>cases ha|mp b=>exact absurd ha.1 (by simp[h0])|arr blk off len cap sz=>
  obtain⟨_,rfl,rfl,hc,_⟩:=ha;rcases vw with _|⟨lo,hi⟩
  .simp only[Loc.view]at hv;subst hv;exact⟨blk,off,_,cap,rfl,by simpa[a4y,jT]using hy,off,cap,rfl,by simp[a4y]⟩
  .obtain⟨h1,h2,rfl⟩:=hv;have hl:(jT (some (lo,hi)) xs).length=hi -lo:=by simp[jT,oU];omega
   have hi' :i<hi -lo:=by rw[←hl];exact(X0.1 hy).1
   have hx' :xs[lo+i]? =some y:=by
    simp only[jT,oU,P5,X6]at hy;split at hy
    .exact hy
    .cases hy
   have hne:cap≠lo:=l9;exact⟨blk,off,_,cap,rfl,hx',off+lo*t.size,cap -lo,by rw[hl];simp[hne],by simp[a4y,J4];omega⟩
theorem a2y(H:FxOk X)(R:Rel X cl ch S m ok a w){x ix:Operand}(ho:o.op= .indexAddr t x ix):(bF X.E q o).post S (λ_ S' =>jr X cl ch o a w m ok S'):=by
 unfold bF;simp only[ho];refine aG R λu hu=>aG R λv hv=>?_;unfold Zo;split<;>try trivial
 ·
  rename_i k n l sz hsz;obtain⟨e,j,hut,hj,hjs⟩:=MM H hsz;have hix:=wO hv;cases u<;>try trivial
  case sl u xs=>refine dD λhb=>fZ λy hy=>?_;obtain⟨hE0,hb'⟩:=Gm hb;obtain⟨h0,hget,hlt,hlt'⟩:=DC hy;obtain⟨ad,cap,hx,hc,hel⟩:=(Eg hE0).1 hu;simp only[I4,and_true]at hx;obtain⟨blk,off,es,rfl,hok,he,hr⟩:=hel _ y hget;refine aX H R (v:=.dp u y 0) (x:=.pointer (some ⟨blk,off+n.toNat*u.size,none⟩)) ⟨blk,off+n.toNat*u.size,es,rfl,hok,he,hr⟩ ?_;simp[execOp,ho,hx,hix,zt w hut hj h0 hlt',hjs,hb']
  case own bx vw=>
   obtain⟨loc,hm,hview⟩:=hu;refine bf ?_;split
   .rename_i ln sz' hSl;split<;>try trivial
    refine dL λhb=>⟨λhin=>?_,λ_=>trivial⟩;have hb' :=iD hb;have hin' :=of_decide_eq_true (show decide (0<=n/\n<ln)=true from hin);have hbx:=R.box (Sl+bx);rw[hSl]at hbx;obtain⟨k',l',e,hm',hl⟩:=hbx;have e' :k' =bx:=l9;subst e';simp only at hm hm';rw[hm]at hm';cases hm';cases loc with
    |nil=>simp only at hl;omega|st b=>cases hl|mp b=>cases hl|arr blk off len cap sz2=>obtain⟨rfl,rfl⟩:=hl;simp only[Loc.view]at hview;refine aX H R (v:=.ep k' (U8 n) 0) (x:=.pointer (some ⟨blk,off+n.toNat*sz',none⟩)) ⟨blk,off,len,cap,sz',hm,by unfold U8;omega,rfl⟩ ?_;simp[execOp,ho,hview,hix,zt w hut hj hin'.1 hin'.2,hjs,hb']
   refine bf ?_;split<;>try trivial
   .rename_i u xs hS;refine dD λhb=>fZ λy hy=>?_;obtain⟨hE0,hb'⟩:=Gm hb;obtain⟨h0,hget,hlt,hlt'⟩:=DC hy;obtain⟨loc',hm',ha⟩:=R.own_arr hS;simp only at hm;rw[hm]at hm';cases hm';obtain⟨blk,off,len,cap,rfl,hx2,p,c,hvv,hp⟩:=b2c hE0 ha hview hget;have hlen:=ha.2.2.1;have hlt2:=(X0.1 hx2).1;rw[b7N];refine aX H R (v:=.ep bx (a4y vw+U8 n) 0) (x:=.pointer (some ⟨blk,p+n.toNat*u.size,none⟩)) ⟨blk,off,len,cap,u.size,hm,by rw[hlen];exact hlt2,by rw[hp];rfl⟩ ?_;simp[execOp,ho,hvv,hix,zt w hut hj h0 hlt',hjs,hb']
   .rename_i u xs hS;refine dD λhb=>fZ λy hy=>?_;obtain⟨hE0,hb'⟩:=Gm hb;obtain⟨h0,hget,hlt,hlt'⟩:=DC hy;obtain⟨loc',hm',ha,hok⟩:=R.own_frz hS;simp only at hm;rw[hm]at hm';cases hm';obtain⟨ad,cap,hx,hc,hel⟩:=(Eg hE0).1 (qp (C:=⟨w.heap,ok,m⟩) ha hview (λ_ _ h=>h) hok);simp only[I4,and_true]at hx;obtain⟨blk,off,es,rfl,hok',he,hr⟩:=hel _ y hget;refine aX H R (v:=.dp u y 0) (x:=.pointer (some ⟨blk,off+n.toNat*u.size,none⟩)) ⟨blk,off+n.toNat*u.size,es,rfl,hok',he,hr⟩ ?_;simp[execOp,ho,hx,hix,zt w hut hj h0 hlt',hjs,hb']
   .rename_i md xs hole hS;split<;>try trivial
    refine dL λhb=>fZ λy hy=>?_;have hb' :=iD hb;obtain⟨h0,hget,hlt,hlt'⟩:=DC hy;obtain⟨hel,loc',Os,hm',⟨ha,hho⟩,hk⟩:=R.own_barrs hS;simp only at hm;rw[hm]at hm';cases hm';cases loc with
    |st b=>cases ha|mp b=>cases ha|nil=>obtain⟨e1,_⟩:=ha;subst e1;simp at hlt
    |arr blk off len cap sz' =>obtain⟨rfl,rfl,h3,_⟩:=ha;simp only[Loc.view]at hview;refine aX H R (v:=.ep bx (U8 n) 0) (x:=.pointer (some ⟨blk,off+n.toNat*md.size,none⟩)) ⟨blk,off,xs.length,cap,md.size,hm,hlt,rfl⟩ ?_;simp[execOp,ho,hview,hix,zt w hut hj h0 hlt',hjs,hb']
 ·
  rename_i k n l sz hsz;obtain⟨e,j,hut,hj,hjs⟩:=a6B H hsz;have hix:=wO hv;cases u<;>try trivial
  case glob g=>
   cases hg:dW X.E.gl g with
   |none=>simp only[hg];trivial|some p=>
   obtain⟨u,xs⟩:=p;simp only[hg];refine dD λhb=>fZ λy hy=>?_;simp only[A8]at hb;have hb1:=iD hb.1;have hb2:=iD hb.2;obtain⟨h0,hget,hlt,hlt'⟩:=DC hy;obtain⟨hok,_,hel⟩:=R.gl g _ hg;obtain⟨es,he,hr⟩:=hel _ y hget;have hx:a.eval x= .pointer (some ⟨g,0,none⟩):=hu;refine aX H R (v:=.dp u y 0) (x:=.pointer (some ⟨g,0+n.toNat*u.size,none⟩)) ⟨g,n.toNat*u.size,es,A7,hok,he,hr⟩ ?_;have:=UY w hut hj (k:=k) (b:=g) (p:=0) h0 (by rw[hb2];exact hlt');simp only[hjs,hb1]at this;simp[execOp,ho,hx,hix,this]
  case ptr bx off=>refine⟨λhin=>?_,λ_=>trivial⟩;have hin' :=of_decide_eq_true (show decide (0<=n/\n<(l:Int))=true from hin);obtain⟨blk,hm,hx⟩:=hu;refine aX H R (v:=.ptr bx (off+U8 n*sz)) (x:=.pointer (some ⟨blk,off+n.toNat*sz,none⟩)) ⟨blk,hm,rfl⟩ ?_;have:=UY w hut hj (k:=k) (b:=blk) (p:=off) hin'.1 hin'.2;simp only[hjs]at this;simp[execOp,ho,hx,hix,this]
theorem Zr(R:Rel X cl ch S m ok a w){sz fo:Nat}{c:V}{u:Value}(hu:xP ⟨w.heap,ok,m⟩ c u){K:V->Cmd α}
  (hK:∀r y,mD ⟨w.heap,ok,m⟩ r y->(∃b bo n k,u= .slice (some ⟨b,bo,none⟩) n k/\0<=H9 .i64 (n:Int) 1/\H9 .i64 (n:Int) 1<(n:Int)/\y= .pointer (some ⟨b,bo+(H9 .i64 (n:Int) 1).toNat*sz+fo,none⟩))->(K r).post S Q):
  (a9k sz fo c K).post S Q:=by
 unfold a9k;split<;>try trivial
 .rename_i u' xs;refine dD λhb=>fZ λy hy=>?_;obtain⟨hE0,hb'⟩:=Gm hb;obtain⟨h0,hget,hlt,hlt'⟩:=DC hy;obtain⟨ad,cap,hx,hc,hel⟩:=(Eg hE0).1 hu;simp only[I4,and_true]at hx;obtain⟨blk,off,es,rfl,hok,he,hr⟩:=hel _ y hget;refine hK (.dp u' y fo) _ ⟨blk,off+(H9 .i64 (o9 xs) 1).toNat*u'.size,es,rfl,hok,he,hr⟩ ⟨blk,off,xs.length,cap,hx,h0,hlt',?_⟩;rw[hb'];rfl
 .rename_i bx;obtain⟨loc,hm,hview⟩:=hu;refine bf ?_;split
  .rename_i ln sz' hSl;refine dL λhb=>⟨λhin=>?_,λ_=>trivial⟩;have hb' :=iD hb;have hin' :=of_decide_eq_true (show decide (0<=H9 .i64 ln 1/\H9 .i64 ln 1<ln)=true from hin);have hbx:=R.box (Sl+bx);rw[hSl]at hbx;obtain⟨k',l',e,hm',hl⟩:=hbx;have e' :k' =bx:=l9;subst e';simp only at hm hm';rw[hm]at hm';cases hm';cases loc with
   |nil=>simp only at hl;omega|st b=>cases hl|mp b=>cases hl|arr blk off len cap sz2=>obtain⟨rfl,rfl⟩:=hl;simp only[Loc.view]at hview;refine hK (.ep k' (U8 (H9 .i64 (len:Int) 1)) fo) (.pointer (some ⟨blk,off+(H9 .i64 (len:Int) 1).toNat*sz' +fo,none⟩)) ⟨blk,off,len,cap,sz',hm,by unfold U8;omega,rfl⟩ ⟨blk,off,len,cap,hview,hin'.1,hin'.2,?_⟩;rw[hb']
  refine bf ?_;split<;>try trivial
  .rename_i u xs hS;refine dD λhb=>fZ λy hy=>?_;obtain⟨hE0,hb'⟩:=Gm hb;obtain⟨h0,hget,hlt,hlt'⟩:=DC hy;obtain⟨loc',hm',ha⟩:=R.own_arr hS;simp only at hm;rw[hm]at hm';cases hm';cases loc with
   |nil=>obtain⟨e1,_⟩:=ha;subst e1;simp at hlt
   |st b=>cases ha|mp b=>rw[ha.1]at hE0;cases hE0|arr blk off len cap sz2=>obtain⟨_,rfl,rfl,_⟩:=ha;simp only[Loc.view]at hview;refine hK (.ep bx (U8 (H9 .i64 (o9 xs) 1)) fo) (.pointer (some ⟨blk,off+(H9 .i64 (o9 xs) 1).toNat*u.size+fo,none⟩)) ⟨blk,off,xs.length,cap,u.size,hm,hlt,rfl⟩ ⟨blk,off,xs.length,cap,hview,h0,hlt',?_⟩;rw[hb'];rfl
  .rename_i u xs hS;refine dD λhb=>fZ λy hy=>?_;obtain⟨hE0,hb'⟩:=Gm hb;obtain⟨h0,hget,hlt,hlt'⟩:=DC hy;obtain⟨loc',hm',ha,hok⟩:=R.own_frz hS;simp only at hm;rw[hm]at hm';cases hm';obtain⟨ad,cap,hx,hc,hel⟩:=(Eg hE0).1 (qp (C:=⟨w.heap,ok,m⟩) (vw:=none) ha hview (λ_ _ h=>h) hok);simp only[I4,and_true]at hx;obtain⟨blk,off,es,rfl,hok',he,hr⟩:=hel _ y hget;refine hK (.dp u y fo) _ ⟨blk,off+(H9 .i64 (o9 xs) 1).toNat*u.size,es,rfl,hok',he,hr⟩ ⟨blk,off,xs.length,cap,hx,h0,hlt',?_⟩;rw[hb'];rfl
  .rename_i md xs hole hS;refine dL λhb=>fZ λy hy=>?_;have hb' :=iD hb;obtain⟨h0,hget,hlt,hlt'⟩:=DC hy;obtain⟨hel,loc',Os,hm',⟨ha,hho⟩,hk⟩:=R.own_barrs hS;simp only at hm;rw[hm]at hm';cases hm';cases loc with
   |st b=>cases ha|mp b=>cases ha|nil=>obtain⟨e1,_⟩:=ha;subst e1;simp at hlt
   |arr blk off len cap sz' =>obtain⟨rfl,rfl,h3,_⟩:=ha;simp only[Loc.view]at hview;refine hK (.ep bx (U8 (H9 .i64 (o9 xs) 1)) fo) (.pointer (some ⟨blk,off+(H9 .i64 (o9 xs) 1).toNat*md.size+fo,none⟩)) ⟨blk,off,xs.length,cap,md.size,hm,hlt,rfl⟩ ⟨blk,off,xs.length,cap,hview,h0,hlt',?_⟩;rw[hb'];rfl
theorem Xy{C:Cx}{c:V}{vs:d5Z}(h:ig C [c] vs):∃v,vs=[v]/\xP C c v:=by obtain⟨v,r,rfl,h1,h2,h3⟩:=h;simp only[ig]at h3;subst h3;exact⟨v,rfl,h1⟩
theorem Ti(R:Rel X cl ch S m ok a w){off sz fo:Nat}{p:V}{x:Value}(hp:mD ⟨w.heap,ok,m⟩ p x){K:V->Cmd α}
  (hK:∀r y,mD ⟨w.heap,ok,m⟩ r y->Vm w.heap x off sz fo y->(K r).post S Q):(a5a off sz fo p K).post S Q:=by
 unfold a5a;split<;>try trivial
 .rename_i bx o;obtain⟨blk,hm,rfl⟩:=hp;refine bf ?_;split<;>try trivial
  rename_i cs hS;obtain⟨blk',arr,T,hm',hh,hl⟩:=R.own_cells hS;simp only at hm;rw[hm]at hm';cases hm';refine Di λhle=>?_;have hlen:=kS hl;have e:=lJ hh (o+off) 1 (by simp at hlen;omega);have hl1:=yf 1 (wM (o+off) hl);split<;>try trivial
  rename_i c hc;rw[hc]at hl1;obtain⟨u,hu,hr⟩:=Xy hl1;rw[hu]at e;refine Zr R hr λr y h1 ⟨b,bo,n,k,h2,h3,h4,h5⟩=>hK r y h1 ⟨blk,o,b,bo,n,k,rfl,by rw[e,h2],h3,h4,h5⟩
 .rename_i t z o;obtain⟨blk,o',es,rfl,hb,he,hr⟩:=hp;refine Di λhle=>?_;rw[oM]at hle;have e:=Cm he (o+off) 1 hle;have hl1:=yf 1 (wM (o+off) (rD (C:=⟨w.heap,ok,m⟩) hr));split<;>try trivial
  rename_i c hc;rw[hc]at hl1;obtain⟨u,hu,hr⟩:=Xy hl1;rw[hu]at e;refine Zr R hr λr y h1 ⟨b,bo,n,k,h2,h3,h4,h5⟩=>hK r y h1 ⟨blk,o' +o,b,bo,n,k,rfl,by rw[iq,e,h2],h3,h4,h5⟩
theorem a4P{C:Cx} :∀{vs:List V} {xs:d5Z} (k:Nat),iW C vs xs->b7Y vs k= .un\/∃x,xs[k]? =some x/\mD C (b7Y vs k) x
 |[],_,k,_=> .inl (by cases k<;>rfl)|v::r,_,0,⟨x,xr,e,h1,h2⟩=> .inr ⟨x,by subst e;rfl,h1⟩|v::r,_,k+1,⟨x,xr,e,h1,h2⟩=>by subst e;rw[ql];exact a4P k h2
theorem b2J(R:Rel X cl ch S m ok a w){all:List V}{xall:d5Z}(hall:iW ⟨w.heap,ok,m⟩ all xall):∀(ms:List MG) {vs:List V} {xs:d5Z} {K:Cmd α}
  (hv:iW ⟨w.heap,ok,m⟩ vs xs) (hK:b0h w.heap xall ms xs->K.post S Q),(dvC all ms vs K).post S Q:=by
 intro ms;induction ms with
 |nil=>
  intro vs xs K hv hK;cases vs with
  |nil=>exact hK trivial|cons v vs=>trivial
 |cons md ms ih=>
  intro vs xs K hv hK;obtain⟨g,md⟩:=md;cases vs with
  |nil=>cases md<;>trivial|cons v vs=>
   obtain⟨x,r,rfl,h1,h2⟩:=hv;cases md
   case dv k off sz fo=>
    unfold dvC;rcases a4P k hall with e|⟨p,hp,hr⟩
    .rw[e];trivial
    .refine Ti R hr λr0 y h3 h4=>?_;unfold c5W;split<;>try trivial
     rename_i n i o n' i' o';refine dD λhb=>⟨λhi=>?_,λ_=>trivial⟩;simp only[A8]at hb;have e1:=iD hb.1;have e2:=iD hb.2;have e3:=iD hi;subst e1;subst e2;subst e3;obtain⟨b1,o1,l1,c1,s1,m1,_,rfl⟩:=h1;obtain⟨b2,o2,l2,c2,s2,m2,_,rfl⟩:=h3;simp only at m1 m2;rw[m1]at m2;cases m2;exact ih h2 λhd=>hK ⟨⟨p,hp,h4⟩,hd⟩
   all_goals
    unfold dvC;exact ih h2 λhd=>hK hd
theorem b3o{α β:Type}{f:α->β}{args:Array α}{u:β}(h:args.toList.map f=[u]):∃y,args=#[y]/\f y=u:=by obtain⟨l⟩:=args;simp only[List.map_eq_cons_iff,List.map_eq_nil_iff]at h;obtain⟨y,r,h1,h2,h3⟩:=h;subst h3;exact⟨y,by rw[h1],h2⟩
theorem Zw{α β:Type}{f:α->β}{args:Array α}{u v:β}(h:args.toList.map f=[u,v]):∃y z,args=#[y,z]/\f y=u/\f z=v:=by obtain⟨l⟩:=args;simp only[List.map_eq_cons_iff,List.map_eq_nil_iff]at h;obtain⟨y,r,h1,h2,z,r',h3,h4,h5⟩:=h;subst h5;subst h3;exact⟨y,z,by rw[h1],h2,h4⟩
theorem c0U(H:FxOk X)(R:Rel X cl ch S m ok a w){c:Call}(ho:o.op= .call c)(hc:c.callee= .builtin .len):(bF X.E q o).post S (λ_ S' =>jr X cl ch o a w m ok S'):=by
 obtain⟨cal,args,ats⟩:=c;simp only at hc;subst hc;unfold bF;simp only[ho];refine mV R _ λvs hvs=>?_;split<;>try trivial
 rename_i t rt x hat
 obtain⟨u,r,he,hx,hr⟩:=hvs;simp only[iW]at hr;subst hr;refine lX H λi hi=>?_;have htd:=hi.td;obtain⟨y,rfl,rfl⟩:=b3o he;have h0:ats[0]? =some t:=by
  obtain⟨l⟩:=ats;simp only at hat
  simp[hat]
 have fin:∀(v:V) (n:Nat),mD ⟨w.heap,ok,m⟩ v (.int .i64 n)->(Builtin.len_ ats o.type #[a.eval y]).run X.P w= .ok (.int .i64 n) w->(fF X.E o.dst v).post S (λ_ S' =>jr X cl ch o a w m ok S'):=λv n hv h=>
  aX H R hv (by simp[execOp,ho,resolve,invoke,builtin,h])
 have mapLen:∀{ke e n:Nat},X.P.underlying t=some (.map ke e)->(∃mv,a.eval y= .map mv/\(mv=none->n=0)/\∀blk,mv=some blk->∃es ck,w.heap[blk]? =some (.map es ck)/\es.size=n)->
   (fF X.E o.dst (.i .i64 n)).post S (λ_ S' =>jr X cl ch o a w m ok S'):=λ{ke e n} hu ⟨mv,hv,h1,h2⟩=>by
  refine fin _ n rfl ?_;cases mv with
  |none=>rw[h1 rfl];simp[Builtin.len_,h0,run_underlying hu,hv,goInt]|some blk=>obtain⟨es,ck,h3,h4⟩:=h2 blk rfl;simp[Builtin.len_,h0,run_underlying hu,hv,goInt,MW h3,h4]
 unfold c5X;split<;>try trivial
 .rename_i l htd';rw[htd']at htd;refine fin _ l.length rfl ?_;simp[Builtin.len_,h0,run_underlying (show X.P.underlying t=some .string from htd),PP hx,goInt];rfl
 .rename_i e u xs htd';rw[htd']at htd;cases hE0:u.isEnt
  .simp only[cond_false];obtain⟨ad,cap,hv,_⟩:=(Eg hE0).1 hx;simp only[I4,and_true]at hv;refine fin _ xs.length rfl ?_;simp[Builtin.len_,h0,run_underlying (show X.P.underlying t=some (.slice e)from htd),hv,goInt]
  .trivial
 .rename_i ke e u xs htd';rw[htd']at htd;cases hE0:u.isEnt
  .trivial
  .simp only[cond_true];refine mapLen htd ?_;obtain⟨mv,hv,h1,h2⟩:=(a7y hE0).1 hx;exact⟨mv,by simpa using hv,(λe=>by simp[h1 e]),λblk hb=>by obtain⟨_,es,ck,h3,h4,_⟩:=h2 blk hb;exact⟨es,ck,h3,h4⟩⟩
 .rename_i ke e bx htd';rw[htd']at htd;obtain⟨loc,hm,hview⟩:=hx;simp only at hm;refine bf ?_;have key:∀{u:Ty} {xs:List u.den},u.isEnt=true->arrOk ⟨w.heap,ok,m⟩ u xs loc->(fF X.E o.dst (.i .i64 (o9 xs))).post S (λ_ S' =>jr X cl ch o a w m ok S'):=λ{u xs} hE0 ha=>by
   refine mapLen htd ?_;cases loc with
   |nil=>exact absurd ha.2 (by simp[hE0])|st b=>cases ha|arr blk off len cap sz=>exact absurd ha.1 (by simp[hE0])|mp b=>simp only[Loc.view]at hview;obtain⟨_,es,ck,h3,h4,_⟩:=ha;exact⟨some b,hview,(λh=>nomatch h),λblk hb=>by cases hb;exact⟨es,ck,h3,h4⟩⟩
  split<;>try trivial
  .rename_i u xs hS;obtain⟨loc',hm',ha⟩:=R.own_arr hS;rw[hm]at hm';cases hm';cases hE0:u.isEnt
   .trivial
   .exact key hE0 ha
  .rename_i u xs hS;obtain⟨loc',hm',ha,_⟩:=R.own_frz hS;rw[hm]at hm';cases hm';cases hE0:u.isEnt
   .trivial
   .exact key hE0 ha
 .rename_i e htd';rw[htd']at htd;have hv:a.eval y= .slice none 0 0:=hx;refine fin _ 0 rfl ?_;simp[Builtin.len_,h0,run_underlying (show X.P.underlying t=some (.slice e)from htd),hv,goInt]
 .rename_i e bx vw htd';rw[htd']at htd;obtain⟨loc,hm,hview⟩:=hx;refine bf ?_;split
  .rename_i ln sz' hSl;split<;>try trivial
   have hbx:=R.box (Sl+bx);rw[hSl]at hbx;obtain⟨k',l',e',hm',hl⟩:=hbx;have e2:k' =bx:=l9;subst e2;simp only at hm hm';rw[hm]at hm';cases hm';cases loc with
   |nil=>simp only at hl;subst hl;simp only[Loc.view]at hview;refine fin _ 0 rfl ?_;simp[Builtin.len_,h0,run_underlying (show X.P.underlying t=some (.slice e)from htd),hview,goInt]|st b=>cases hl|mp b=>cases hl|arr blk off len cap sz2=>obtain⟨rfl,rfl⟩:=hl;simp only[Loc.view]at hview;refine fin _ len rfl ?_;simp[Builtin.len_,h0,run_underlying (show X.P.underlying t=some (.slice e)from htd),hview,goInt]
  refine bf ?_;have key:∀{u:Ty} {xs:List u.den},u.isEnt=false->arrOk ⟨w.heap,ok,m⟩ u xs loc->(fF X.E o.dst (.i .i64 (o9 (jT vw xs)))).post S (λ_ S' =>jr X cl ch o a w m ok S'):=λ{u xs} hE0 ha=>by obtain⟨ad,cap,hv,_⟩:=(Eg hE0).1 (qp (C:=⟨w.heap,ok,m⟩) (ok' :=λ_ _=>True) ha hview (λ_ _ _=>trivial) (λ_ _=>trivial));simp only[I4,and_true]at hv;refine fin _ (jT vw xs).length rfl ?_;simp[Builtin.len_,h0,run_underlying (show X.P.underlying t=some (.slice e)from htd),hv,goInt]
  split<;>try trivial
  .rename_i u xs hS;obtain⟨loc',hm',ha⟩:=R.own_arr hS;simp only at hm;rw[hm]at hm';cases hm';cases hE0:u.isEnt
   .exact key hE0 ha
   .trivial
  .rename_i u xs hS;obtain⟨loc',hm',ha,_⟩:=R.own_frz hS;simp only at hm;rw[hm]at hm';cases hm';cases hE0:u.isEnt
   .exact key hE0 ha
   .trivial
  .rename_i md xs hole hS;split<;>try trivial
   obtain⟨hel,loc',Os,hm',⟨ha,hho⟩,hk⟩:=R.own_barrs hS;simp only at hm;rw[hm]at hm';cases hm';cases loc with
   |st b=>cases ha|mp b=>cases ha|nil=>obtain⟨e1,_⟩:=ha;subst e1;simp only[Loc.view]at hview;refine fin _ 0 rfl ?_;simp[Builtin.len_,h0,run_underlying (show X.P.underlying t=some (.slice e)from htd),hview,goInt]
   |arr blk off len cap sz' =>obtain⟨rfl,rfl,h3,_⟩:=ha;simp only[Loc.view]at hview;refine fin _ xs.length rfl ?_;simp[Builtin.len_,h0,run_underlying (show X.P.underlying t=some (.slice e)from htd),hview,goInt]
theorem a1r(H:FxOk X)(R:Rel X cl ch S m ok a w){c:Call}(ho:o.op= .call c)(hc:c.callee= .builtin .min\/c.callee= .builtin .max):(bF X.E q o).post S (λ_ S' =>jr X cl ch o a w m ok S'):=by
 obtain⟨cal,args,ats⟩:=c;simp only at hc;rcases hc with rfl|rfl
 all_goals
  unfold bF;simp only[ho];refine mV R _ λvs hvs=>?_;split<;>try trivial
  rename_i k p k' r;obtain⟨u,r',he,hx,v,r'',he',hy,hr⟩:=hvs;simp only[iW]at hr;subst hr;rw[he']at he;refine dD λhk=>?_;have hk' :k=k' :=of_decide_eq_true hk;subst hk';obtain⟨y,z,rfl,rfl,rfl⟩:=Zw he
 .refine aX H R (v:=.i k (qj p r)) rfl ?_;simp[execOp,ho,resolve,invoke,builtin,Builtin.min_,Builtin.min2,wO hx,wO hy,qj]
 .refine aX H R (v:=.i k (nT p r)) rfl ?_;simp[execOp,ho,resolve,invoke,builtin,Builtin.max_,Builtin.max2,wO hx,wO hy,nT]
end
end Go.GP
namespace Go.GP
def Bnd(d:Int)(o:Option Value)(n:Int):Prop:=(o=none/\n=d)\/∃k,o=some (.int k n)
theorem Jn{P:Program}{w:World}{isS:Bool}{len cap:Nat}{lo hi:Option Value}{x y:Int}(hlo:Bnd 0 lo x)(hhi:Bnd len hi y)(h0:0<=x)(h1:x<=y)(h2:y<=len)(hc:len<=cap):
  (Instr.sliceBounds isS len cap lo hi none).run P w= .ok (x.toNat,y.toNat,cap) w:=by
 have hyc:y<=cap:=l9;have hy0:0<=y:=l9;have e:((y.toNat:Nat):Int)=y:=l9;rcases hlo with⟨rfl,rfl⟩|⟨k,rfl⟩<;>rcases hhi with⟨rfl,rfl⟩|⟨k',rfl⟩
 .simp[Instr.sliceBounds]
 .simp[Instr.sliceBounds,Instr.sliceBound,asIntOf,hy0,hyc]
 .simp[Instr.sliceBounds,Instr.sliceBound,asIntOf,h0,h1]
 .simp[Instr.sliceBounds,Instr.sliceBound,asIntOf,hy0,hyc,h0,e,h1]
theorem a1h{α:Type}{l r:List α}{x y:Int}(h:FX l x y=some r):0<=x/\x<=y/\y<=l.length/\r=(l.take y.toNat).drop x.toNat:=by
 unfold FX at h;split at h
 .rename_i hh;cases h;exact⟨hh.1,hh.2.1,hh.2.2,rfl⟩
 .cases h
theorem a0c(l:d5X)(x y:Nat):(⟨l.toArray⟩:ByteArray).extract x y=⟨((l.take y).drop x).toArray⟩:=by apply ByteArray.ext;apply lC;simp[ByteArray.data_extract,oh,jm]
theorem b8n{h:Array Obj}{ok:Nat->Ty->Prop}{t:Ty}(ht:t.isEnt=false){xs:List t.den}{ad:Option Addr}{cap:Nat}{x y:Nat}(hr:mJ h ok (.sl t) xs [.slice ad xs.length cap])(h1:x<=y)(h2:y<=xs.length):
  mJ h ok (.sl t) ((xs.take y).drop x) [.slice (if cap=x then ad else ad.map (·.add (x*t.size))) (y -x) (cap -x)]:=by
 obtain⟨ad',cap',e,hc,hel⟩:=(Eg ht).1 hr;simp only[I4,Value.slice.injEq,and_true,true_and]at e;obtain⟨rfl,rfl⟩:=e;have hl:((xs.take y).drop x).length=y -x:=by simp;omega
 refine(Eg ht).2 ⟨_,cap -x,by rw[hl],by rw[hl];omega,λi z hz=>?_⟩;have hi:i<y -x:=by rw[←hl];exact(X0.1 hz).1
 have hz' :xs[x+i]? =some z:=by
  simp only[P5,X6]at hz;split at hz
  .exact hz
  .cases hz
 obtain⟨blk,off,es,rfl,hb,he,hrp⟩:=hel _ z hz';have hne:cap≠x:=l9;refine⟨blk,off+x*t.size,es,by simp[hne,iU],hb,?_,hrp⟩;rw[←he];congr 1;rw[J4];omega
section
variable {X:Fx} {cl ch:Nat} {S:Sm} {m:Mp} {ok:Nat->Ty->Prop} {a:Act} {w:World} {o:Oper}
theorem yN{C:Cx}{d n:Int}{v:Option V}{u:Option Value}(h:EG d v=some n)(hr:(v=none/\u=none)\/∃c x,v=some c/\u=some x/\mD C c x):Bnd d u n:=by
 rcases hr with⟨rfl,rfl⟩|⟨c,x,rfl,rfl,hr⟩
 .simp[EG]at h;subst h;exact .inl ⟨rfl,rfl⟩
 .cases c<;>simp[EG]at h;subst h;exact .inr ⟨_,by rw[wO hr]⟩
theorem Kw(H:FxOk X)(R:Rel X cl ch S m ok a w){t:TypeId}{x:V}{u:Value}{lo hi:Option V}{lv hv:Option Value}(hx:mD ⟨w.heap,ok,m⟩ x u)
  (hlo:(lo=none/\lv=none)\/∃c y,lo=some c/\lv=some y/\mD ⟨w.heap,ok,m⟩ c y) (hhi:(hi=none/\hv=none)\/∃c y,hi=some c/\hv=some y/\mD ⟨w.heap,ok,m⟩ c y)
  {K:V->Cmd Unit} {Q:Unit->Sm->Prop} (hK:∀v z,mD ⟨w.heap,ok,m⟩ v z->(Instr.sliceAt t u lv hv none).run X.P w= .ok z w->(K v).post S Q):(WB X.E t x lo hi K).post S Q:=by
 unfold WB;cases x<;>try trivial
 case s l=>
  refine lX H λi hi' =>?_;have htd:=hi'.td;split<;>try trivial
  rename_i p q htd' hp hq;rw[htd']at htd;refine fZ λr hr=>?_;obtain⟨h0,h1,h2,rfl⟩:=a1h hr;have hb:=Jn (P:=X.P) (w:=w) (isS:=false) (cap:=l.length) (yN hp hlo) (yN hq hhi) h0 h1 h2 (F5 _);refine hK (.s _) (.string ⟨((l.take q.toNat).drop p.toNat).toArray⟩) rfl ?_;have hus:X.P.underlying t=some .string:=htd;have hs:(⟨l.toArray⟩:ByteArray).size=l.length:=rfl;simp[Instr.sliceAt,run_underlying hus,Instr.slice,PP hx,hs,hb,a0c]
 case sl v l=>
  dsimp only;split<;>try trivial
  rename_i n sz p q hsz hp hq;obtain⟨e,j,hut,hj,hjs⟩:=MM H hsz;refine dD λhbq=>fZ λr hr=>?_;obtain⟨hE0,hbq'⟩:=Gm hbq;obtain⟨h0,h1,h2,rfl⟩:=a1h hr;have hx' :mJ w.heap ok (.sl v) l [u]:=hx;obtain⟨ad,cap,hu,hc,_⟩:=(Eg hE0).1 hx';simp only[I4,and_true]at hu;subst hu;have hb:=Jn (P:=X.P) (w:=w) (isS:=true) (cap:=cap) (yN hp hlo) (yN hq hhi) h0 h1 h2 hc;refine hK (.sl v _) _ (b8n hE0 (x:=p.toNat) (y:=q.toNat) hx' l9 l9) ?_;simp[Instr.sliceAt,run_underlying hut,Instr.slice,hb,sD hj,hjs,hbq']
 case own bx vw=>
  cases vw with
  |some _=>trivial|none=>
  obtain⟨loc,hm,hview⟩:=hx;refine bf ?_;have key:∀{v:Ty} {xs:List v.den} {n sz:Nat} {p q:Int},arrOk ⟨w.heap,ok,m⟩ v xs loc->ML X.E t=some (false,n,sz)->EG 0 lo=some p->EG (o9 xs) hi=some q->
    (bif szB sz v then Cmd.br (pq p q (o9 xs)) (K (.own bx (some (U8 p,U8 q)))) .fail else .fail).post S Q:=λ{v xs n sz p q} ha hsz hp hq=>by
   obtain⟨e,j,hut,hj,hjs⟩:=MM H hsz;refine dD λhbq=>⟨λhr=>?_,λ_=>trivial⟩;obtain⟨hE0,hbq'⟩:=Gm hbq;have hr' :=of_decide_eq_true (show decide (0<=p/\p<=q/\q<=o9 xs)=true from hr);obtain⟨h0,h1,h2⟩:=hr';have h2' :q<=(xs.length:Int):=h2;cases loc with
   |st b=>cases ha|mp b=>exact absurd ha.1 (by simp[hE0])|nil=>
    obtain⟨ha,_⟩:=ha;subst ha;simp only[Loc.view]at hview;subst hview;have h2'' :q<=((0:Nat):Int):=by simpa using h2'
    have hb:=Jn (P:=X.P) (w:=w) (isS:=true) (len:=0) (cap:=0) (yN hp hlo) (by have:=yN hq hhi;simpa[o9]using this) h0 h1 h2'' (F5 _);have ep:p=0:=l9;have eq:q=0:=l9;subst ep;subst eq;refine hK (.own bx (some (U8 0,U8 0))) (.slice none 0 0) ⟨.nil,hm,rfl,rfl,rfl⟩ ?_;simp[Instr.sliceAt,run_underlying hut,Instr.slice,hb,sD hj]
   |arr blk off len cap sz' =>
    obtain⟨_,rfl,rfl,hc,_⟩:=ha;simp only[Loc.view]at hview;subst hview;have hb:=Jn (P:=X.P) (w:=w) (isS:=true) (cap:=cap) (yN hp hlo) (yN hq hhi) h0 h1 h2' hc;refine hK (.own bx (some (U8 p,U8 q))) _ ⟨_,hm,by unfold U8;omega,by unfold U8;omega,rfl⟩ ?_;have e1:(if cap=p.toNat then some (⟨blk,off,none⟩:Addr)else some ⟨blk,off+p.toNat*v.size,none⟩)=some (if cap=p.toNat then⟨blk,off,none⟩else⟨blk,off+p.toNat*v.size,none⟩):=by split<;>rfl
    simp[Instr.sliceAt,run_underlying hut,Instr.slice,hb,sD hj,hjs,hbq',iU,U8,e1];by_cases ecp:cap=p.toNat<;>simp[ecp]
  split<;>try trivial
  .rename_i v xs hS;obtain⟨loc',hm',ha⟩:=R.own_arr hS;simp only at hm;rw[hm]at hm';cases hm';split<;>try trivial
   rename_i n sz p q hsz hp hq;exact key ha hsz hp hq
  .rename_i v xs hS;obtain⟨loc',hm',ha,_⟩:=R.own_frz hS;simp only at hm;rw[hm]at hm';cases hm';split<;>try trivial
   rename_i n sz p q hsz hp hq;exact key ha hsz hp hq
theorem b1h(H:FxOk X)(R:Rel X cl ch S m ok a w){t:TypeId}{x:Operand}{lo hi:Option Operand}{q:Nat}(ho:o.op= .slice t x lo hi none)
  (hA:∀bx,lo=none->hi=none->mD ⟨w.heap,ok,m⟩ (.ptr bx 0) (a.eval x)->(F_ X.E (O7 q o.dst) t bx λr=>fF X.E o.dst r).post S (λ_ S' =>jr X cl ch o a w m ok S')):(bF X.E q o).post S (λ_ S' =>jr X cl ch o a w m ok S'):=by
 unfold bF;simp only[ho];refine aG R λv hv=>mV R _ λbs hbs=>?_;split<;>try trivial
 .split
  .exact hA _ rfl rfl hv
  refine Kw H R (lv:=none) (hv:=none) hv (.inl ⟨rfl,rfl⟩) (.inl ⟨rfl,rfl⟩) λr z hr hz=>aX H R hr ?_;simp[execOp,ho,hz]
 .rename_i l c;obtain⟨y,r,he,h1,h2⟩:=hbs;simp only[iW]at h2;subst h2;simp at he;subst he;refine Kw H R (lv:=some (a.eval l)) (hv:=none) hv (.inr ⟨_,_,rfl,rfl,h1⟩) (.inl ⟨rfl,rfl⟩) λr z hr hz=>aX H R hr ?_;simp[execOp,ho,hz]
 .rename_i h c;obtain⟨y,r,he,h1,h2⟩:=hbs;simp only[iW]at h2;subst h2;simp at he;subst he;refine Kw H R (lv:=none) (hv:=some (a.eval h)) hv (.inl ⟨rfl,rfl⟩) (.inr ⟨_,_,rfl,rfl,h1⟩) λr z hr hz=>aX H R hr ?_;simp[execOp,ho,hz]
 .rename_i l h c d;obtain⟨y,r,he,h1,y',r',he',h2,h3⟩:=hbs;simp only[iW]at h3;subst h3;subst he';simp at he;obtain⟨rfl,rfl⟩:=he;refine Kw H R (lv:=some (a.eval l)) (hv:=some (a.eval h)) hv (.inr ⟨_,_,rfl,rfl,h1⟩) (.inr ⟨_,_,rfl,rfl,h2⟩) λr z hr hz=>aX H R hr ?_;simp[execOp,ho,hz]
end
end Go.GP
namespace Go.GP
def fE(h:Array Obj)(ok:Nat->Ty->Prop)(t:Ty)(xs:List t.den)(cs:d5Z):Prop:=
 cs.length=xs.length*t.size/\∀i x,xs[i]? =some x->mJ h ok t x ((cs.drop (i*t.size)).take t.size)
variable {h:Array Obj}{ok:Nat->Ty->Prop}{t:Ty}
theorem fE.nil :fE h ok t [] []:=⟨A7,λi x hi=>by simp at hi⟩
theorem fE.append{xs ys:List t.den}{cs ds:d5Z}(hx:fE h ok t xs cs)(hy:fE h ok t ys ds):fE h ok t (xs++ys) (cs++ds):=by
 refine⟨by simp[hx.1,hy.1,J4],λi x hi=>?_⟩;by_cases hlt:i<xs.length
 .rw[O8 hlt]at hi;have h1:=hx.2 i x hi;have hle:(i+1)*t.size<=cs.length:=by rw[hx.1];exact H7 _ l9
  rw[J4,bi]at hle;rw[List.drop_append_of_le_length l9,ax X5];exact h1
 .rw[I7 l9]at hi;have h1:=hy.2 _ x hi;have hle:cs.length<=i*t.size:=by rw[hx.1];exact H7 _ l9
  rw[List.drop_append,dH hle,H8];have:i*t.size -cs.length=(i -xs.length)*t.size:=by rw[hx.1,Nat.sub_mul]
  rw[this];exact h1
variable {cs:d5Z}{x:t.den}
theorem fE.one(hr:mJ h ok t x cs):fE h ok t [x] cs:=by
 refine⟨by simp[gm hr],λi y hi=>?_⟩;have:i=0:=by have:=(X0.1 hi).1;simp at this;exact this
 subst this;simp at hi;subst hi;have:(List.drop (0*t.size) cs).take t.size=cs:=by simp[←gm hr]
 rw[this];exact hr
variable {xs:List t.den}
theorem fE.mono{h h' :Array Obj}{ok ok' :Nat->Ty->Prop}(hok:∀b t,ok b t->ok' b t)(hh:∀b t,ok b t->h'[b]? =h[b]?)(hr:fE h ok t xs cs):fE h' ok' t xs cs:=
 ⟨hr.1,λi x hi=>gp hok hh (hr.2 i x hi)⟩
theorem fE.rep_all{h:Array Obj}{ok:Nat->Ty->Prop}{t:Ty}{x:t.den}{cs:d5Z}(hr:mJ h ok t x cs):∀n,fE h ok t (List.replicate n x) ((List.replicate n cs).flatten)
 |0=>by simpa using fE.nil|n+1=>by have:=(fE.one hr).append (fE.rep_all hr n);simpa[lm]using this
theorem fE.one_cell{h:Array Obj}{ok:Nat->Ty->Prop}{t:Ty} :∀{xs:List t.den} {cs:d5Z},fE h ok t xs cs->∀v∈cs,v.oneCell' =true
 |[],cs,hr=>by have:=hr.1;simp at this;simp[this]|x::xs,cs,hr=>by
  intro v hv;have h0:=hr.2 0 x rfl;simp only[Nat.zero_mul,qF]at h0;have hl:=hr.1;simp only[H5,J4,bi]at hl;have hrest:fE h ok t xs (cs.drop t.size):=by refine⟨by simp;omega,λi y hi=>?_⟩;have:=hr.2 (i+1) y (by simpa using hi);rw[Z9];rwa[show t.size+i*t.size=(i+1)*t.size by rw[J4];omega]
  rw[←iR t.size cs]at hv;rcases F7.1 hv with hv|hv
  .exact zq h0 v hv
  .exact fE.one_cell hrest v hv
variable {blk:Nat}{off:Nat}{cap:Nat}{C:Cx}
theorem fE.arrOk(h0:t.isEnt=false)(hr:fE C.h C.ok t xs cs){c:Array Value}{T:TypeId}{f:Nat×Nat}(hb:C.h[blk]? =some (.cells c T f))(hz:fzo t c.size f)
  (hcap:xs.length<=cap) (hfit:off+cap*t.size<=c.size) (he:(c.toList.drop off).take (xs.length*t.size)=cs):Go.GP.arrOk C t xs (.arr blk off xs.length cap t.size):=by
 refine⟨h0,rfl,rfl,hcap,c,T,f,hb,hz,hfit,λi x hi=>?_⟩;have hlt:=(X0.1 hi).1;have hle:(i+1)*t.size<=xs.length*t.size:=H7 _ l9;rw[J4,bi]at hle;have hle2:xs.length*t.size<=cap*t.size:=H7 _ hcap;refine⟨_,lJ hb _ _ l9,?_⟩;have h1:=hr.2 i x hi;rw[←he,jm,iG,Z9]at h1;rwa[bg l9]at h1
theorem Vr{blk off len cap sz:Nat}(h:arrOk C t xs (.arr blk off len cap sz)):
  ∃c T f,C.h[blk]? =some (.cells c T f)/\fzo t c.size f/\sz=t.size/\len=xs.length/\len<=cap/\off+cap*sz<=c.size/\fE C.h C.ok t xs ((c.toList.drop off).take (len*sz)):=by
 obtain⟨_,rfl,rfl,h3,c,T,f,hb,hz,hf,hx⟩:=h;refine⟨c,T,f,hb,hz,rfl,rfl,h3,hf,?_,λi x hi=>?_⟩
 .have:xs.length*t.size<=cap*t.size:=H7 _ h3;simp;omega
 .obtain⟨es,he,hr⟩:=hx i x hi;obtain⟨c',T',f',hb',hn',rfl⟩:=uI he;rw[hb]at hb';cases hb';have hlt:=(X0.1 hi).1;have hle:(i+1)*t.size<=xs.length*t.size:=H7 _ l9;rw[J4,bi]at hle;rw[jm,iG,Z9,bg l9];exact hr
def zF(h:Array Obj)(ok:Nat->Ty->Prop)(m:M)(xs:List m.den)(cs:d5Z)(Os:List d6a):Prop:=
 cs.length=xs.length*m.size/\Os.length=xs.length/\∀i x,xs[i]? =some x->∃O,Os[i]? =some O/\qW h ok m none x ((cs.drop (i*m.size)).take m.size) O
theorem zF.nil{m:M} :zF h ok m [] [] []:=⟨A7,rfl,λi x hi=>by simp at hi⟩
theorem zF.append{t:M}{xs ys:List t.den}{cs ds:d5Z}{Os Ps:List d6a}(hx:zF h ok t xs cs Os)(hy:zF h ok t ys ds Ps):zF h ok t (xs++ys) (cs++ds) (Os++Ps):=by
 refine⟨by simp[hx.1,hy.1,J4],by simp[hx.2.1,hy.2.1],λi x hi=>?_⟩;by_cases hlt:i<xs.length
 .rw[O8 hlt]at hi;obtain⟨O,hO,h1⟩:=hx.2.2 i x hi;have hle:(i+1)*t.size<=cs.length:=by rw[hx.1];exact H7 _ l9
  rw[J4,bi]at hle;rw[List.drop_append_of_le_length l9,ax X5];exact⟨O,by rw[O8 (by rw[hx.2.1];exact hlt)];exact hO,h1⟩
 .rw[I7 l9]at hi;obtain⟨O,hO,h1⟩:=hy.2.2 _ x hi;have hle:cs.length<=i*t.size:=by rw[hx.1];exact H7 _ l9
  rw[List.drop_append,dH hle,H8];have:i*t.size -cs.length=(i -xs.length)*t.size:=by rw[hx.1,Nat.sub_mul]
  rw[this];exact⟨O,by rw[I7 (by rw[hx.2.1];omega),hx.2.1];exact hO,h1⟩
theorem zF.one{t:M}{x:t.den}{O:d6a}(hr:qW h ok t none x cs O):zF h ok t [x] cs [O]:=by
 refine⟨by simp[bZ hr],rfl,λi y hi=>?_⟩;have:i=0:=by have:=(X0.1 hi).1;simp at this;exact this
 subst this;simp at hi;subst hi;have:(List.drop (0*t.size) cs).take t.size=cs:=by simp[←bZ hr]
 rw[this];exact⟨O,rfl,hr⟩
variable {Os:List d6a}
theorem zF.mono{h h' :Array Obj}{ok ok' :Nat->Ty->Prop}{t:M}{xs:List t.den}(hok:∀b t,ok b t->ok' b t)(hh:∀b t,ok b t->h'[b]? =h[b]?)(hO:∀b∈Os.flatten,h'[b]? =h[b]?)(hr:zF h ok t xs cs Os):zF h' ok' t xs cs Os:=
 ⟨hr.1,hr.2.1,λi x hi=>by obtain⟨O,h1,h2⟩:=hr.2.2 i x hi;exact⟨O,h1,kZ hok hh (λb hb=>hO b (eQ.2 ⟨O,iZ h1,hb⟩)) h2⟩⟩
theorem zF.rep_all{h:Array Obj}{ok:Nat->Ty->Prop}{t:M}{x:t.den}{cs:d5Z}(hr:qW h ok t none x cs []):∀n,zF h ok t (List.replicate n x) ((List.replicate n cs).flatten) (List.replicate n [])
 |0=>by simpa using zF.nil|n+1=>by have:=(zF.one hr).append (zF.rep_all hr n);simpa[lm]using this
theorem zF.one_cell{h:Array Obj}{ok:Nat->Ty->Prop}{t:M} :∀{xs:List t.den} {cs:d5Z} {Os:List d6a},zF h ok t xs cs Os->∀v∈cs,v.oneCell' =true
 |[],cs,_,hr=>by have:=hr.1;simp at this;simp[this]|x::xs,cs,Os,hr=>by
  intro v hv;obtain⟨O,hO,h0⟩:=hr.2.2 0 x rfl;simp only[Nat.zero_mul,qF]at h0;have hl:=hr.1;simp only[H5,J4,bi]at hl;have hl2:=hr.2.1;simp only[H5]at hl2;have hrest:zF h ok t xs (cs.drop t.size) (Os.drop 1):=by refine⟨by simp;omega,by simp;omega,λi y hi=>?_⟩;obtain⟨O',hO',this⟩:=hr.2.2 (i+1) y (by simpa using hi);rw[Z9];refine⟨O',by rw[P5,Nat.add_comm];exact hO',?_⟩;rwa[show t.size+i*t.size=(i+1)*t.size by rw[J4];omega]
  rw[←iR t.size cs]at hv;rcases F7.1 hv with hv|hv
  .exact qJ h0 v hv
  .exact zF.one_cell hrest v hv
theorem zF.arrs{t:M}{xs:List t.den}(hr:zF h ok t xs cs Os){c:Array Value}{T:TypeId}(hb:h[blk]? =some (.cells c T (0,0)))
  (hcap:xs.length<=cap) (hfit:off+cap*t.size<=c.size) (he:(c.toList.drop off).take (xs.length*t.size)=cs):Gs h t.size (λ_ x es O=>qW h ok t none x es O) xs Os (.arr blk off xs.length cap t.size):=by
 refine⟨rfl,rfl,hcap,hr.2.1,c,T,hb,hfit,λi x hi=>?_⟩;have hlt:=(X0.1 hi).1;have hle:(i+1)*t.size<=xs.length*t.size:=H7 _ l9;rw[J4,bi]at hle;have hle2:xs.length*t.size<=cap*t.size:=H7 _ hcap;obtain⟨O,hO,h1⟩:=hr.2.2 i x hi;refine⟨_,O,hO,lJ hb _ _ l9,?_⟩;rw[←he,jm,iG,Z9]at h1;rwa[bg l9]at h1
theorem a3N{t:M}{xs:List t.den}{blk off len cap sz:Nat}(k:Gs h t.size (λ_ x es O=>qW h ok t none x es O) xs Os (.arr blk off len cap sz)):
  ∃c T,h[blk]? =some (.cells c T (0,0))/\sz=t.size/\len=xs.length/\len<=cap/\off+cap*sz<=c.size/\zF h ok t xs ((c.toList.drop off).take (len*sz)) Os:=by
 obtain⟨rfl,rfl,h3,h7,c,T,hb,hf,hx⟩:=k;refine⟨c,T,hb,rfl,rfl,h3,hf,?_,h7,λi x hi=>?_⟩
 .have:xs.length*t.size<=cap*t.size:=H7 _ h3;simp;omega
 .obtain⟨es,O,hO,he,hr⟩:=hx i x hi;obtain⟨c',T',f',hb',hn',rfl⟩:=uI he;rw[hb]at hb';cases hb';have hlt:=(X0.1 hi).1;have hle:(i+1)*t.size<=xs.length*t.size:=H7 _ l9;rw[J4,bi]at hle;rw[jm,iG,Z9,bg l9];exact⟨O,hO,hr⟩
theorem b2A{α β:Type}(e:α=β)(e' :List α=List β):cast e' []=[]:=by subst e;rfl
theorem a0a{h:Array Obj}{ok:Nat->Ty->Prop}{C:Cx} :∀(m:M) (he:m.el=true) {zs:List V} {cs r:d5Z},mJ h ok m.ty m.ty.zero cs->ig C zs (cs++r)->Xl m zs=true->qW h ok m none (m.zero he) cs []
 | .dat t,_,_,_,_,hr,_,_=>⟨hr,rfl⟩| .unit,_,_,_,_,hr,_,_=>⟨hr,rfl⟩| .own t,he,zs,cs,r,hr,hz,hn=>by
  have ht:t.isEnt=false:=by simpa[M.el]using he
  obtain⟨a,cap,rfl,_⟩:=(Eg ht).1 hr;unfold Xl at hn;split at hn
  .obtain⟨v,r',e,h1,_⟩:=hz;simp only[ae,H8,I4]at e;obtain⟨rfl,rfl⟩:=e;exact⟨_,rfl,rfl,.nil,h1,⟨rfl,ht⟩,rfl⟩
  .cases hn
 | .owns t,he,zs,cs,r,hr,hz,hn=>by
  obtain⟨a,cap,rfl,_⟩:=(Eg (M.ty_ent (m:=t) (by simpa[M.el]using he))).1 hr;unfold Xl at hn;split at hn
  .obtain⟨v,r',e,h1,_⟩:=hz;simp only[ae,H8,I4]at e;obtain⟨rfl,rfl⟩:=e;have he' :t.el=true:=by simpa[M.el]using he
   refine Df.2 ⟨he',.nil,_,[],rfl,h1,⟨?_,rfl⟩,rfl⟩;exact b2A (M.denEq t he').symm _
  .cases hn
 | .pair p q,he,zs,cs,r,hr,hz,hn=>by
  obtain⟨c,d,rfl,h1,h2⟩:=hr;have he' :p.el=true/\q.el=true:=by simpa[M.el]using he
  have hp:=gm h1;rw[M.ty_size he'.1]at hp;unfold Xl at hn;split at hn
  .rename_i r' hd;obtain⟨_,rfl⟩:=Za _ _ _ hd;cases hb:Xl p zs<;>rw[hb]at hn
   .cases hn
   .have a1:=a0a p he'.1 (r:=d++r) h1 (by simpa using hz) hb;have hz' :=wM p.size hz;rw[show(c++d++r).drop p.size=d++r by rw[←hp,F8,List.drop_left]]at hz';have a2:=a0a q he'.2 (r:=r) h2 hz' hn;refine⟨c,d,[],[],rfl,rfl,?_,?_⟩
    .have:=Vu (M.denEq p he'.1).symm (M.denEq q he'.2).symm (M.denEq (.pair p q) he).symm (p.ty.zero,q.ty.zero);exact(congrArg (λz:p.den×q.den=>qW h ok p none z.1 c []) this).mpr a1
    .have:=Vu (M.denEq p he'.1).symm (M.denEq q he'.2).symm (M.denEq (.pair p q) he).symm (p.ty.zero,q.ty.zero);exact(congrArg (λz:p.den×q.den=>qW h ok q none z.2 d []) this).mpr a2
  .cases hn
 | .box _,he,_,_,_,_,_,_=>by simp[M.el]at he| .ownb _,he,_,_,_,_,_,_=>by simp[M.el]at he| .cell _,he,_,_,_,_,_,_=>by simp[M.el]at he| .fr _,he,_,_,_,_,_,_=>by simp[M.el]at he| .sbx _ _,he,_,_,_,_,_,_=>by simp[M.el]at he| .lp _,he,_,_,_,_,_,_=>by simp[M.el]at he| .dv ..,he,_,_,_,_,_,_=>by simp[M.el]at he| .sit,he,_,_,_,_,_,_=>by simp[M.el]at he| .rp _,he,_,_,_,_,_,_=>by simp[M.el]at he| .fn _ _,he,_,_,_,_,_,_=>by simp[M.el]at he| .ifc _ _,he,_,_,_,_,_,_=>by simp[M.el]at he
theorem Pn(z:Array Value):∀n,(madeCells z (n*z.size)).toList=(List.replicate n z.toList).flatten:=by
 intro n;rcases jE z.size with h0|h0
 .have:z=#[]:=by simpa using h0
  subst this;simp[madeCells]
 induction n with
 |zero=>simp[madeCells]|succ n ih=>
  rw[List.replicate_succ',lh,←ih];simp only[madeCells,nU,Array.toList_range,List.flatten_cons,List.flatten_nil,G5];rw[J4,bi,List.range_add,gU,yD];congr 1;apply kW
  .simp
  .intro i h1 h2;simp at h1 h2;simp[Nat.mod_eq_of_lt h1,Nat.add_mod,h1,getElem!_pos]
theorem IM{E:Env}{t e:Nat}{u:Ty}(h:Gv E t=some (e,u)):u.isEnt=false:=by
 unfold Gv at h;split at h<;>try (cases h;done)
 split at h<;>try (cases h;done)
 split at h<;>try (cases h;done)
 split at h<;>try (cases h;done)
 rename_i u' _;cases hu:u'.isEnt
 .revert h;generalize (Nat.beq _ _&&Nat.ble _ _)=b;cases b<;>simp[hu];rintro _ rfl;exact hu
 .simp[hu]at h
theorem yR{X:Fx}(H:FxOk X){t e:Nat}{u:Ty}(h:Gv X.E t=some (e,u)):
  ∃j z inf,X.P.underlying t=some (.slice e)/\TiOk X.P e j/\X.P.info? e=some inf/\inf.size=u.size/\j.size=u.size/\inf.bytes<=65536/\inf.zero=some z/\mJ #[] (λ_ _=>False) u u.zero z.cells.toList:=by
 unfold Gv at h;cases hi:dW X.E.tt t with
 |none=>simp[hi]at h|some i=>
  have htd:=(H.tt t i hi).td;simp only[hi]at h;cases hd:i.td<;>simp only[hd]at h<;>try (simp at h;done)
  rename_i e';rw[hd]at htd;cases hj:dW X.E.tt e' with
  |none=>simp[hj]at h|some j=>
   simp only[hj]at h;cases hy:j.ty with
   |none=>simp[hy]at h|some u' =>
    simp only[hy]at h;cases hb:(Nat.beq u'.size j.size&&Nat.ble j.bytes 65536&&!u'.isEnt)
    .simp only[hb,cond_false]at h;cases h
    .simp only[hb,cond_true,F9,bQ]at h;obtain⟨rfl,rfl⟩:=h;simp only[A8]at hb;have h1:=iD hb.1.1;have h2:=Y4 hb.1.2;obtain⟨inf,a1,a2,a3,a4,a5⟩:=(H.tt e' j hj).info;obtain⟨b1,z,b2,b3⟩:=a5 u' hy;exact⟨j,z,inf,htd,H.tt _ _ hj,a1,l9,l9,l9,b2,b3⟩
variable {q:Nat}{w1:World}{T:d6a}
section
variable {X:Fx} {cl ch:Nat} {S:Sm} {m:Mp} {ok:Nat->Ty->Prop} {a:Act} {w:World} {o:Oper}
theorem a1z(h:mJ #[] (λ_ _=>False) t x cs):mJ C.h C.ok t x cs:=
 gp (λ_ _ h=>h.elim) (λ_ _ h=>h.elim) h
theorem IZ(H:FxOk X){v vv:V}{Q:Unit->Sm->Prop}
  (hK:∀n,n=O7 q o.dst->CB*q<=n->n+64<=CB*q+CB->S (ai+n)= .undef->(fF X.E o.dst vv).post (upd S (ai+n) v) Q):
  (yj (O7 q o.dst) v (fF X.E o.dst vv)).post S Q:=by
 refine tV λhn=>?_;cases hd:o.dst with
 |none=>have hin:=uG H (q:=q) none (λt h=>by cases h);rw[hd]at hn;have:=hK (O7 q none) (by rw[hd]) hin.1 hin.2 hn;rwa[hd]at this|some t=>
  cases hb:a1p X.E t with
  |false=>unfold fF;simp only[hb,cond_false];trivial|true=>have hin:=uG H (q:=q) (some t) (λt' h=>by cases h;exact(EY hb).1);rw[hd]at hn;have:=hK (O7 q (some t)) (by rw[hd]) hin.1 hin.2 hn;rwa[hd]at this
theorem b0U(H:FxOk X){v vv u:V}{Q:Unit->Sm->Prop}
  (hK:∀n,n=O7 q o.dst->CB*q<=n->n+64<=CB*q+CB->S (ai+n)= .undef->(Cmd.set (ai+(Sl+n)) u (fF X.E o.dst vv)).post (upd S (ai+n) v) Q):
  (yj (O7 q o.dst) v (.set (ai+(Sl+O7 q o.dst)) u (fF X.E o.dst vv))).post S Q:=by
 refine tV λhn=>?_;cases hd:o.dst with
 |none=>have hin:=uG H (q:=q) none (λt h=>by cases h);rw[hd]at hn;have:=hK (O7 q none) (by rw[hd]) hin.1 hin.2 hn;rwa[hd]at this|some t=>
  cases hb:a1p X.E t with
  |false=>refine jb ?_;unfold fF;simp only[hb,cond_false];trivial|true=>have hin:=uG H (q:=q) (some t) (λt' h=>by cases h;exact(EY hb).1);rw[hd]at hn;have:=hK (O7 q (some t)) (by rw[hd]) hin.1 hin.2 hn;rwa[hd]at this
theorem a6Z(R:Rel X cl ch S m ok a w)(hos:w1.os=w.os)(htp:w1.tape=w.tape)(hout:w1.output=w.output)(hh:w1.heap=w.heap)
  {u:Ty} (ht:u.isEnt=false) {xs:List u.den} {cs:d5Z} {e:TypeId} {c:Array Value} {cap n:Nat} (hr:fE w.heap ok u xs cs)
  (hcap:xs.length<=cap) (hfit:cap*u.size<=c.size) (he:c.toList.take (xs.length*u.size)=cs) (hcl:cl<=n) (hch:n<ch) (hn:S (ai+n)= .undef) {f:Nat×Nat} (hz:fzo u c.size f):
  Rel X cl ch (upd S (ai+n) (.barr u xs)) (oz m n (.arr w.heap.size 0 xs.length cap u.size) []) ok a (w1.alloc (.cells c e f)):=by
 have R1:Rel X cl ch S m ok a w1:=R.same hos htp hout hh;have hblk:(w1.alloc (.cells c e f)).heap[w.heap.size]? =some (.cells c e f):=by rw[←hh];exact heap_alloc_new w1 _
 refine R1.new hn hcl hch A7 (by simp[V9,hh]) ⟨_,aQ _ _ _ _,?_⟩;refine fE.arrOk (cs:=cs) ht (hr.mono (λ_ _ h=>h) (λb t hb=>?_)) hblk hz hcap l9 (by simpa using he);have:=R.okLt b t hb;show(w1.heap.push (.cells c e f))[b]? =_;rw[hh];exact AU _ _ this
theorem QF(H:FxOk X)(R:Rel X (CB*q) (CB*q+CB) S m ok a w)(hos:w1.os=w.os)(htp:w1.tape=w.tape)(hout:w1.output=w.output)(hh:w1.heap=w.heap)
  {u:Ty} (ht:u.isEnt=false) {xs:List u.den} {cs:d5Z} {e:TypeId} {c:Array Value} {cap:Nat} (hr:fE w.heap ok u xs cs)
  (hcap:xs.length<=cap) (hfit:cap*u.size<=c.size) (he:c.toList.take (xs.length*u.size)=cs) {w0:World} {m0:Mp} {ok0:Nat->Ty->Prop} (hm:∀k l,m0 k=some l->m k=some l) (hok:∀b t,ok0 b t->ok b t)
  {f:Nat×Nat} (hz:fzo u c.size f)
  (run:(execOp a.eval o).run X.P w0= .ok (.value (.slice (some ⟨w.heap.size,0,none⟩) xs.length cap)) (w1.alloc (.cells c e f))):
  (yj (O7 q o.dst) (.barr u xs) (fF X.E o.dst (.own (O7 q o.dst) none))).post S (λ_ S' =>jr X (CB*q) (CB*q+CB) o a w0 m0 ok0 S'):=by
 refine IZ H λn e1 h1 h2 hn=>?_;rw[←e1];clear e1;generalize CB*q=Z at*;have R' :=a6Z R hos htp hout hh ht (e:=e) hr hcap hfit he h1 (by show n<Z+1000000;change n+64<=Z+1000000 at h2;omega) hn hz;refine uJ H R' (λk l h=>?_) hok ⟨_,aQ _ _ _ _,rfl⟩ run;by_cases ek:k=n
 .subst ek;have:=R.fresh k h1 hn;have h3:=hm _ _ h;rw[this]at h3;cases h3
 .rw[jS _ _ _ ek];exact hm _ _ h
theorem Xj(R:Rel X cl ch S m ok a w)(hT:Tk X S m ok w T)(hos:w1.os=w.os)(htp:w1.tape=w.tape)(hout:w1.output=w.output)(hh:w1.heap=w.heap)
  {md:M} (hel:md.el=true) {xs:List md.den} {cs:d5Z} {Os:List d6a} {e:TypeId} {c:Array Value} {cap n:Nat} (hr:zF w.heap ok md xs cs Os) (hnd:Os.flatten.Nodup) (hO:∀b∈Os.flatten,b∈T)
  (hcap:xs.length<=cap) (hfit:cap*md.size<=c.size) (he:c.toList.take (xs.length*md.size)=cs) (hcl:cl<=n) (hch:n<ch) (hn:S (ai+n)= .undef):
  Rel X cl ch (upd S (ai+n) (.barrs md xs none)) (oz m n (.arr w.heap.size 0 xs.length cap md.size) Os.flatten) ok a (w1.alloc (.cells c e)):=by
 have R1:Rel X cl ch S m ok a w1:=R.same hos htp hout hh;have T1:Tk X S m ok w1 T:=⟨hT.nodup,λb hb=>by rw[hh];exact hT.free b hb⟩;have hblk:(w1.alloc (.cells c e)).heap[w.heap.size]? =some (.cells c e (0,0)):=by rw[←hh];exact heap_alloc_new w1 _
 have hold:∀b,b<w.heap.size->(w1.alloc (.cells c e)).heap[b]? =w.heap[b]?:=λb hb=>by show(w1.heap.push (.cells c e))[b]? =_;rw[hh];exact AU _ _ hb
 refine R1.newK T1 hn hcl hch A7 (by simp[V9,hh]) hnd hO ⟨hel,_,Os,aQ _ _ _ _,?_,A7⟩;exact⟨zF.arrs (cs:=cs) (hr.mono (λ_ _ h=>h) (λb t hb=>hold b (R.okLt b t hb)) (λb hb=>hold b (hT.free b (hO b hb)).2.1)) hblk hcap l9 (by simpa using he),trivial⟩
theorem ZL(H:FxOk X)(R:Rel X (CB*q) (CB*q+CB) S m ok a w)(hT:Tk X S m ok w T)(hos:w1.os=w.os)(htp:w1.tape=w.tape)(hout:w1.output=w.output)(hh:w1.heap=w.heap)
  {md:M} (hel:md.el=true) {xs:List md.den} {cs:d5Z} {Os:List d6a} {e:TypeId} {c:Array Value} {cap:Nat} (hr:zF w.heap ok md xs cs Os) (hnd:Os.flatten.Nodup) (hO:∀b∈Os.flatten,b∈T)
  (hcap:xs.length<=cap) (hfit:cap*md.size<=c.size) (he:c.toList.take (xs.length*md.size)=cs) {w0:World} {m0:Mp} {ok0:Nat->Ty->Prop} (hm:∀k l,m0 k=some l->m k=some l) (hok:∀b t,ok0 b t->ok b t)
  (run:(execOp a.eval o).run X.P w0= .ok (.value (.slice (some ⟨w.heap.size,0,none⟩) xs.length cap)) (w1.alloc (.cells c e))):
  (yj (O7 q o.dst) (.barrs md xs none) (fF X.E o.dst (.own (O7 q o.dst) none))).post S (λ_ S' =>jr X (CB*q) (CB*q+CB) o a w0 m0 ok0 S'):=by
 refine IZ H λn e1 h1 h2 hn=>?_;rw[←e1];clear e1;generalize CB*q=Z at*;have R' :=Xj R hT hos htp hout hh (e:=e) hel hr hnd hO hcap hfit he h1 (by show n<Z+1000000;change n+64<=Z+1000000 at h2;omega) hn;refine uJ H R' (λk l h=>?_) hok ⟨_,aQ _ _ _ _,rfl⟩ run;by_cases ek:k=n
 .subst ek;have:=R.fresh k h1 hn;have h3:=hm _ _ h;rw[this]at h3;cases h3
 .rw[jS _ _ _ ek];exact hm _ _ h
theorem a4M(H:FxOk X)(R:Rel X (CB*q) (CB*q+CB) S m ok a w)(hT:Tk X S m ok w T)(hos:w1.os=w.os)(htp:w1.tape=w.tape)(hout:w1.output=w.output)(hh:w1.heap=w.heap)
  {md:M} (hel:md.el=true) {xs:List md.den} {cs:d5Z} {Os:List d6a} {e:TypeId} {c:Array Value} {cap:Nat} (hr:zF w.heap ok md xs cs Os) (hnd:Os.flatten.Nodup) (hO:∀b∈Os.flatten,b∈T)
  (hcap:xs.length<=cap) (hfit:cap*md.size<=c.size) (he:c.toList.take (xs.length*md.size)=cs) {w0:World} {m0:Mp} {ok0:Nat->Ty->Prop} (hm:∀k l,m0 k=some l->m k=some l) (hok:∀b t,ok0 b t->ok b t)
  (run:(execOp a.eval o).run X.P w0= .ok (.value (.slice (some ⟨w.heap.size,0,none⟩) xs.length cap)) (w1.alloc (.cells c e))):
  (yj (O7 q o.dst) (.barrs md xs none) (.set (ai+(Sl+O7 q o.dst)) (.blen (o9 xs) md.size) (fF X.E o.dst (.own (O7 q o.dst) none)))).post S (λ_ S' =>jr X (CB*q) (CB*q+CB) o a w0 m0 ok0 S'):=by
 refine b0U H λn e1 h1 h2 hn=>?_;refine jb ?_;rw[←e1];clear e1;generalize CB*q=Z at*;have R' :=Xj R hT hos htp hout hh (e:=e) hel hr hnd hO hcap hfit he h1 (by show n<Z+1000000;change n+64<=Z+1000000 at h2;omega) hn;refine uJ H (R'.mark (lZ _ _ _)) (λk l h=>?_) hok ⟨_,aQ _ _ _ _,rfl⟩ run;by_cases ek:k=n
 .subst ek;have:=R.fresh k h1 hn;have h3:=hm _ _ h;rw[this]at h3;cases h3
 .rw[jS _ _ _ ek];exact hm _ _ h
theorem a2z(H:FxOk X)(R:Rel X (CB*q) (CB*q+CB) S m ok a w){t:TypeId}{l c:Operand}(ho:o.op= .makeSlice t l c):(bF X.E q o).post S (λ_ S' =>jr X (CB*q) (CB*q+CB) o a w m ok S'):=by
 unfold bF;simp only[ho];split
 .rename_i md hom;split<;>try trivial
  rename_i e u het;obtain⟨j,z,inf,hu,hj,h1,h2,h3,h4,h5,h6⟩:=yR H het;have hz:=gm h6;refine aG R λv hv=>?_;split<;>try trivial
  rename_i k n;refine dL λhc=>?_;simp only[A8]at hc;obtain⟨⟨hs,hsz⟩,hza⟩:=hc;split<;>try trivial
  rename_i hel;obtain⟨hel,rfl⟩:=hel;refine fZ λxs hxs=>?_;have hec:a.eval c=a.eval l:=by
   unfold C_ at hs;split at hs
   .have:=iD hs;subst this;rfl
   .cases hs
  unfold qo at hxs;split at hxs
  .rename_i hh;cases hxs;have e1:=wO hv;have e2:=hec.trans e1;have hms:=M.ty_size hel;have hby:(inf.bytes:Int)*n<=65536*1073741824:=by
    have:inf.bytes*n.toNat<=65536*1073741824:=Nat.mul_le_mul h4 l9;have e:(n.toNat:Int)=n:=l9;rw[←e,←uj];generalize inf.bytes*n.toNat=p at*;omega
   have hrun:=run_make (P:=X.P) w t e inf z hu h1 h5 k k n n hh.1 (iM _) l9 l9;have hflat:=Pn z.cells n.toNat
   have hzs:z.cells.size=md.ty.size:=by simpa using hz
   have hzero:qW w.heap ok md none (md.zero hel) z.cells.toList []:=by
    unfold b0e at hza;rw[het]at hza;simp only at hza;cases hj2:dW X.E.tt e with
    |none=>rw[hj2]at hza;cases hza|some j2=>
     rw[hj2]at hza;simp only at hza;cases hb:Nat.beq j2.zero.length j2.size<;>rw[hb]at hza
     .cases hza
     .obtain⟨inf2,a1,a2,a3,a4,a5⟩:=(H.tt e j2 hj2).info;rw[h1]at a1;cases a1;obtain⟨z2,b1,b2⟩:=a4 (iD hb);rw[h5]at b1;cases b1;exact a0a md hel (r:=[]) (a1z (C:=⟨w.heap,ok,m⟩) h6) (by simpa using b2) hza
   refine a4M H R (T:=[]) Tk.nil rfl rfl rfl rfl (cs:=(List.replicate n.toNat z.cells.toList).flatten) (c:=madeCells z.cells (n.toNat*inf.size)) (cap:=n.toNat) (e:=e) hel (zF.rep_all hzero _) A7 A7 A7 (by simp[size_madeCells,h2,hms]) ?_ (λ_ _ h=>h) (λ_ _ h=>h) (w1:=w) ?_
   .rw[h2,←hzs,hflat];rw[S9 (by simp[List.length_flatten,hzs,hms])]
   .simp[execOp,ho,e1,e2,hrun]
  .cases hxs
 split<;>try trivial
 rename_i e u het;obtain⟨j,z,inf,hu,hj,h1,h2,h3,h4,h5,h6⟩:=yR H het;have hz:=gm h6;have key:∀{k k' :IntKind} {n n' :Int},a.eval l= .int k n->a.eval c= .int k' n' ->0<=n->n<=n' ->n' <=1073741824->
   (yj (O7 q o.dst) (.barr u (List.replicate n.toNat u.zero)) (fF X.E o.dst (.own (O7 q o.dst) none))).post S (λ_ S' =>jr X (CB*q) (CB*q+CB) o a w m ok S'):=λ{k k' n n'} e1 e2 g0 g1 g2=>by
  have hby:(inf.bytes:Int)*n' <=65536*1073741824:=by have:inf.bytes*n'.toNat<=65536*1073741824:=Nat.mul_le_mul h4 l9;have e:(n'.toNat:Int)=n' :=l9;rw[←e,←uj];generalize inf.bytes*n'.toNat=p at*;omega
  have hrun:=run_make (P:=X.P) w t e inf z hu h1 h5 k k' n n' g0 g1 l9 l9;have hflat:=Pn z.cells n'.toNat
  have hzs:z.cells.size=u.size:=by simpa using hz
  refine QF H R rfl rfl rfl rfl (IM het) (cs:=(List.replicate n.toNat z.cells.toList).flatten) (c:=madeCells z.cells (n'.toNat*inf.size)) (cap:=n'.toNat) (e:=e) (fE.rep_all (a1z (C:=⟨w.heap,ok,m⟩) h6) _) X5 (by simp[size_madeCells,h2]) ?_ (λ_ _ h=>h) (λ_ _ h=>h) (w1:=w) (.inl rfl) ?_
  .rw[h2,←hzs,hflat];have:n'.toNat=n.toNat+(n'.toNat -n.toNat):=l9;rw[this,←List.replicate_append_replicate,lh,ax (by simp[List.length_flatten]),S9 (by simp[List.length_flatten])]
  .simp[execOp,ho,e1,e2,hrun]
 refine aG R λv hv=>?_;split<;>try trivial
 rename_i k n;cases hs:C_ l c
 .simp only[cond_false];refine aG R λv' hv' =>?_;split<;>try trivial
  rename_i k' n';refine⟨λhr=>fZ λxs hxs=>?_,λ_=>trivial⟩;have hr' :=of_decide_eq_true (show decide (0<=n/\n<=n' /\n' <=1073741824)=true from hr);unfold qo at hxs;split at hxs
  .cases hxs;exact key (wO hv) (wO hv') hr'.1 hr'.2.1 hr'.2.2
  .cases hxs
 .simp only[cond_true];refine fZ λxs hxs=>?_;have hec:a.eval c=a.eval l:=by
   unfold C_ at hs;split at hs
   .have:=iD hs;subst this;rfl
   .cases hs
  unfold qo at hxs;split at hxs
  .rename_i hh;cases hxs;exact key (wO hv) (hec.trans (wO hv)) hh.1 (iM _) hh.2
  .cases hxs
end
end Go.GP
namespace Go.GP
theorem Lt:∀(vs:d5Z) (k off:Nat) (cs:Array Value),off+k+vs.length<=cs.size->
  (vs.zipIdx k).foldl (λcs (x:Value×Nat)=>cs.setIfInBounds (off+x.2) x.1) cs=(aY (off+k) vs cs.toList).toArray
 |[],k,off,cs,h=>by simp[aY]|v::vs,k,off,cs,h=>by
  simp only[List.zipIdx_cons,J9];rw[Lt vs (k+1) off (cs.setIfInBounds (off+k) v) (by simp only[H5]at h;rw[Array.size_setIfInBounds];omega)];congr 1;simp only[H5]at h;have hsz:cs.toList.length=cs.size:=rfl;apply dR;intro i;rw[uY (by rw[nK,um];omega),uY (by rw[H5];omega)];simp only[nK,H5,P6];by_cases h1:i<off+k
  .rw[if_pos (show i<off+(k+1) by omega),if_pos h1,if_neg (show ¬off+k=i by omega)]
  .rw[if_neg h1];by_cases h2:i=off+k
   .subst h2;rw[if_pos (show off+k<off+(k+1) by omega),if_pos rfl,if_pos (show off+k<cs.toList.length by omega),if_pos (show off+k<off+k+(vs.length+1) by omega)];simp
   .rw[if_neg (show ¬i<off+(k+1) by omega)];by_cases h3:i<off+(k+1)+vs.length
    .rw[if_pos h3,if_pos (show i<off+k+(vs.length+1) by omega)];rw[show i -(off+k)=(i -(off+(k+1)))+1 by omega];simp
    .rw[if_neg h3,if_neg (show ¬i<off+k+(vs.length+1) by omega),if_neg (show ¬off+k=i by omega)]
theorem a3z(v:Value)(off:Nat)(cs:Array Value)(h:off+v.cells.size<=cs.size):
  v.cells.zipIdx.foldl (λcs (c,j)=>cs.setIfInBounds (off+j) c) cs=(aY off v.cells.toList cs.toList).toArray:=by
 have:=Lt v.cells.toList 0 off cs (by simpa using h);rw[aB]at this;rw[←this,←Array.foldl_toList,Array.toList_zipIdx]
theorem VE{place:Nat->Option (Nat×Nat)}{cs:Array Value}{i off size:Nat}{v:Value}{rest:List (Nat×Value)}(hp:place i=some (off,size))(hs:v.cells.size=size)(hf:off+v.cells.size<=cs.size):
  Instr.fill place cs ((i,v)::rest)=Instr.fill place (aY off v.cells.toList cs.toList).toArray rest:=by
 have h2:¬(v.cells.size≠size\/off+v.cells.size>cs.size):=l9;simp only[Instr.fill,hp];rw[if_neg (by simpa using h2),a3z v off cs hf]
theorem Zh{size:Nat} :∀(vs:d5Z) (n:Nat) (cs:Array Value),(∀v∈vs,v.cells.size=size)->cs.size=(n+vs.length)*size->
  Instr.fill (λi=>some (i*size,size)) cs ((List.range' n vs.length).zip vs)=some (cs.toList.take (n*size)++vs.flatMap (λv=>v.cells.toList)).toArray
 |[],n,cs,_,h=>by simp only[dX,aB]at h;have:cs.toList.take (n*size)=cs.toList:=S9 (by rw[←h];exact F5 _);simp[Instr.fill,this]|v::vs,n,cs,hv,h=>by
  have h1:=hv v A7;simp only[H5]at h;have e1:(n+(vs.length+1))*size=n*size+size+vs.length*size:=by rw[J4,J4];omega
  simp only[H5,nY,di];rw[VE (off:=n*size) (size:=size) rfl h1 l9];rw[Zh vs (n+1) _ (λu hu=>hv u (by simp[hu])) (by have:=yg (p:=n*size) (us:=v.cells.toList) (L:=cs.toList) X5;simp only[dV,this];rw[J4,J4];simp;omega)]
  congr 2;simp only[qP];rw[←F8];congr 1;unfold aY;have hsz:cs.toList.length=cs.size:=rfl;have h1' :v.cells.toList.length=size:=h1;rw[J4,bi,ax (by rw[E5,Y9,h1'];omega)];rw[S9 (by rw[E5,Y9,h1'];omega)]
theorem PY{P:Program}{w:World}{t e:TypeId}{inf:TypeInfo}{z:Value}{n sz:Nat}{parts:Array (Nat×Value)}{F:Array Value}(hu:P.underlying t=some (.slice e))(hi:P.info? e=some inf)(hs:inf.size=sz)(hz:inf.zero=some z)
  (hle:n*sz<=16777216) (hf:∀cs:Array Value,cs.size=n*sz->Instr.fill (λi=>some (i*sz,sz)) cs parts.toList=some F):
  (Instr.buildSlice t n parts).run P w= .ok (.slice (some ⟨w.heap.size,0,none⟩) n n) (w.alloc (.cells F e)):=by
 subst hs;have hsz:(sizeOf e).run P w= .ok inf.size w:=by simp[sizeOf,typeInfo,hi]
 have hnle:¬(n*inf.size>2^24):=by show ¬(n*inf.size>16777216);omega
 unfold Instr.buildSlice;simp only[H6,run_underlying hu,I5,hsz,if_neg hnle];generalize n*inf.size=N at*;have fin:∀zero:Array Value,((match Instr.fill (λi=>some (i*inf.size,inf.size)) ((Array.range N).map (zero[·% zero.size]!)) parts.toList with
   |some cells=>(do pure (Value.slice (some (←newRow e cells)) n n):Sem Value)
   |_=>stuck "buildSlice: a part of the wrong size"):Sem Value).run P w= .ok (.slice (some ⟨w.heap.size,0,none⟩) n n) (w.alloc (.cells F e)):=λzero=>by
  rw[hf _ A7];simp[newRow]
 by_cases hn:N=0
 .rw[if_pos hn];simp only[H6,Y7,I5];exact fin _
 .rw[if_neg hn];have hzv:(zeroValue e).run P w= .ok z w:=by simp[zeroValue,typeInfo,hi,hz]
  simp only[H6,hzv,Y7,I5];exact fin _
variable {t:TypeId}
section
variable {X:Fx} {cl ch:Nat} {S:Sm} {m:Mp} {ok:Nat->Ty->Prop} {a:Act} {w:World} {o:Oper}
theorem NU{α:Type}{Q:α->Sm->Prop}(u:Ty):∀(is:d6a) (vs:List V) {us:d5Z} (n k:Nat) {K:List u.den->Cmd α} {S:Sm} {ok:Nat->Ty->Prop} (R:Rel X cl ch S m ok a w) (hl:is.length=us.length)
  (hv:iW ⟨w.heap,ok,m⟩ vs us)
  (hK:∀S' ok' xs,Rel X cl ch S' m ok' a w->(∀b t,ok b t->ok' b t)->us.length=k->is=List.range' n us.length->(∀v∈us,v.cells.size=u.size)->xs.length=us.length->fE w.heap ok' u xs (us.flatMap λv=>v.cells.toList)->(K xs).post S' Q),
  (BV u (is.zip vs) n k K).post S Q
 |[],vs,us,n,k,K,S,ok,R,hl,hv,hK=>by
  have:us=[]:=by cases us<;>simp at hl ⊢
  subst this;simp only[qR];cases k with
  |zero=>unfold BV;exact hK S ok [] R (λ_ _ h=>h) rfl rfl A7 rfl fE.nil|succ k=>unfold BV;trivial
 |i::is,vs,us,n,k,K,S,ok,R,hl,hv,hK=>by
  cases us with
  |nil=>simp at hl|cons x us=>
  cases vs with
  |nil=>simp[iW]at hv|cons v vs=>
  obtain⟨x',r,e,h1,h2⟩:=hv;simp only[I4]at e;obtain⟨rfl,rfl⟩:=e;simp only[di];cases k with
  |zero=>unfold BV;trivial|succ k=>
  unfold BV;refine dD λhi=>wS h1 λcs hcs=>?_;have hi' :=iD hi;subst hi';refine IC (T:=[]) u R Tk.nil hcs λS1 ok1 y q ws ws' R1 T1 k1 s1 e1 g1 l1=>?_;cases q with
  |cons _ _=>trivial|nil=>
  simp only[ig]at l1;subst l1;simp only[G5]at e1;refine NU u is vs (i+1) k R1 (by simpa using hl) (PQ k1 h2) λS2 ok2 ys R2 k2 c1 c2 c3 c4 c5=>?_;refine hK S2 ok2 (y::ys) R2 (λb t h=>k2 b t (k1 b t h)) (by simp[c1]) ?_ ?_ (by simp[c4]) ?_
  .simp[nY,c2]
  .intro z hz;rcases D5.1 hz with rfl|hz
   .have:=gm g1;rw[←e1]at this;simpa using this
   .exact c3 z hz
  .have:=(fE.one (gp k2 (λ_ _ _=>rfl) g1)).append c5;simpa[e1]using this
theorem Le{α:Type}{Q:α->Sm->Prop}(md:M):∀(is:d6a) (vs:List V) {us:d5Z} (n k:Nat) {K:List md.den->Cmd α} {S:Sm} {ok:Nat->Ty->Prop} {T:d6a} (R:Rel X cl ch S m ok a w) (hT:Tk X S m ok w T) (hl:is.length=us.length)
  (hv:iW ⟨w.heap,ok,m⟩ vs us)
  (hK:∀S' ok' xs Os,Rel X cl ch S' m ok' a w->Tk X S' m ok' w (T++Os.flatten)->(∀b t,ok b t->ok' b t)->us.length=k->is=List.range' n us.length->(∀v∈us,v.cells.size=md.size)->xs.length=us.length->zF w.heap ok' md xs (us.flatMap λv=>v.cells.toList) Os->(K xs).post S' Q),
  (yO md (is.zip vs) n k K).post S Q
 |[],vs,us,n,k,K,S,ok,T,R,hT,hl,hv,hK=>by
  have:us=[]:=by cases us<;>simp at hl ⊢
  subst this;simp only[qR];cases k with
  |zero=>unfold yO;exact hK S ok [] [] R (by simpa using hT) (λ_ _ h=>h) rfl rfl A7 rfl zF.nil|succ k=>unfold yO;trivial
 |i::is,vs,us,n,k,K,S,ok,T,R,hT,hl,hv,hK=>by
  cases us with
  |nil=>simp at hl|cons x us=>
  cases vs with
  |nil=>simp[iW]at hv|cons v vs=>
  obtain⟨x',r,e,h1,h2⟩:=hv;simp only[I4]at e;obtain⟨rfl,rfl⟩:=e;simp only[di];cases k with
  |zero=>unfold yO;trivial|succ k=>
  unfold yO;refine dL λhi=>wS h1 λcs hcs=>?_;have hi' :=iD hi;subst hi';refine IQ md R hT hcs λS1 ok1 y q ws ws' O R1 T1 k1 s1 e1 g1 l1=>?_;cases q with
  |cons _ _=>trivial|nil=>
  simp only[ig]at l1;subst l1;simp only[G5]at e1;refine Le md is vs (i+1) k R1 T1 (by simpa using hl) (PQ k1 h2) λS2 ok2 ys Os R2 T2 k2 c1 c2 c3 c4 c5=>?_;refine hK S2 ok2 (y::ys) (O::Os) R2 (by simpa[F8]using T2) (λb t h=>k2 b t (k1 b t h)) (by simp[c1]) ?_ ?_ (by simp[c4]) ?_
  .simp[nY,c2]
  .intro z hz;rcases D5.1 hz with rfl|hz
   .have:=bZ g1;rw[←e1]at this;simpa using this
   .exact c3 z hz
  .have:=(zF.one (kZ k2 (λ_ _ _=>rfl) (λ_ _=>rfl) g1)).append c5;simpa[e1]using this
theorem a0o(H:FxOk X){q:Nat}(R:Rel X (CB*q) (CB*q+CB) S m ok a w){n:Nat}{ps:Array (Nat×Operand)}(ho:o.op= .buildSlice t n ps):(bF X.E q o).post S (λ_ S' =>jr X (CB*q) (CB*q+CB) o a w m ok S'):=by
 unfold bF;simp only[ho];split<;>try trivial
 rename_i e u het;obtain⟨j,z,inf,hu,hj,h1,h2,h3,h4,h5,h6⟩:=yR H het;have hz:=gm h6;refine dD λhle=>mV R _ λvs hvs=>?_;have hle' :n*u.size<=16777216:=Y4 hle;split
 rotate_left
 .rename_i md hom;refine dL λhc=>?_;simp only[A8]at hc;have hms:=iD hc.1;refine Le md _ vs 0 n (T:=[]) R Tk.nil A7 hvs λS' ok' xs Os R' T' k c1 c2 c3 c4 c5=>?_;rw[H8]at T';simp only[X4]at c1 c2;have hparts:(ps.map λ(i,x)=>(i,a.eval x)).toList=(List.range' 0 ((ps.toList.map (·.2)).map a.eval).length).zip ((ps.toList.map (·.2)).map a.eval):=by
   simp only[X4];rw[←c2];simp[List.zip_map',List.zip_map,nU,qN]
  have hxl:xs.length=n:=by rw[c4];simpa using c1
  have hflat:=c5.1;have hcl:((ps.toList.map (·.2)).map a.eval).length=n:=by simpa using c1
  have hfill:∀cs:Array Value,cs.size=n*u.size->Instr.fill (λi=>some (i*u.size,u.size)) cs (ps.map λ(i,x)=>(i,a.eval x)).toList=some ((((ps.toList.map (·.2)).map a.eval).flatMap λv=>v.cells.toList)).toArray:=λcs hcs=>by rw[hparts,Zh _ 0 cs (by rw[←hms];exact c3) (by rw[hcl,hcs];simp)];simp
  refine ZL (w1:=w) (e:=e) (cap:=xs.length) H R' T' rfl rfl rfl rfl hc.2 c5 T'.nodup (λ_ h=>h) (F5 _) (by rw[←hflat];simp) (c:=((((ps.toList.map (·.2)).map a.eval).flatMap λv=>v.cells.toList)).toArray) (S9 (by rw[hflat];exact F5 _)) (λ_ _ h=>h) k ?_;have hrun:=PY (w:=w) (n:=n) hu h1 h2 h5 hle' hfill;simp only[execOp,ho,H6,hrun,I5,Y7,hxl]
 refine NU u _ vs 0 n R A7 hvs λS' ok' xs R' k c1 c2 c3 c4 c5=>?_;have hsz:(sizeOf e).run X.P w= .ok u.size w:=by simp[sizeOf,typeInfo,h1,h2]
 simp only[X4]at c1 c2;have hparts:(ps.map λ(i,x)=>(i,a.eval x)).toList=(List.range' 0 ((ps.toList.map (·.2)).map a.eval).length).zip ((ps.toList.map (·.2)).map a.eval):=by simp only[X4];rw[←c2];simp[List.zip_map',List.zip_map,nU,qN]
 have hxl:xs.length=n:=by rw[c4];simpa using c1
 have hflat:=c5.1;have hcl:((ps.toList.map (·.2)).map a.eval).length=n:=by simpa using c1
 have hfill:∀cs:Array Value,cs.size=n*u.size->Instr.fill (λi=>some (i*u.size,u.size)) cs (ps.map λ(i,x)=>(i,a.eval x)).toList=some ((((ps.toList.map (·.2)).map a.eval).flatMap λv=>v.cells.toList)).toArray:=λcs hcs=>by rw[hparts,Zh _ 0 cs c3 (by rw[hcl,hcs];simp)];simp
 refine QF (w1:=w) (e:=e) (cap:=xs.length) H R' rfl rfl rfl rfl (IM het) c5 (F5 _) (by rw[←hflat];simp) (c:=((((ps.toList.map (·.2)).map a.eval).flatMap λv=>v.cells.toList)).toArray) (S9 (by rw[hflat];exact F5 _)) (λ_ _ h=>h) k (.inl rfl) ?_;have hrun:=PY (w:=w) (n:=n) hu h1 h2 h5 hle' hfill;simp only[execOp,ho,H6,hrun,I5,Y7,hxl]
theorem YA{E:Env} :∀{fs:List (Nat×Nat)},a8F E fs=true->∀p∈fs,∃i,dW E.tt p.1=some i
 |[],_,p,hp=>by cases hp|(t,o)::r,h,p,hp=>by
  unfold a8F at h;cases hi:dW E.tt t with
  |none=>simp[hi]at h|some i=>
   simp only[hi]at h;rcases D5.1 hp with rfl|hp
   .exact⟨i,hi⟩
   .exact YA h p hp
def UG(P:Program)(fields:Array Field):List (Nat×Nat):=fields.toList.map λf=>(f.offset,((P.info? f.type).map (·.size)).getD 0)
theorem Xq{P:Program} :∀(fs:List Field),(∀f∈fs,∃i,P.info? f.type=some i)->
  fs.mapM (λf=>(P.info? f.type).map λi=>(f.offset,i.size))=some (fs.map λf=>(f.offset,((P.info? f.type).map (·.size)).getD 0))
 |[],_=>by simp|f::fs,h=>by obtain⟨i,hi⟩:=h f A7;rw[List.mapM_cons,Xq fs (λg hg=>h g (by simp[hg]))];simp[hi]
theorem Me{α:Type}{Q:α->Sm->Prop}(H:FxOk X){t:Nat}{fields:Array Field}(hu:X.P.underlying t=some (.struct fields)):
  ∀(is:d6a) (vs:List V) {us:d5Z} {cs:List V} {arr:Array Value} {K:List V->Cmd α} (hl:is.length=us.length) (hv:iW ⟨w.heap,ok,m⟩ vs us) (hc:ig ⟨w.heap,ok,m⟩ cs arr.toList)
  (hK:∀cs' arr',Instr.fill ((UG X.P fields).toArray[·]?) arr (is.zip us)=some arr' ->ig ⟨w.heap,ok,m⟩ cs' arr'.toList->(K cs').post S Q),(Gj X.E t (is.zip vs) cs K).post S Q
 |[],vs,us,cs,arr,K,hl,hv,hc,hK=>by simp only[qR];unfold Gj;exact hK cs arr (by simp[Instr.fill]) hc|i::is,vs,us,cs,arr,K,hl,hv,hc,hK=>by
  cases us with
  |nil=>simp at hl|cons x us=>
  cases vs with
  |nil=>simp[iW]at hv|cons v vs=>
  obtain⟨x',r,e,h1,h2⟩:=hv;simp only[I4]at e;obtain⟨rfl,rfl⟩:=e;simp only[di];unfold Gj;split<;>try trivial
  rename_i off n ag hf;obtain⟨fields',fld,j,hu',hfl,hoff,hj,hn,hn0,_⟩:=KH H hf;rw[hu]at hu';cases hu';obtain⟨inf,i1,i2,_⟩:=hj.info;refine wS h1 λws hws=>dD λhb=>Fa off ws cs λhle=>?_;have hb' :=iD hb;have hL:=kS hc;have hLw:=kS hws;have hxs:x.cells.size=n:=by simp at hLw;omega
  have hpl:((UG X.P fields).toArray[i]?)=some (off,n):=by
   have hfl' :fields.toList[i]? =some fld:=by simpa using hfl
   simp[UG,hfl,i1,i2,hoff,hn]
  refine Me H hu is vs (arr:=(aY off x.cells.toList arr.toList).toArray) (by simpa using hl) h2 (by simpa using Gh hws hc) λcs' arr' hfill hrel=>?_;refine hK cs' arr' ?_ hrel;rw[di,VE (place:=λk=>(UG X.P fields).toArray[k]?) (cs:=arr) hpl hxs (by simp at hL;omega)];exact hfill
theorem Rw{α:Type}{Q:α->Sm->Prop}{sz:Nat} :
  ∀(is:d6a) (vs:List V) {us:d5Z} {cs:List V} {arr:Array Value} {K:List V->Cmd α} (hl:is.length=us.length) (hv:iW ⟨w.heap,ok,m⟩ vs us) (hc:ig ⟨w.heap,ok,m⟩ cs arr.toList)
  (hK:∀cs' arr',Instr.fill (λi=>some (i*sz,sz)) arr (is.zip us)=some arr' ->ig ⟨w.heap,ok,m⟩ cs' arr'.toList->(K cs').post S Q),(OA sz (is.zip vs) cs K).post S Q
 |[],vs,us,cs,arr,K,hl,hv,hc,hK=>by simp only[qR];unfold OA;exact hK cs arr (by simp[Instr.fill]) hc|i::is,vs,us,cs,arr,K,hl,hv,hc,hK=>by
  cases us with
  |nil=>simp at hl|cons x us=>
  cases vs with
  |nil=>simp[iW]at hv|cons v vs=>
  obtain⟨x',r,e,h1,h2⟩:=hv;simp only[I4]at e;obtain⟨rfl,rfl⟩:=e;simp only[di];unfold OA;refine wS h1 λws hws=>dD λhb=>Fa (i*sz) ws cs λhle=>?_;have hb' :=iD hb;have hL:=kS hc;have hLw:=kS hws;have hxs:x.cells.size=sz:=by simp at hLw;omega
  refine Rw is vs (arr:=(aY (i*sz) x.cells.toList arr.toList).toArray) (by simpa using hl) h2 (by simpa using Gh hws hc) λcs' arr' hfill hrel=>?_;refine hK cs' arr' ?_ hrel;rw[di,VE (place:=λk=>some (k*sz,sz)) (cs:=arr) rfl hxs (by simp at hL;omega)];exact hfill
theorem b3J(H:FxOk X)(R:Rel X cl ch S m ok a w){ps:Array (Nat×Operand)}{q:Nat}(ho:o.op= .build t ps):(bF X.E q o).post S (λ_ S' =>jr X cl ch o a w m ok S'):=by
 unfold bF;simp only[ho];refine lX H λi hi=>?_;split<;>try trivial
 case h_2=>
  rename_i n e htd';have htd:=hi.td;rw[htd']at htd;refine lX H λj hj=>dD λhb=>mV R _ λvs hvs=>?_;obtain⟨inf,h1,h2,h3,h4,h5⟩:=hi.info;obtain⟨ine,e1,e2,_⟩:=hj.info;obtain⟨z,hz1,hz2⟩:=h4 (iD hb);refine Rw _ vs (us:=(ps.toList.map (·.2)).map a.eval) (arr:=z.cells) A7 hvs (Tv hz2) λcs' arr' hfill hrel=>?_;refine aX H R (v:=.agg cs') (x:=.agg arr') ⟨arr',rfl,hrel⟩ ?_;have hparts:(ps.map λ(i,x)=>(i,a.eval x)).toList=(ps.toList.map (·.1)).zip ((ps.toList.map (·.2)).map a.eval):=by simp[List.zip_map',List.zip_map,nU,qN]
  have hbuilt:X.P.built t (ps.map λ(i,x)=>(i,a.eval x)).toList=some arr' :=by unfold Program.built;simp only[h1,show X.P.underlying t=some (.array n e)from htd,hz1,e1];rw[hparts,e2];exact hfill
  have:=run_build (P:=X.P) w t _ arr' hbuilt;simp only[execOp,ho,H6,this,I5,Y7]
 rename_i fs htd';have htd:=hi.td;rw[htd']at htd;obtain⟨fields,hu,hfs⟩:=htd;refine dD λhb=>mV R _ λvs hvs=>?_;simp only[A8]at hb;obtain⟨inf,h1,h2,h3,h4,h5⟩:=hi.info;obtain⟨z,hz1,hz2⟩:=h4 (iD hb.2);refine Me H hu _ vs (us:=(ps.toList.map (·.2)).map a.eval) (arr:=z.cells) A7 hvs (Tv hz2) λcs' arr' hfill hrel=>?_;refine aX H R (v:=.agg cs') (x:=.agg arr') ⟨arr',rfl,hrel⟩ ?_;have hparts:(ps.map λ(i,x)=>(i,a.eval x)).toList=(ps.toList.map (·.1)).zip ((ps.toList.map (·.2)).map a.eval):=by simp[List.zip_map',List.zip_map,nU,qN]
 have hmap:=Xq (P:=X.P) fields.toList (λf hf=>by obtain⟨i',hi'⟩:=YA hb.1 (f.type,f.offset) (by rw[←hfs];exact bM.2 ⟨f,hf,rfl⟩);obtain⟨inf',q1,_⟩:=(H.tt _ _ hi').info;exact⟨inf',q1⟩)
 have hbuilt:X.P.built t (ps.map λ(i,x)=>(i,a.eval x)).toList=some arr' :=by unfold Program.built;simp only[h1,hu,hz1,hmap];rw[hparts];exact hfill
 have:=run_build (P:=X.P) w t _ arr' hbuilt;simp only[execOp,ho,H6,this,I5,Y7]
end
end Go.GP
namespace Go.GP
def GR(h:Array Obj)(sz:Nat)(v:Value)(n:Nat)(es:d5Z):Prop:=
 es.length=n*sz/\((n=0/\∃ad cap,v= .slice ad 0 cap)\/(∃blk off cap,v= .slice (some ⟨blk,off,none⟩) n cap/\0<n/\fD h blk off (n*sz)=some es)\/∃b:ByteArray,v= .string b/\n=b.size/\es=Lib.strCells b)
variable {v:Value}{h:Array Obj}
theorem b8m{ok:Nat->Ty->Prop}{t:Ty}{ys:List t.den}(ht:t.isEnt=false)(hr:mJ h ok (.sl t) ys [v]):∃es,GR h t.size v ys.length es/\fE h ok t ys es:=by
 obtain⟨ad,cap,e,hc,hel⟩:=(Eg ht).1 hr;simp only[I4,and_true]at e;subst e;rcases jE ys.length with h0|h0
 .have:ys=[]:=O9.1 h0;subst this;exact⟨[],⟨A7,.inl ⟨rfl,ad,cap,rfl⟩⟩,fE.nil⟩
 .obtain⟨y,hy⟩:∃y,ys[ys.length -1]? =some y:=by
   refine⟨ys[ys.length -1]'l9,?_⟩;exact fH _
  obtain⟨blk,off,es,rfl,hok,he,hr⟩:=hel _ y hy;obtain⟨c,T,f,hb,hn,_⟩:=uI he;have hle:off+ys.length*t.size<=c.size:=by
   have:ys.length*t.size=(ys.length -1)*t.size+t.size:=by
    conv=>lhs;rw[show ys.length=(ys.length -1)+1 by omega,J4,bi]
   omega
  refine⟨(c.toList.drop off).take (ys.length*t.size),⟨by simp;omega,.inr (.inl ⟨blk,off,cap,rfl,h0,lJ hb _ _ hle⟩)⟩,by simp;omega,λi x hi=>?_⟩;obtain⟨blk',off',es',ha',hok',he',hr'⟩:=hel i x hi;simp only[F9,jL,and_true]at ha';obtain⟨rfl,rfl⟩:=ha';obtain⟨c',T',f',hb',hn',rfl⟩:=uI he';rw[hb]at hb';cases hb';have hlt:=(X0.1 hi).1;have hle2:(i+1)*t.size<=ys.length*t.size:=H7 _ l9;rw[J4,bi]at hle2;rw[jm,iG,Z9,bg l9];exact hr'
variable {C:Cx}{l:Loc}
theorem W_{t:Ty}{xs:List t.den}(ht:t.isEnt=false)(ha:arrOk C t xs l)(hv:l.view none v):∃es,GR C.h t.size v xs.length es/\fE C.h C.ok t xs es:=by
 cases l with
 |st b=>cases ha|mp b=>exact absurd ha.1 (by simp[ht])|nil=>obtain⟨ha,_⟩:=ha;subst ha;simp only[Loc.view]at hv;subst hv;exact⟨[],⟨A7,.inl ⟨rfl,none,0,rfl⟩⟩,fE.nil⟩
 |arr blk off len cap sz=>
  obtain⟨c,T,f,hb,hz,rfl,rfl,hc,hf,hr⟩:=Vr ha;simp only[Loc.view]at hv;subst hv;have hle:xs.length*t.size<=cap*t.size:=H7 _ hc;refine⟨_,⟨hr.1,?_⟩,hr⟩;rcases jE xs.length with h0|h0
  .exact .inl ⟨h0,_,cap,by rw[h0]⟩
  .exact .inr (.inl ⟨blk,off,cap,rfl,h0,lJ hb _ _ l9⟩)
variable {P:Program}{es:d5Z}{n:Nat}{sz:Nat}
theorem yK{w w' :World}(h:GR w.heap sz v n es)(hh:w'.heap=w.heap):(Builtin.firstCells sz n v).run P w' = .ok es.toArray w' :=by
 obtain⟨hl,h⟩:=h;rcases h with⟨rfl,ad,cap,rfl⟩|⟨blk,off,cap,rfl,hn,hc⟩|⟨b,rfl,rfl,rfl⟩
 .have:es=[]:=O9.1 (by simpa using hl);subst this;cases ad with
  |none=>simp[Builtin.firstCells]|some b=>have:=run_loadCells_list (P:=P) w' b [] (λj v h=>by simp at h);simp[Builtin.firstCells];simpa using this
 .refine run_firstCells_some w' sz n _ _ cap es hl λj u hu=>?_;rw[iU];exact xI (w:=w') (by rw[hh];exact hc) hu
 .exact Lib.run_firstCells_string w' sz b
theorem GR.lenOf(hs:GR h sz v n es)(w:World):(Builtin.lenOf v).run P w= .ok n w:=by rcases hs.2 with⟨rfl,ad,cap,rfl⟩|⟨blk,off,cap,rfl,hn,hc⟩|⟨b,rfl,rfl,rfl⟩<;>rfl
section runs
variable {P:Program} {w:World} {t ty e:TypeId} {i:TypeInfo} {z:Value}
theorem RX(ht:P.underlying t=some (.slice e))(hi:P.info? e=some i){blk off len cap n:Nat}{c:Array Value}{T:TypeId}{f:Nat×Nat}(hb:w.heap[blk]? =some (.cells c T f))(hz:f=(0,0)\/f=(c.size,c.size+1))(hv:GR w.heap i.size v n es)
  (h1:∀u∈es,u.oneCell' =true) (hroom:len+n<=cap) (hfit:off+cap*i.size<=c.size):
  (Builtin.append_ #[t,t] ty #[.slice (some ⟨blk,off,none⟩) len cap,v]).run P w= .ok (.slice (some ⟨blk,off,none⟩) (len+n) cap) (w.setRow blk (aY (off+len*i.size) es c.toList).toArray):=by
 have hle:(len+n)*i.size<=cap*i.size:=H7 _ hroom;rw[J4,←hv.1]at hle;have hf:=yK (P:=P) (w' :=w) hv rfl;have hst:=Ap (P:=P) blk (off+len*i.size) T es 0 c f w hb hz l9 h1;simp only[aB]at hst;simp[Builtin.append_,run_underlying ht,sizeOf,typeInfo,hi,hv.lenOf,hroom,hf,iU,hst,aY]
theorem Og(ht:P.underlying t=some (.slice e))(hi:P.info? e=some i)(hv:GR w.heap i.size v 0 es):
  (Builtin.append_ #[t,t] ty #[.slice none 0 0,v]).run P w= .ok (.slice none 0 0) w:=by
 have hf:=yK (P:=P) (w' :=w) hv rfl;simp[Builtin.append_,run_underlying ht,sizeOf,typeInfo,hi,hv.lenOf,hf]
theorem PX(ht:P.underlying t=some (.slice e))(hi:P.info? e=some i)(hz:i.zero=some z)(hby:i.bytes<=65536){s v:Value}{sAd:Option Addr}{len cap n:Nat}{olds es:d5Z}(hse:s= .slice sAd len cap)
  (hs:GR w.heap i.size s len olds) (hv:GR w.heap i.size v n es) (hg:cap<len+n) (hmax:len+n<=1073741824):
  (Builtin.append_ #[t,t] ty #[s,v]).run P w= .ok (.slice (some ⟨w.heap.size,0,none⟩) (len+n) (grownCap w (len+n) cap e))
   (w.drew.alloc (.cells ((olds++es).toArray++Builtin.zeroCells z.cells (grownCap w (len+n) cap e -(len+n))) e)):=by
 subst hse;have hn:¬(len+n<=cap):=l9;have h63' :¬(9223372036854775807<((len:Int)+(n:Int))):=l9;have hb2:(len+n)*i.bytes<=1073741824*65536:=Nat.mul_le_mul hmax hby;have h48' :¬(281474976710656<Builtin.nextslicecap (len+n) cap*i.bytes):=by have:=growslice_fits hg (show(len+n)*i.bytes<=140737488355328 by omega);omega
 have hf:=yK (P:=P) (w' :=w.drew) hv rfl;have hfo:=yK (P:=P) (w' :=w.drew) hs rfl;simp[Builtin.append_,run_underlying ht,sizeOf,typeInfo,zeroValue,hi,hz,hv.lenOf,hn,h63',h48',Question.forced,hf,hfo,newRow,grownCap];generalize Builtin.zeroCells _ _=Z;congr 2;apply lC;simp
end runs
variable {q:Nat}{t:TypeId}{α:Type}{u:Ty}{e:TypeId}{z:Value}{Q:α->Sm->Prop}{inf:TypeInfo}{x:Operand}{y:V}
section
variable {X:Fx} {cl ch:Nat} {S:Sm} {m:Mp} {ok:Nat->Ty->Prop} {a:Act} {w:World} {o:Oper}
theorem RZ(R:Rel X cl ch S m ok a w)(ht:u.isEnt=false){vy:Value}{K:List u.den->Cmd α}(hy:mD ⟨w.heap,ok,m⟩ y vy)
  (hK:∀ys es,GR w.heap u.size vy ys.length es->fE w.heap ok u ys es->(K ys).post S Q):(a5b u y K).post S Q:=by
 unfold a5b;split<;>try trivial
 .have hy' :vy= .slice none 0 0:=hy;subst hy';simp only[ht,cond_false];exact hK [] [] ⟨A7,.inl ⟨rfl,none,0,rfl⟩⟩ fE.nil
 .obtain⟨ad,c,rfl,_⟩:=(show ∃a c,vy=Value.slice a 0 c/\a.isNone=_ from hy);simp only[ht,cond_false];exact hK [] [] ⟨A7,.inl ⟨rfl,ad,c,rfl⟩⟩ fE.nil
 .rename_i t' xs;refine gG λe=>?_;subst e;obtain⟨es,h1,h2⟩:=b8m ht (show mJ w.heap ok (.sl t') xs [vy]from hy);exact hK xs es h1 h2
 .rename_i bx vw;obtain⟨l,hm,hv⟩:=hy;refine bf ?_;split<;>try trivial
  .rename_i t' xs hS;obtain⟨l',hm',ha⟩:=R.own_arr hS;simp only at hm;rw[hm]at hm';cases hm';refine gG λe=>?_;subst e;obtain⟨a1,a2,_⟩:=MH ha hv;obtain⟨es,h1,h2⟩:=W_ ht a1 a2;exact hK _ es h1 h2
  .rename_i t' xs hS;obtain⟨l',hm',ha,_⟩:=R.own_frz hS;simp only at hm;rw[hm]at hm';cases hm';refine gG λe=>?_;subst e;obtain⟨a1,a2,_⟩:=MH ha hv;obtain⟨es,h1,h2⟩:=W_ ht a1 a2;exact hK _ es h1 h2
theorem WV{T:d6a}(R:Rel X cl ch S m ok a w)(hT:Tk X S m ok w T){md:M}{vy:Value}{K:List md.den->List V->Cmd α}(hy:mD ⟨w.heap,ok,m⟩ y vy)
  (hK:∀S' ok' ys r O,Rel X cl ch S' m ok' a w->Tk X S' m ok' w (T++O)->(∀b t,ok b t->ok' b t)->bu S S' ->qW w.heap ok' (.owns md) none ys [vy] O->(K ys r).post S' Q):
  (exM DT (.owns md) [y] K).post S Q:=by
 have key:xP ⟨w.heap,ok,m⟩ y vy->vy.oneCell' =true->(exM DT (.owns md) [y] K).post S Q:=λh1 h2=>by
  refine IQ (.owns md) R hT (vs:=[vy]) ⟨vy,[],rfl,h1,h2,rfl⟩ λS' ok' ys r us us' O R' T' k s e hr l=>?_;have:us=[vy]:=by obtain⟨v,e',_⟩:=hr;subst e';simp at e;simp[e.1]
  subst this;exact hK S' ok' ys r O R' T' k s hr
 cases y<;>try (unfold exM;trivial)
 .exact key hy (by have h:vy= .slice none 0 0:=hy;subst h;rfl)
 .refine key hy ?_;obtain⟨l,_,hv⟩:=hy;exact pI hv
theorem a1K{ok:Nat->Ty->Prop}{md:M}{xs:List md.den}{Os:List d6a}(ha:Gs h md.size (λ_ x es O=>qW h ok md none x es O) xs Os l)(hv:l.view none v):∃es,GR h md.size v xs.length es/\zF h ok md xs es Os:=by
 cases l with
 |st b=>cases ha|mp b=>cases ha|nil=>obtain⟨rfl,rfl⟩:=ha;simp only[Loc.view]at hv;subst hv;exact⟨[],⟨A7,.inl ⟨rfl,none,0,rfl⟩⟩,zF.nil⟩
 |arr blk off len cap sz=>
  obtain⟨c,T,hb,rfl,rfl,hc,hf,hr⟩:=a3N ha;simp only[Loc.view]at hv;subst hv;have hle:xs.length*md.size<=cap*md.size:=H7 _ hc;refine⟨_,⟨hr.1,?_⟩,hr⟩;rcases jE xs.length with h0|h0
  .exact .inl ⟨h0,_,cap,by rw[h0]⟩
  .exact .inr (.inl ⟨blk,off,cap,rfl,h0,lJ hb _ _ l9⟩)
theorem VI{xs ys zs:List α}(h:bz xs ys=some zs):xs.length+ys.length<=1073741824/\zs=xs++ys:=by
 unfold bz at h;split at h
 .cases h;exact⟨by assumption,rfl⟩
 .cases h
theorem Qm(z:Array Value)(n:Nat):(Builtin.zeroCells z n).size=n*z.size:=by simp[Builtin.zeroCells]
theorem Ro(H:FxOk X)(R:Rel X (CB*q) (CB*q+CB) S m ok a w)(ht:u.isEnt=false){j:TI}(hu:X.P.underlying t=some (.slice e))(h1:X.P.info? e=some inf)(h2:inf.size=u.size)(h4:inf.bytes<=65536)
  (h5:inf.zero=some z) (hz:z.cells.size=u.size) {xs ys:List u.den} {s v:Value} {sAd:Option Addr} {cap:Nat} {olds es:d5Z} (hse:s= .slice sAd xs.length cap)
  (hs:GR w.heap u.size s xs.length olds) (hv:GR w.heap u.size v ys.length es) (r1:fE w.heap ok u xs olds) (r2:fE w.heap ok u ys es) (hg:cap<xs.length+ys.length) (hmax:xs.length+ys.length<=1073741824)
  (run:∀r w',(Builtin.append_ #[t,t] o.type #[s,v]).run X.P w= .ok r w' ->(execOp a.eval o).run X.P w= .ok (.value r) w'):
  (yj (O7 q o.dst) (.barr u (xs++ys)) (fF X.E o.dst (.own (O7 q o.dst) none))).post S (λ_ S' =>jr X (CB*q) (CB*q+CB) o a w m ok S'):=by
 have hrun:=PX (P:=X.P) (w:=w) (t:=t) (ty:=o.type) hu h1 h5 h4 (s:=s) (v:=v) hse (by rw[h2];exact hs) (by rw[h2];exact hv) hg hmax;have hge:=grownCap_ge w (xs.length+ys.length) cap e;have r:=r1.append r2;rw[←E5]at hrun hge;refine QF H R (w1:=w.drew) rfl rfl rfl rfl ht r hge ?_ ?_ (λ_ _ h=>h) (λ_ _ h=>h) (.inl rfl) (run _ _ hrun)
 .have hl:=r.1;simp only[Array.size_append,dV,hl,Qm,hz,←J4];exact H7 _ l9
 .have hl:=r.1;simp only[Array.toList_append];rw[ax (by rw[hl];exact F5 _),←hl];exact aA
theorem Rt(H:FxOk X)(R:Rel X (CB*q) (CB*q+CB) S m ok a w)(ht:u.isEnt=false)(hu:X.P.underlying t=some (.slice e))(h1:X.P.info? e=some inf)(h2:inf.size=u.size)(h4:inf.bytes<=65536)
  (h5:inf.zero=some z) (hz:z.cells.size=u.size) {ys:List u.den} {s v:Value} {es:d5Z} (hse:s= .slice none 0 0)
  (hv:GR w.heap u.size v ys.length es) (r2:fE w.heap ok u ys es) (hmax:ys.length<=1073741824)
  (run:∀r w',(Builtin.append_ #[t,t] o.type #[s,v]).run X.P w= .ok r w' ->(execOp a.eval o).run X.P w= .ok (.value r) w'):
  (yj (O7 q o.dst) (.barr u ys) (fF X.E o.dst (.own (O7 q o.dst) none))).post S (λ_ S' =>jr X (CB*q) (CB*q+CB) o a w m ok S'):=by
 rcases jE ys.length with h0|h0
 .have hy:ys=[]:=O9.1 h0;subst hy;have hrun:=Og (P:=X.P) (w:=w) (t:=t) (ty:=o.type) hu h1 (v:=v) (by rw[h2];exact hv);rw[←hse]at hrun;refine IZ H λn e1 g1 g2 hn=>?_;rw[←e1];clear e1;generalize CB*q=Z at*;have R' :Rel X Z (Z+CB) (upd S (ai+n) (.barr u [])) (oz m n .nil []) ok a w:=by
   refine R.lay hn g1 (by show n<Z+1000000;change n+64<=Z+1000000 at g2;omega) A7 rfl rfl rfl (F5 _) (λ_ _ _=>rfl) (by simp[V9]) (λb hb=>by simp[V9]at hb) ⟨.nil,aQ _ _ _ _,rfl,ht⟩
  refine uJ H R' (λk l h=>?_) (λ_ _ h=>h) ⟨.nil,aQ _ _ _ _,hse⟩ (run _ _ hrun);by_cases ek:k=n
  .subst ek;have:=R.fresh k g1 hn;rw[this]at h;cases h
  .rw[jS _ _ _ ek];exact h
 .have:=Ro (j:=⟨0,0,.bool,none,[]⟩) H R ht hu h1 h2 h4 h5 hz (xs:=[]) (ys:=ys) (s:=s) (v:=v) (sAd:=none) (cap:=0) (olds:=[]) (es:=es) hse ⟨A7,.inl ⟨rfl,none,0,hse⟩⟩ hv fE.nil r2 (by simpa using h0) (by simpa using hmax) run;simpa using this
theorem a6l(H:FxOk X)(R:Rel X (CB*q) (CB*q+CB) S m ok a w){md:M}{j:TI}(hu:X.P.underlying t=some (.slice e))(h1:X.P.info? e=some inf)(h2:inf.size=md.size)(h4:inf.bytes<=65536)
  (h5:inf.zero=some z) (hz:z.cells.size=md.size) {x y:V} {s v:Value} (hx:mD ⟨w.heap,ok,m⟩ x s) (hy:mD ⟨w.heap,ok,m⟩ y v)
  (run:∀r w',(Builtin.append_ #[t,t] o.type #[s,v]).run X.P w= .ok r w' ->(execOp a.eval o).run X.P w= .ok (.value r) w'):
  (exM DT (.owns md) [y] λys _=>exM DT (.owns md) [x] λxs _=>Cmd.opt (bz xs ys) λzs=>yj (O7 q o.dst) (.barrs md zs none) (fF X.E o.dst (.own (O7 q o.dst) none))).post S (λ_ S' =>jr X (CB*q) (CB*q+CB) o a w m ok S'):=by
 refine WV (T:=[]) R Tk.nil hy λS1 ok1 ys _ O1 R1 T1 k1 s1 g1=>?_;refine WV R1 T1 (QR k1 hx) λS2 ok2 xs _ O2 R2 T2 k2 s2 g2=>?_;have k12:∀b t,ok b t->ok2 b t:=λb t h=>k2 b t (k1 b t h);have g1:=kZ k2 (λ_ _ _=>rfl) (λ_ _=>rfl) g1;obtain⟨hel,ly,vy,Oy,ey,hvy,hay,rfl⟩:=Df.1 g1;obtain⟨_,lx,vx,Ox,ex,hvx,hax,rfl⟩:=Df.1 g2;simp only[I4,and_true]at ey ex;subst ey;subst ex;refine fZ λzs hzs=>?_;obtain⟨hmax,rfl⟩:=VI hzs;obtain⟨es,hv,ry⟩:=a1K hay hvy;obtain⟨olds,hs,rx⟩:=a1K hax hvx;have hnd2:=T2.nodup;have rr:=rx.append ry;have hT3:∀b∈(Ox++Oy).flatten,b∈[]++(ly.blks++Oy.flatten)++(lx.blks++Ox.flatten):=λb hb=>by
  simp only[lh,F7]at hb ⊢;rcases hb with hb|hb
  .exact .inr (.inr hb)
  .exact .inl (.inr (.inr hb))
 have hnd3:(Ox++Oy).flatten.Nodup:=by rw[lh];have h:=L6.1 hnd2;simp only[H8]at h;refine L6.2 ⟨(L6.1 h.2.1).2.1,(L6.1 h.1).2.1,λp hp r hr e=>h.2.2 r (by simp[hr]) p (by simp[hp]) e.symm⟩
 have fresh:∀{sAd:Option Addr} {cap:Nat},s= .slice sAd xs.length cap->cap<xs.length+ys.length->(yj (O7 q o.dst) (.barrs md (xs++ys) none) (fF X.E o.dst (.own (O7 q o.dst) none))).post S2 (λ_ S' =>jr X (CB*q) (CB*q+CB) o a w m ok S'):=λ{sAd cap} hse hg=>by
  have hrun:=PX (P:=X.P) (w:=w) (t:=t) (ty:=o.type) hu h1 h5 h4 (s:=s) (v:=v) hse (by rw[h2];exact hs) (by rw[h2];exact hv) hg hmax;have hge:=grownCap_ge w (xs.length+ys.length) cap e;rw[←E5]at hrun hge;refine ZL H R2 T2 (w1:=w.drew) rfl rfl rfl rfl hel rr hnd3 hT3 hge ?_ ?_ (λ_ _ h=>h) k12 (run _ _ hrun)
  .have hl:=rr.1;simp only[Array.size_append,dV,hl,Qm,hz,←J4];exact H7 _ l9
  .have hl:=rr.1;simp only[Array.toList_append];rw[ax (by rw[hl];exact F5 _),←hl];exact aA
 cases lx with
 |st b=>cases hax|mp b=>cases hax|nil=>
  obtain⟨rfl,rfl⟩:=hax;simp only[Loc.view]at hvx;rcases jE ys.length with h0|h0
  .have hy0:ys=[]:=O9.1 h0;subst hy0;have hO0:Oy=[]:=O9.1 ry.2.1;subst hO0;have hrun:=Og (P:=X.P) (w:=w) (t:=t) (ty:=o.type) hu h1 (v:=v) (by rw[h2];exact hv);rw[←hvx]at hrun;refine IZ H λn e1 g1 g2 hn=>?_;rw[←e1];clear e1;generalize CB*q=Z at*;have R' :Rel X Z (Z+CB) (upd S2 (ai+n) (.barrs md ([]++[]) none)) (oz m n .nil []) ok2 a w:=by
    refine R2.lay hn g1 (by show n<Z+1000000;change n+64<=Z+1000000 at g2;omega) A7 rfl rfl rfl (F5 _) (λ_ _ _=>rfl) (by simp[V9]) (λb hb=>by simp[V9]at hb) ⟨hel,.nil,[],aQ _ _ _ _,⟨⟨rfl,rfl⟩,trivial⟩,A7⟩
   refine uJ H R' (λk l h=>?_) k12 ⟨.nil,aQ _ _ _ _,hvx⟩ (run _ _ hrun);by_cases ek:k=n
   .subst ek;have:=R2.fresh k g1 hn;rw[this]at h;cases h
   .rw[jS _ _ _ ek];exact h
  .exact fresh (sAd:=none) (cap:=0) hvx (by simpa using h0)
 |arr blk off len cap sz=>
  obtain⟨c,T,hb,rfl,rfl,hcap,hfit,r1⟩:=a3N hax;simp only[Loc.view]at hvx;by_cases hroom:xs.length+ys.length<=cap
  .have hrun:=RX (P:=X.P) (w:=w) (t:=t) (ty:=o.type) (off:=off) (cap:=cap) hu h1 hb (.inl rfl) (v:=v) (n:=ys.length) (es:=es) (by rw[h2];exact hv) ry.one_cell hroom (by rw[h2];exact hfit);rw[←hvx]at hrun;obtain⟨q1,q2,q3,q4⟩:=T2.free blk (by simp[Loc.blks]);have hle:(xs.length+ys.length)*md.size<=cap*md.size:=H7 _ hroom;rw[J4]at hle;have hesl:=hv.1;have hcl:c.toList.length=c.size:=rfl;have hsp:(aY (off+xs.length*md.size) es c.toList).length=c.size:=by rw[yg l9];rfl
   have hblk:∀b∈(Ox++Oy).flatten,b≠blk:=λb hbm e=>by
    subst e;rw[lh]at hbm;have h:=L6.1 hnd2;simp only[H8]at h;rcases F7.1 hbm with hbm|hbm
    .exact(L6.1 h.2.1).2.2 b (by simp[Loc.blks]) b hbm rfl
    .exact h.2.2 b (by simp[hbm]) b (by simp[Loc.blks]) rfl
   refine IZ H λn e1 g1 g2 hn=>?_;rw[←e1];clear e1;generalize CB*q=Z at*;have hoth:∀b,b≠blk->(w.setRow blk (aY (off+xs.length*md.size) es c.toList).toArray).heap[b]? =w.heap[b]?:=λb hb=>setRow_other w blk b _ hb;have hown1:V9 (oz m n (.arr blk off (xs.length+ys.length) cap md.size) (Ox++Oy).flatten) n (.barrs md (xs++ys) none)=blk::(Ox++Oy).flatten:=by simp[V9]
   have R' :Rel X Z (Z+CB) (upd S2 (ai+n) (.barrs md (xs++ys) none)) (oz m n (.arr blk off (xs.length+ys.length) cap md.size) (Ox++Oy).flatten) ok2 a (w.setRow blk (aY (off+xs.length*md.size) es c.toList).toArray):=by
    refine R2.lay hn g1 (by show n<Z+1000000;change n+64<=Z+1000000 at g2;omega) A7 rfl rfl rfl A7 (λb _ hne=>hoth b (λe=>hne (by rw[hown1,e];simp))) (by rw[hown1];exact gW.2 ⟨λh=>hblk blk h rfl,hnd3⟩) (λb hbb=>?_) ⟨hel,_,Ox++Oy,aQ _ _ _ _,?_,A7⟩
    .rw[hown1]at hbb;obtain⟨q1,q2,q3,q4⟩:=T2.free b (by
      rcases D5.1 hbb with rfl|h
      .simp[Loc.blks]
      .exact hT3 b h)
     exact⟨q1,by simpa using q2,q3,q4⟩
    .refine⟨?_,trivial⟩;have:=zF.arrs (h:=(w.setRow blk (aY (off+xs.length*md.size) es c.toList).toArray).heap) (ok:=ok2) (cs:=((c.toList.drop off).take (xs.length*md.size))++es) (cap:=cap) (off:=off) ((r1.append ry).mono (λ_ _ h=>h) (λb t hb=>hoth b (λe=>q1 t (e▸hb))) (λb hb=>hoth b (hblk b hb))) (setRow_heap w blk c _ T (0,0) hb) (by rw[E5];exact hroom) (by rw[dV,hsp];exact hfit) ?_
     .rw[E5]at this;exact this
     .simp only[E5,J4];rw[QX (n:=xs.length*md.size+ys.length*md.size) l9 l9];unfold aY;have hd:((c.toList.drop off).take (xs.length*md.size+ys.length*md.size)).drop (xs.length*md.size+es.length)=[]:=dH (by rw[Y9,nX];omega);rw[iG,bg (kX _ _),hd,G5]
   refine uJ H R' (λk l h=>?_) k12 ⟨_,aQ _ _ _ _,rfl⟩ (run _ _ (by rw[h2]at hrun;exact hrun));by_cases ek:k=n
   .subst ek;have:=R2.fresh k g1 hn;rw[this]at h;cases h
   .rw[jS _ _ _ ek];exact h
  .exact fresh hvx l9
theorem A_{w:World}{t t' ty e:TypeId}{i:TypeInfo}(ht:P.underlying t=some (.slice e))(hs:P.underlying t' =some .string)(hi:P.info? e=some i){s:Value}{b:ByteArray} :
  (Builtin.append_ #[t,t'] ty #[s,.string b]).run P w=(Builtin.append_ #[t,t] ty #[s,.string b]).run P w:=by
 cases s<;>simp[Builtin.append_,run_underlying ht,run_underlying hs,sizeOf,typeInfo,hi]
theorem YD(H:FxOk X)(R:Rel X (CB*q) (CB*q+CB) S m ok a w){p:Operand}{x:V}{j:TI}(ht:u.isEnt=false)(hu:X.P.underlying t=some (.slice e))(h1:X.P.info? e=some inf)(h2:inf.size=u.size)(h4:inf.bytes<=65536)
  (h5:inf.zero=some z) (hz:z.cells.size=u.size) (hx:mD ⟨w.heap,ok,m⟩ x (a.eval p)) {ys:List u.den} {v:Value} {es:d5Z} (hv:GR w.heap u.size v ys.length es) (r2:fE w.heap ok u ys es)
  (run:∀r w',(Builtin.append_ #[t,t] o.type #[a.eval p,v]).run X.P w= .ok r w' ->(execOp a.eval o).run X.P w= .ok (.value r) w'):
  (Yd (O7 q o.dst) u x ys λv=>fF X.E o.dst v).post S (λ_ S' =>jr X (CB*q) (CB*q+CB) o a w m ok S'):=by
 unfold Yd;split<;>try trivial
 ·
  refine fZ λzs hzs=>?_;obtain⟨hmax,rfl⟩:=VI hzs;have hx' :a.eval p= .slice none 0 0:=hx;simp only[H8];exact Rt H R ht hu h1 h2 h4 h5 hz hx' hv r2 (by simpa using hmax) run
 .rename_i bx vw;obtain⟨loc,hm,hview⟩:=hx;refine bf ?_;split<;>try trivial
  rename_i u' xs hS;refine gG λeu=>?_;subst eu;refine fZ λzs hzs=>jb ?_;obtain⟨hmax,rfl⟩:=VI hzs;obtain⟨loc',hm',ha⟩:=R.own_arr hS;simp only at hm;rw[hm]at hm';cases hm';have R1:=R.kill bx;obtain⟨a1,a2,a3⟩:=MH ha hview;generalize hl2:NT loc vw=l2 at*;generalize jT vw xs=xs' at*;cases l2 with
  |st b=>cases a1|mp b=>exact absurd a1.1 (by simp[ht])|nil=>obtain⟨a1,_⟩:=a1;subst a1;simp only[Loc.view]at a2;simp only[H8];exact Rt H R1 ht hu h1 h2 h4 h5 hz a2 hv r2 (by simpa using hmax) run
  |arr blk off len cap sz=>
   obtain⟨c,T,f,hb,hfz,rfl,rfl,hcap,hfit,r1⟩:=Vr a1;simp only[Loc.view]at a2;simp only at hb r1;by_cases hroom:xs'.length+ys.length<=cap
   ·
    have hrun:=RX (P:=X.P) (w:=w) (t:=t) (ty:=o.type) (off:=off) (cap:=cap) hu h1 hb hfz.of (v:=v) (n:=ys.length) (es:=es) (by rw[h2];exact hv) r2.one_cell hroom (by rw[h2];exact hfit);rw[←a2]at hrun;have hown:V9 m bx (S (ai+bx))=[blk]:=by
     cases loc with
     |nil=>simp[Loc.blks]at a3|st _=>cases ha|mp b=>exact absurd ha.1 (by simp[ht])|arr b2 _ _ _ _=>simp[Loc.blks]at a3;simp[V9,hS,hm,a3]
    obtain⟨s1,s2,s3⟩:=R.sep bx blk (by rw[hown];simp);have hle:(xs'.length+ys.length)*u'.size<=cap*u'.size:=H7 _ hroom;rw[J4]at hle;have hel:=hv.1;have hcl:c.toList.length=c.size:=rfl;have hsp:(aY (off+xs'.length*u'.size) es c.toList).length=c.size:=by rw[yg l9];rfl
    refine IZ H λn e1 g1 g2 hn=>?_;rw[←e1];clear e1;generalize CB*q=Z at*;have hkeep:∀b t,ok b t->(w.setRow blk (aY (off+xs'.length*u'.size) es c.toList).toArray).heap[b]? =w.heap[b]?:=λb t hb=>setRow_other w blk b _ (λe=>s1 t (e▸hb));have R' :Rel X Z (Z+CB) (upd (upd S (ai+bx) .dead) (ai+n) (.barr u' (xs' ++ys))) (oz m n (.arr blk off (xs'.length+ys.length) cap u'.size) []) ok a (w.setRow blk (aY (off+xs'.length*u'.size) es c.toList).toArray):=by
     refine R1.lay hn g1 (by show n<Z+1000000;change n+64<=Z+1000000 at g2;omega) A7 rfl rfl rfl A7 (λb _ hne=>?_) (by simp[V9]) (λb hbb=>?_) ⟨_,aQ _ _ _ _,?_⟩
     .refine setRow_other w blk b _ (λe=>hne ?_);subst e;simp[V9]
     .simp[V9]at hbb;subst hbb;refine⟨s1,by simpa using s2,s3,λk e=>?_⟩;obtain⟨k1,k2⟩:=CX rfl e;exact k1 (R.inj k bx b k2 (by rw[hown];simp))
     .rw[←E5];refine fE.arrOk ht (cs:=((c.toList.drop off).take (xs'.length*u'.size))++es) ((r1.append r2).mono (λ_ _ h=>h) hkeep) (setRow_heap w blk c _ T f hb) (by rw[dV,hsp];exact hfz) (by rw[E5];exact hroom) (by rw[dV,hsp];exact hfit) ?_;simp only[E5,J4];rw[QX (n:=xs'.length*u'.size+ys.length*u'.size) l9 l9];unfold aY;have hd:((c.toList.drop off).take (xs'.length*u'.size+ys.length*u'.size)).drop (xs'.length*u'.size+es.length)=[]:=dH (by rw[Y9,nX];omega);rw[iG,bg (kX _ _),hd,G5]
    refine uJ H R' (λk l h=>?_) (λ_ _ h=>h) ⟨_,aQ _ _ _ _,rfl⟩ (run _ _ (by rw[h2]at hrun;exact hrun))
    .by_cases ek:k=n
     .subst ek;have:=R1.fresh k g1 hn;rw[this]at h;cases h
     .rw[jS _ _ _ ek];exact h
   .obtain⟨olds,q1,q2⟩:=W_ (C:=⟨w.heap,ok,m⟩) ht a1 a2;exact Ro (j:=j) H R1 ht hu h1 h2 h4 h5 hz a2 q1 hv q2 r2 l9 hmax run
theorem b1c(H:FxOk X)(R:Rel X (CB*q) (CB*q+CB) S m ok a w){c:Call}(ho:o.op= .call c)(hc:c.callee= .builtin .append):(bF X.E q o).post S (λ_ S' =>jr X (CB*q) (CB*q+CB) o a w m ok S'):=by
 obtain⟨cal,args,ats⟩:=c;simp only at hc;subst hc;unfold bF;simp only[ho];refine mV R _ λvs hvs=>?_;split<;>try trivial
 rename_i t t' x y hat
 obtain⟨u1,r,he,hx,u2,r',he',hy,hr⟩:=hvs;simp only[iW]at hr;subst hr;rw[he']at he;obtain⟨p,p',rfl,rfl,rfl⟩:=Zw he;cases htt:Nat.beq t t'
 ·
  simp only[cond_false];split<;>try trivial
  rename_i l;refine lX H λi hi=>?_;have hd:=hi.td;split<;>try trivial
  rename_i htd;rw[htd]at hd;unfold a8L;split<;>try trivial
  rename_i e het;obtain⟨j,z,inf,hu,hj,h1,h2,h3,h4,h5,h6⟩:=yR H het;have hz:z.cells.size=(Ty.int IntKind.u8).size:=by have:=gm h6;simpa using this
  split<;>try trivial
  have hats:ats=#[t,t']:=by
   obtain⟨l⟩:=ats;simp only at hat
   rw[hat]
  have hs:a.eval p' = .string ⟨l.toArray⟩:=hy;refine YD (j:=j) H R (IM het) hu h1 h2 h4 h5 hz hx (v:=.string ⟨l.toArray⟩) (es:=Lib.strCells ⟨l.toArray⟩) ?_ ?_ ?_
  .refine⟨?_,.inr (.inr ⟨_,rfl,?_,rfl⟩)⟩
   .rw[Lib.strCells_length];simp[Pi,Ty.size,ByteArray.size]
   .simp[Pi,ByteArray.size]
  .refine⟨by rw[Lib.strCells_length];simp[Pi,Ty.size,ByteArray.size],λi x hi=>?_⟩;show(((Lib.strCells ⟨l.toArray⟩).drop (i*1)).take 1)=[.int .u8 x];have hl:l[i]?.map (λc=>(c.toNat:Int))=some x:=by simpa[Pi,fO]using hi
   obtain⟨c,hc,rfl⟩:=mg.1 hl;have h7:(Lib.strCells ⟨l.toArray⟩)[i]? =some (.int .u8 c.toNat):=by simp[Lib.strCells,hc]
   obtain⟨g1,g2⟩:=X0.1 h7;rw[ji,fQ g1,g2];rfl
  .intro r w' h;rw[←A_ hu hd h1]at h;simp[execOp,ho,resolve,invoke,builtin,hats,hs,h]
 simp only[cond_true];have htt' :=iD htt;subst htt';have hats:ats=#[t,t]:=by
  obtain⟨l⟩:=ats;simp only at hat
  rw[hat]
 have run:∀(s v:Value),a.eval p=s->a.eval p' =v->∀r w',(Builtin.append_ #[t,t] o.type #[s,v]).run X.P w= .ok r w' ->(execOp a.eval o).run X.P w= .ok (.value r) w' :=λs v e1 e2 r w' h=>by subst e1;subst e2;simp[execOp,ho,resolve,invoke,builtin,hats,h]
 unfold a8K;split
 .trivial
 rename_i e u het;obtain⟨j,z,inf,hu,hj,h1,h2,h3,h4,h5,h6⟩:=yR H het;have hz:z.cells.size=u.size:=by have:=gm h6;simpa using this
 split
 rotate_left
 .rename_i md hom;refine dL λhms=>?_;have hms:=iD hms;exact a6l (j:=j) H R hu h1 (by rw[h2,hms]) h4 h5 (by rw[hz,hms]) hx hy (run _ _ rfl rfl)
 have ht:=IM het;refine RZ R ht hy λys es hv r2=>?_;exact YD (j:=j) H R ht hu h1 h2 h4 h5 hz hx hv r2 (run _ _ rfl rfl)
theorem P_{α:Type}{Q:α->Sm->Prop}{S:Sm}{C:Cx}{u:Ty}(hf:u.flat=true):∀(n:Nat) {cs:List V} {vs:d5Z} {K:List u.den->Cmd α},ig C cs vs->
  (∀xs,xs.length=n->fE C.h C.ok u xs vs->(K xs).post S Q)->(a6b u n cs K).post S Q
 |0,cs,vs,K,hL,hK=>by
  unfold a6b;cases cs with
  |nil=>simp only[ig]at hL;subst hL;exact hK [] rfl fE.nil|cons _ _=>trivial
 |n+1,cs,vs,K,hL,hK=>by unfold a6b;refine Kz u hf hL λx r us us' e hr hL' =>?_;refine P_ hf n hL' λxs hl hxs=>?_;subst e;exact hK (x::xs) (by simp[hl]) ((fE.one (hr C.h C.ok)).append hxs)
theorem b3P(H:FxOk X)(R:Rel X (CB*q) (CB*q+CB) S m ok a w){lo hi:Option Operand}(ho:o.op= .slice t x lo hi none):(bF X.E q o).post S (λ_ S' =>jr X (CB*q) (CB*q+CB) o a w m ok S'):=by
 refine b1h H R ho λbx hlo hhi hx=>?_;subst hlo;subst hhi;obtain⟨blk,hm,hx⟩:=hx;unfold F_;refine lX H λi hi=>?_;have htd:=hi.td;split<;>try trivial
 rename_i n e hd;rw[hd]at htd;have hut:X.P.underlying t=some (.array n e):=htd;refine lX H λj hj=>?_;split<;>try trivial
 rename_i u hju;refine dL λhf=>bf ?_;split<;>try trivial
 rename_i cs hS;obtain⟨blk',arr,T,hm',hh,hl⟩:=R.own_cells hS;simp only at hm;rw[hm]at hm';cases hm';refine P_ (C:=⟨w.heap,ok,m⟩) hf n hl λxs hlen hr=>jb ?_;have hjz:u.size=j.size:=by obtain⟨inf,_,_,_,_,hty⟩:=hj.info;exact(hty u hju).1
 have ht:u.isEnt=false:=by cases u<;>first|rfl|(cases hf;done)
 have hown:V9 m bx (S (ai+bx))=[blk]:=by simp[V9,hS,hm]
 obtain⟨s1,s2,s3⟩:=R.sep bx blk (by rw[hown];simp);have R1:=R.kill bx;refine IZ H λnn e1 g1 g2 hn=>?_;rw[←e1];clear e1;generalize CB*q=Z at*;have hsz:arr.toList.length=xs.length*u.size:=hr.1;have R' :Rel X Z (Z+CB) (upd (upd S (ai+bx) .dead) (ai+nn) (.barr u xs)) (oz m nn (.arr blk 0 xs.length xs.length u.size) []) ok a w:=by
  refine R1.lay hn g1 (by show nn<Z+1000000;change nn+64<=Z+1000000 at g2;omega) A7 rfl rfl rfl (F5 _) (λ_ _ _=>rfl) (by simp[V9]) (λb hbb=>?_) ⟨_,aQ _ _ _ _,?_⟩
  .simp[V9]at hbb;subst hbb;refine⟨s1,s2,s3,λk e=>?_⟩;obtain⟨k1,k2⟩:=CX rfl e;exact k1 (R.inj k bx b k2 (by rw[hown];simp))
  .refine fE.arrOk ht (C:=⟨w.heap,ok,oz m nn (.arr blk 0 xs.length xs.length u.size) []⟩) (cs:=arr.toList) hr hh (.inl rfl) (F5 _) (by rw[←hsz];simp) ?_;simp only[qF];exact S9 (by rw[hsz];exact F5 _)
 refine uJ H R' (λk l h=>?_) (λ_ _ h=>h) (x:=.slice (some ⟨blk,0,none⟩) n n) ⟨_,aQ _ _ _ _,by rw[hlen];rfl⟩ ?_
 .by_cases ek:k=nn
  .subst ek;have:=R1.fresh k g1 hn;rw[this]at h;cases h
  .rw[jS _ _ _ ek];exact h
 .have hb:=Jn (P:=X.P) (w:=w) (isS:=false) (len:=n) (cap:=n) (lo:=none) (hi:=none) (x:=0) (y:=n) (.inl ⟨rfl,rfl⟩) (.inl ⟨rfl,rfl⟩) l9 l9 l9 (F5 _);simp[execOp,ho,hx,Instr.sliceAt,run_underlying hut,Instr.sureAddr,hb,sD hj,iU]
theorem Jo{w:World}{sz n k:Nat}(h:GR w.heap sz v n es)(hk:k<=n)(hs:∀b,v≠.string b):(Builtin.firstCells sz k v).run P w= .ok (es.take (k*sz)).toArray w:=by
 obtain⟨hl,h⟩:=h;rcases h with⟨rfl,ad,cap,rfl⟩|⟨blk,off,cap,rfl,hn,hc⟩|⟨b,rfl,_,_⟩
 .have hk0:k=0:=l9;subst hk0;have:es=[]:=O9.1 (by simpa using hl);subst this;cases ad with
  |none=>simp[Builtin.firstCells]|some b=>have:=run_loadCells_list (P:=P) w b [] (λj v h=>by simp at h);simp[Builtin.firstCells];simpa using this
 .have hle:k*sz<=n*sz:=H7 _ hk;refine run_firstCells_some w sz k _ _ cap (es.take (k*sz)) (by rw[Y9,hl,bg hle]) λj u hu=>?_;rw[iU];have hu' :es[j]? =some u:=by
   rw[X6]at hu;split at hu
   .exact hu
   .cases hu
  exact xI (w:=w) hc hu'
 .exact absurd rfl (hs b)
theorem b8h{b:ByteArray}(h:mD C y (.string b))(u:Ty)(K:List u.den->Cmd α):a5b u y K= .fail:=by
 cases y<;>try rfl
 case nl=>cases (show Value.string b= .slice none 0 0 from h)
 case ne z=>obtain⟨_,_,e,_⟩:=(show ∃a c,Value.string b= .slice a 0 c/\a.isNone=z from h);cases e
 case sl t xs=>
  rcases(show mJ C.h C.ok (.sl t) xs [.string b]from h)with⟨_,a,cap,e,_⟩|⟨_,mv,e,_⟩
  .cases (X8 e).1
  .cases (X8 e).1
 case own bx vw=>
  obtain⟨loc,_,hv⟩:=(show ∃loc,C.m bx=some loc/\loc.view vw (.string b)from h);cases loc<;>rcases vw with _|⟨lo,hi⟩<;>simp only[Loc.view]at hv
  .cases hv
  .cases hv.2.2
  .cases hv
  .cases hv.2.2
  .cases hv
theorem b8a(H:FxOk X)(R:Rel X (CB*q) (CB*q+CB) S m ok a w){c:Call}(ho:o.op= .call c)(hc:c.callee= .builtin .copy):(bF X.E q o).post S (λ_ S' =>jr X (CB*q) (CB*q+CB) o a w m ok S'):=by
 obtain⟨cal,args,ats⟩:=c;simp only at hc;subst hc;unfold bF;simp only[ho];refine mV R _ λvs hvs=>?_;split<;>try trivial
 rename_i t t' x y hat
 obtain⟨u1,r,he,hx,u2,r',he',hy,hr⟩:=hvs;simp only[iW]at hr;subst hr;rw[he']at he;obtain⟨p,p',rfl,rfl,rfl⟩:=Zw he;refine dL λhtt=>?_;have htt' :=iD htt;subst htt';have hats:ats=#[t,t]:=by
  obtain⟨l⟩:=ats;simp only at hat
  rw[hat]
 unfold b9r;split
 .trivial
 rename_i e u het;obtain⟨j,z,inf,hu,hj,h1,h2,h3,h4,h5,h6⟩:=yR H het;split<;>try trivial
 have ht:=IM het;by_cases hns:∃b,a.eval p' = .string b
 .obtain⟨b,hb⟩:=hns;rw[hb]at hy;rw[b8h hy];trivial
 have hns:∀b,a.eval p' ≠.string b:=λb e=>hns ⟨b,e⟩;refine RZ R ht hy λys es hv r2=>?_;split<;>try trivial
 rename_i bx;obtain⟨loc,hm,hview⟩:=hx;refine bf ?_;split<;>try trivial
 rename_i u' xs hS;refine gG λeu=>?_;subst eu;refine jb ?_;obtain⟨loc',hm',ha⟩:=R.own_arr hS;simp only at hm;rw[hm]at hm';cases hm';have him:qj (o9 xs) (o9 ys)=((Nat.min ys.length xs.length:Nat):Int):=by unfold qj o9;split<;>simp only[Nat.min_def]<;>split<;>omega
 rw[him];cases loc with
 |st b=>cases ha|mp b=>exact absurd ha.1 (by simp[ht])|nil=>
  obtain⟨ha,_⟩:=ha;subst ha;have hx' :a.eval p= .slice none 0 0:=hview;have hf:=Jo (P:=X.P) (k:=0) (by rw[←h2]at hv;exact hv) (bU _) hns;have R' :Rel X (CB*q) (CB*q+CB) (upd S (ai+bx) (.barr u' (RG [] ys))) m ok a w:=
   R.mod (by rw[hS];simp[V9,hm]) A7 rfl rfl rfl rfl (λ_ _=>rfl) ⟨_,hm,by simp[RG],ht⟩
  refine uJ H R' (λ_ _ h=>h) (λ_ _ h=>h) (x:=.int .i64 ((Nat.min ys.length 0:Nat):Int)) rfl ?_;simp[execOp,ho,resolve,invoke,builtin,hats,hx',Builtin.copy_,run_underlying hu,hv.lenOf,sizeOf,typeInfo,h1,hf,goInt]
 |arr blk off len cap sz=>
  obtain⟨c,T,f,hb,hfz,rfl,rfl,hcap,hfit,r1⟩:=Vr ha;have hx' :a.eval p= .slice (some ⟨blk,off,none⟩) xs.length cap:=hview;simp only at hb r1;generalize hk:Nat.min ys.length xs.length=k;have hk1:k<=ys.length:=by rw[←hk];exact Nat.min_le_left _ _
  have hk2:k<=xs.length:=by rw[←hk];exact Nat.min_le_right _ _
  have hf:=Jo (P:=X.P) (k:=k) (by rw[←h2]at hv;exact hv) hk1 hns;have hes:es.length=ys.length*u'.size:=hv.1;have hle1:k*u'.size<=ys.length*u'.size:=H7 _ hk1;have hle2:k*u'.size<=xs.length*u'.size:=H7 _ hk2;have hle3:xs.length*u'.size<=cap*u'.size:=H7 _ hcap;have htl:(es.take (k*u'.size)).length=k*u'.size:=by simp;omega
  have hcl:c.toList.length=c.size:=rfl;have hst:=Ap (P:=X.P) blk off T (es.take (k*u'.size)) 0 c f w hb hfz.of (by rw[htl];omega) (λu hu=>r2.one_cell u (List.mem_of_mem_take hu));simp only[aB]at hst;have hsp:(aY off (es.take (k*u'.size)) c.toList).length=c.size:=by rw[yg (by rw[htl];omega)];rfl
  have hown:V9 m bx (S (ai+bx))=[blk]:=by simp[V9,hS,hm]
  have hkeep:∀b t,ok b t->(w.setRow blk (aY off (es.take (k*u'.size)) c.toList).toArray).heap[b]? =w.heap[b]?:=λb t hb=>setRow_other w blk b _ (λe=>(R.sep bx blk (by rw[hown];simp)).1 t (e▸hb));have hlc:(RG xs ys).length=xs.length:=by unfold RG;simp;omega
  have hlce:RG xs ys=ys.take k++xs.drop k:=by
   unfold RG;rcases Nat.le_total ys.length xs.length with h|h
   .have:k=ys.length:=by rw[←hk];exact bg h
    rw[this,S9 (F5 _),S9 h]
   .have:k=xs.length:=by rw[←hk];exact Nat.min_eq_right h
    rw[this,dH h,dH (F5 _)]
  have R' :Rel X (CB*q) (CB*q+CB) (upd S (ai+bx) (.barr u' (RG xs ys))) m ok a (w.setRow blk (aY off (es.take (k*u'.size)) c.toList).toArray):=by
   refine R.mod (by rw[hown];simp[V9,hm]) A7 rfl rfl rfl A7 (λb hb=>setRow_other w blk b _ (by rw[hown]at hb;simpa using hb)) ⟨_,hm,?_⟩;have:=fE.arrOk (C:=⟨(w.setRow blk (aY off (es.take (k*u'.size)) c.toList).toArray).heap,ok,m⟩) (xs:=RG xs ys) (cs:=((aY off (es.take (k*u'.size)) c.toList).drop off).take (xs.length*u'.size)) (blk:=blk) (off:=off) (cap:=cap) ht ?_ (setRow_heap w blk c _ T f hb) (by rw[dV,hsp];exact hfz) (by rw[hlc];exact hcap) (by rw[dV,hsp];exact hfit) (by rw[hlc])
   .rw[hlc]at this;exact this
   .refine fE.mono (h:=w.heap) (ok:=ok) (λ_ _ h=>h) hkeep ?_;have e1:=QX (b:=off) (off:=0) (n:=xs.length*u'.size) (us:=es.take (k*u'.size)) (L:=c.toList) (by rw[hcl];omega) (by rw[htl];omega);rw[aB]at e1;rw[e1,hlce];unfold aY;rw[List.take_zero,H8,bP,htl];refine fE.append ?_ ?_
    .refine⟨by rw[htl,Y9,bg hk1],λi x hi=>?_⟩;have hik:i<k:=by have:=(X0.1 hi).1;simp at this;omega
     have hi' :ys[i]? =some x:=by rw[X6,if_pos hik]at hi;exact hi
     have h7:=r2.2 i x hi';have hle:(i+1)*u'.size<=k*u'.size:=H7 _ l9;rw[J4,bi]at hle;rw[jm,iG,bg l9];exact h7
    .refine⟨by have:=r1.1;simp only[nX,this,Nat.sub_mul],λi x hi=>?_⟩;rw[P5]at hi;have h7:=r1.2 (k+i) x hi;rw[J4]at h7;rw[Z9];exact h7
  refine uJ H R' (λ_ _ h=>h) (λ_ _ h=>h) (x:=.int .i64 (k:Int)) rfl ?_;rw[h2]at hf;have hrun:(Builtin.copy_ #[t,t] o.type #[.slice (some ⟨blk,off,none⟩) xs.length cap,a.eval p']).run X.P w= .ok (.int .i64 (k:Int)) (w.setRow blk (aY off (es.take (k*u'.size)) c.toList).toArray):=by simp only[Builtin.copy_,List.getElem?_toArray,eX,ql,H6,run_underlying hu,I5,hv.lenOf,hk,sD hj,h3,Y7,hf,List.toList_toArray,hst,goInt,aY]
  simp[execOp,ho,resolve,invoke,builtin,hats,hx',hrun]
theorem a7i(H:FxOk X)(R:Rel X (CB*q) (CB*q+CB) S m ok a w){src t:TypeId}(ho:o.op= .convert src t x):
  (bF X.E q o).post S (λ_ S' =>jr X (CB*q) (CB*q+CB) o a w m ok S'):=by
 refine a4T H R ho λl hl hsrc=>?_;unfold b2F;split<;>try trivial
 rename_i e het;obtain⟨j,z,inf,hu,hj,h1,h2,h3,h4,h5,h6⟩:=yR H het;refine lX H λk hk=>?_;have hkd:=hk.td;split<;>try trivial
 rename_i hke;rw[hke]at hkd;have hrun:=run_bytes_of_string (P:=X.P) w src t e ⟨l.toArray⟩ hsrc hu hkd;have hsz:(⟨l.toArray⟩:ByteArray).size=l.length:=by simp[ByteArray.size]
 have hge:=grownCap_ge w (⟨l.toArray⟩:ByteArray).size 0 e;generalize hcap:grownCap w (⟨l.toArray⟩:ByteArray).size 0 e=cap at*;have hbs:(bytesRow ⟨l.toArray⟩ cap).size=cap:=by simp[bytesRow];omega
 have hll:(Pi l).length=l.length:=by simp[Pi]
 refine QF H R (w1:=w.drew) (u:=.int .u8) (e:=e) (cap:=cap) (c:=bytesRow ⟨l.toArray⟩ cap) (cs:=Lib.strCells ⟨l.toArray⟩) (f:=((bytesRow ⟨l.toArray⟩ cap).size,(bytesRow ⟨l.toArray⟩ cap).size+1)) rfl rfl rfl rfl rfl ?_ ?_ ?_ ?_ (λ_ _ h=>h) (λ_ _ h=>h) (.inr ⟨rfl,rfl⟩) ?_
 .refine⟨by rw[Lib.strCells_length];simp[Pi,Ty.size,ByteArray.size],λi x hi=>?_⟩;show(((Lib.strCells ⟨l.toArray⟩).drop (i*1)).take 1)=[.int .u8 x];have hl:l[i]?.map (λc=>(c.toNat:Int))=some x:=by simpa[Pi,fO]using hi
  obtain⟨c,hc,rfl⟩:=mg.1 hl;have h7:(Lib.strCells ⟨l.toArray⟩)[i]? =some (.int .u8 c.toNat):=by simp[Lib.strCells,hc]
  obtain⟨g1,g2⟩:=X0.1 h7;rw[ji,fQ g1,g2];rfl
 .omega
 .rw[hbs];simp[Ty.size]
 .rw[hll];have:(bytesRow ⟨l.toArray⟩ cap).toList=Lib.strCells ⟨l.toArray⟩++List.replicate (cap -l.length) (.int .u8 0):=by
   simp[bytesRow,Lib.strCells,hsz]
  rw[this,ax (by rw[Lib.strCells_length,hsz];simp[Ty.size])];exact S9 (by rw[Lib.strCells_length,hsz];simp[Ty.size])
 .simp only[execOp,ho,hl];rw[H6,hrun,hll,←hsz];rfl
end
def wz{α β:Type}(eq:α->α->Bool):List (α×β)->α->Option Nat
 |[],_=>none|p::r,k=>bif eq k p.1 then some 0 else(wz eq r k).map (·+1)
theorem SY{α β:Type}{eq:α->α->Bool} :∀{xs:List (α×β)} {k:α} {i:Nat},wz eq xs k=some i->∃p,xs[i]? =some p/\eq k p.1=true
 |[],_,_,h=>by cases h|p::r,k,i,h=>by
  unfold wz at h;cases he:eq k p.1<;>rw[he]at h
  .simp only[cond_false,mg]at h;obtain⟨j,h1,rfl⟩:=h;obtain⟨q,h2,h3⟩:=SY h1;exact⟨q,by simpa using h2,h3⟩
  .cases h;exact⟨p,rfl,he⟩
theorem ZG{α β:Type}(eq:α->α->Bool):∀(xs:List (α×β)) (k:α) (z:β),JQ eq xs k z=(match wz eq xs k with|some i=>(match xs[i]? with|some p=>p.2|none=>z)|none=>z)
 |[],_,_=>rfl|p::r,k,z=>by
  unfold JQ wz;cases he:eq k p.1
  .simp only[cond_false];rw[ZG eq r k z];cases wz eq r k<;>simp
  .rfl
variable {β:Type}
theorem b0P(eq:α->α->Bool):∀(xs:List (α×β)) (k:α) (z:β),sW eq xs k z=(match wz eq xs k with|some i=>(match xs[i]? with|some p=>p.2|none=>z)|none=>z):=
 ZG eq
theorem ZH{α β:Type}(eq:α->α->Bool):∀(xs:List (α×β)) (k:α),Pv eq xs k=(wz eq xs k).isSome
 |[],_=>rfl|p::r,k=>by
  unfold Pv wz;cases he:eq k p.1
  .simp only[cond_false];rw[ZH eq r k];cases wz eq r k<;>simp
  .rfl
theorem b0Q(eq:α->α->Bool):∀(xs:List (α×β)) (k:α),Tc eq xs k=(wz eq xs k).isSome:=
 ZH eq
theorem ZJ{α β:Type}(eq:α->α->Bool):∀(xs:List (α×β)) (k:α) (x:β),Px eq xs k x=(match wz eq xs k with|some i=>xs.set i (k,x)|none=>xs++[(k,x)])
 |[],_,_=>rfl|p::r,k,x=>by
  unfold Px wz;cases he:eq k p.1
  .simp only[cond_false];rw[ZJ eq r k x];cases wz eq r k<;>simp
  .rfl
theorem a1m(eq:α->α->Bool):∀(xs:List (α×β)) (k:α) (x:β),Gy eq xs k x=(match wz eq xs k with|some i=>xs.set i (k,x)|none=>xs++[(k,x)]):=
 ZJ eq
theorem Ye:∀{k:Ty} (hf:k.flat=true) (a b:k.den),keq k a b=true↔a=b
 | .bool,_,a,b=>by cases a<;>cases b<;>simp[keq,jG]| .int _,_,a,b=>by simp[keq,x8]| .str,_,a,b=>by simp[keq,seq]| .unit,_,a,b=>⟨λ_=>rfl,λ_=>rfl⟩| .prod p q,hf,a,b=>by simp only[Ty.flat,A8]at hf;simp only[keq,U6,A8,Ye hf.1,Ye hf.2];exact⟨λh=>aZ h.1 h.2,λh=>by subst h;exact⟨rfl,rfl⟩⟩| .sl _,hf,_,_=>by cases hf| .ent ..,hf,_,_=>by cases hf
theorem Yk{h h' :Array Obj}{ok ok' :Nat->Ty->Prop} :∀{t:Ty} (hf:t.flat=true) {x:t.den} {c d:d5Z},mJ h ok t x c->mJ h' ok' t x d->c=d
 | .bool,_,_,_,_,h1,h2=>by simp only[mJ]at h1 h2;rw[h1,h2]| .int _,_,_,_,_,h1,h2=>by simp only[mJ]at h1 h2;rw[h1,h2]| .str,_,_,_,_,h1,h2=>by simp only[mJ]at h1 h2;rw[h1,h2]| .unit,_,_,_,_,h1,h2=>by simp only[mJ]at h1 h2;rw[h1,h2]| .prod p q,hf,_,_,_,h1,h2=>by simp only[Ty.flat,A8]at hf;obtain⟨a,b,rfl,a1,a2⟩:=h1;obtain⟨a',b',rfl,b1,b2⟩:=h2;rw[Yk hf.1 a1 b1,Yk hf.2 a2 b2]
 | .sl _,hf,_,_,_,_,_=>by cases hf| .ent ..,hf,_,_,_,_,_=>by cases hf
theorem a2X{h h' :Array Obj}{ok ok' :Nat->Ty->Prop} :∀{t:Ty} (hf:t.flat=true) {x y:t.den} {c:d5Z},mJ h ok t x c->mJ h' ok' t y c->x=y
 | .bool,_,_,_,_,h1,h2=>by simp only[mJ]at h1 h2;rw[h1]at h2;simpa using h2| .int _,_,_,_,_,h1,h2=>by simp only[mJ]at h1 h2;rw[h1]at h2;simpa using h2
 | .str,_,_,_,_,h1,h2=>by simp only[mJ]at h1 h2;rw[h1]at h2;injection h2 with h2 _;injection h2 with h2;injection h2 with h2;have:=congrArg Array.toList h2;simpa using this
 | .unit,_,_,_,_,_,_=>rfl| .prod p q,hf,_,_,_,h1,h2=>by simp only[Ty.flat,A8]at hf;obtain⟨a,b,rfl,a1,a2⟩:=h1;obtain⟨a',b',e,b1,b2⟩:=h2;obtain⟨rfl,rfl⟩:=List.append_inj e ((gm a1).trans (gm b1).symm);exact aZ (a2X hf.1 a1 b1) (a2X hf.2 a2 b2)
 | .sl _,hf,_,_,_,_,_=>by cases hf| .ent ..,hf,_,_,_,_,_=>by cases hf
theorem Wl{h:Array Obj}{ok:Nat->Ty->Prop} :∀{k:Ty} (hf:k.flat=true) {x:k.den} {c:d5Z},mJ h ok k x c->∀{sh:List Ty} {d:d5Z},kG sh d->kG (k.leaves++sh) (c++d)
 | .bool,_,x,_,h1,_,_,hd=>by simp only[mJ]at h1;subst h1;exact⟨_,_,rfl,hd⟩| .int _,_,x,_,h1,_,_,hd=>by simp only[mJ]at h1;subst h1;exact⟨_,_,rfl,hd⟩| .str,_,x,_,h1,_,_,hd=>by simp only[mJ]at h1;subst h1;exact⟨_,_,rfl,hd⟩| .unit,_,x,_,h1,_,_,hd=>by simp only[mJ]at h1;subst h1;exact hd| .prod p q,hf,_,_,h1,_,_,hd=>by simp only[Ty.flat,A8]at hf;obtain⟨a,b,rfl,a1,a2⟩:=h1;simp only[Ty.leaves,F8];exact Wl hf.1 a1 (Wl hf.2 a2 hd)
 | .sl _,hf,_,_,_,_,_,_=>by cases hf| .ent ..,hf,_,_,_,_,_,_=>by cases hf
theorem a1D:∀{a b:List Ty},Wx a b=true->a=b
 |[],[],_=>rfl|[],_::_,h=>by cases h|_::_,[],h=>by cases h|a::r,b::q,h=>by
  unfold Wx at h;cases hb:Ty.beq a b<;>rw[hb]at h
  .cases h
  .rw[Ty.beq_eq hb,a1D (show Wx r q=true from h)]
def FO(ag:Bool)(k:Ty)(x:k.den)(kv:Value):Prop:=gok ag kv/\mJ #[] (λ_ _=>False) k x (vT ag kv)
variable {ag:Bool}
theorem a6N{u v:Value}(hu:gok ag u)(hv:gok ag v)(h:vT ag u=vT ag v):u=v:=by
 cases ag
 .simpa[vT]using h
 .obtain⟨a,rfl⟩:=hu;obtain⟨b,rfl⟩:=hv;have:a.toList=b.toList:=h;rw[Array.toList_inj.1 this]
variable {k:Ty}
theorem FO.det(hf:k.flat=true){x:k.den}{u v:Value}(h1:FO ag k x u)(h2:FO ag k x v):u=v:=
 a6N h1.1 h2.1 (Yk hf h1.2 h2.2)
theorem RY:∀(v:Value),(∃b,v= .bool b)\/(∃k n,v= .int k n)\/(∃s,v= .string s)->∀n,Instr.sameBits n v v=true:=by rintro v (⟨b,rfl⟩|⟨k,n,rfl⟩|⟨s,rfl⟩) m<;>simp[Instr.sameBits,MapKept.bytes_beq]
theorem Wj{h:Array Obj}{ok:Nat->Ty->Prop} :∀{k:Ty} (hf:k.flat=true) {x:k.den} {c:d5Z},mJ h ok k x c->∀v∈c,(∃b,v= .bool b)\/(∃k n,v= .int k n)\/(∃s,v= .string s)
 | .bool,_,x,_,h1,v,hv=>by simp only[mJ]at h1;subst h1;simp at hv;exact .inl ⟨_,hv⟩| .int _,_,x,_,h1,v,hv=>by simp only[mJ]at h1;subst h1;simp at hv;exact .inr (.inl ⟨_,_,hv⟩)| .str,_,x,_,h1,v,hv=>by simp only[mJ]at h1;subst h1;simp at hv;exact .inr (.inr ⟨_,hv⟩)| .unit,_,x,_,h1,v,hv=>by simp only[mJ]at h1;subst h1;cases hv| .prod p q,hf,_,_,h1,v,hv=>by
  simp only[Ty.flat,A8]at hf;obtain⟨a,b,rfl,a1,a2⟩:=h1;rcases F7.1 hv with hv|hv
  .exact Wj hf.1 a1 v hv
  .exact Wj hf.2 a2 v hv
 | .sl _,hf,_,_,_,_,_=>by cases hf| .ent ..,hf,_,_,_,_,_=>by cases hf
theorem FO.stays{w:World}(hf:k.flat=true){x:k.den}(h:FO ag k x v):(Instr.keyThatStays v v).run P w= .ok v w:=by
 have hs:Instr.sameBits 10000 v v=true:=by
  have hc:=Wj hf h.2;cases ag
  .exact RY v (hc v (by simp[vT])) _
  .obtain⟨arr,rfl⟩:=h.1;show Instr.sameBits (9999+1) (.agg arr) (.agg arr)=true;simp only[Instr.sameBits,beq_self_eq_true,ik,kV];intro p hp;obtain⟨i,hi,e⟩:=X9 hp;rw[List.getElem_zip]at e;rw[←e];exact RY _ (hc _ (N7 _)) _
 simp[Instr.keyThatStays,hs]
variable {M:MT}
section
variable {X:Fx} {cl ch:Nat} {S:Sm} {m:Mp} {ok:Nat->Ty->Prop} {a:Act} {w:World} {T:d6a} {o:Oper}
theorem a4t(H:FxOk X){ke:Nat}{i:TI}(hi:TiOk X.P ke i)(hk:a4r X.E ke i.td k=true)(hf:k.flat=true){x:k.den}{u:Value}(hu:FO (dA i.td) k x u)(w:World):
  (∀em,(Instr.checkKey em 10000 ke u).run X.P w= .ok () w)/\
  ∀{β:Type} (es:List MapEntry) (xs:List (k.den×β)),es.length=xs.length->(∀(j:Nat) (p:k.den×β),xs[j]? =some p->∃e:MapEntry,es[j]? =some e/\FO (dA i.td) k p.1 e.key)->
   (Instr.findKey ke u es).run X.P w= .ok ((wz (keq k) xs x).bind λj=>(es[j]?).map λe=>(j,e.val)) w:=by
 have htd:=hi.td;have scal:∀d,X.P.underlying ke=some d->dA i.td=false->(∀y v,FO (dA i.td) k y v->Instr.sameNow d u v=some (keq k x y))->
   ∀{β:Type} (es:List MapEntry) (xs:List (k.den×β)),es.length=xs.length->(∀(j:Nat) (p:k.den×β),xs[j]? =some p->∃e:MapEntry,es[j]? =some e/\FO (dA i.td) k p.1 e.key)->
   (Instr.findKey ke u es).run X.P w= .ok ((wz (keq k) xs x).bind λj=>(es[j]?).map λe=>(j,e.val)) w:=by
  intro d hd _ hs β es xs hl he;refine MapKept.run_findKey hd ?_;have:∀(es:List MapEntry) (xs:List (k.den×β)) (n:Nat),es.length=xs.length->(∀(j:Nat) (p:k.den×β),xs[j]? =some p->∃e:MapEntry,es[j]? =some e/\FO (dA i.td) k p.1 e.key)->
    Instr.findNow d u es n=some ((wz (keq k) xs x).bind λj=>(es[j]?).map λe=>(n+j,e.val)):=by
   intro es;induction es with
   |nil=>
    intro xs n hl he;cases xs with
    |nil=>rfl|cons _ _=>cases hl
   |cons e es ih=>
    intro xs n hl he;cases xs with
    |nil=>cases hl|cons p xs=>
     obtain⟨e',h1,h2⟩:=he 0 p rfl;simp only[eX,F9]at h1;subst h1;unfold Instr.findNow wz;rw[hs _ _ h2];cases hq:keq k x p.1
     .simp only[cond_false];rw[ih xs (n+1) (by simpa using hl) (λj q hj=>by simpa using he (j+1) q (by simpa using hj))];cases wz (keq k) xs x with
      |none=>rfl|some j=>simp[iq,Nat.add_comm 1 j]
     .simp
  simpa using this es xs 0 hl he
 have one:∀{v:Value} {y:k.den},dA i.td=false->FO (dA i.td) k y v->mJ #[] (λ_ _=>False) k y [v]:=λha h=>by have:=h.2;rw[ha]at this;exact this
 unfold a4r at hk;split at hk
 .rename_i htd';rw[htd']at htd;have ha:dA i.td=false:=by rw[htd'];rfl
  have hu1:=one ha hu;simp only[mJ,I4,and_true]at hu1;subst hu1;refine⟨λem=>tu htd (by simp[MapKept.IsKey]) em 9999,scal _ htd ha λy v hv=>?_⟩;have hv1:=one ha hv;simp only[mJ,I4,and_true]at hv1;subst hv1;rfl
 .rename_i p q htd';have:=of_decide_eq_true hk;subst this;rw[htd']at htd;have ha:dA i.td=false:=by rw[htd'];rfl
  have hu1:=one ha hu;simp only[mJ,I4,and_true]at hu1;subst hu1;refine⟨λem=>tu htd (by simp[MapKept.IsKey]) em 9999,scal _ htd ha λy v hv=>?_⟩;have hv1:=one ha hv;simp only[mJ,I4,and_true]at hv1;subst hv1;simp[Instr.sameNow,keq,x8];rfl
 .rename_i htd';rw[htd']at htd;have ha:dA i.td=false:=by rw[htd'];rfl
  have hu1:=one ha hu;simp only[mJ,I4,and_true]at hu1;subst hu1;refine⟨λem=>tu htd (by simp[MapKept.IsKey]) em 9999,scal _ htd ha λy v hv=>?_⟩;have hv1:=one ha hv;simp only[mJ,I4,and_true]at hv1;subst hv1;simp only[Instr.sameNow,keq,seq,F9];rw[gK];simp[MapKept.bytes_beq]
 .rename_i k _ _ fs htd';cases hkf:k.flat<;>rw[hkf]at hk
  .cases hk
  simp only[cond_true]at hk;cases hq:dW X.E.eqs ke with
  |none=>rw[hq]at hk;cases hk|some sh=>
  rw[hq]at hk;have hsh:=a1D (show Wx sh k.leaves=true from hk);subst hsh;obtain⟨⟨fields,hund⟩,hks⟩:=(H.eqs ke _ hq).2;have ha:dA i.td=true:=by rw[htd'];rfl
  rw[ha]at hu;obtain⟨xs0,rfl⟩:=hu.1;have shp:∀{y:k.den} {arr:Array Value},FO true k y (.agg arr)->kG k.leaves arr.toList:=λ{y arr} h=>by have:=Wl hf (show mJ #[] (λ_ _=>False) k y arr.toList from h.2) (sh:=[]) (d:=[]) rfl;simpa using this
  obtain⟨c1,c2⟩:=hks w xs0 (shp hu);refine⟨c1,λ{β} es xs hl he=>?_⟩;rw[run_findKey_eq w (by rw[hund])];rw[ha]at he;have:∀(es:List MapEntry) (xs:List (k.den×β)) (n:Nat),es.length=xs.length->(∀(j:Nat) (p:k.den×β),xs[j]? =some p->∃e:MapEntry,es[j]? =some e/\FO true k p.1 e.key)->
    (Instr.findAsking ke (.agg xs0) es n).run X.P w= .ok ((wz (keq k) xs x).bind λj=>(es[j]?).map λe=>(n+j,e.val)) w:=by
   intro es;induction es with
   |nil=>
    intro xs n hl he;cases xs with
    |nil=>rfl|cons _ _=>cases hl
   |cons e es ih=>
    intro xs n hl he;cases xs with
    |nil=>cases hl|cons p xs=>
     obtain⟨e',h1,h2⟩:=he 0 p rfl;simp only[eX,F9]at h1;subst h1;obtain⟨ys,hys⟩:=h2.1;rw[hys]at h2;obtain⟨r,hr,hre⟩:=c2 ys (shp h2);have hrq:r=keq k x p.1:=by
      rw[gK,hre,Ye hf];constructor
      .intro h;have h3:=h2.2;rw[show vT true (Value.agg ys)=ys.toList from rfl,←h]at h3;exact a2X hf hu.2 h3
      .intro h;have h3:=h2.2;rw[←h]at h3;exact Yk hf hu.2 h3
     subst hrq;unfold Instr.findAsking wz;simp only[hys,H6,hr,I5];cases hq:keq k x p.1
     .simp only[cond_false,df,if_false];rw[ih xs (n+1) (by simpa using hl) (λj q hj=>by simpa using he (j+1) q (by simpa using hj))];cases wz (keq k) xs x with
      |none=>rfl|some j=>simp[iq,Nat.add_comm 1 j]
     .simp
  simpa using this es xs 0 hl he
 .cases hk
theorem SL(H:FxOk X){t:Nat}(h:Um X.E t=some M):X.P.underlying t=some (.map M.ke M.el)/\M.k.flat=true/\
  (∃i,TiOk X.P M.ke i/\a4r X.E M.ke i.td M.k=true/\M.ka=dA i.td)/\(∃j,TiOk X.P M.el j/\j.ty=some M.v/\M.va=dA j.td):=by
 unfold Um at h;split at h<;>try (cases h;done)
 rename_i i hi;split at h<;>try (cases h;done)
 rename_i ke el htd;split at h<;>try (cases h;done)
 rename_i p q hp hq;split at h<;>try (cases h;done)
 rename_i k v hk hv;cases hc:(a4r X.E ke p.td k&&k.flat)<;>rw[hc]at h
 .cases h
 .simp only[cond_true,F9]at h;subst h;simp only[A8]at hc;have h1:=(H.tt t i hi).td;rw[htd]at h1;exact⟨h1,hc.2,⟨p,H.tt _ p hp,hc.1,rfl⟩,⟨q,H.tt _ q hq,hv,rfl⟩⟩
theorem Vy{t:Ty}{v:V}{x:Value}{K:t.den->Cmd α}(R:Rel X cl ch S m ok a w)(hT:Tk X S m ok w T)(hv:mD ⟨w.heap,ok,m⟩ v x)
  (hK:∀S' ok' y,Rel X cl ch S' m ok' a w->Tk X S' m ok' w T->(∀b t,ok b t->ok' b t)->bu S S' ->gok ag x->mJ w.heap ok' t y (vT ag x)->(K y).post S' Q):
  (b2G ag t v K).post S Q:=by
 unfold b2G;refine FP hv λcs us hg hl=>?_;refine IC t R hT hl λS1 ok1 y q us1 us' R1 T1 k1 s1 e1 h1 l1=>?_;cases q with
 |cons _ _=>trivial|nil=>
 simp only[ig]at l1;subst l1;simp only[G5]at e1;subst e1;have hgc:gok ag x/\vT ag x=us:=by
  cases ag
  .simp only[We]at hg;subst hg;exact⟨zq h1 x A7,rfl⟩
  .obtain⟨arr,rfl,rfl⟩:=hg;exact⟨⟨arr,rfl⟩,rfl⟩
 refine hK _ _ _ R1 T1 k1 s1 hgc.1 ?_;rw[hgc.2];exact h1
def Ot(h:Array Obj)(ok:Nat->Ty->Prop)(t:Ty)(xs:List t.den)(v:Value):Prop:=
 ∃mv,v= .map mv/\(mv=none->xs=[])/\∀blk,mv=some blk->∃(es:Array MapEntry) (ck:Nat),h[blk]? =some (.map es ck)/\es.size=(xs:List t.den).length/\
  ∀(i:Nat) (x:t.den),(xs:List t.den)[i]? =some x->∃e:MapEntry,es[i]? =some e/\TV t e/\mJ h ok t x (Dq t e)
theorem Ot.of_rep{ok:Nat->Ty->Prop}{t:Ty}{xs:List t.den}(ht:t.isEnt=true)(hr:mJ h ok (.sl t) xs [v]):Ot h ok t xs v:=by obtain⟨mv,e,h1,h2⟩:=(a7y ht).1 hr;exact⟨mv,by simpa using e,h1,λblk hb=>(h2 blk hb).2⟩
theorem Ot.of_arr{t:Ty}{xs:List t.den}(ht:t.isEnt=true)(ha:arrOk C t xs l)(hv:l.view none v):Ot C.h C.ok t xs v:=by
 cases l with
 |nil=>have:=ha.2;rw[ht]at this;cases this|st b=>cases ha|arr blk off len cap sz=>have:=ha.1;rw[ht]at this;cases this|mp b=>simp only[Loc.view]at hv;subst hv;exact⟨_,rfl,(λh=>nomatch h),λblk hb=>by cases hb;exact ha.2⟩
theorem a7m(R:Rel X cl ch S m ok a w)(hu:u.isEnt=true){v:V}{x:Value}{K:List u.den->Cmd α}(hv:mD ⟨w.heap,ok,m⟩ v x)
  (hK:∀xs,Ot w.heap ok u xs x->(K xs).post S Q):(b3X u v K).post S Q:=by
 unfold b3X;split<;>try trivial
 .refine gG λe=>?_;subst e;exact hK _ (Ot.of_rep hu hv)
 .rename_i bx;obtain⟨l,hm,hvw⟩:=hv;refine bf ?_;split<;>try trivial
  .rename_i t xs hS;obtain⟨l',hm',ha⟩:=R.own_arr hS;simp only at hm;rw[hm]at hm';cases hm';refine gG λe=>?_;subst e;exact hK _ (Ot.of_arr hu ha hvw)
  .rename_i t xs hS;obtain⟨l',hm',ha,_⟩:=R.own_frz hS;simp only at hm;rw[hm]at hm';cases hm';refine gG λe=>?_;subst e;exact hK _ (Ot.of_arr hu ha hvw)
theorem Qx{ok:Nat->Ty->Prop}{x:M.k.den×M.v.den}{e:MapEntry}(h1:TV M.ent e)(h2:mJ h ok M.ent x (Dq M.ent e)):
  gok M.ka e.key/\gok M.va e.val/\mJ h ok M.k x.1 (vT M.ka e.key)/\mJ h ok M.v x.2 (vT M.va e.val):=by
 obtain⟨g1,g2,g3⟩:=h1;obtain⟨c,d,e1,r1,r2⟩:=h2;obtain⟨rfl,rfl⟩:=List.append_inj (show vT M.ka e.key++vT M.va e.val=c++d from e1) (g3.trans (gm r1).symm);exact⟨g1,g2,r1,r2⟩
theorem b2L{ok:Nat->Ty->Prop}{x:M.k.den}{y:M.v.den}{e:MapEntry}(g1:gok M.ka e.key)(g2:gok M.va e.val)(r1:mJ h ok M.k x (vT M.ka e.key))(r2:mJ h ok M.v y (vT M.va e.val)):
  TV M.ent e/\mJ h ok M.ent (x,y) (Dq M.ent e):=⟨⟨g1,g2,gm r1⟩,_,_,rfl,r1,r2⟩
theorem a2T{c:V}(h:xP C c v):p_ C c v:=by
 cases c<;>simp only[xP]at h<;>try exact h
 all_goals exact h.elim
theorem b4K{cs:List V}{us:d5Z}{x:Value}(hg:We ag x us)(hl:ig C cs us):p_ C (mkV ag cs) x:=by
 cases ag
 .simp only[We]at hg;subst hg;cases cs with
  |nil=>simp[ig]at hl|cons c r=>
   obtain⟨v,r',e,h1,h2,h3⟩:=hl;simp at e;obtain⟨rfl,rfl⟩:=e;cases r with
   |nil=>exact a2T h1|cons d r=>obtain⟨_,_,e,_⟩:=h3;cases e
 .obtain⟨arr,rfl,rfl⟩:=hg;exact⟨arr,rfl,hl⟩
theorem a5r(h:gok ag v):We ag v (vT ag v):=by
 cases ag
 .rfl
 .obtain⟨arr,rfl⟩:=h;exact⟨arr,rfl,rfl⟩
theorem XX{w:World}{t ke el:TypeId}{mv:Option Nat}{es:Array MapEntry}{key z:Value}{ok:Bool}(hund:P.underlying t=some (.map ke el))
  (hes:mv=none/\es=#[]\/∃r ck,mv=some r/\w.heap[r]? =some (.map es ck)) (hck:∀em,(Instr.checkKey em 10000 ke key).run P w= .ok () w) {r:Option (Nat×Value)}
  (hfind:(Instr.findKey ke key es.toList).run P w= .ok r w) (hz:(zeroValue el).run P w= .ok z w):
  (Instr.lookup t (.map mv) key ok).run P w= .ok (if ok then .tuple #[(r.map (·.2)).getD z,.bool r.isSome]else(r.map (·.2)).getD z) w:=by
 rcases hes with⟨rfl,rfl⟩|⟨b,ck,rfl,hb⟩
 .simp only[Instr.lookup,H6,run_underlying hund,I5,Y7,hck,hfind];cases r with
  |none=>cases ok<;>simp[hz]|some p=>cases ok<;>simp
 .simp only[Instr.lookup,H6,run_underlying hund,MW hb,I5,Y7,hck,hfind];cases r with
  |none=>cases ok<;>simp[hz]|some p=>cases ok<;>simp
theorem b1g(H:FxOk X)(R:Rel X cl ch S m ok a w){x ix:Operand}{okk:Bool}(ho:o.op= .lookup t x ix okk):(bF X.E q o).post S (λ_ S' =>jr X cl ch o a w m ok S'):=by
 unfold bF;simp only[ho];refine aG R λu hu=>aG R λkv hk=>?_;unfold a9n;cases hM:Um X.E t with
 |none=>trivial|some M=>
 obtain⟨hund,hf,⟨i,hi,hko,hka⟩,⟨j,hj,hjt,hva⟩⟩:=SL H hM;simp only[];refine Vy (T:=[]) R Tk.nil hk λS1 ok1 key R1 T1 k1 s1 hg hr=>?_;refine a7m R1 rfl (QR k1 hu) λxs hxs=>?_;obtain⟨mv,hx,hnil,hmap⟩:=hxs;have hkey:FO (dA i.td) M.k key (a.eval ix):=by rw[←hka];exact⟨hg,Bj hf hr⟩
 obtain⟨c1,c2⟩:=a4t H hi hko hf hkey w;obtain⟨inf,hinf,_,_,_,hzero⟩:=hj.info;obtain⟨_,z,hz,hzr⟩:=hzero _ hjt;have hzrun:(zeroValue M.el).run X.P w= .ok z w:=by simp[zeroValue,typeInfo,hinf,hz]
 have hzg:gok M.va z/\mJ w.heap ok1 M.v M.v.zero (vT M.va z):=by
  have hr0:mJ w.heap ok1 M.v M.v.zero z.cells.toList:=gp (λ_ _ h=>h.elim) (λ_ _ h=>h.elim) hzr;have hag:=hj.agg inf z hinf hz;rw[←hva]at hag;cases hva' :M.va
  .have h1:=hag.2 hva';have hcz:z.cells.toList=[z]:=by cases z<;>first|rfl|cases h1
   rw[hcz]at hr0;exact⟨h1,hr0⟩
  .exact⟨hag.1 hva',hr0⟩
 have hE:∃es:Array MapEntry,(mv=none/\es=#[]\/∃r ck,mv=some r/\w.heap[r]? =some (.map es ck))/\es.size=xs.length/\
   ∀(i:Nat) (x:M.k.den×M.v.den),xs[i]? =some x->∃e:MapEntry,es[i]? =some e/\TV M.ent e/\mJ w.heap ok1 M.ent x (Dq M.ent e):=by
  cases mv with
  |none=>have:=hnil rfl;subst this;exact⟨#[],.inl ⟨rfl,rfl⟩,rfl,λi x h=>by simp at h⟩|some blk=>obtain⟨es,ck,h1,h2,h3⟩:=hmap blk rfl;exact⟨es,.inr ⟨blk,ck,rfl,h1⟩,h2,h3⟩
 obtain⟨es,hes,hsz,hent⟩:=hE;have hfind:=c2 (β:=M.v.den) es.toList xs (by rw[bI];exact hsz) (λj p hp=>by obtain⟨e,h1,h2,h3⟩:=hent j p hp;obtain⟨g1,g2,r1,r2⟩:=Qx h2 h3;exact⟨e,by simpa using h1,by rw[←hka];exact⟨g1,Bj hf r1⟩⟩)
 have run:=XX (ok:=okk) hund hes c1 hfind hzrun;have hval:∃val,(((wz (keq M.k) xs key).bind λj=>(es.toList[j]?).map λe=>(j,e.val)).map (·.2)).getD z=val/\gok M.va val/\
   mJ w.heap ok1 M.v (sW (keq M.k) xs key M.v.zero) (vT M.va val)/\(((wz (keq M.k) xs key).bind λj=>(es.toList[j]?).map λe=>(j,e.val))).isSome=Tc (keq M.k) xs key:=by
  rw[b0P,b0Q];cases hfi:wz (keq M.k) xs key with
  |none=>exact⟨z,rfl,hzg.1,hzg.2,rfl⟩|some j=>
   obtain⟨p,hp,_⟩:=SY hfi;obtain⟨e,h1,h2,h3⟩:=hent j p hp;obtain⟨g1,g2,r1,r2⟩:=Qx h2 h3;have h1' :es.toList[j]? =some e:=by simpa using h1
   refine⟨e.val,by rw[kY,h1'];rfl,g2,?_,by rw[kY,h1'];rfl⟩;simp only[hp];exact r2
 obtain⟨val,e1,g,r,e2⟩:=hval;rw[e1,e2]at run;have hrel:=a5r g;have hL:=rD (C:=⟨w.heap,ok1,m⟩) r;cases okk
 .simp only[cond_false];refine uJ H R1 (λ_ _ h=>h) k1 (UR hrel hL) ?_;simp only[execOp,ho,hx,H6,run];rfl
 .simp only[cond_true];refine uJ H R1 (λ_ _ h=>h) k1 (v:=.tup _) (x:=.tuple #[val,.bool (Tc (keq M.k) xs key)]) ⟨_,rfl,⟨_,_,rfl,b4K hrel hL,_,_,rfl,rfl,rfl⟩⟩ ?_;simp only[execOp,ho,hx,H6,run];rfl
theorem a7k(H:FxOk X)(R:Rel X (CB*q) (CB*q+CB) S m ok a w){r:Option Operand}(ho:o.op= .makeMap t r):(bF X.E q o).post S (λ_ S' =>jr X (CB*q) (CB*q+CB) o a w m ok S'):=by
 have go:((Instr.makeMap t (r.map a.eval)).run X.P w= .ok (.map (some w.heap.size)) (w.alloc (.map #[] 0)))->
   (Po X.E (O7 q o.dst) t λv=>fF X.E o.dst v).post S (λ_ S' =>jr X (CB*q) (CB*q+CB) o a w m ok S'):=λrun=>by
  unfold Po;cases hM:Um X.E t with
  |none=>trivial|some M=>
  refine LP (l:=.mp w.heap.size) (obj:=.map #[] 0) (x:=.map (some w.heap.size)) H R A7 (by simp[V9]) (λhn hc=>?_) ⟨.mp w.heap.size,A7,rfl⟩ ?_
  .exact⟨.mp w.heap.size,A7,rfl,#[],0,heap_alloc_new w _,rfl,λi x h=>by simp at h⟩
  .simp only[execOp,ho,H6,run];rfl
 unfold bF;simp only[ho];cases r with
 |none=>exact go (by simp[Instr.makeMap])|some hd=>
  refine aG R λv hv=>?_;split<;>try trivial
  rename_i k n;cases hM:Um X.E t with
  |none=>unfold Po;rw[hM];trivial|some M=>
  refine go ?_;simp[Instr.makeMap,wO hv,run_underlying (SL H hM).1,asInt,asIntOf]
theorem UC(H:FxOk X)(R:Rel X cl ch S m ok a w){x ix y:Operand}(ho:o.op= .mapUpdate t x ix y\/o.op= .insert t x ix y):(bF X.E q o).post S (λ_ S' =>jr X cl ch o a w m ok S'):=by
 suffices h:((match o.dst with|none=>ru x λm=>ru ix λk=>ru y λv=>a3w X.E t m k v|some _=> .fail:Cmd Unit)).post S (λ_ S' =>jr X cl ch o a w m ok S') by unfold bF;rcases ho with ho|ho<;>simp only[ho]<;>exact h
 cases hd:o.dst with
 |some _=>trivial|none=>
 refine aG R λu hu=>aG R λkv hk=>aG R λyv hy=>?_;unfold a3w;cases hM:Um X.E t with
 |none=>trivial|some M=>
 obtain⟨hund,hf,⟨i,hi,hko,hka⟩,⟨j,hj,hjt,hva⟩⟩:=SL H hM;simp only[];refine Vy (T:=[]) R Tk.nil hk λS1 ok1 key R1 T1 k1 s1 hg hr=>?_;refine Vy R1 T1 (QR k1 hy) λS2 ok2 z R2 T2 k2 s2 hg2 hr2=>?_;have hkey:FO (dA i.td) M.k key (a.eval ix):=by rw[←hka];exact⟨hg,Bj hf hr⟩
 obtain⟨c1,c2⟩:=a4t H hi hko hf hkey w;split<;>try trivial
 rename_i bx;obtain⟨l0,hm0,hvw⟩:=hu;simp only at hm0;refine bf ?_;split<;>try trivial
 rename_i u xs hS;refine gG λe=>?_;subst e;refine jb ?_;obtain⟨l,hm,ha⟩:=R2.own_arr hS;rw[hm0]at hm;cases hm;cases l0 with
 |nil=>exact absurd ha.2 (by simp[MT.ent,Ty.isEnt])|st b=>cases ha|arr blk off len cap sz=>exact absurd ha.1 (by simp[MT.ent,Ty.isEnt])|mp blk=>
 simp only[Loc.view]at hvw;obtain⟨_,es,ck,hb,hsz,hent⟩:=ha;simp only at hb hent;have hown:V9 m bx (S2 (ai+bx))=[blk]:=by rw[hS];simp[V9,hm0]
 have hsep:=R2.sep bx blk (by rw[hown];simp);have hfind:=c2 (β:=M.v.den) es.toList xs (by rw[bI];exact hsz) (λj p hp=>by obtain⟨e,h1,h2,h3⟩:=hent j p hp;obtain⟨g1,g2,r1,r2⟩:=Qx h2 h3;exact⟨e,by simpa using h1,by rw[←hka];exact⟨g1,Bj hf r1⟩⟩)
 have fin:∀(es' :Array MapEntry) (ck' :Nat) (xs' :List (M.k.den×M.v.den)),xs' =Gy (keq M.k) xs key z->
   (Instr.mapUpdate t (a.eval x) (a.eval ix) (a.eval y)).run X.P w= .ok () { w with heap:=w.heap.setIfInBounds blk (.map es' ck') }->es'.size=xs'.length->
   (∀(i:Nat) (x:M.k.den×M.v.den),xs'[i]? =some x->∃e:MapEntry,es'[i]? =some e/\TV M.ent e/\mJ w.heap ok2 M.ent x (Dq M.ent e))->
   jr X cl ch o a w m ok (upd S2 (ai+bx) (.barr M.ent (Gy (keq M.k) xs key z))):=by
  intro es' ck' xs' hxs' run hsz' hent';subst hxs';obtain⟨q1,q2⟩:=MapKept.heap_set (o' :=.map es' ck') hb;have R3:Rel X cl ch (upd S2 (ai+bx) (.barr M.ent (Gy (keq M.k) xs key z))) m ok2 a { w with heap:=w.heap.setIfInBounds blk (.map es' ck') }:=by refine R2.mod (by rw[hown];simp[V9,hm0]) A7 rfl rfl rfl A7 (λb hb=>q2 b (by rw[hown]at hb;simpa using hb)) ?_;refine⟨.mp blk,hm0,rfl,es',ck',q1,hsz',λi x hx=>?_⟩;obtain⟨e,h1,h2,h3⟩:=hent' i x hx;exact⟨e,h1,h2,gp (λ_ _ h=>h) (λb t hb=>q2 b (λe=>hsep.1 t (e▸hb))) h3⟩
  intro next Q hn
  unfold Oper.wp;have e:(execOp a.eval o).run X.P w= .ok .skip { w with heap:=w.heap.setIfInBounds blk (.map es' ck') }:=by rcases ho with ho|ho<;>simp[execOp,ho,run]
  rw[e,Oper.upon_skip,hd];exact hn m ok2 a _ R3 (λ_ _ h=>h) (λb t h=>k2 b t (k1 b t h))
 have hnew:∀n,TV M.ent { key:=a.eval ix,val:=a.eval y,born:=n }/\mJ w.heap ok2 M.ent (key,z) (Dq M.ent { key:=a.eval ix,val:=a.eval y,born:=n }):=λn=>
  b2L (e:={ key:=a.eval ix,val:=a.eval y,born:=n }) hg hg2 (Bj hf hr) hr2
 show jr X cl ch o a w m ok (upd S2 (ai+bx) (.barr M.ent (Gy (keq M.k) xs key z)));cases hfi:wz (keq M.k) xs key with
 |none=>
  rw[hfi]at hfind;refine fin (es.push { key:=a.eval ix,val:=a.eval y,born:=ck }) (ck+1) (xs++[(key,z)]) (by rw[a1m,hfi]) ?_ (by simp[hsz]) λi x hx=>?_
  .rw[hvw];simp only[Instr.mapUpdate,H6,run_underlying hund,MW hb,I5,c1,hfind,Option.bind_none];exact MapKept.run_setObj_map _ hb
  .rw[List.getElem?_append]at hx;split at hx
   .rename_i hlt;obtain⟨e,h1,h2,h3⟩:=hent i x hx;refine⟨e,?_,h2,gp (λ_ _ h=>h) (λ_ _ _=>rfl) h3⟩;rw[Array.getElem?_push_lt l9];rw[←h1,U2 l9]
   .rename_i hge;have hi0:i=xs.length:=by
     have:=(X0.1 hx).1;simp at this;omega
    subst hi0;simp at hx;subst hx;exact⟨_,by rw[←hsz];simp,hnew ck⟩
 |some j=>
  obtain⟨p,hp,hpk⟩:=SY hfi;obtain⟨e,h1,h2,h3⟩:=hent j p hp;obtain⟨g1,g2,r1,r2⟩:=Qx h2 h3;have h1' :es.toList[j]? =some e:=by simpa using h1
  have hpe:=(Ye hf _ _).1 hpk;have hke:e.key=a.eval ix:=FO.det hf (ag:=M.ka) (x:=key) ⟨g1,by rw[hpe];exact Bj hf r1⟩ ⟨hg,Bj hf hr⟩;rw[hfi]at hfind;simp only[kY,h1',aN]at hfind;refine fin (es.modify j λe=> { e with key:=a.eval ix,val:=a.eval y }) ck (xs.set j (key,z)) (by rw[a1m,hfi]) ?_ (by simp[hsz]) λi x hx=>?_
  .rw[hvw];simp only[Instr.mapUpdate,H6,run_underlying hund,MW hb,I5,c1,hfind,h1,aN,dG,hke,FO.stays (P:=X.P) (w:=w) hf hkey];exact MapKept.run_setObj_map _ hb
  .rw[P6]at hx;rw[rO];split at hx
   .rename_i hij;subst hij;split at hx
    .cases hx;simp only[if_true,h1,aN];exact⟨_,rfl,hnew e.born⟩
    .cases hx
   .rename_i hij;simp only[hij,if_false];obtain⟨e',a1,a2,a3⟩:=hent i x hx;exact⟨e',a1,a2,gp (λ_ _ h=>h) (λ_ _ _=>rfl) a3⟩
end
end Go.GP
namespace Go.GP
theorem a1G:∀(n:Nat) (vs a b:List V),NL n vs=some (a,b)->vs=a++b/\a.length=n
 |0,vs,a,b,h=>by simp[NL]at h;obtain⟨rfl,rfl⟩:=h;simp
 |n+1,[],a,b,h=>by simp[NL]at h|n+1,v::vs,a,b,h=>by
  unfold NL at h;cases hs:NL n vs with
  |none=>simp[hs]at h|some p=>obtain⟨a',b'⟩:=p;simp only[hs,F9,bQ]at h;obtain⟨rfl,rfl⟩:=h;obtain⟨rfl,hl⟩:=a1G n vs _ _ hs;exact⟨rfl,by simp[hl]⟩
theorem XC{C:Cx} :∀{a b:List V} {xs ys:d5Z},a.length=xs.length->iW C (a++b) (xs++ys)->iW C a xs/\iW C b ys
 |[],b,xs,ys,hl,h=>by
  have:xs=[]:=by cases xs<;>simp at hl ⊢
  subst this;exact⟨rfl,h⟩
 |c::a,b,xs,ys,hl,h=>by
  cases xs with
  |nil=>simp at hl|cons x xs=>obtain⟨v,r,e,h1,h2⟩:=h;simp only[ae,I4]at e;obtain⟨rfl,rfl⟩:=e;obtain⟨h3,h4⟩:=XC (by simpa using hl) h2;exact⟨⟨_,_,rfl,h1,h3⟩,h4⟩
theorem a9O{C:Cx} :∀{a:List V} {xs:d5Z},KE a=false->iW C a xs->a2V C a xs
 |[],xs,_,h=>h|c::a,xs,ht,⟨v,r,e,h1,h2⟩=>by
  have ht2:KE a=false:=by cases c<;>first|exact ht|(simp[KE]at ht)
  refine⟨v,r,e,?_,a9O ht2 h2⟩;cases c<;>first|exact h1|(simp[KE]at ht)
variable {v:Value}
theorem b4P{C:Cx}{a:List V}{xs:d5Z}{n:Nat}(ht:KE a=false)(h:iW C a xs)(hr:a6i n v xs):mD C (b8o a) v:=by
 obtain⟨_,hv⟩:=hr;cases a with
 |nil=>simp only[iW]at h;subst h;simp only at hv;subst hv;exact⟨_,rfl,rfl⟩|cons c a=>
  obtain⟨x,r,rfl,h1,h2⟩:=h;cases a with
  |nil=>simp only[iW]at h2;subst h2;simp only at hv;subst hv;exact h1|cons d a=>obtain⟨y,r',rfl,h3,h4⟩:=h2;simp only at hv;subst hv;exact⟨_,rfl,a9O ht ⟨_,_,rfl,h1,_,_,rfl,h3,h4⟩⟩
theorem YJ{h:Array Obj}{ok ok' :Nat->Ty->Prop} :∀{ts:List Ty} {x:WJ ts} {vs:d5Z},(∀b u,ok b u->Xm u ts=true->ok' b u)->IK h ok (WI ts x) vs->IK h ok' (WI ts x) vs
 |[],_,_,_,hr=>hr|[t],x,_,f,hr=>by obtain⟨v,r,e,⟨b,o,es,hv,hb,hc,hp⟩,h2⟩:=hr;exact⟨v,r,e,⟨b,o,es,hv,f _ _ hb (by simp[Xm]),hc,yH (λb u h k=>f b u h (by simp[Xm,k])) hp⟩,h2⟩
 |t::t' ::ts,x,_,f,hr=>by obtain⟨v,r,e,⟨b,o,es,hv,hb,hc,hp⟩,h2⟩:=hr;exact⟨v,r,e,⟨b,o,es,hv,f _ _ hb (by simp[Xm]),hc,yH (λb u h k=>f b u h (by simp[Xm,k])) hp⟩,YJ (ts:=t' ::ts) (λb u h k=>f b u h (by rw[Xm,k];simp)) h2⟩
theorem Vq{h:Array Obj}{ok ok' :Nat->Ty->Prop}{m:Mp}{t:Ty}{xs:List t.den}{l:Loc}(f:∀b u,ok b u->Ty.occ u t=true->ok' b u)(hr:arrOk ⟨h,ok,m⟩ t xs l):arrOk ⟨h,ok',m⟩ t xs l:=by
 cases l with
 |nil=>exact hr|st b=>exact hr|mp b=>obtain⟨h1,es,ck,h2,h3,h4⟩:=hr;refine⟨h1,es,ck,h2,h3,λi y hi=>?_⟩;obtain⟨e,a1,a2,a3⟩:=h4 i y hi;exact⟨e,a1,a2,yH f a3⟩
 |arr blk off len cap sz=>obtain⟨h0,h1,h2,h3,c,T,g,h4,hz,h5,h6⟩:=hr;refine⟨h0,h1,h2,h3,c,T,g,h4,hz,h5,λi y hi=>?_⟩;obtain⟨es,he,hp⟩:=h6 i y hi;exact⟨es,he,yH f hp⟩
theorem Jk{h:Array Obj}{ok ok' :Nat->Ty->Prop} :∀{m:M} {ho:Option Nat} {x:m.den} {cs:d5Z} {O:d6a},(∀b u,ok b u->m.occ u=true->ok' b u)->qW h ok m ho x cs O->qW h ok' m ho x cs O
 | .dat t,_,_,_,_,f,hr=>⟨yH f hr.1,hr.2⟩| .unit,_,_,_,_,_,hr=>hr| .pair a b,_,_,_,_,f,⟨c,d,O1,O2,e,eo,h1,h2⟩=>⟨c,d,O1,O2,e,eo,Jk (λb u h k=>f b u h (by simp[M.occ,k])) h1,Jk (λb u h k=>f b u h (by simp[M.occ,k])) h2⟩| .box m,_,_,_,_,f,⟨blk,arr,T,O',e,hh,hr,eo⟩=>⟨blk,arr,T,O',e,hh,Jk f hr,eo⟩| .own t,ho,_,_,_,f,⟨v,e,h1,ha⟩=>by
  refine⟨v,e,h1,?_⟩;split at ha
  .exact ha
  .obtain⟨l,hv,ha,hO⟩:=ha;exact⟨l,hv,Vq f ha,hO⟩
 | .owns m,ho,_,_,_,f,⟨v,e,h1,ha⟩=>by
  refine⟨v,e,h1,?_⟩;split at ha
  .exact ha
  .obtain⟨he,l,Os,hv,ha,hO⟩:=ha;exact⟨he,l,Os,hv,Jz (λ_ _=>rfl) (λi x es O _ hr=>Jk f hr) ha,hO⟩
 | .ownb t,_,_,_,_,f,⟨l,v,e,hv,ha,hO⟩=>⟨l,v,e,hv,Vq f ha,hO⟩| .rp t,_,_,_,_,f,⟨v,e,⟨b,o,es,hv,hb,hc,hp⟩,h2⟩=>⟨v,e,⟨b,o,es,hv,f _ _ hb (by simp[M.occ]),hc,yH (λb u h k=>f b u h (by simp[M.occ,k])) hp⟩,h2⟩| .fn g ts,_,_,_,_,f,⟨vs,e,h1,h2⟩=>⟨vs,e,YJ f h1,h2⟩| .ifc t m,_,_,_,_,f,⟨u,e,h1⟩=>⟨u,e,Jk f h1⟩| .cell _,_,_,_,_,_,h=>h| .fr t,_,_,_,_,f,⟨l,v,e,hv,ha,hk,hO⟩=>⟨l,v,e,hv,Vq (λb u h k=>f b u h (by simp[M.occ,k])) ha,λb h=>f b t (hk b h) (by simp[M.occ]),hO⟩| .sbx _ _,_,_,_,_,f,h=>h| .lp t,_,_,_,_,f,⟨v,e,⟨b,o,es,hv,hb,hc,hp⟩,h2⟩=>⟨v,e,⟨b,o,es,hv,f _ _ hb (by simp[M.occ]),hc,yH (λb u h k=>f b u h (by simp[M.occ,k])) hp⟩,h2⟩| .dv ..,_,_,_,_,f,h=>h| .sit,_,_,_,_,f,h=>h
theorem TA{h:Array Obj}{ok ok' :Nat->Ty->Prop} :∀{ms:List MG} {x:bC ms} {vs:d5Z} {O:d6a},(∀b u,ok b u->NZ u ms=true->ok' b u)->xA h ok ms x vs O->xA h ok' ms x vs O
 |[],_,_,_,_,e=>e|[m],_,_,_,f,⟨v,cs,e,hg,hr⟩=>⟨v,cs,e,hg,Jk (λb u h k=>f b u h (by simp[NZ,k])) hr⟩|m::m' ::r,_,_,_,f,⟨v,cs,vs',O1,O2,e,eo,hg,h1,h2⟩=>
  ⟨v,cs,vs',O1,O2,e,eo,hg,Jk (λb u h k=>f b u h (by simp[NZ,k])) h1,TA (λb u h k=>f b u h (by rw[NZ,k];simp)) h2⟩
theorem Ux{u:Ty} :∀{a b:List MG},NZ u (a++b)=(NZ u a || NZ u b)
 |[],_=>rfl|m::a,b=>by simp[NZ,Ux,Bool.or_assoc]
theorem a1u:∀{fs:List (Nat×FSpec)} {f:Nat} {vs:List V} {s:FSpec},a5c fs f vs=some s->(f,s)∈fs
 |[],_,_,_,h=>by simp[a5c]at h|(g,s')::r,f,vs,s,h=>by
  unfold a5c at h;cases hb:(Nat.beq g f&&SC s'.ps vs)
  .rw[hb]at h;exact Y2 _ (a1u h)
  .rw[hb]at h;simp only[cond_true,F9]at h;subst h;simp only[A8]at hb;have:=iD hb.1;subst this;exact jD
theorem b9g{l l0:Loc}(h:l.view none v)(h0:l0.view none v)(hs:∀b o n c s b' o' n' c' s',l= .arr b o n c s->l0= .arr b' o' n' c' s' ->s=s'):l=l0:=by
 cases l<;>cases l0<;>simp only[Loc.view]at h h0
 .rfl
 .rw[h]at h0;cases h0
 .rw[h]at h0;cases h0
 .rw[h]at h0;cases h0
 .rw[h]at h0;simp only[Value.slice.injEq,F9,jL,and_true]at h0;obtain⟨⟨rfl,rfl⟩,rfl,rfl⟩:=h0;have:=hs _ _ _ _ _ _ _ _ _ _ rfl rfl;subst this;rfl
 .rw[h]at h0;cases h0
 .rw[h]at h0;cases h0
 .rw[h]at h0;cases h0
 .rw[h]at h0;cases h0;rfl
theorem RV{h:Array Obj}{ok:Nat->Ty->Prop} :∀{ms:List MG} {x:bC ms} {vs:d5Z} {O:d6a},xA h ok ms x vs O->vs.length=ms.length
 |[],_,_,_,e=>by simp[e.1]|[m],_,_,_,⟨v,cs,e,hg,hr⟩=>by simp[e]|m::m' ::r,_,_,_,⟨v,cs,vs',O1,O2,e,eo,hg,h1,h2⟩=>by have:=RV h2;subst e;simp[this]
variable {q:Nat}{f:FuncId}{c:Call}
section
variable {X:Fx} {cl ch:Nat} {S:Sm} {m:Mp} {ok:Nat->Ty->Prop} {a:Act} {w:World} {o:Oper}
theorem aT{α:Type}{Q:α->Sm->Prop}{h0:Array Obj}{ok0:Nat->Ty->Prop}{m0:Mp} :∀(ms:List MG) {vs:List V} {vals:d5Z} {ws:List V} {os:d5Z} {B:d6a} {K:Cmd α} {S:Sm}
  (R:Rel X cl ch S m ok a w) (hm:∀k l,m0 k=some l->m k=some l) (hT:Tk X S m ok w B) (hv:iW ⟨h0,ok0,m0⟩ vs vals) (ho:Aw w.heap ms vals os B) (hw:iW ⟨w.heap,ok,m⟩ ws os)
  (hK:∀S',Rel X cl ch S' m ok a w->K.post S' Q),(aF ms vs ws K).post S Q
 |[],vs,vals,ws,os,B,K,S,R,hm,hT,hv,ho,hw,hK=>by
  cases vs with
  |cons _ _=>unfold aF;trivial|nil=>
   cases ws with
   |cons _ _=>unfold aF;trivial|nil=>unfold aF;exact hK S R
 |(g,.dat t)::ms,vs,vals,ws,os,B,K,S,R,hm,hT,hv,ho,hw,hK=>by
  cases vs with
  |nil=>unfold aF;trivial|cons v vs=>obtain⟨x,r,rfl,h1,h2⟩:=hv;unfold aF;exact aT ms R hm hT h2 ho hw hK
 |(g,.own t)::ms,vs,vals,ws,os,B,K,S,R,hm,hT,hv,ho,hw,hK=>by
  cases vs with
  |nil=>unfold aF;trivial|cons v vs=>obtain⟨x,r,rfl,h1,h2⟩:=hv;unfold aF;exact aT ms R hm hT h2 ho hw hK
 |(g,.pair p q)::ms,vs,vals,ws,os,B,K,S,R,hm,hT,hv,ho,hw,hK=>by
  cases vs with
  |nil=>unfold aF;trivial|cons v vs=>obtain⟨x,r,rfl,h1,h2⟩:=hv;unfold aF;exact aT ms R hm hT h2 ho hw hK
 |(g,.unit)::ms,vs,vals,ws,os,B,K,S,R,hm,hT,hv,ho,hw,hK=>by
  cases vs with
  |nil=>unfold aF;trivial|cons v vs=>obtain⟨x,r,rfl,h1,h2⟩:=hv;unfold aF;exact aT ms R hm hT h2 ho hw hK
 |(g,.cell _)::ms,vs,vals,ws,os,B,K,S,R,hm,hT,hv,ho,hw,hK=>by
  cases vs with
  |nil=>unfold aF;trivial|cons v vs=>obtain⟨x,r,rfl,h1,h2⟩:=hv;unfold aF;exact aT ms R hm hT h2 ho hw hK
 |(g,.fr _)::ms,vs,vals,ws,os,B,K,S,R,hm,hT,hv,ho,hw,hK=>by
  cases vs with
  |nil=>unfold aF;trivial|cons v vs=>obtain⟨x,r,rfl,h1,h2⟩:=hv;unfold aF;exact aT ms R hm hT h2 ho hw hK
 |(g,.box md)::ms,vs,vals,ws,os,B,K,S,R,hm,hT,hv,ho,hw,hK=>by
  cases vs with
  |nil=>unfold aF;trivial|cons v0 vs=>
  cases v0<;>try (unfold aF;trivial)
  case ptr bx off=>
  cases ws with
  |nil=>unfold aF;trivial|cons o0 ws=>
  cases o0<;>try (unfold aF;trivial)
  case agg cs=>
   unfold aF;refine bf ?_;split<;>try trivial
   rename_i hS;refine jb ?_;obtain⟨x,r,rfl,h1,h2⟩:=hv;obtain⟨y,r',rfl,h3,h4⟩:=hw;obtain⟨b,arr,T,os',B',e1,hh,e2,rfl,ho'⟩:=ho;simp only[I4]at e2;obtain⟨rfl,rfl⟩:=e2;obtain⟨blk,hmb,e3⟩:=h1;subst e1;simp only[oH,F9,jL,and_true]at e3;obtain⟨rfl,rfl⟩:=e3;obtain⟨arr',e4,hl⟩:=h3;simp only[Value.agg.injEq]at e4;subst e4;have hmb' :=hm _ _ hmb;obtain⟨R',T'⟩:=R.backV (n:=bx) (v:=.bcells cs) (O1:=[b]) (B:=B') A7 (by simpa using hT) (by simp[V9,hmb']) ⟨b,_,T,hmb',hh,hl⟩;exact aT ms R' hm T' h2 ho' h4 hK
 |(g,.ifc t (.box md))::ms,vs,vals,ws,os,B,K,S,R,hm,hT,hv,ho,hw,hK=>by
  cases vs with
  |nil=>unfold aF;trivial|cons v0 vs=>
  cases v0<;>try (unfold aF;trivial)
  case ifc t' v1=>
  cases v1<;>try (unfold aF;trivial)
  case ptr bx off=>
  cases ws with
  |nil=>unfold aF;trivial|cons o0 ws=>
  cases o0<;>try (unfold aF;trivial)
  case agg cs=>
   unfold aF;refine bf ?_;split<;>try trivial
   rename_i hS;refine jb ?_;obtain⟨x,r,rfl,h1,h2⟩:=hv;obtain⟨y,r',rfl,h3,h4⟩:=hw;obtain⟨t2,b,arr,T,os',B',e1,hh,e2,rfl,ho'⟩:=ho;simp only[I4]at e2;obtain⟨rfl,rfl⟩:=e2;obtain⟨u,e5,_,h1⟩:=h1;obtain⟨blk,hmb,e3⟩:=h1;subst e1;subst e3;simp only[Value.iface.injEq,oH,F9,jL,and_true]at e5;obtain⟨rfl,rfl,rfl⟩:=e5;obtain⟨arr',e4,hl⟩:=h3;simp only[Value.agg.injEq]at e4;subst e4;have hmb' :=hm _ _ hmb;obtain⟨R',T'⟩:=R.backV (n:=bx) (v:=.bcells cs) (O1:=[b]) (B:=B') A7 (by simpa using hT) (by simp[V9,hmb']) ⟨b,_,T,hmb',hh,hl⟩;exact aT ms R' hm T' h2 ho' h4 hK
 |(g,.ownb t)::ms,vs,vals,ws,os,B,K,S,R,hm,hT,hv,ho,hw,hK=>by
  cases vs with
  |nil=>unfold aF;trivial|cons v0 vs=>
  obtain⟨x,r,rfl,h1,h2⟩:=hv;obtain⟨os',rfl,ho'⟩:=ho;cases v0<;>try (unfold aF;trivial)
  case nl=>
   cases ws with
   |nil=>unfold aF;trivial|cons o0 ws=>
   cases o0<;>try (unfold aF;trivial)
   case own nm vw=>
   cases vw with
   |some _=>unfold aF;trivial|none=>
   unfold aF;obtain⟨y,r',e,h3,h4⟩:=hw;simp only[I4]at e;obtain⟨rfl,rfl⟩:=e;refine jb ?_;have T1:=Tk.kill R hT nm (bs:=[]) (λb h=>by cases h) fJ;rw[G5]at T1;exact aT ms (R.kill nm) hm T1 h2 ho' h4 hK
  case own bx vw=>
   cases vw with
   |some _=>unfold aF;trivial|none=>
   cases ws with
   |nil=>unfold aF;trivial|cons o0 ws=>
   cases o0<;>try (unfold aF;trivial)
   case own nm vw=>
   cases vw with
   |some _=>unfold aF;trivial|none=>
   unfold aF;obtain⟨y,r',e,h3,h4⟩:=hw;simp only[I4]at e;obtain⟨rfl,rfl⟩:=e;obtain⟨l0,hm0,hv0⟩:=h1;obtain⟨l,hml,hvl⟩:=h3;have hm0' :=hm _ _ hm0;refine bf ?_;split<;>try trivial
   rename_i u xs hS;refine jb (bf ?_);split<;>try trivial
   rename_i t' hS2;refine gG λe=>?_;subst e;refine jb ?_;obtain⟨l',hml',ha⟩:=R.own_arr hS;simp only at hml;rw[hml]at hml';cases hml';have R1:=R.kill nm;have hob:V9 m nm (S (ai+nm))=l.blks:=by rw[hS];cases l<;>first|(simp[V9,hml,Loc.blks];done)|cases ha
   have T1:=Tk.kill R hT nm (bs:=l.blks) (λb h=>by rw[hob];exact h) (Loc.blks_nodup l);have hg:=R1.box bx;rw[hS2]at hg;obtain⟨l1,hm1,hsz⟩:=hg;simp only at hm1;rw[hm0']at hm1;cases hm1;have hll:l=l0:=b9g hvl hv0 (λb o n c s b' o' n' c' s' e1 e2=>by subst e1;rw[hsz _ _ _ _ _ e2];exact ha.2.1);subst hll;obtain⟨R',T'⟩:=R1.backV (n:=bx) (v:=.barr u xs) (O1:=l.blks) (B:=B) A7 (T1.perm jO) (by cases l<;>first|(simp[V9,hm0',Loc.blks];done)|cases ha) ⟨l,hm0',ha⟩;exact aT ms R' hm T' h2 ho' h4 hK
 |(g,.lp _)::ms,vs,vals,ws,os,B,K,S,R,hm,hT,hv,ho,hw,hK=>by
  cases vs with
  |nil=>unfold aF;trivial|cons v vs=>obtain⟨x,r,rfl,h1,h2⟩:=hv;unfold aF;exact aT ms R hm hT h2 ho hw hK
 |(g,.dv ..)::ms,vs,vals,ws,os,B,K,S,R,hm,hT,hv,ho,hw,hK=>by
  cases vs with
  |nil=>unfold aF;trivial|cons v vs=>obtain⟨x,r,rfl,h1,h2⟩:=hv;unfold aF;exact aT ms R hm hT h2 ho hw hK
 |(g,.sit)::ms,vs,vals,ws,os,B,K,S,R,hm,hT,hv,ho,hw,hK=>by cases vs<;>(unfold aF;trivial)|(g,.sbx _ _)::ms,vs,vals,ws,os,B,K,S,R,hm,hT,hv,ho,hw,hK=>by
  cases vs with
  |nil=>unfold aF;trivial|cons v0 vs=>
  obtain⟨x,r,rfl,h1,h2⟩:=hv;obtain⟨os',rfl,ho'⟩:=ho;cases v0<;>try (unfold aF;trivial)
  case ptr bx off=>
  cases ws with
  |nil=>unfold aF;trivial|cons o0 ws=>
  cases o0<;>try (unfold aF;trivial)
  case ptr nm off' =>
   unfold aF;obtain⟨y,r',e,h3,h4⟩:=hw;simp only[I4]at e;obtain⟨rfl,rfl⟩:=e;obtain⟨b0,hm0,hv0⟩:=h1;obtain⟨b1,hm1,hv1⟩:=h3;have hm0' :=hm _ _ hm0;have hbb:b0=b1:=by rw[hv0]at hv1;simp only[oH,F9,jL,and_true]at hv1;exact hv1.1
   subst hbb;refine bf ?_;split<;>try trivial
   rename_i tb0 c hS;refine jb (bf ?_);split<;>try trivial
   rename_i hS2;refine jb ?_;have hb:=R.box nm;rw[hS]at hb;obtain⟨blk',a0,v0,hm',hh,hs,g1⟩:=hb;simp only at hm1 hm';rw[hm1]at hm';cases hm';have R1:=R.kill nm;have T1:=Tk.kill R hT nm (bs:=[b0]) (λb h=>by rw[hS];simp[V9,hm1];simpa using h) A7;obtain⟨R',T'⟩:=R1.backV (n:=bx) (v:=.bsb tb0 c) (O1:=[b0]) (B:=B) A7 (T1.perm jO) (by simp[V9,hm0']) ⟨b0,a0,v0,hm0',hh,hs,g1⟩;exact aT ms R' hm T' h2 ho' h4 hK
 |(g,.owns md)::ms,vs,vals,ws,os,B,K,S,R,hm,hT,hv,ho,hw,hK=>by
  cases vs with
  |nil=>unfold aF;trivial|cons v vs=>obtain⟨x,r,rfl,h1,h2⟩:=hv;unfold aF;exact aT ms R hm hT h2 ho hw hK
 |(g,.rp t)::ms,vs,vals,ws,os,B,K,S,R,hm,hT,hv,ho,hw,hK=>by
  cases vs with
  |nil=>unfold aF;trivial|cons v vs=>obtain⟨x,r,rfl,h1,h2⟩:=hv;unfold aF;exact aT ms R hm hT h2 ho hw hK
 |(g,.fn f ts)::ms,vs,vals,ws,os,B,K,S,R,hm,hT,hv,ho,hw,hK=>by
  cases vs with
  |nil=>unfold aF;trivial|cons v vs=>obtain⟨x,r,rfl,h1,h2⟩:=hv;unfold aF;exact aT ms R hm hT h2 ho hw hK
 |(g,.ifc t (.dat u))::ms,vs,vals,ws,os,B,K,S,R,hm,hT,hv,ho,hw,hK=>by
  cases vs with
  |nil=>unfold aF;trivial|cons v vs=>obtain⟨x,r,rfl,h1,h2⟩:=hv;unfold aF;exact aT ms R hm hT h2 ho hw hK
 |(g,.ifc t (.own u))::ms,vs,vals,ws,os,B,K,S,R,hm,hT,hv,ho,hw,hK=>by
  cases vs with
  |nil=>unfold aF;trivial|cons v vs=>obtain⟨x,r,rfl,h1,h2⟩:=hv;unfold aF;exact aT ms R hm hT h2 ho hw hK
 |(g,.ifc t (.pair p q))::ms,vs,vals,ws,os,B,K,S,R,hm,hT,hv,ho,hw,hK=>by
  cases vs with
  |nil=>unfold aF;trivial|cons v vs=>obtain⟨x,r,rfl,h1,h2⟩:=hv;unfold aF;exact aT ms R hm hT h2 ho hw hK
 |(g,.ifc t (.unit))::ms,vs,vals,ws,os,B,K,S,R,hm,hT,hv,ho,hw,hK=>by
  cases vs with
  |nil=>unfold aF;trivial|cons v vs=>obtain⟨x,r,rfl,h1,h2⟩:=hv;unfold aF;exact aT ms R hm hT h2 ho hw hK
 |(g,.ifc t (.cell _))::ms,vs,vals,ws,os,B,K,S,R,hm,hT,hv,ho,hw,hK=>by
  cases vs with
  |nil=>unfold aF;trivial|cons v vs=>obtain⟨x,r,rfl,h1,h2⟩:=hv;unfold aF;exact aT ms R hm hT h2 ho hw hK
 |(g,.ifc t (.lp _))::ms,vs,vals,ws,os,B,K,S,R,hm,hT,hv,ho,hw,hK=>by
  cases vs with
  |nil=>unfold aF;trivial|cons v vs=>obtain⟨x,r,rfl,h1,h2⟩:=hv;unfold aF;exact aT ms R hm hT h2 ho hw hK
 |(g,.ifc t (.dv ..))::ms,vs,vals,ws,os,B,K,S,R,hm,hT,hv,ho,hw,hK=>by
  cases vs with
  |nil=>unfold aF;trivial|cons v vs=>obtain⟨x,r,rfl,h1,h2⟩:=hv;unfold aF;exact aT ms R hm hT h2 ho hw hK
 |(g,.ifc t (.fr _))::ms,vs,vals,ws,os,B,K,S,R,hm,hT,hv,ho,hw,hK=>by
  cases vs with
  |nil=>unfold aF;trivial|cons v vs=>obtain⟨x,r,rfl,h1,h2⟩:=hv;unfold aF;exact aT ms R hm hT h2 ho hw hK
 |(g,.ifc t (.owns md))::ms,vs,vals,ws,os,B,K,S,R,hm,hT,hv,ho,hw,hK=>by
  cases vs with
  |nil=>unfold aF;trivial|cons v vs=>obtain⟨x,r,rfl,h1,h2⟩:=hv;unfold aF;exact aT ms R hm hT h2 ho hw hK
 |(g,.ifc t .sit)::ms,vs,vals,ws,os,B,K,S,R,hm,hT,hv,ho,hw,hK=>by
  cases vs with
  |nil=>unfold aF;trivial|cons v vs=>obtain⟨x,r,rfl,h1,h2⟩:=hv;unfold aF;exact aT ms R hm hT h2 ho hw hK
 |(g,.ifc t (.sbx _ _))::ms,vs,vals,ws,os,B,K,S,R,hm,hT,hv,ho,hw,hK=>by
  cases vs with
  |nil=>unfold aF;trivial|cons v vs=>obtain⟨x,r,rfl,h1,h2⟩:=hv;unfold aF;exact aT ms R hm hT h2 ho hw hK
 |(g,.ifc t (.ownb u))::ms,vs,vals,ws,os,B,K,S,R,hm,hT,hv,ho,hw,hK=>by
  cases vs with
  |nil=>unfold aF;trivial|cons v vs=>obtain⟨x,r,rfl,h1,h2⟩:=hv;unfold aF;exact aT ms R hm hT h2 ho hw hK
 |(g,.ifc t (.rp u))::ms,vs,vals,ws,os,B,K,S,R,hm,hT,hv,ho,hw,hK=>by
  cases vs with
  |nil=>unfold aF;trivial|cons v vs=>obtain⟨x,r,rfl,h1,h2⟩:=hv;unfold aF;exact aT ms R hm hT h2 ho hw hK
 |(g,.ifc t (.fn f ts))::ms,vs,vals,ws,os,B,K,S,R,hm,hT,hv,ho,hw,hK=>by
  cases vs with
  |nil=>unfold aF;trivial|cons v vs=>obtain⟨x,r,rfl,h1,h2⟩:=hv;unfold aF;exact aT ms R hm hT h2 ho hw hK
 |(g,.ifc t (.ifc t2 md))::ms,vs,vals,ws,os,B,K,S,R,hm,hT,hv,ho,hw,hK=>by
  cases vs with
  |nil=>unfold aF;trivial|cons v vs=>obtain⟨x,r,rfl,h1,h2⟩:=hv;unfold aF;exact aT ms R hm hT h2 ho hw hK
theorem NF{P:Program}{w:World}{fn:Func}(hf:P.funcs[f]? =some fn)(hb:fn.body.isSome=true)(hn:(fn.name== "runtime.NumGoroutine")=false)(args:Array Value):
  (callFunc f args).run P w= .ok (.enter f args) w:=by
 have hb' :¬fn.body=none:=by intro e;rw[e]at hb;cases hb
 have hn' :¬fn.name= "runtime.NumGoroutine":=by intro e;rw[e]at hn;simp at hn
 simp[callFunc,hf,hn',hb']
theorem b0q(H:FxOk X)(R:Rel X (CB*q) (CB*q+CB) S m ok a w){h0:Array Obj}{ok0:Nat->Ty->Prop}{s:FSpec}{vs:List V}{vals:d5Z}{r:bC (s.rs++s.outs)}{rs os:d5Z}{O' B:d6a}
  (hT:Tk X S m ok w (O' ++B)) (hv:iW ⟨h0,ok0,m⟩ vs vals) (hret:a6i s.rs.length v rs) (ho:Aw w.heap s.ps vals os B) (hr:xA w.heap ok (s.rs++s.outs) r (rs++os) O') {Q:Unit->Sm->Prop}
  (hK:∀S' m',Rel X (CB*q) (CB*q+CB) S' m' ok (a.put o.dst v) w->(∀k l,m k=some l->m' k=some l)->Q () S'):
  (RD (s.rs++s.outs) r (O7 q o.dst) λws n' =>bif Nat.ble n' (O7 q o.dst+64)then(match NL s.rs.length ws with
    |some (a,o')=>bif KE a then .fail else aF s.ps vs o' (fF X.E o.dst (b8o a))
    |none=> .fail)else .fail).post S Q:=by
 have hcl:CB*q<=O7 q o.dst:=by
  cases o.dst with
  |none=>exact kX _ _|some t=>exact kX _ _
 refine MN (T:=B) _ R hcl hT hr λS1 m1 ws n1 ch1 R1 c1 T1 k1 s1 l1 e1=>dD λhle=>?_;have hle' :=Y4 hle;split<;>try trivial
 rename_i p p' hsp;obtain⟨rfl,hpl⟩:=a1G _ _ _ _ hsp;obtain⟨l2,l3⟩:=XC (by rw[hpl,hret.1]) l1;cases ht:KE p
 .simp only[cond_false];refine aT s.ps R1 k1 T1 hv ho l3 λS2 R2=>?_;have hres:=b4P ht l2 hret;cases hd:o.dst with
  |none=>have hin:=uG H (q:=q) none (λt h=>by cases h);rw[hd]at hle' hK;exact hK S2 m1 (R2.chmono (by generalize CB*q=Z at*;generalize O7 q none=N at*;omega)) k1
  |some t=>unfold fF;refine dD λhb=>?_;have hin:=uG H (q:=q) (some t) (λt' h=>by cases h;exact(EY hb).1);rw[hd]at hle' hK;have R3:Rel X (CB*q) (CB*q+CB) S2 m1 ok a w:=R2.chmono (by generalize CB*q=Z at*;generalize O7 q (some t)=N at*;omega);exact hK _ m1 (R3.put H.ntB hb hres) k1
 .trivial
theorem TQ(H:FxOk X)(R:Rel X (CB*q) (CB*q+CB) S m ok a w){vs:List V}{vals:d5Z}(hvs:iW ⟨w.heap,ok,m⟩ vs vals)
  (run:∀fn,X.P.funcs[f]? =some fn->fn.body.isSome=true->(fn.name== "runtime.NumGoroutine")=false->(execOp a.eval o).run X.P w= .ok (.enter f vals.toArray) w):
  (a0J X.E q o.dst f vs).post S (λ_ S' =>jr X (CB*q) (CB*q+CB) o a w m ok S'):=by
 unfold a0J;split
 .trivial
 rename_i s hs;have hmem:=a1u hs;have hF:=H.fs _ hmem;obtain⟨fn,hf,hb,hnm⟩:=H.fn _ hmem;have hrun:=run fn hf hb hnm;refine b2J R hvs s.ps hvs λhdv=>?_;refine MR (ln:=a2r s) (T:=[]) s.ps R Tk.nil hvs λS1 ok1 x O R1 T1 k1 s1 hrel=>fZ λr hr=>?_;simp only[H8]at T1;generalize hokc:okL (a2r s) S1 m ok1=okc at hrel;have c1:∀b t,ok1 b t->okc b t:=λb t h=>by rw[←hokc];exact .inl h
 have hsep1:∀b t,ok1 b t->∀n,b∉V9 m n (S1 (ai+n)):=λb t h n e=>(R1.sep n b e).1 t h;have hlt:∀b t,okc b t->b<w.heap.size:=λb t h=>by
  rw[←hokc]at h;rcases h with h|⟨_,n,h,_⟩
  .exact R1.okLt b t h
  .exact(R1.sep n b h).2.1
 have hfree:∀b∈O,(∀t,¬okc b t)/\b<w.heap.size:=λb hb=>by
  obtain⟨f1,f2,f3,f4⟩:=T1.free b hb;refine⟨λt h=>?_,f2⟩;rw[←hokc]at h;rcases h with h|⟨_,n,h,_⟩
  .exact f1 t h
  .exact f4 n h
 have hC:=hF w okc O _ x r hlt T1.nodup hfree (λg u hg=>by obtain⟨g1,g3,g2⟩:=R1.gl g u hg;refine⟨c1 _ _ g1,g3,λi y hi=>?_⟩;obtain⟨es,he,hr⟩:=g2 i y hi;exact⟨es,he,gp c1 (λ_ _ _=>rfl) hr⟩) hrel hdv hr
 have hown:∀b,(w.heap.size<=b\/b∈O)->(X.w0.heap.size<=b\/b∈X.O)/\∀n,b∉V9 m n (S1 (ai+n)):=λb hb=>by
  rcases hb with hb|hb
  .have:=R1.frame.size;exact⟨.inl l9,λn e=>by have:=(R1.sep n b e).2.1;omega⟩
  .exact(T1.free b hb).2.2
 revert hC;generalize hPost:(λ(e:Ending) (w' :World)=>∃v ok' O' rs os B,e= .returned v/\Frame' w w' O/\(∀b t,okc b t->ok' b t)/\(∀b t,ok' b t->b<w'.heap.size/\(okc b t\/w.heap.size<=b\/b∈O))/\
  (O' ++B).Nodup/\(∀b∈O' ++B,(∀t,¬ok' b t)/\b<w'.heap.size/\(w.heap.size<=b\/b∈O))/\
  a6i s.rs.length v rs/\Aw w'.heap s.ps vals os B/\xA w'.heap ok' (s.rs++s.outs) r (rs++os) O')=Post
 intro hC;have hall:∀p: { p:Ending×World // Post p.1 p.2 },(RD (s.rs++s.outs) r (O7 q o.dst) λws n' =>bif Nat.ble n' (O7 q o.dst+64)then(match NL s.rs.length ws with
   |some (a,o')=>bif KE a then .fail else aF s.ps vs o' (fF X.E o.dst (b8o a))
   |none=> .fail)else .fail).post S1 (λ_ S' =>∃v m' okf,p.1.1= .returned v/\Rel X (CB*q) (CB*q+CB) S' m' okf (a.put o.dst v) p.1.2/\(∀k l,m k=some l->m' k=some l)/\(∀b t,ok b t->okf b t)):=by
  rintro⟨⟨e,w'⟩,hp⟩;rw[←hPost]at hp;obtain⟨v,ok',O',rs,os,B,rfl,fr,k2,hok',hnd,hfr,hret,houts,hrel'⟩:=hp;have k3:∀b t,ok1 b t->(ok' b t/\∀n,b∉V9 m n (S1 (ai+n))):=λb t h=>⟨k2 b t (c1 b t h),hsep1 b t h⟩;have R2:Rel X (CB*q) (CB*q+CB) S1 m (λb t=>ok' b t/\∀n,b∉V9 m n (S1 (ai+n))) a w' :=by
   refine R1.world fr.os fr.tape fr.output fr.size (λb hb h=>fr.block b hb λhO=>?_) k3 (λb t h=>⟨(hok' b t h.1).1,?_⟩)
   .obtain⟨f1,f2,f3,f4⟩:=T1.free b hO;rcases h with⟨t,h⟩|⟨n,h⟩|h
    .exact f1 t h
    .exact f4 n h
    .exact h f3
   .rcases(hok' b t h.1).2 with h'|h'
    .rw[←hokc]at h';rcases h' with h'|⟨_,n,h',_⟩
     .exact .inl h'
     .exact absurd h' (h.2 n)
    .exact .inr (hown b h')
  have hrel2:xA w'.heap (λb t=>ok' b t/\∀n,b∉V9 m n (S1 (ai+n))) (s.rs++s.outs) r (rs++os) O' :=by
   refine TA (λb u h k=>⟨h,λn e=>?_⟩) hrel';rcases(hok' b u h).2 with h'|h'
   .rw[←hokc]at h';rcases h' with h'|⟨hl,_⟩
    .exact hsep1 b u h' n e
    .rw[Ux]at k;unfold a2r at hl;rw[k]at hl;cases hl
   .exact(hown b h').2 n e
  refine b0q H R2 (h0:=w.heap) (ok0:=ok) (vals:=vals) (rs:=rs) (os:=os) (O' :=O') (B:=B) (v:=v) ⟨hnd,λb hb=>?_⟩ hvs hret houts hrel2 λS' m' R' km=>⟨v,m',_,rfl,R',km,λb t hb=>k3 b t (k1 b t hb)⟩;obtain⟨g1,g2,g3⟩:=hfr b hb;obtain⟨f2,f3⟩:=hown b g3;exact⟨λt h=>g1 t h.1,g2,f2,f3⟩
 refine EZ ?_ (LW hall);intro _ S' hS' next Q hn
 unfold Oper.wp;rw[hrun,Oper.upon_enter];refine Calls.mono hC λe w' hp=>?_;obtain⟨v,m',okf,he,R',km,kok⟩:=hS' ⟨(e,w'),hp⟩;simp only at he;subst he;exact hn m' okf _ w' R' km kok
theorem Vs{α:Type} :∀{l:List (Nat×α)} {n:Nat} {x:α},dW l n=some x->(n,x)∈l
 |[],_,_,h=>by cases h|(k,v)::r,n,x,h=>by
  unfold dW at h;cases hb:Nat.beq k n<;>rw[hb]at h
  .exact Y2 _ (Vs h)
  .have:=iD hb;subst this;simp only[cond_true,F9]at h;subst h;exact jD
theorem b7Z(H:FxOk X)(R:Rel X (CB*q) (CB*q+CB) S m ok a w)(ho:o.op= .call c)(hc:c.callee= .value (.func f)):(bF X.E q o).post S (λ_ S' =>jr X (CB*q) (CB*q+CB) o a w m ok S'):=by
 obtain⟨cal,args,ats⟩:=c;simp only at hc;subst hc;unfold bF;simp only[ho];have e:args.map a.eval=(args.toList.map a.eval).toArray:=by apply lC;simp
 have hrun:∀fn,X.P.funcs[f]? =some fn->fn.body.isSome=true->(fn.name== "runtime.NumGoroutine")=false->(execOp a.eval o).run X.P w= .ok (.enter f (args.toList.map a.eval).toArray) w:=λfn hf hb hnm=>by have:=NF (P:=X.P) (w:=w) hf hb hnm (args.map a.eval);rw[e]at this;simp[execOp,ho,resolve,Deferred.ofValue,Act.eval,invoke,e,this]
 refine mV R _ λvs hvs=>?_;split
 .rename_i off sz hpl;cases hz:Nat.beq sz 0
  case true=>trivial
  simp only[cond_false];split<;>try trivial
  rename_i v;obtain⟨x,r,e1,h1,h2⟩:=hvs;simp only[iW]at h2;subst h2;refine Ti R h1 λr y hy hp=>?_;obtain⟨⟨fn,hf,hb,hnm⟩,hcall⟩:=(H.pl _ (Vs hpl)).snd hz;have hC:=hcall w x y hp;have hr0:=hrun fn hf hb hnm;rw[e1]at hr0;unfold fF;cases hd:o.dst with
  |none=>
   intro next Q hn
   unfold Oper.wp;rw[hr0,Oper.upon_enter];refine Calls.mono hC λen w' hp=>?_;obtain⟨rfl,k,rfl⟩:=hp;rw[hd];exact hn m ok a _ (R.same (w' :=w.drewN k) rfl rfl rfl rfl) (λ_ _ h=>h) (λ_ _ h=>h)
  |some d=>
   refine dD λhb=>?_;intro next Q hn
   unfold Oper.wp;rw[hr0,Oper.upon_enter];refine Calls.mono hC λen w' hp=>?_;obtain⟨rfl,k,rfl⟩:=hp;rw[hd];exact hn m ok _ _ ((R.put H.ntB hb hy).same (w' :=w.drewN k) rfl rfl rfl rfl) (λ_ _ h=>h) (λ_ _ h=>h)
 .exact TQ H R hvs hrun
theorem NC{C:Cx} :∀{a b:List V} {xs ys:d5Z},iW C a xs->iW C b ys->iW C (a++b) (xs++ys)
 |[],_,_,_,h,k=>by simp only[iW]at h;subst h;exact k|c::a,b,_,_,⟨v,r,e,h1,h2⟩,k=>by subst e;exact⟨v,r++_,rfl,h1,NC h2 k⟩
theorem u_{C:Cx} :∀{caps:List ((t:Ty)×t.den)} {vs:d5Z},IK C.h C.ok caps vs->iW C (caps.map c5V) vs
 |[],_,h=>h|c::cs,_,⟨v,r,e,h1,h2⟩=>⟨v,r,e,h1,u_ h2⟩
theorem b3K(H:FxOk X)(R:Rel X (CB*q) (CB*q+CB) S m ok a w){x:Operand}(ho:o.op= .call c)(hc:c.callee= .value x)(hx:∀f,x≠.func f):(bF X.E q o).post S (λ_ S' =>jr X (CB*q) (CB*q+CB) o a w m ok S'):=by
 obtain⟨cal,args,ats⟩:=c;simp only at hc;subst hc;unfold bF;simp only[ho];refine mV R _ λvs hvs=>?_;refine aG R λu hu=>?_;split<;>try trivial
 rename_i f caps;obtain⟨cs,hv,hcaps⟩:=hu;refine TQ H R (NC hvs (u_ hcaps)) λfn hf hb hnm=>?_;have:=NF (P:=X.P) (w:=w) hf hb hnm (args.map a.eval++cs);have e:args.map a.eval++cs=(args.toList.map a.eval++cs.toList).toArray:=by apply lC;simp
 rw[e]at this;simp[execOp,ho,resolve,Deferred.ofValue,hv,invoke,e,this]
theorem SV:∀{l:List ((Nat×String)×Nat×Option Nat)} {t:Nat} {n:String} {r:Nat×Option Nat},ZF l t n=some r->((t,n),r)∈l
 |[],_,_,_,h=>by simp[ZF]at h|((u,k),r')::l,t,n,r,h=>by
  unfold ZF at h;cases hb:(Nat.beq u t&&(k==n))<;>rw[hb]at h
  .exact Y2 _ (SV h)
  .simp only[cond_true,F9]at h;subst h;simp only[A8,beq_iff_eq]at hb;have:=iD hb.1;subst this;rw[hb.2];exact jD
theorem b1f(H:FxOk X)(R:Rel X (CB*q) (CB*q+CB) S m ok a w){x:Operand}{n:String}(ho:o.op= .call c)(hc:c.callee= .invoke x n):(bF X.E q o).post S (λ_ S' =>jr X (CB*q) (CB*q+CB) o a w m ok S'):=by
 obtain⟨cal,args,ats⟩:=c;simp only at hc;subst hc;unfold bF;simp only[ho];refine mV R _ λvs hvs=>aG R λu hu=>?_;split<;>try trivial
 rename_i t v;obtain⟨z,hz,hz1,hzv⟩:=hu;have e2:(#[a.eval x]++args.map a.eval).extract 1 (#[a.eval x]++args.map a.eval).size=args.map a.eval:=by apply lC;simp;exact S9 (Nat.le_of_eq (by rw[X4];rfl))
 have e3:(#[a.eval x]++args.map a.eval)[0]? =some (a.eval x):=by rw[jH (by show 0<1;omega)];rfl
 have e4:(args.map a.eval).extract 0 args.size=args.map a.eval:=by
  have h:args.size=(args.map a.eval).size:=by rw[Array.size_map]
  rw[h,Array.extract_size]
 have fin:∀(f:Nat) (r:Value) (fn:Func),X.P.funcs[f]? =some fn->fn.body.isSome=true->(fn.name== "runtime.NumGoroutine")=false->(method (X.P.types.size+Made.depth) t z n).run X.P w= .ok (f,r) w->
   (execOp a.eval o).run X.P w= .ok (.enter f (r::args.toList.map a.eval).toArray) w:=λf r fn hf hb hnm hM=>by
  have:=NF (P:=X.P) (w:=w) hf hb hnm (#[r]++args.map a.eval);have e:#[r]++args.map a.eval=(r::args.toList.map a.eval).toArray:=by apply lC;simp
  rw[←e];simp only[execOp,ho,resolve,H6,Y7,I5,invoke,e3];simp[hz,callMethod,hM,e4,this]
 split<;>try trivial
 .rename_i f hmt;have hM:=H.ms _ (SV hmt);exact TQ H R (vals:=z::args.toList.map a.eval) ⟨z,_,rfl,Ih hzv,hvs⟩ λfn hf hb hnm=>fin f z fn hf hb hnm (hM z w)
 .rename_i f e0 hmt;have hM:=H.ms _ (SV hmt);refine MZ H R (Ih hzv) λv' u ad hv' hp hr=>?_;refine TQ H R (vals:=u::args.toList.map a.eval) ⟨u,_,rfl,hv',hvs⟩ λfn hf hb hnm=>fin f u fn hf hb hnm ?_;rw[hM z w ad hp,hr];rfl
end
end Go.GP
namespace Go.GP
variable {q:Nat}{x:Operand}{t:TypeId}
section
variable {X:Fx} {S:Sm} {m:Mp} {ok:Nat->Ty->Prop} {a:Act} {w:World} {o:Oper}
theorem YI{α:Type}{Q:α->Sm->Prop}{cl ch:Nat} :∀(ms:List MG) {vs:List V} {xs:d5Z} {K:List ((t:Ty)×t.den)->Cmd α} {S:Sm} {ok:Nat->Ty->Prop} (R:Rel X cl ch S m ok a w)
  (hv:iW ⟨w.heap,ok,m⟩ vs xs)
  (hK:∀S' ok' cs,Rel X cl ch S' m ok' a w->(∀b t,ok b t->ok' b t)->IK w.heap ok' cs xs->(K cs).post S' Q),(yP ms vs K).post S Q
 |[],vs,xs,K,S,ok,R,hv,hK=>by
  cases vs with
  |cons _ _=>unfold yP;trivial|nil=>unfold yP;exact hK S ok [] R (λ_ _ h=>h) hv
 |(g,.rp t)::ms,vs,xs,K,S,ok,R,hv,hK=>by
  cases vs with
  |nil=>unfold yP;trivial|cons v vs=>
   obtain⟨x,r,rfl,h1,h2⟩:=hv;unfold yP;have key:xP ⟨w.heap,ok,m⟩ v x->(rpC t v λx=>yP ms vs λcs=>K (⟨t,x⟩::cs)).post S Q:=λh1=>by refine a5x (T:=[]) t R Tk.nil h1 λS1 ok1 y R1 T1 k1 s1 d1=>?_;refine YI ms R1 (PQ k1 h2) λS2 ok2 cs R2 k2 d2=>?_;exact hK S2 ok2 _ R2 (λb t h=>k2 b t (k1 b t h)) ⟨x,r,rfl,Iu k2 (λ_ _ _=>rfl) d1,d2⟩
   cases v<;>first|exact key h1|(unfold rpC;trivial)
 |(g,.dat t)::ms,vs,xs,K,S,ok,R,hv,hK=>by cases vs<;>(unfold yP;trivial)|(g,.own t)::ms,vs,xs,K,S,ok,R,hv,hK=>by cases vs<;>(unfold yP;trivial)|(g,.pair p q)::ms,vs,xs,K,S,ok,R,hv,hK=>by cases vs<;>(unfold yP;trivial)|(g,.unit)::ms,vs,xs,K,S,ok,R,hv,hK=>by cases vs<;>(unfold yP;trivial)|(g,.cell _)::ms,vs,xs,K,S,ok,R,hv,hK=>by cases vs<;>(unfold yP;trivial)|(g,.fr _)::ms,vs,xs,K,S,ok,R,hv,hK=>by cases vs<;>(unfold yP;trivial)|(g,.sbx _ _)::ms,vs,xs,K,S,ok,R,hv,hK=>by cases vs<;>(unfold yP;trivial)|(g,.lp _)::ms,vs,xs,K,S,ok,R,hv,hK=>by cases vs<;>(unfold yP;trivial)|(g,.dv ..)::ms,vs,xs,K,S,ok,R,hv,hK=>by cases vs<;>(unfold yP;trivial)|(g,.sit)::ms,vs,xs,K,S,ok,R,hv,hK=>by cases vs<;>(unfold yP;trivial)|(g,.box p)::ms,vs,xs,K,S,ok,R,hv,hK=>by cases vs<;>(unfold yP;trivial)|(g,.owns p)::ms,vs,xs,K,S,ok,R,hv,hK=>by cases vs<;>(unfold yP;trivial)|(g,.ownb p)::ms,vs,xs,K,S,ok,R,hv,hK=>by cases vs<;>(unfold yP;trivial)|(g,.fn f ts)::ms,vs,xs,K,S,ok,R,hv,hK=>by cases vs<;>(unfold yP;trivial)|(g,.ifc t p)::ms,vs,xs,K,S,ok,R,hv,hK=>by cases vs<;>(unfold yP;trivial)
theorem a4U(H:FxOk X)(R:Rel X (CB*q) (CB*q+CB) S m ok a w){f:FuncId}{first caps:Array Operand}(ho:o.op= .makeFunc (.func f) first caps):(bF X.E q o).post S (λ_ S' =>jr X (CB*q) (CB*q+CB) o a w m ok S'):=by
 unfold bF;simp only[ho];refine dL λhb=>?_;have hb' :=iD hb;have hf:first=#[]:=by simpa using hb'
 split
 .refine dL λhc=>?_;simp only[A8]at hc;have hn:=iD hc.2;refine uJ H R (λ_ _ h=>h) (λ_ _ h=>h) (v:=.idl f _) (x:=.func (.func f) #[] (caps.map a.eval)) ⟨caps.map a.eval,rfl,by simpa using hn⟩ ?_;simp[execOp,ho,Instr.makeFunc,hf]
 split<;>try trivial
 refine mV R _ λvs hvs=>YI _ R hvs λS' ok' cs R' k hc=>?_;refine uJ H R' (λ_ _ h=>h) k (v:=.clos f cs) (x:=.func (.func f) #[] (caps.map a.eval)) ⟨caps.map a.eval,rfl,by simpa using hc⟩ ?_;simp[execOp,ho,Instr.makeFunc,hf]
theorem b3L(H:FxOk X)(R:Rel X (CB*q) (CB*q+CB) S m ok a w){c:Call}(ho:o.op= .defer c):(bF X.E q o).post S (λ_ S' =>jr X (CB*q) (CB*q+CB) o a w m ok S'):=by
 unfold bF;simp only[ho];refine dL λhb=>?_;have hb' :=iD hb;have hargs:c.args=#[]:=by simpa using hb'
 split<;>try trivial
 rename_i x hd hc;refine aG R λv hv=>?_;split<;>try trivial
 rename_i f n;split<;>try trivial
 rename_i k z hk;refine dL λhn=>?_;simp only[A8]at hn;have hz:=iD hn.1;have hn' :=iD hn.2;subst hz hn';obtain⟨cap,hx,hs⟩:∃cap:Array Value,a.eval x= .func (.func f) #[] cap/\cap.size=n:=hv;intro next Q hnx
 unfold Oper.wp;have hrun:(execOp a.eval o).run X.P w= .ok (.defer { target:=.fn (.func f) cap,args:=#[] }) w:=by simp[execOp,ho,resolve,hc,hargs,hx,Deferred.ofValue]
 rw[hrun,Oper.upon_defer,hd];refine hnx m ok _ w ?_ (λ_ _ h=>h) (λ_ _ h=>h);have hid:a3C X.P { target:=.fn (.func f) cap,args:=#[] }:=H.pl _ (Vs hk) cap hs;have R' :Rel X (CB*q) (CB*q+CB) S m ok { a with defers:={ target:=.fn (.func f) cap,args:=#[] }::a.defers } w:=
  { size:=R.size,nodef:=λd hd=>(D5.1 hd).elim (λe=>e▸hid) (R.nodef d),slot:=R.slot,box:=R.box,inj:=R.inj,nd:=R.nd,sep:=R.sep,okLt:=R.okLt,okIn:=R.okIn,okOut:=R.okOut,frame:=R.frame,fresh:=R.fresh,strict:=R.strict,gl:=R.gl,kept:=R.kept }
 exact R'
theorem VQ(H:FxOk X)(R:Rel X (CB*q) (CB*q+CB) S m ok a w)(ho:o.op= .makeInterface t x):(bF X.E q o).post S (λ_ S' =>jr X (CB*q) (CB*q+CB) o a w m ok S'):=by
 unfold bF;simp only[ho];refine lX H λi hi=>?_;have htd:=hi.td;have key:∀d,X.P.underlying t=some d->(∀ms,d≠.interface ms)->(ru x λv=>(match v with
   | .b ..| .i ..| .s ..| .ptr ..=>fF X.E o.dst (.ifc t v)
   |_=> .fail:Cmd Unit)).post S (λ_ S' =>jr X (CB*q) (CB*q+CB) o a w m ok S'):=λd hd hne=>by
  refine aG R λv hv=>?_;have run:(execOp a.eval o).run X.P w= .ok (.value (.iface t (a.eval x))) w:=by simp only[execOp,ho,Instr.makeInterface,H6,run_underlying hd,I5];cases d<;>first|rfl|exact absurd rfl (hne _)
  cases v<;>try trivial
  case b y=>exact aX H R (v:=.ifc t (.b y)) ⟨_,rfl,by rw[Wh hv];rfl,hv⟩ run
  case i k n=>exact aX H R (v:=.ifc t (.i k n)) ⟨_,rfl,by rw[wO hv];rfl,hv⟩ run
  case s l=>exact aX H R (v:=.ifc t (.s l)) ⟨_,rfl,by rw[PP hv];rfl,hv⟩ run
  case ptr bx off=>obtain⟨blk,h1,h2⟩:=hv;exact aX H R (v:=.ifc t (.ptr bx off)) ⟨_,rfl,by rw[h2];rfl,⟨blk,h1,h2⟩⟩ run
 cases htd' :i.td<;>rw[htd']at htd<;>try trivial
 all_goals exact key _ htd (λ_ e=>by cases e)
theorem a0p(H:FxOk X)(R:Rel X (CB*q) (CB*q+CB) S m ok a w){xt t:TypeId}{okk:Bool}(ho:o.op= .typeAssert x xt t okk):(bF X.E q o).post S (λ_ S' =>jr X (CB*q) (CB*q+CB) o a w m ok S'):=by
 unfold bF;simp only[ho];refine lX H λi hi=>?_;have htd:=hi.td;have key:∀d,X.P.underlying t=some d->(∀ms,d≠.interface ms)->(ru x λv=>(match v with
   | .ifc t' v=>bif Nat.beq t' t then fF X.E o.dst (bif okk then .tup [v,.b true]else v)else .fail
   |_=> .fail:Cmd Unit)).post S (λ_ S' =>jr X (CB*q) (CB*q+CB) o a w m ok S'):=λd hd hne=>by
  refine aG R λv hv=>?_;cases v<;>try trivial
  case ifc t' c=>
  obtain⟨u,hx,h1,hc⟩:=hv;refine dL λhb=>?_;have hb' :=iD hb;subst hb';have run:(execOp a.eval o).run X.P w= .ok (.value (if okk then .tuple #[u,.bool true]else u)) w:=by simp only[execOp,ho,Instr.typeAssert,H6,run_underlying hd,I5,hx];cases d<;>first|(simp;done)|exact absurd rfl (hne _)
  cases okk
  .exact aX H R (Ih hc) run
  .refine aX H R (v:=.tup [c,.b true]) ⟨_,rfl,⟨_,_,rfl,?_,_,_,rfl,rfl,rfl⟩⟩ run;cases c<;>first|exact hc|cases hc
 cases htd' :i.td<;>rw[htd']at htd<;>try trivial
 case struct fs=>obtain⟨fields,hu,_⟩:=htd;exact key _ hu (λ_ e=>by cases e)
 all_goals exact key _ htd (λ_ e=>by cases e)
theorem b3O(H:FxOk X)(R:Rel X (CB*q) (CB*q+CB) S m ok a w)(ho:o.op= .range t x):(bF X.E q o).post S (λ_ S' =>jr X (CB*q) (CB*q+CB) o a w m ok S'):=by
 unfold bF;simp only[ho];refine aG R λu hu=>lX H λi hi=>?_;have hd:=hi.td;split<;>try trivial
 rename_i l htd;rw[htd]at hd;have hx:a.eval x= .string ⟨l.toArray⟩:=hu;refine LP (l:=.st w.heap.size) (obj:=.stringIter ⟨l.toArray⟩ 0) H R A7 (by simp[V9]) (λhn hc=>?_) ⟨w.heap.size,A7,rfl⟩ ?_
 .exact⟨w.heap.size,⟨l.toArray⟩,0,A7,heap_alloc_new w _,A7,rfl⟩
 .have hund:X.P.underlying t=some .string:=hd;simp[execOp,ho,Instr.range,run_underlying hund,hx]
theorem b8c(H:FxOk X){cl ch:Nat}(R:Rel X cl ch S m ok a w){b:Bool}(ho:o.op= .next x b):(bF X.E q o).post S (λ_ S' =>jr X cl ch o a w m ok S'):=by
 unfold bF;simp only[ho];refine dD λhs=>?_;subst hs;refine aG R λu hu=>?_;split<;>try trivial
 rename_i bx;obtain⟨blk,hm,hx⟩:=hu;refine bf ?_;split<;>try trivial
 rename_i l p hS;have hb:=R.box bx;rw[hS]at hb;obtain⟨blk',s,pos,hm',hh,g1,g2⟩:=hb;simp only at hm hm' hh;rw[hm]at hm';cases hm';subst g2;have hl:(⟨l.toArray⟩:ByteArray)=s:=by rw[←g1]
 have hlen:l.length=s.size:=by rw[←g1,bI];rfl
 have hown:V9 m bx (S (ai+bx))=[blk]:=by rw[hS];simp[V9,hm]
 have hx:a.eval x= .pointer (some ⟨blk,0,none⟩):=hx;refine⟨λhlt=>?_,λhge=>?_⟩
 .have hlt:pos<s.size:=by unfold D8 o9 at hlt;rw[decide_eq_true_eq]at hlt;omega
  refine jb ?_;have hsz:blk<w.heap.size:=(au.1 hh).1;have R2:Rel X cl ch (upd S (ai+bx) (.biter l (b6Y l (pos:Int)))) m ok a { w with heap:=w.heap.setIfInBounds blk (.stringIter s (pos+(Utf8.decode s pos).2)) }:=by
   refine R.mod (by rw[hown];simp[V9,hm]) A7 rfl rfl rfl A7 (λb hb=>?_) ?_
   .rw[hown]at hb;simp only[dh]at hb;simp[mi,Ne.symm hb]
   .refine⟨blk,s,pos+(Utf8.decode s pos).2,hm,?_,g1,?_⟩
    .simp[mi,hsz]
    .unfold b6Y;rw[hl];simp
  refine uJ (o:=o) H R2 (m0:=m) (ok0:=ok) (λ_ _ h=>h) (λ_ _ h=>h) (x:=.tuple #[.bool true,.int .i64 (pos:Int),.int .i32 ((Utf8.decode s pos).1:Int)]) ?_ ?_
  .refine⟨_,rfl,⟨_,_,rfl,rfl,_,_,rfl,rfl,_,_,rfl,?_,rfl⟩⟩;show Value.int .i32 _=_;unfold c0f;rw[hl];simp
  .have e1:(getObj blk).run X.P w= .ok (.stringIter s pos) w:=by simp[getObj,Sem.run,hh]
   have e2:(setObj blk (.stringIter s (pos+(Utf8.decode s pos).2))).run X.P w= .ok () { w with heap:=w.heap.setIfInBounds blk (.stringIter s (pos+(Utf8.decode s pos).2)) }:=by simp[setObj,Sem.run,hh]
   simp[execOp,ho,Instr.next,hx,e1,e2,hlt,goInt]
 .have hge:¬pos<s.size:=λh=>by
   have:D8 ((pos:Nat):Int) (o9 l)=true:=by unfold D8 o9;rw[decide_eq_true_eq];omega
   rw[this]at hge;cases hge
  refine aX H R (x:=.tuple #[.bool false]) ⟨_,rfl,⟨_,_,rfl,rfl,rfl⟩⟩ ?_;have e1:(getObj blk).run X.P w= .ok (.stringIter s pos) w:=by simp[getObj,Sem.run,hh]
  simp[execOp,ho,Instr.next,hx,e1,hge]
theorem c0R(H:FxOk X)(R:Rel X (CB*q) (CB*q+CB) S m ok a w)(o:Oper):(bF X.E q o).post S (λ_ S' =>jr X (CB*q) (CB*q+CB) o a w m ok S'):=by
 have fin:∀{α:Type} {Q:α->Sm->Prop},(Cmd.fail:Cmd α).post S Q:=trivial;cases ho:o.op
 case move x=>have h:=a9E H R (o:=o) (x:=x) (.inl ho);unfold bF;simp only[ho];exact h
 case assign x=>have h:=a9E H R (o:=o) (x:=x) (.inr ho);unfold bF;simp only[ho];exact h
 case pick c x y=>exact b8d H R ho
 case alloc t=>exact b3H H R ho
 case box t x=>exact c0S H R ho
 case build t ps=>exact b3J H R ho
 case buildSlice t n ps=>exact a0o H R ho
 case load t x=>exact b8b H R ho
 case store t x y=>exact b3Q H R ho
 case binOp op t x y yt=>exact b3I H R ho
 case unOp op t x=>exact b8e H R ho
 case convert s t x=>exact a7i H R ho
 case makeSlice t l c=>exact a2z H R ho
 case slice t x lo hi mx=>
  cases mx with
  |none=>exact b3P H R ho|some _=>unfold bF;simp only[ho];exact fin
 case fieldAddr t x f=>exact a2x H R ho
 case field t x f=>exact b3M H R ho
 case indexAddr t x ix=>exact a2y H R ho
 case index t x ix=>exact b3N H R ho
 case extract x n=>exact a7j H R ho
 case nilCheck x=>exact a4V H R ho
 case call c=>
  cases hc:c.callee
  case builtin b=>
   cases b
   case len=>exact c0U H R ho hc
   case append=>exact b1c H R ho hc
   case copy=>exact b8a H R ho hc
   case min=>exact a1r H R ho (.inl hc)
   case max=>exact a1r H R ho (.inr hc)
   all_goals
    unfold bF;simp only[ho];exact mV R _ λvs hvs=>by simp only[hc];exact fin
  case value f=>
   cases f
   case func f=>exact b7Z H R ho hc
   all_goals exact b3K H R ho hc (λf e=>by cases e)
  case invoke x n=>exact b1f H R ho hc
 case makeFunc f first caps=>
  cases f
  case func f=>exact a4U H R ho
  all_goals
   unfold bF;simp only[ho];exact fin
 case defer c=>exact b3L H R ho
 case makeInterface t x=>exact VQ H R ho
 case typeAssert x xt t ok=>exact a0p H R ho
 case makeMap t r=>exact a7k H R ho
 case lookup t x ix ok=>exact b1g H R ho
 case range t x=>exact b3O H R ho
 case next x b=>exact b8c H R ho
 case mapUpdate t x ix y=>exact UC H R (.inl ho)
 case insert t x ix y=>exact UC H R (.inr ho)
 all_goals
  unfold bF;simp only[ho];exact fin
def a1P(X:Fx)(cl ch:Nat)(ops:Array Oper)(i:Nat)(a:Act)(w:World)(m:Mp)(ok:Nat->Ty->Prop)(S' :Sm):Prop:=
 ∀(next:Act->World->Prop) (Q:Exit->Act->World->Prop),
  (∀m' ok' a' w',Rel X cl ch S' m' ok' a' w' ->(∀k l,m k=some l->m' k=some l)->(∀b t,ok b t->ok' b t)->next a' w')->wpOp X.P ops Q i next a w
theorem K_(H:FxOk X){cl ch:Nat}(R:Rel X cl ch S m ok a w){ops:Array Oper}{i:Nat}(hi:ops[i]? =some o)(hw:Region.wanted o (yielded ops a.tmps)=false):
  (fF X.E o.dst .un).post S (λ_ S' =>a1P X cl ch ops i a w m ok S'):=by
 have h:∀S',Rel X cl ch S' m ok (a.put o.dst Go.undef) w->a1P X cl ch ops i a w m ok S' :=λS' R' next Q hn=>by unfold wpOp;simp only[hi,hw,df,if_false];exact hn m ok _ w R' (λ_ _ h=>h) (λ_ _ h=>h)
 unfold fF;cases hd:o.dst with
 |none=>rw[hd]at h;exact h S R
 |some d=>rw[hd]at h;exact dD λhb=>h _ (R.put H.ntB hb rfl)
theorem a0h{tmps:Array Value}{t:Nat}{v:Value}(h:tmps.getD t Go.undef=v)(hv:v≠Go.undef):tmps[t]? =some v:=by
 rw[af]at h;cases hx:tmps[t]? with
 |none=>rw[hx]at h;exact absurd h.symm hv|some x=>rw[hx]at h;simpa using h
theorem b1R(H:FxOk X)(R:Rel X (CB*q) (CB*q+CB) S m ok a w){ops:Array Oper}{i:Nat}(hi:ops[i]? =some o):
  (pX X.E q ops.toList o).post S (λ_ S' =>a1P X (CB*q) (CB*q+CB) ops i a w m ok S'):=by
 have yes:Region.wanted o (yielded ops a.tmps)=true->(bF X.E q o).post S (λ_ S' =>a1P X (CB*q) (CB*q+CB) ops i a w m ok S'):=λhw=>by
  refine EZ ?_ (c0R H R o);intro _ S' h next Q hn
  unfold wpOp;simp only[hi,hw,if_true];exact .inl (h next Q hn)
 unfold pX;cases hg:o.guard with
 |none=>exact yes (by simp[Region.wanted,hg])|some p=>
  obtain⟨j,want⟩:=p;cases hj:ops.toList[j]? with
  |none=>simp only[hj];trivial|some p=>
   simp only[hj];have hj' :ops[j]? =some p:=by simpa using hj
   cases hd:p.dst with
   |none=>trivial|some t=>
    simp only[];refine dD λhlt=>bf ?_;have hsl:=R.slot t (MJ hlt);have hyd:yielded ops a.tmps j=match a.tmps[t]? with|some (.bool b)=>some b|_=>none:=by unfold yielded;rw[hj'];simp only[kY,hd];rfl
    split<;>try trivial
    .rename_i y hS;rw[hS]at hsl;have hb:a.tmps.getD t Go.undef= .bool y:=hsl;have hy:yielded ops a.tmps j=some y:=by
      rw[hyd,a0h hb (by simp[Go.undef])]
     have hwt:Region.wanted o (yielded ops a.tmps)=(bif want then y else !y):=by unfold Region.wanted;rw[hg];simp only[hy];cases want<;>cases y<;>rfl
     cases hc:(bif want then y else !y)
     .simp only[cond_false];exact K_ H R hi (hwt.trans hc)
     .simp only[cond_true];exact yes (hwt.trans hc)
    .rename_i hS;rw[hS]at hsl;have hb:a.tmps.getD t Go.undef=Go.undef:=hsl;have hwt:Region.wanted o (yielded ops a.tmps)=false:=by
      unfold Region.wanted;rw[hg];simp only[hyd];rw[af]at hb;cases hx:a.tmps[t]? with
      |none=>rfl|some x=>rw[hx]at hb;simp only[dG]at hb;subst hb;rfl
     exact K_ H R hi hwt
end
end Go.GP
namespace Go.GP
def WN(E:Env)(q:Nat)(all l:List Oper)(S:Nat->Sm)(T:Nat->Tr):Prop:=
 ∀i o,l[i]? =some o->(pX E q all o).eval (S i) ([],[])=some ((),S (i+1),T i)
def b5H(s:Sm)(S:Nat->Sm):Nat->Sm|0=>s|i+1=>S i
def b5I(t:Tr)(T:Nat->Tr):Nat->Tr|0=>t|i+1=>T i
theorem UM{R:Type}{t:Nat}{s:St}{K:St->Option R}{r:R}(h:Yi t s K=some r):∃s0,gq s0=gq s/\K s0=some r:=by
 unfold Yi at h;rw[Lu]at h;split at h<;>try (simp at h;done)
 .rename_i y hy;have key:∀b:Bool,y=b->gq (.kv t (.b b)::s)=gq s:=λb hb=>by
   subst hb;rw[a9m];funext k;by_cases e:k=t
   .subst e;simp[hy]
   .rw[bV _ _ e]
  cases y
  .exact⟨_,key false rfl,h⟩
  .exact⟨_,key true rfl,h⟩
 .exact⟨s,rfl,h⟩
theorem XF{R:Type}{E:Env}{q:Nat}{all:List Oper} :∀(l:List Oper) {s:St} {t:Trs} {K:St->Trs->Option R} {r:R},TB E q all l s t K=some r->
  ∃s' S T,S 0=gq s/\S l.length=gq s' /\WN E q all l S T/\K s' (((List.range l.length).map T).reverse++t)=some r
 |[],s,t,K,r,h=>⟨s,λ_=>gq s,λ_=>([],[]),rfl,rfl,λi o hi=>by simp at hi,by simpa[TB]using h⟩|o::l,s,t,K,r,h=>by
  have key:∀s0,gq s0=gq s->(pX E q all o).runK s0 ([],[]) (λ_ s' tr=>TB E q all l s' (tr::t) K)=some r->
    ∃s' S T,S 0=gq s/\S (o::l).length=gq s' /\WN E q all (o::l) S T/\K s' (((List.range (o::l).length).map T).reverse++t)=some r:=λs0 hs0 h=>by
   obtain⟨x,s1,tr,e,hk⟩:=rE h;obtain⟨s',S,T,h0,h1,h2,h3⟩:=XF l hk;refine⟨s',b5H (gq s) S,b5I tr T,rfl,h1,λi o' hi=>?_,?_⟩
   .cases i with
    |zero=>simp at hi;subst hi;show(pX E q all o).eval (gq s) ([],[])=some ((),S 0,tr);rw[←hs0,e,h0]|succ i=>exact h2 i o' (by simpa using hi)
   .rw[H5,List.range_succ_eq_map,je,List.reverse_cons,F8,yD];exact h3
  unfold TB at h;split at h
  .exact key s rfl h
  .obtain⟨s0,e,h⟩:=UM h;exact key s0 e h
theorem uT{α:Type}(T:Nat->α)(n:Nat):((List.range (n+1)).map T).reverse=T n::((List.range n).map T).reverse:=by rw[dZ,gU,List.reverse_append];rfl
theorem CJ{a b:d6a}(h:XR a b=true):∀k∈a,k∉b:=by
 induction a with
 |nil=>intro k hk;cases hk|cons x a ih=>
  unfold XR at h;cases hm:IY x b
  .simp only[hm,cond_false]at h;intro k hk hkb;rcases D5.1 hk with rfl|hk
   .have:∀(l:d6a),IY k l=false->k∉l:=by
     intro l;induction l with
     |nil=>intro _ h;cases h|cons y l ih=>
      intro hm hk;unfold IY at hm;cases hb:Nat.beq y k
      .simp only[hb,cond_false]at hm;rcases D5.1 hk with rfl|hk
       .simp at hb
       .exact ih hm hk
      .simp[hb]at hm
    exact this b hm hkb
   .exact ih h k hk hkb
  .simp[hm]at h
theorem ZE{k:Nat} :∀{l:d6a},IY k l=true->k∈l
 |[],h=>by simp[IY]at h|y::l,h=>by
  unfold IY at h;cases hb:Nat.beq y k
  .simp only[hb,cond_false]at h;exact Y2 _ (ZE h)
  .have:=iD hb;subst this;simp
def b2f(x y:Tr):Prop:=(∀k∈x.2,k∉y.1/\k∉y.2)/\∀k∈x.1,k∉y.2
theorem a4R{b:Bool}{x y:Tr}(h:a7e b x y=true):b=true\/b2f x y:=by
 unfold a7e at h;cases b
 .simp only[cond_false,A8]at h;exact .inr ⟨λk hk=>⟨CJ h.1.1 k hk,CJ h.1.2 k hk⟩,λk hk=>CJ h.2 k hk⟩
 .exact .inl rfl
theorem Uz{mask:Nat}{y:Tr}{T:Nat->Tr} :∀n,Yh mask y ((List.range n).map T).reverse n=true->∀i,i<n->Nat.testBit mask i=true\/b2f (T i) y
 |0,_,i,hi=>by omega|n+1,h,i,hi=>by
  rw[uT]at h;unfold Yh at h;simp only[Nat.add_sub_cancel,A8]at h;by_cases e:i=n
  .subst e;exact a4R h.1
  .exact Uz n h.2 i l9
theorem Xn{M:Nat->Nat}{T:Nat->Tr} :∀n,ZR ((List.range n).map M).reverse ((List.range n).map T).reverse=true->∀i j,i<j->j<n->Nat.testBit (M j) i=true\/b2f (T i) (T j)
 |0,_,i,j,_,hj=>by omega|n+1,h,i,j,hi,hj=>by
  rw[uT,uT]at h;unfold ZR at h;simp only[A8,List.length_reverse,X4,gQ]at h;by_cases e:j=n
  .subst e;exact Uz j h.1 i hi
  .exact Xn n h.2 i j hi l9
theorem a8T{α:Type}{eq:α->α->Bool}(h:∀a b,eq a b=true->a=b):∀{l m:List α},b7G eq l m=true->l=m
 |[],[],_=>rfl|[],_::_,e=>by cases e|_::_,[],e=>by cases e|a::l,b::m,e=>by simp only[b7G,A8]at e;rw[h _ _ e.1,a8T h e.2]
theorem Qw:∀{t:Ty} (a b:t.den),YW t a b=true->a=b
 | .bool,a,b,e=>a8o e| .int _,a,b,e=>of_decide_eq_true e| .str,a,b,e=>of_decide_eq_true e| .sl t,a,b,e=>a8T (λx y h=>Qw x y h) e| .prod p q,a,b,e=>by have e:(YW p a.1 b.1&&YW q a.2 b.2)=true:=e;rw[A8]at e;exact aZ (Qw _ _ e.1) (Qw _ _ e.2)| .unit,a,b,e=>rfl| .any _,a,b,e=>rfl| .ent _ _ p q,a,b,e=>by have e:(YW p a.1 b.1&&YW q a.2 b.2)=true:=e;rw[A8]at e;exact aZ (Qw _ _ e.1) (Qw _ _ e.2)
theorem a8u{R:Type}{a b:V}{K:Option R}{r:R}(h:b7p a b K=some r):a=b/\K=some r:=by
 unfold b7p at h;rw[Lu,Lu]at h;cases a with
 |i k n=>
  cases b with
  |i k' n' =>
   cases hk:decide (k=k')
   .simp[hk]at h
   .have e:=of_decide_eq_true hk;subst e;simp only[hk,cond_true]at h;cases hi:x8 n n'<;>rw[hi]at h
    .cases h
    .have e:=of_decide_eq_true (show decide (n=n')=true from hi);subst e;exact⟨rfl,h⟩
  |_=>cases h
 |sl t xs=>
  cases b with
  |sl u ys=>
   simp only[Ty.castL]at h;by_cases e:u=t
   .subst e;simp only[dif_pos]at h;cases hi:deq (.sl u) xs ys<;>rw[hi]at h
    .cases h
    .rw[Qw (t:=.sl u) xs ys hi];exact⟨rfl,h⟩
   .rw[dif_neg e]at h;cases h
  |_=>cases h
 |b x=>
  cases b with
  |b y=>
   cases hi:jG x y<;>simp only[hi,l7]at h
   .cases h
   .have e:x=y:=by simpa[jG]using hi
    subst e;exact⟨rfl,h⟩
  |_=>cases h
 |s x=>
  cases b with
  |s y=>
   cases hi:seq x y<;>simp only[hi,l7]at h
   .cases h
   .have e:x=y:=by simpa[seq]using hi
    subst e;exact⟨rfl,h⟩
  |_=>cases h
 |_=>cases h
theorem Qb:∀{a b:d6a},Qa a b=true->a=b
 |[],[],_=>rfl|[],_::_,h=>by cases h|_::_,[],h=>by cases h|a::l,b::m,h=>by
  unfold Qa at h;cases hb:Nat.beq a b
  .simp[hb]at h
  .simp only[hb,cond_true]at h;rw[iD hb,Qb h]
def Rp(E:Env)(q:Nat)(all:List Oper)(o:Oper)(tr:Tr)(v:V)(S:Sm):Prop:=
 ∃d S',o.dst=some d/\tr.2=[d]/\(pX E q all o).eval S ([],[])=some ((),S',tr)/\S' d=v
theorem o_{R:Type}{E:Env}{q:Nat}{all:List Oper}{s:St} :∀{p:b0i} {K:Option R} {r:R},a1x E q all s p K=some r->
  (∀x∈p,Rp E q all x.1 x.2.1 x.2.2 (gq s))/\K=some r
 |[],K,r,h=>⟨λx hx=>by(cases hx),h⟩|(o,tr,v)::p,K,r,h=>by
  unfold a1x at h;obtain⟨x,s2,tr2,e,hk⟩:=rE h;cases hd:o.dst with
  |none=>simp[hd]at hk|some d=>
   simp only[hd]at hk;cases hc:(Qa tr.1 tr2.1&&Qa tr.2 tr2.2&&Qa tr2.2 [d])
   .simp[hc]at hk
   .simp only[hc,cond_true]at hk;simp only[A8]at hc;obtain⟨⟨h1,h2⟩,h3⟩:=hc;have h1:=Qb h1;have h2:=Qb h2;have h3:=Qb h3;have etr:tr=tr2:=aZ h1 h2;subst etr;obtain⟨hv,hk⟩:=a8u hk;obtain⟨g1,g2⟩:=o_ hk;refine⟨λy hy=>?_,g2⟩;rcases D5.1 hy with rfl|hy
    .exact⟨d,_,hd,h3,e,hv.symm⟩
    .exact g1 y hy
theorem UX{R:Type}{E:Env}{q:Nat}{all:List Oper} :∀(l:List Oper) {s:St} {t:Trs} {p:b0i} {K:St->Trs->Option R} {r:R},Ei E q all l s t p K=some r->
  ∃s' S T,S 0=gq s/\S l.length=gq s' /\WN E q all l S T/\K s' (((List.range l.length).map T).reverse++t)=some r/\
   (∀x∈p,∀j o',l[j]? =some o' ->qE o' =true->Rp E q all x.1 x.2.1 x.2.2 (S (j+1)))/\
   (∀i j o o',i<j->l[i]? =some o->l[j]? =some o' ->a2g E o=true->qE o' =true->∃d,o.dst=some d/\Rp E q all o (T i) (S (i+1) d) (S (j+1)))
 |[],s,t,p,K,r,h=>⟨s,λ_=>gq s,λ_=>([],[]),rfl,rfl,λi o hi=>by simp at hi,by simpa[Ei]using h,λx _ j o' hj=>by simp at hj,λi j o o' _ hi=>by simp at hi⟩|o::l,s,t,p,K,r,h=>by
  have key:∀s0,gq s0=gq s->(pX E q all o).runK s0 ([],[]) (λ_ s' tr=>bif qE o then a1x E q all s' p (Ei E q all l s' (tr::t) p K)else Ei E q all l s' (tr::t) (ZY E o s' tr p) K)=some r->
    ∃s' S T,S 0=gq s/\S (o::l).length=gq s' /\WN E q all (o::l) S T/\K s' (((List.range (o::l).length).map T).reverse++t)=some r/\
   (∀x∈p,∀j o',(o::l)[j]? =some o' ->qE o' =true->Rp E q all x.1 x.2.1 x.2.2 (S (j+1)))/\
   (∀i j o1 o',i<j->(o::l)[i]? =some o1->(o::l)[j]? =some o' ->a2g E o1=true->qE o' =true->∃d,o1.dst=some d/\Rp E q all o1 (T i) (S (i+1) d) (S (j+1))):=λs0 hs0 h=>by
   obtain⟨x,s1,tr,e,hk⟩:=rE h;have fin:∀p',(∀y∈p,y∈p')->(a2g E o=true->qE o=false->∃d,o.dst=some d/\(o,tr,gq s1 d)∈p')->(qE o=true->∀y∈p,Rp E q all y.1 y.2.1 y.2.2 (gq s1))->Ei E q all l s1 (tr::t) p' K=some r->
     ∃s' S T,S 0=gq s/\S (o::l).length=gq s' /\WN E q all (o::l) S T/\K s' (((List.range (o::l).length).map T).reverse++t)=some r/\
   (∀x∈p,∀j o',(o::l)[j]? =some o' ->qE o' =true->Rp E q all x.1 x.2.1 x.2.2 (S (j+1)))/\
   (∀i j o1 o',i<j->(o::l)[i]? =some o1->(o::l)[j]? =some o' ->a2g E o1=true->qE o' =true->∃d,o1.dst=some d/\Rp E q all o1 (T i) (S (i+1) d) (S (j+1))):=λp' hp' hex hcall hk=>by
    obtain⟨s',S,T,h0,h1,h2,h3,h4,h5⟩:=UX l hk;refine⟨s',b5H (gq s) S,b5I tr T,rfl,h1,λi o' hi=>?_,?_,λy hy j o' hj hc=>?_,λi j o1 o' hij hi hj he hc=>?_⟩
    .cases i with
     |zero=>simp at hi;subst hi;show(pX E q all o).eval (gq s) ([],[])=some ((),S 0,tr);rw[←hs0,e,h0]|succ i=>exact h2 i o' (by simpa using hi)
    .rw[H5,List.range_succ_eq_map,je,List.reverse_cons,F8,yD];exact h3
    .cases j with
     |zero=>simp at hj;subst hj;show Rp E q all y.1 y.2.1 y.2.2 (S 0);rw[h0];exact hcall hc y hy|succ j=>exact h4 y (hp' y hy) j o' (by simpa using hj) hc
    .cases j with
     |zero=>omega|succ j=>
      cases i with
      |zero=>
       simp at hi;subst hi;have hnc:qE o=false:=by
        unfold a2g at he;cases hcc:qE o
        .rfl
        .simp[hcc]at he
       obtain⟨d,hd,hm⟩:=hex he hnc;refine⟨d,hd,?_⟩;have:=h4 _ hm j o' (by simpa using hj) hc;show Rp E q all o tr (S 0 d) (S (j+1));rw[h0];exact this
      |succ i=>exact h5 i j o1 o' l9 (by simpa using hi) (by simpa using hj) he hc
   cases hc:qE o
   .simp only[hc,cond_false]at hk;refine fin _ (λy hy=>?_) (λhe _=>?_) (λh=>by rw[hc]at h;cases h) hk
    .unfold ZY;cases hx:a2g E o
     .exact hy
     .simp only[cond_true];cases hd:o.dst with
      |none=>exact hy|some d=>exact Y2 _ hy
    .cases hd:o.dst with
     |none=>simp[a2g,hd]at he|some d=>exact⟨d,rfl,by simp[ZY,he,hd]⟩
   .simp only[hc,cond_true]at hk;obtain⟨g1,g2⟩:=o_ hk;exact fin p (λ_ h=>h) (λ_ h=>by rw[hc]at h;cases h) (λ_=>g1) g2
  unfold Ei at h;split at h
  .exact key s rfl h
  .obtain⟨s0,e,h⟩:=UM h;exact key s0 e h
def a8z(ord:Nat->Nat->Prop)(ex:Nat->Nat->Prop)(T:Nat->Tr)(i j:Nat):Prop:=
 ord i j\/((∀k∈(T i).2,k∉(T j).1/\k∉(T j).2)/\((∀k∈(T i).1,k∉(T j).2)\/
  (ex i j/\(∀k∈(T i).2,k∉(T i).1)/\∀m,i<m->m<j->ord m j\/∀k∈(T i).1,k∉(T m).2)))
theorem ZI{mask:Nat}{x:Tr} :∀{l:List (Nat×Tr)},a9u mask x l=true->∀y∈l,Nat.testBit mask y.1=true\/∀k∈x.1,k∉y.2.2
 |[],_,y,hy=>by cases hy|(m,z)::l,h,y,hy=>by
  unfold a9u at h;simp only[A8,oO]at h;rcases D5.1 hy with rfl|hy
  .exact h.1.imp id (λh=>CJ h)
  .exact ZI h.2 y hy
theorem RN{E:Env}{all:List Oper}{mask:Nat}{y:Tr}{cy:Bool}{T:Nat->Tr}{N:Nat} :∀n (mids:List (Nat×Tr)),(∀m,n<=m->m<N->(m,T m)∈mids)->Uy E all mask y cy ((List.range n).map T).reverse n mids=true->
  ∀i,i<n->Nat.testBit mask i=true\/((∀k∈(T i).2,k∉y.1/\k∉y.2)/\((∀k∈(T i).1,k∉y.2)\/((cy=true/\b2S E all i=true)/\(∀k∈(T i).2,k∉(T i).1)/\∀m,i<m->m<N->Nat.testBit mask m=true\/∀k∈(T i).1,k∉(T m).2)))
 |0,_,_,_,i,hi=>by omega|n+1,mids,hm,h,i,hi=>by
  rw[uT]at h;unfold Uy at h;simp only[Nat.add_sub_cancel,A8]at h;by_cases e:i=n
  .subst e;have h:=h.1;unfold a9C at h;cases hb:Nat.testBit mask i
   .simp only[hb,cond_false,A8]at h;refine .inr ⟨λk hk=>⟨CJ h.1.1 k hk,CJ h.1.2 k hk⟩,?_⟩;have h2:=h.2;cases hdj:XR (T i).1 y.2
    .simp only[hdj,cond_false,A8]at h2;exact .inr ⟨h2.1.1,CJ h2.1.2,λm h3 h4=>ZI h2.2 _ (hm m l9 h4)⟩
    .exact .inl (CJ hdj)
   .exact .inl rfl
  .refine RN n _ (λm h1 h2=>?_) h.2 i l9;by_cases e2:m=n
   .subst e2;simp
   .exact Y2 _ (hm m l9 h2)
theorem UB{E:Env}{all:List Oper}{M:Nat->Nat}{T:Nat->Tr} :∀n,UA E all ((List.range n).map M).reverse ((List.range n).map T).reverse=true->∀i j,i<j->j<n->
  a8z (λi j=>Nat.testBit (M j) i=true) (λi j=>a1U all j=true/\b2S E all i=true) T i j
 |0,_,i,j,_,hj=>by omega|n+1,h,i,j,hi,hj=>by
  rw[uT,uT]at h;unfold UA at h;simp only[A8,List.length_reverse,X4,gQ]at h;by_cases e:j=n
  .subst e;exact RN (N:=j) j [] (λm h1 h2=>by omega) h.1 i hi
  .exact UB n h.2 i j hi l9
theorem b3t{P:Nat->Prop} :∀(n:Nat),(∃j,j<n/\P j)->∃j,j<n/\P j/\∀m,j<m->m<n->¬P m
 |0,⟨j,h,_⟩=>by omega|n+1,⟨j,h,hp⟩=>by
  by_cases e:P n
  .exact⟨n,l9,e,λm h1 h2=>by omega⟩
  .have:j≠n:=λe2=>e (e2▸hp);obtain⟨j',h1,h2,h3⟩:=b3t n ⟨j,l9,hp⟩;refine⟨j',l9,h2,λm h4 h5=>?_⟩;by_cases e2:m=n
   .subst e2;exact e
   .exact h3 m h4 l9
variable {n:Nat}
theorem b2m{c:Nat->Cmd Unit}{S:Nat->Sm}{T:Nat->Tr}(hs:∀i,i<n->(c i).eval (S i) ([],[])=some ((),S (i+1),T i)){ord ex:Nat->Nat->Prop}
  (hc:∀i j,i<j->j<n->a8z ord ex T i j) (hex:∀i j,i<j->j<n->ex i j->∃S',(c i).eval (S (j+1)) ([],[])=some ((),S',T i)/\∀k∈(T i).2,S' k=S (i+1) k)
  {D:d6a} {i:Nat} (hi:i<n) (hD:i∉D) (hlt:∀j∈D,j<n) (hp:∀j,ord j i->j∈D) (hdown:∀j∈D,∀k,ord k j->k∈D):
  (c i).eval (SD S T D n) ([],[])=some ((),SD S T (i::D) n,T i):=by
 have before:∀k,(k∈(T i).1\/k∈(T i).2)->∀j,j<i->k∈(T j).2->j∈D:=λk hk j hj hw=>by
  rcases hc j i hj hi with h|⟨h1,_⟩
  .exact hp j h
  .rcases hk with hk|hk
   .exact absurd hk (h1 k hw).1
   .exact absurd hk (h1 k hw).2
 have afterW:∀k,k∈(T i).2->∀j,i<j->j<n->k∈(T j).2->j∉D:=λk hk j hj hjn hw hjD=>by
  rcases hc i j hj hjn with h|⟨h1,h2⟩
  .exact hD (hdown j hjD i h)
  .exact(h1 k hk).2 hw
 have fin:∀S0 S1:Sm,(c i).eval S0 ([],[])=some ((),S1,T i)->(∀k∈(T i).2,S1 k=S (i+1) k)->(∀k∈(T i).1,SD S T D n k=S0 k)->(c i).eval (SD S T D n) ([],[])=some ((),SD S T (i::D) n,T i):=λS0 S1 he hv hr=>by
  obtain⟨T',h1,_,h3,h4⟩:=BZ he (SD S T D n) hr;rw[h1];have:T' =SD S T (i::D) n:=by
   funext k;by_cases hk:k∈(T i).2
   .rw[h4 k hk A7,hv k hk];rw[Yw (i::D) k (i+1) n l9 (λj h1 h2 hw=>by
     simp only[D5,not_or];exact⟨l9,afterW k hk j l9 h2 hw⟩)]
    simp[SD,hk]
   .rw[h3 k hk,a8C D i k hk]
  rw[this]
 by_cases hx:∃j,j<n/\(i<j/\j∈D/\∃k∈(T i).1,k∈(T j).2)
 .obtain⟨j,hjn,⟨hij,hjD,k0,hk0,hk1⟩,hmax⟩:=b3t n hx;rcases hc i j hij hjn with h|⟨_,h2⟩
  .exact absurd (hdown j hjD i h) hD
  .rcases h2 with h2|⟨h3,h4,h5⟩
   .exact absurd hk1 (h2 k0 hk0)
   .obtain⟨S',he,hv⟩:=hex i j hij hjn h3;refine fin (S (j+1)) S' he hv λk hk=>?_;rw[Yw D k (j+1) n l9 (λm g1 g2 hw hmD=>hmax m l9 g2 ⟨l9,hmD,k,hk,hw⟩)];refine Qo hs D k (j+1) l9 λm hm hw=>?_;rcases Nat.lt_trichotomy m i with g|g|g
    .exact before k (.inl hk) m g hw
    .subst g;exact absurd hk (h4 k hw)
    .by_cases e:m=j
     .subst e;exact hjD
     .rcases h5 m g l9 with g2|g2
      .exact hdown j hjD m g2
      .exact absurd hw (g2 k hk)
 .refine fin (S i) (S (i+1)) (hs i hi) (λ_ _=>rfl) λk hk=>?_;rw[Yw D k i n l9 (λj h1 h2 hw hjD=>by
   by_cases e:j=i
   .subst e;exact hD hjD
   .exact hx ⟨j,h2,l9,hjD,k,hk,hw⟩)]
  exact Qo hs D k i l9 (before k (.inl hk))
def vJ(e:Edge):Prop:=match e.ground with| .textOnly _=>False| .gcOnly _=>False|_=>True
theorem vJ.binds{e:Edge}(h:vJ e)(md:Region.Mode):Region.binds md e=true:=by unfold vJ at h;unfold Region.binds;split<;>simp_all
theorem b0n{e:Edge}(h:Region.binds .any e=true):vJ e:=by unfold Region.binds at h;unfold vJ;split<;>simp_all
theorem KJ{M:Nat->Nat}{n k:Nat}(hk:k<n):(((List.range n).map M).reverse).getD (n -1 -k) 0=M k:=by rw[AB,List.getElem?_reverse X5];simp only[X4,gQ,fO];rw[show n -1 -(n -1 -k)=k by omega];simp[hk]
theorem SA{M:Nat->Nat}{n:Nat} :∀(es:List Edge) {m m' :Nat},Rz ((List.range n).map M).reverse n es m=some m' ->
  (∀e∈es,vJ e->e.on<n)/\∀j,Nat.testBit m' j=true->Nat.testBit m j=true\/∃e∈es,vJ e/\(j=e.on\/Nat.testBit (M e.on) j=true)
 |[],m,m',h=>by simp[Rz]at h;subst h;exact⟨λ_ h=>absurd h A7,λj hj=> .inl hj⟩|e::es,m,m',h=>by
  have plain:(bif Nat.blt e.on n then Rz ((List.range n).map M).reverse n es (m ||| 2^e.on ||| (((List.range n).map M).reverse).getD (n -1 -e.on) 0)else none)=some m' ->vJ e->
    (∀e' ∈e::es,vJ e' ->e'.on<n)/\∀j,Nat.testBit m' j=true->Nat.testBit m j=true\/∃e' ∈e::es,vJ e' /\(j=e'.on\/Nat.testBit (M e'.on) j=true):=λh hp=>by
   cases hb:Nat.blt e.on n
   .simp[hb]at h
   .simp only[hb,cond_true]at h;have hlt:=MJ hb;rw[KJ hlt]at h;obtain⟨h1,h2⟩:=SA es h;refine⟨λe' he' hp' =>?_,λj hj=>?_⟩
    .rcases D5.1 he' with rfl|he'
     .exact hlt
     .exact h1 e' he' hp'
    .rcases h2 j hj with h3|⟨e',he',hp',h3⟩
     .rw[Nat.testBit_or,Nat.testBit_or,oO,oO]at h3;rcases h3 with(h3|h3)|h3
      .exact .inl h3
      .rw[Nat.testBit_two_pow]at h3;exact .inr ⟨e,A7,hp,.inl (of_decide_eq_true h3).symm⟩
      .exact .inr ⟨e,A7,hp,.inr h3⟩
     .exact .inr ⟨e',by simp[he'],hp',h3⟩
  have skip:Rz ((List.range n).map M).reverse n es m=some m' ->¬vJ e->
    (∀e' ∈e::es,vJ e' ->e'.on<n)/\∀j,Nat.testBit m' j=true->Nat.testBit m j=true\/∃e' ∈e::es,vJ e' /\(j=e'.on\/Nat.testBit (M e'.on) j=true):=λh hp=>by
   obtain⟨h1,h2⟩:=SA es h;refine⟨λe' he' hp' =>?_,λj hj=>?_⟩
   .rcases D5.1 he' with rfl|he'
    .exact absurd hp' hp
    .exact h1 e' he' hp'
   .rcases h2 j hj with h3|⟨e',he',hp',h3⟩
    .exact .inl h3
    .exact .inr ⟨e',by simp[he'],hp',h3⟩
  unfold Rz at h;cases hg:e.ground<;>simp only[hg]at h
  case textOnly=>exact skip h (by simp[vJ,hg])
  case gcOnly=>exact skip h (by simp[vJ,hg])
  all_goals exact plain h (by simp[vJ,hg])
theorem QJ:∀(l:List Oper) {n:Nat} {M:Nat->Nat} {ms:d6a},a2F l n ((List.range n).map M).reverse=some ms->
  ∃M' :Nat->Nat,ms=((List.range (n+l.length)).map M').reverse/\(∀k,k<n->M' k=M k)/\
   ∀i o,l[i]? =some o->(∀e∈o.after.toList,vJ e->e.on<n+i)/\∀j,Nat.testBit (M' (n+i)) j=true->∃e∈o.after.toList,vJ e/\(j=e.on\/Nat.testBit (M' e.on) j=true)
 |[],n,M,ms,h=>by simp only[a2F,F9]at h;subst h;exact⟨M,rfl,λ_ _=>rfl,λi o hi=>by simp at hi⟩|o::l,n,M,ms,h=>by
  unfold a2F at h;cases he:Rz ((List.range n).map M).reverse n o.after.toList 0 with
  |none=>simp[he]at h|some m=>
   simp only[he]at h;obtain⟨h1,h2⟩:=SA _ he;have hM:m::((List.range n).map M).reverse=((List.range (n+1)).map (λk=>if k=n then m else M k)).reverse:=by rw[uT];simp only[if_true];congr 2;apply dU;intro k hk;rw[if_neg];have:=bT.1 hk;omega
   rw[hM]at h;obtain⟨M',e1,e2,e3⟩:=QJ l h;have hMn:M' n=m:=by rw[e2 n l9];simp
   have hMk:∀k,k<n->M' k=M k:=λk hk=>by rw[e2 k l9,if_neg l9]
   refine⟨M',by rw[e1];congr 3;simp;omega,hMk,λi o' hi=>?_⟩;cases i with
   |zero=>
    simp at hi;subst hi;refine⟨h1,λj hj=>?_⟩;rw[aB,hMn]at hj;rcases h2 j hj with h3|⟨e,hem,hp,h3⟩
    .simp at h3
    .exact⟨e,hem,hp,by rwa[hMk _ (h1 e hem hp)]⟩
   |succ i=>have:=e3 i o' (by simpa using hi);rwa[show n+1+i=n+(i+1) by omega]at this
theorem ZQ:∀(n:Nat) {D:d6a},D.Nodup->(∀x∈D,x<n)->D.length<=n
 |0,D,_,h=>by
  cases D with
  |nil=>simp|cons x D=>have:=h x A7;omega
 |n+1,D,hD,h=>by
  by_cases hn:n∈D
  .have h1:=ZQ n (D:=D.erase n) (hD.erase n) (λx hx=>by
    have:=(hD.mem_erase_iff).1 hx;have:=h x this.2;omega)
   rw[List.length_erase_of_mem hn]at h1;omega
  .have h1:=ZQ n hD (λx hx=>by
    have:=h x hx;have:x≠n:=λe=>hn (e▸hx);omega)
   omega
theorem b1a{D:d6a}(hD:D.Nodup)(h:∀x∈D,x<n)(hl:n<=D.length):∀i,i<n->i∈D:=λi hi=>by
 refine vV λhn=>?_;have:=ZQ n (D:=i::D) (gW.2 ⟨hn,hD⟩) (λx hx=>by
  rcases D5.1 hx with rfl|hx
  .exact hi
  .exact h x hx)
 simp at this;omega
def Sr(md:Region.Mode)(ops:Array Oper):Prop:=∃rk:Nat->Nat,∀i o,ops[i]? =some o->∀e∈o.after.toList,Region.binds md e=true->e.on<ops.size/\rk e.on<rk i
theorem Xr:∀{es:List Edge},VS es=true->∀e∈es,vJ e
 |[],_,e,he=>by cases he|e::es,h,e',he' =>by
  unfold VS at h;have hp:vJ e:=by cases hg:e.ground<;>simp[hg]at h<;>simp[vJ,hg]
  have hr:VS es=true:=by cases hg:e.ground<;>simp[hg]at h<;>exact h
  rcases D5.1 he' with rfl|he'
  .exact hp
  .exact Xr hr e' he'
theorem RQ:∀{l:List Oper},Jd l=true->∀o∈l,∀e∈o.after.toList,vJ e
 |[],_,o,ho=>by cases ho|o::l,h,o',ho' =>by
  unfold Jd at h;cases hp:VS o.after.toList
  .simp[hp]at h
  .simp only[hp,cond_true]at h;rcases D5.1 ho' with rfl|ho'
   .exact Xr hp
   .exact RQ h o' ho'
theorem Xw{md:Region.Mode}{done:d6a} :∀{es:List Edge},Tq md done es=true->∀e∈es,Region.binds md e=true->e.on∈done
 |[],_,e,he,_=>by cases he|e::es,h,e',he',hb=>by
  unfold Tq at h;cases hc:(!Region.binds md e || IY e.on done)
  .simp[hc]at h
  .simp only[hc,cond_true]at h;rcases D5.1 he' with rfl|he'
   .rw[hb]at hc;simp at hc;exact ZE hc
   .exact Xw h e' he' hb
theorem NV{md:Region.Mode}{done:d6a} :∀{l:List Oper} {n i:Nat},yT md done l n=some i->∃o,l[i -n]? =some o/\n<=i/\i<n+l.length/\Tq md done o.after.toList=true
 |[],n,i,h=>by simp[yT]at h|o::l,n,i,h=>by
  unfold yT at h;have rec' :yT md done l (n+1)=some i->∃o',(o::l)[i -n]? =some o' /\n<=i/\i<n+(o::l).length/\Tq md done o'.after.toList=true:=λh=>by obtain⟨o',h1,h2,h3,h4⟩:=NV h;refine⟨o',?_,l9,by simp;omega,h4⟩;rw[show i -n=(i -(n+1))+1 by omega];simpa using h1
  cases hm:IY n done
  .simp only[hm,cond_false]at h;cases hr:Tq md done o.after.toList
   .simp only[hr,cond_false]at h;exact rec' h
   .simp only[hr,cond_true,F9]at h;subst h;exact⟨o,A7,F5 _,A7,hr⟩
  .simp only[hm,cond_true]at h;exact rec' h
theorem Yz:∀{n:Nat} {d:d6a},a8E n d=true->∀i,i<n->i∈d
 |0,d,_,i,hi=>by omega|n+1,d,h,i,hi=>by
  unfold a8E at h;simp only[A8]at h;by_cases e:i=n
  .subst e;exact ZE h.1
  .exact Yz h.2 i l9
theorem KA{md:Region.Mode}{ops:Array Oper} :∀(k:Nat) {done:d6a} {rk:Nat->Nat},a3u md ops.toList k done=true->
  (∀x∈done,rk x<done.length)->(∀i∈done,∀o,ops[i]? =some o->∀e∈o.after.toList,Region.binds md e=true->e.on∈done/\e.on<ops.size/\rk e.on<rk i)->(∀x∈done,x<ops.size)->Sr md ops
 |0,done,rk,h,h1,h2,h3=>by have hall:=Yz h;simp only[bI]at hall;exact⟨rk,λi o hi e he hb=>(h2 i (hall i (au.1 hi).1) o hi e he hb).2⟩|k+1,done,rk,h,h1,h2,h3=>by
  unfold a3u at h;cases hf:yT md done ops.toList 0 with
  |none=>simp[hf]at h|some n=>
   simp only[hf]at h;obtain⟨o,e1,_,e2,e3⟩:=NV hf;simp only[Nat.sub_zero,aU,bP,bI]at e1 e2;by_cases hn:n∈done
   .refine KA k (rk:=rk) h (λx hx=>?_) (λi hi o' ho' e he hb=>?_) (λx hx=>?_)
    .rcases D5.1 hx with rfl|hx
     .have:=h1 x hn;simp;omega
     .have:=h1 x hx;simp;omega
    .have hi' :i∈done:=by rcases D5.1 hi with rfl|hi;exact hn;exact hi
     obtain⟨g1,g2,g3⟩:=h2 i hi' o' ho' e he hb;exact⟨by simp[g1],g2,g3⟩
    .rcases D5.1 hx with rfl|hx
     .exact e2
     .exact h3 x hx
   .refine KA k (rk:=λx=>if x=n then done.length else rk x) h (λx hx=>?_) (λi hi o' ho' e he hb=>?_) (λx hx=>?_)
    .show(if x=n then done.length else rk x)<_;rcases D5.1 hx with rfl|hx
     .simp
     .have:=h1 x hx;rw[if_neg (show ¬x=n from λe=>hn (by rw[←e];exact hx))];simp;omega
    .show _/\_/\(if e.on=n then done.length else rk e.on)<(if i=n then done.length else rk i);rcases D5.1 hi with rfl|hi
     .rw[e1]at ho';cases ho';have hd:=Xw e3 e he hb;refine⟨by simp[hd],h3 _ hd,?_⟩;rw[if_neg (show ¬e.on=i from λe' =>hn (by rw[←e'];exact hd)),if_pos rfl];exact h1 _ hd
     .obtain⟨g1,g2,g3⟩:=h2 i hi o' ho' e he hb;refine⟨by simp[g1],g2,?_⟩;rw[if_neg (show ¬e.on=n from λe' =>hn (by rw[←e'];exact g1)),if_neg (show ¬i=n from λe' =>hn (by rw[←e'];exact hi))];exact g3
    .rcases D5.1 hx with rfl|hx
     .exact e2
     .exact h3 x hx
end Go.GP
namespace Go.GP
section
variable {X:Fx} {q:Nat} {ops:Array Oper} {S:Nat->Sm} {T:Nat->Tr} {m0:Mp} {ok0:Nat->Ty->Prop} {Q:Exit->Act->World->Prop}
theorem YO(H:FxOk X){i:Nat}{o:Oper}(hi:ops[i]? =some o){S1 S2:Sm}{t:Tr}(he:(pX X.E q ops.toList o).eval S1 ([],[])=some ((),S2,t)){m:Mp}{ok:Nat->Ty->Prop}{a:Act}{w:World}
  (R:Rel X (CB*q) (CB*q+CB) S1 m ok a w) {next:Act->World->Prop}
  (hn:∀m' ok' a' w',Rel X (CB*q) (CB*q+CB) S2 m' ok' a' w' ->(∀k l,m k=some l->m' k=some l)->(∀b t,ok b t->ok' b t)->next a' w'):wpOp X.P ops Q i next a w:=
 wC (b1R H R hi) he next Q hn
theorem XL(H:FxOk X)(hc:WN X.E q ops.toList ops.toList S T)
  (hQ:∀m' ok' a' w',Rel X (CB*q) (CB*q+CB) (S ops.size) m' ok' a' w' ->(∀k l,m0 k=some l->m' k=some l)->(∀b t,ok0 b t->ok' b t)->Q .normal a' w'):
  ∀(n k:Nat) {m:Mp} {ok:Nat->Ty->Prop} {a:Act} {w:World},k+n=ops.size->Rel X (CB*q) (CB*q+CB) (S k) m ok a w->(∀k l,m0 k=some l->m k=some l)->(∀b t,ok0 b t->ok b t)->wpOps X.P ops Q (List.range' k n) a w
 |0,k,m,ok,a,w,hk,R,hm,hok=>by have:k=ops.size:=l9;subst this;exact hQ m ok a w R hm hok
 |n+1,k,m,ok,a,w,hk,R,hm,hok=>by rw[nY,wpOps_cons];have hi:ops[k]? =some (ops[k]'l9):=U2 _;refine YO H hi (hc k _ (by rw[aU];exact hi)) R λm' ok' a' w' R' k1 k2=>?_;exact XL H hc hQ n (k+1) l9 R' (λk l h=>k1 k l (hm k l h)) (λb t h=>k2 b t (hok b t h))
theorem b0m(H:FxOk X){md:Region.Mode}(hc:WN X.E q ops.toList ops.toList S T){M:Nat->Nat}
  {ex:Nat->Nat->Prop} (hpair:∀i j,i<j->j<ops.size->a8z (λi j=>Nat.testBit (M j) i=true) ex T i j)
  (hex:∀i j,i<j->j<ops.size->ex i j->∃S',(pX X.E q ops.toList (ops.getD i default)).eval (S (j+1)) ([],[])=some ((),S',T i)/\∀k∈(T i).2,S' k=S (i+1) k)
  (hM:∀i o,ops[i]? =some o->∀j,Nat.testBit (M i) j=true->∃e∈o.after.toList,vJ e/\(j=e.on\/Nat.testBit (M e.on) j=true)) (hrk:Sr md ops)
  (hQ:∀m' ok' a' w',Rel X (CB*q) (CB*q+CB) (S ops.size) m' ok' a' w' ->(∀k l,m0 k=some l->m' k=some l)->(∀b t,ok0 b t->ok' b t)->Q .normal a' w'):
  ∀(kH:Nat) {D:d6a} {DK:Array Bool} {m:Mp} {ok:Nat->Ty->Prop} {a:Act} {w:World},kH+D.length=ops.size->D.Nodup->(∀j∈D,j<ops.size)->DK.size=ops.size->(∀i,i<ops.size->(DK.getD i false=true↔i∈D))->
   (∀j∈D,∀k,Nat.testBit (M j) k=true->k∈D)->Rel X (CB*q) (CB*q+CB) (SD S T D ops.size) m ok a w->(∀k l,m0 k=some l->m k=some l)->(∀b t,ok0 b t->ok b t)->
   wpAny X.P md ops Q kH DK a w:=by
 have hs:∀i,i<ops.size->(pX X.E q ops.toList (ops.getD i default)).eval (S i) ([],[])=some ((),S (i+1),T i):=λi hi=>by refine hc i _ ?_;simp[Array.getD,hi]
 obtain⟨rk,hrk⟩:=hrk;intro kH;induction kH with
 |zero=>
  intro D DK m ok a w hf hD hlt hsz hl hdown R hm hok;have hall:=b1a hD hlt l9;refine⟨?_,?_⟩
  .cases hr:Region.ready md ops DK with
   |nil=>rfl|cons x xs=>
    have hx:x∈Region.ready md ops DK:=by rw[hr];simp
    obtain⟨h1,o,ho,_⟩:=mem_ready.1 hx;have hxl:=(au.1 ho).1;have:=(hl x hxl).2 (hall x hxl);rw[af]at h1 this;cases hg:DK[x]? with
    |none=>rw[hg]at this;cases this|some y=>rw[hg]at h1 this;simp only[dG]at h1 this;rw[h1]at this;cases this
  .refine hQ m ok a w ?_ hm hok;rwa[b2l (c:=λi=>pX X.E q ops.toList (ops.getD i default)) hs hall]at R
 |succ kH ih=>
  intro D DK m ok a w hf hD hlt hsz hl hdown R hm hok;refine⟨λhr=>?_,λi hi=>?_⟩
  .have hall:∀n i,rk i<n->i<ops.size->i∈D:=by
    intro n;induction n with
    |zero=>intro i hi _;omega|succ n ihn=>
     intro i hi hil;refine vV λhni=>?_;have hin:i∈Region.ready md ops DK:=by
      refine mem_ready.2 ⟨?_,ops[i],U2 hil,λe he hb=>?_⟩
      .have h1:¬DK.getD i false=true:=λh=>hni ((hl i hil).1 h);rw[af]at h1 ⊢;rw[U2 l9]at h1 ⊢;simpa using h1
      .obtain⟨g1,g2⟩:=hrk i _ (U2 hil) e (by simpa using he) hb;exact(hl e.on g1).2 (ihn e.on l9 g1)
     rw[hr]at hin;cases hin
   refine hQ m ok a w ?_ hm hok;rwa[b2l (c:=λi=>pX X.E q ops.toList (ops.getD i default)) hs (λi hi=>hall _ i (Nat.lt_succ_self _) hi)]at R
  .obtain⟨h1,o,ho,h2⟩:=mem_ready.1 hi;have hil:=(au.1 ho).1;have hnD:i∉D:=λh=>by
    have:=(hl i hil).2 h;rw[af]at h1 this;rw[U2 l9]at h1 this;simp only[dG]at h1 this;rw[h1]at this;cases this
   have hp:∀j,Nat.testBit (M i) j=true->j∈D:=λj hj=>by
    obtain⟨e,he,hpl,h3⟩:=hM i o ho j hj;have hlst:=h2 e (by simpa using he) (hpl.binds md);have hon:e.on<ops.size:=(hrk i o ho e he (hpl.binds md)).1;have honD:=(hl e.on hon).1 hlst;rcases h3 with rfl|h3
    .exact honD
    .exact hdown e.on honD j h3
   have hgd:ops.getD i default=o:=by rw[af,ho];rfl
   have hstep:=b2m (c:=λi=>pX X.E q ops.toList (ops.getD i default)) (S:=S) (T:=T) (n:=ops.size) hs (ord:=λi j=>Nat.testBit (M j) i=true) (ex:=ex)
    hpair hex hil hnD hlt hp hdown
   simp only[hgd]at hstep;refine YO H ho hstep R λm' ok' a' w' R' k1 k2=>?_;refine ih (D:=i::D) X5 (gW.2 ⟨hnD,hD⟩) (λj hj=>?_) (by simp[hsz]) (λj hj=>?_) (λj hj k hk=>?_) R' (λk l h=>k1 k l (hm k l h)) (λb t h=>k2 b t (hok b t h))
   .rcases D5.1 hj with rfl|hj
    .exact hil
    .exact hlt j hj
   .by_cases e:i=j
    .subst e;simp[Array.getD,hsz,hil]
    .rw[getD_set_ne false e,hl j hj];simp[Ne.symm e]
   .rcases D5.1 hj with rfl|hj
    .exact Y2 _ (hp k hk)
    .exact Y2 _ (hdown j hj k hk)
theorem Xx(H:FxOk X){s s' :St}(h0:S 0=gq s)(h1:S ops.size=gq s')(hc:WN X.E q ops.toList ops.toList S T){draw:Bool}{ex:Nat->Nat->Prop}
  (hex:∀i j,i<j->j<ops.size->ex i j->∃S',(pX X.E q ops.toList (ops.getD i default)).eval (S (j+1)) ([],[])=some ((),S',T i)/\∀k∈(T i).2,S' k=S (i+1) k)
  (hdraw:draw=true->∃M:Nat->Nat,a2F ops.toList 0 []=some ((List.range ops.size).map M).reverse/\(∀i j,i<j->j<ops.size->a8z (λi j=>Nat.testBit (M j) i=true) ex T i j)/\
   (bif Jd ops.toList then true else a3u .text ops.toList ops.toList.length []&&a3u .gc ops.toList ops.toList.length [])=true):
  (∀k,(∀x∈((List.range ops.size).map T).reverse,k∉x.2)->gq s' k=gq s k)/\
   ∀{m:Mp} {ok:Nat->Ty->Prop} {a:Act} {w:World} {id:Nat} {Q:Exit->Act->World->Prop},Rel X (CB*q) (CB*q+CB) (gq s) m ok a w->
    (∀m' ok' a' w',Rel X (CB*q) (CB*q+CB) (gq s') m' ok' a' w' ->(∀k l,m k=some l->m' k=some l)->(∀b t,ok b t->ok' b t)->Q .normal a' w')->(Code.region id ops draw).wp X.P Q a w:=by
 have hfr:∀k,(∀x∈((List.range ops.size).map T).reverse,k∉x.2)->gq s' k=gq s k:=λk hk=>by
  have:∀n,n<=ops.size->S n k=S 0 k:=by
   intro n;induction n with
   |zero=>intro _;rfl|succ n ih=>intro hn;have hi:ops[n]? =some (ops[n]'l9):=U2 _;rw[MQ (hc n (ops[n]'l9) (by rw[aU];exact hi)) k (hk (T n) (by simp;exact⟨n,l9,rfl⟩)),ih l9]
  rw[←h1,←h0];exact this ops.size (F5 _)
 cases draw with
 |false=>refine⟨hfr,λ{m ok a w id Q} R hQ=>wp_region ?_⟩;rw[List.range_eq_range'];rw[←h0]at R;refine XL H hc (m0:=m) (ok0:=ok) (by rw[h1];exact hQ) ops.size 0 l9 R (λ_ _ h=>h) (λ_ _ h=>h)|true=>
  obtain⟨M0,hp,hpair,hd⟩:=hdraw rfl;obtain⟨M,hMM,_,hM⟩:=QJ (M:=λ_=>0) ops.toList (n:=0) hp;simp only[bP,bI]at hd hM hMM;have hMM:∀k,k<ops.size->M0 k=M k:=λk hk=>by have e1:=KJ (M:=M0) hk;rw[hMM,KJ hk]at e1;exact e1.symm
  have hM:∀i o,ops[i]? =some o->(∀e∈o.after.toList,vJ e->e.on<i)/\∀j,Nat.testBit (M0 i) j=true->∃e∈o.after.toList,vJ e/\(j=e.on\/Nat.testBit (M0 e.on) j=true):=λi o ho=>by have hil:=(au.1 ho).1;obtain⟨g1,g2⟩:=hM i o (by simpa using ho);refine⟨g1,λj hj=>?_⟩;rw[hMM i hil]at hj;obtain⟨e,he,hpl,h3⟩:=g2 j hj;exact⟨e,he,hpl,by rw[hMM e.on (by have:=g1 e he hpl;omega)];exact h3⟩
  have hidr:∀md,(∀(i:Nat) (o:Oper),ops[i]? =some o->∀e∈o.after.toList,Region.binds md e=true->vJ e)->Sr md ops:=λmd hpl=>by refine⟨λi=>i,λi o ho e he hb=>?_⟩;have hil:=(au.1 ho).1;have:=(hM i o ho).1 e he (hpl i o ho e he hb);exact⟨l9,this⟩
  have hany:Sr .any ops:=hidr .any λi o ho e he hb=>b0n hb;have hboth:Sr .text ops/\Sr .gc ops:=by
   cases hpo:Jd ops.toList
   .simp only[hpo,cond_false,A8]at hd;exact⟨KA (rk:=λ_=>0) _ hd.1 A7 A7 A7,KA (rk:=λ_=>0) _ hd.2 A7 A7 A7⟩
   .have hpl:∀(i:Nat) (o:Oper),ops[i]? =some o->∀e∈o.after.toList,vJ e:=λi o ho e he=>RQ hpo o (by simpa using Array.mem_of_getElem? ho) e he;exact⟨hidr _ λi o ho e he _=>hpl i o ho e he,hidr _ λi o ho e he _=>hpl i o ho e he⟩
  refine⟨hfr,λ{m ok a w id Q} R hQ=>wp_region_draw λt=>?_⟩;have R' :Rel X (CB*q) (CB*q+CB) (SD S T [] ops.size) m ok a { w with drawn:=w.drawn+1 }:=by rw[c0k,h0];exact R.same rfl rfl rfl rfl
  have main:∀md,Sr md ops->∀t,wpOps X.P ops Q (Region.linearise md ops t) a { w with drawn:=w.drawn+1 }:=λmd hr t=>by unfold Region.linearise;refine wpAny_sound ops.size t _ a _ ?_;refine b0m H hc hpair hex (λi o ho=>(hM i o ho).2) hr (m0:=m) (ok0:=ok) (by rw[h1];exact hQ) ops.size (D:=[]) A7 fJ A7 A7 (λi hi=>?_) A7 R' (λ_ _ h=>h) (λ_ _ h=>h);simp[Array.getD,hi]
  unfold Region.schedule;split
  .exact main _ hany t
  .split
   .exact main _ hboth.1 _
   .exact main _ hboth.2 _
theorem a2S(H:FxOk X){R:Type}{s:St}{wr:Rgs}{K:St->Rgs->Option R}{r:R}{draw:Bool}(h:a2R X.E q ops draw s wr K=some r):
  ∃s' w',K s' w' =some r/\(∃t:Trs,w' =GM t wr/\∀k,(∀x∈t,k∉x.2)->gq s' k=gq s k)/\
   ∀{m:Mp} {ok:Nat->Ty->Prop} {a:Act} {w:World} {id:Nat} {Q:Exit->Act->World->Prop},Rel X (CB*q) (CB*q+CB) (gq s) m ok a w->
    (∀m' ok' a' w',Rel X (CB*q) (CB*q+CB) (gq s') m' ok' a' w' ->(∀k l,m k=some l->m' k=some l)->(∀b t,ok b t->ok' b t)->Q .normal a' w')->(Code.region id ops draw).wp X.P Q a w:=by
 unfold a2R at h;have pick:∀(dr:Bool) (s' :St) (T:Nat->Tr),(bif draw then(bif dr then K s' (GM ((List.range ops.size).map T).reverse wr)else none)else K s' (GM ((List.range ops.size).map T).reverse wr))=some r->
   K s' (GM ((List.range ops.size).map T).reverse wr)=some r/\(draw=true->dr=true):=λdr s' T h=>by
  cases draw
  .exact⟨h,λh=>by cases h⟩
  .cases dr
   .cases h
   .exact⟨h,λ_=>rfl⟩
 split at h
 .obtain⟨s',S,T,h0,h1,hc,hk⟩:=XF _ h;simp only[bI,G5]at h1 hk;obtain⟨hk,hd⟩:=pick _ s' T hk;obtain⟨hfr,hwp⟩:=Xx H h0 h1 hc (draw:=draw) (ex:=λ_ _=>False) (λ_ _ _ _ h=>h.elim) λhdr=>by
   have hd:=hd hdr;unfold b2I at hd;cases hp:a2F ops.toList 0 []with
   |none=>simp[hp]at hd|some ms=>
   simp only[hp]at hd;obtain⟨M,hms,_,_⟩:=QJ (M:=λ_=>0) ops.toList (n:=0) hp;simp only[bP,bI]at hms;subst hms;cases hod:ZR ((List.range ops.size).map M).reverse ((List.range ops.size).map T).reverse
   .simp[hod]at hd
   simp only[hod,cond_true]at hd;exact⟨M,rfl,λi j hi hj=>(Xn _ hod i j hi hj).imp id λh=>⟨h.1,.inl h.2⟩,hd⟩
  exact⟨s',_,hk,⟨_,rfl,hfr⟩,hwp⟩
 .obtain⟨s',S,T,h0,h1,hc,hk,_,h5⟩:=UX _ h;simp only[bI,G5]at h1 hk;obtain⟨hk,hd⟩:=pick _ s' T hk;obtain⟨hfr,hwp⟩:=Xx H h0 h1 hc (draw:=draw) (ex:=λi j=>a1U ops.toList j=true/\b2S X.E ops.toList i=true) (λi j hij hj ⟨e1,e2⟩=>by
   have hi:ops[i]? =some (ops[i]'l9):=U2 _;have hj' :ops[j]? =some (ops[j]'l9):=U2 _;unfold a1U at e1;unfold b2S at e2;rw[aU,hj']at e1;rw[aU,hi]at e2;obtain⟨d,hd,d',S',g1,g2,g3,g4⟩:=h5 i j _ _ hij (by rw[aU];exact hi) (by rw[aU];exact hj') e2 e1;rw[hd]at g1;cases g1;have hgd:ops.getD i default=ops[i]'l9:=by rw[af,hi];rfl
   refine⟨S',by rw[hgd];exact g3,λk hk=>?_⟩;rw[g2]at hk;simp only[D5,sQ,or_false]at hk;subst hk;exact g4) λhdr=>by
   have hd:=hd hdr;unfold a8W at hd;cases hp:a2F ops.toList 0 []with
   |none=>simp[hp]at hd|some ms=>
   simp only[hp]at hd;obtain⟨M,hms,_,_⟩:=QJ (M:=λ_=>0) ops.toList (n:=0) hp;simp only[bP,bI]at hms;subst hms;cases hod:UA X.E ops.toList ((List.range ops.size).map M).reverse ((List.range ops.size).map T).reverse
   .simp[hod]at hd
   simp only[hod,cond_true]at hd;exact⟨M,rfl,UB _ hod,hd⟩
  exact⟨s',_,hk,⟨_,rfl,hfr⟩,hwp⟩
end
end Go.GP
namespace Go.GP
def Wr(w:Rgs)(k:Nat):Prop:=∃p∈w,p.1<=k/\k<p.2
theorem a6k{k:Nat} :¬Wr [] k:=λ⟨p,h,_⟩=>by cases h
theorem Qp{p:Nat×Nat}{w:Rgs}{k:Nat} :Wr (p::w) k↔(p.1<=k/\k<p.2)\/Wr w k:=by
 constructor
 .rintro⟨x,h,h1⟩;rcases D5.1 h with rfl|h
  .exact .inl h1
  .exact .inr ⟨x,h,h1⟩
 .rintro(h|⟨x,h,h1⟩)
  .exact⟨p,A7,h⟩
  .exact⟨x,by simp[h],h1⟩
theorem Ov{w:Rgs}{k:Nat} :∀{ks:d6a},Wr (Ui ks w) k↔k∈ks\/Wr w k
 |[]=>by simp[Ui]|x::ks=>by
  unfold Ui;rw[Qp,Ov];simp only[D5];constructor
  .rintro(⟨h1,h2⟩|h|h)
   .exact .inl (.inl l9)
   .exact .inl (.inr h)
   .exact .inr h
  .rintro((rfl|h)|h)
   .simp
   .exact .inr (.inl h)
   .exact .inr (.inr h)
theorem a1Q{b:Rgs}{k:Nat} :∀{a:Rgs},Wr (YB a b) k↔Wr a k\/Wr b k
 |[]=>by simp[YB,a6k]|x::a=>by unfold YB;rw[Qp,Qp,a1Q,or_assoc]
theorem Vo{w:Rgs}{k:Nat} :∀{t:Trs},Wr (GM t w) k↔(∃x∈t,k∈x.2)\/Wr w k
 |[]=>by simp[GM]|x::t=>by unfold GM;rw[Ov,Vo,←or_assoc];simp
theorem a1b{lo hi:Nat} :∀{rs:Rgs},b0L lo hi rs=true->∃p∈rs,p.1<=lo/\hi<=p.2
 |[],h=>by simp[b0L]at h|(a,b)::r,h=>by
  unfold b0L at h;cases hb:(Nat.ble a lo&&Nat.ble hi b)
  .simp only[hb,cond_false]at h;obtain⟨p,h1,h2⟩:=a1b h;exact⟨p,by simp[h1],h2⟩
  .simp only[A8]at hb;exact⟨(a,b),A7,Y4 hb.1,Y4 hb.2⟩
theorem WR{lim:Nat}{rs:Rgs} :∀{w:Rgs},YT lim rs w=true->∀k,Wr w k->lim<=k\/Wr rs k
 |[],_,k,h=>absurd h a6k|(a,b)::w,h,k,hk=>by
  unfold YT at h;cases hc:(Nat.ble lim a || b0L a b rs)
  .simp[hc]at h
  .simp only[hc,cond_true]at h;rcases Qp.1 hk with⟨h1,h2⟩|hk
   .simp only[oO]at hc;rcases hc with hc|hc
    .have:=Y4 hc;exact .inl (by simp only at h1;omega)
    .obtain⟨p,h3,h4,h5⟩:=a1b hc;exact .inr ⟨p,h3,by simp only at h1;omega,by simp only at h2;omega⟩
   .exact WR h k hk
theorem VL{s:St}{k:Nat} :∀{rs:Rgs},¬Wr rs k->gq (IW rs s) k=gq s k
 |[],_=>rfl|(a,b)::r,h=>by
  rw[Qp,not_or]at h;show(bif Nat.ble a k&&Nat.blt k b then V.undef else gq (IW r s) k)=gq s k;cases hb:(Nat.ble a k&&Nat.blt k b)
  .simp only[cond_false];exact VL h.2
  .simp only[A8]at hb;exact absurd ⟨Y4 hb.1,MJ hb.2⟩ h.1
theorem a4C{s:St}{k:Nat} :∀{rs:Rgs},Wr rs k->gq (IW rs s) k= .undef
 |[],h=>absurd h a6k|(a,b)::r,h=>by
  show(bif Nat.ble a k&&Nat.blt k b then V.undef else gq (IW r s) k)=V.undef;cases hb:(Nat.ble a k&&Nat.blt k b)
  .simp only[cond_false];rcases Qp.1 h with⟨h1,h2⟩|h
   .simp only at h1 h2;have e1:Nat.ble a k=true:=Nat.ble_eq_true_of_le h1;have e2:Nat.blt k b=true:=by rw[iI];exact h2
    simp[e1,e2]at hb
   .exact a4C h
  .simp
variable {h0:Array Obj}{h1:Array Obj}{ok0:Nat->Ty->Prop}{ok1:Nat->Ty->Prop}{m:Mp}{m1:Mp}{m2:Mp}
theorem r_(hm:∀k l,m k=some l->m2 k=m1 k):∀{c:V} {v0 v1:Value} (a:xP ⟨h0,ok0,m⟩ c v0) (b:xP ⟨h1,ok1,m1⟩ c v1),xP ⟨h1,ok1,m2⟩ c v1:=by
 intro c;induction c using V.rec (motive_2:=λ_=>True)<;>try trivial
 all_goals
  intro v0 v1 a b;simp only[xP]at a b ⊢
  try exact b
 case own bx vw=>obtain⟨l0,e0,_⟩:=a;obtain⟨l,e,hv⟩:=b;exact⟨l,by rw[hm _ _ e0];exact e,hv⟩
 case ptr bx o=>obtain⟨l0,e0,_⟩:=a;obtain⟨l,e,hv⟩:=b;exact⟨l,by rw[hm _ _ e0];exact e,hv⟩
 case ep bx ix o=>obtain⟨_,_,_,_,_,e0,_⟩:=a;obtain⟨x1,x2,x3,x4,x5,e,hv⟩:=b;exact⟨x1,x2,x3,x4,x5,by rw[hm _ _ e0];exact e,hv⟩
 case ifc t c ih=>obtain⟨u0,_,_,a⟩:=a;obtain⟨u,e,h,b⟩:=b;exact⟨u,e,h,ih a b⟩
theorem t_{h0 h1:Array Obj}{ok0 ok1:Nat->Ty->Prop}{m m1 m2:Mp}(hm:∀k l,m k=some l->m2 k=m1 k):∀{cs:List V} {v0 v1:d5Z},ig ⟨h0,ok0,m⟩ cs v0->ig ⟨h1,ok1,m1⟩ cs v1->ig ⟨h1,ok1,m2⟩ cs v1
 |[],_,_,_,b=>b|_::_,_,_,⟨_,_,_,a1,_,a3⟩,⟨v,r,e,b1,b2,b3⟩=>⟨v,r,e,r_ hm a1 b1,b2,t_ hm a3 b3⟩
variable {c:V}
theorem a5p(hm:∀k l,m k=some l->m2 k=m1 k){v0 v1:Value}(a:p_ ⟨h0,ok0,m⟩ c v0)(b:p_ ⟨h1,ok1,m1⟩ c v1):p_ ⟨h1,ok1,m2⟩ c v1:=by
 cases c<;>simp only[p_]at a b ⊢<;>try exact r_ hm a b
 case agg cs=>obtain⟨_,_,a⟩:=a;obtain⟨arr,e,b⟩:=b;exact⟨arr,e,t_ hm a b⟩
theorem a5s{h0 h1:Array Obj}{ok0 ok1:Nat->Ty->Prop}{m m1 m2:Mp}(hm:∀k l,m k=some l->m2 k=m1 k):∀{cs:List V} {v0 v1:d5Z},a2V ⟨h0,ok0,m⟩ cs v0->a2V ⟨h1,ok1,m1⟩ cs v1->a2V ⟨h1,ok1,m2⟩ cs v1
 |[],_,_,_,b=>b|_::_,_,_,⟨_,_,_,a1,a3⟩,⟨v,r,e,b1,b3⟩=>⟨v,r,e,a5p hm a1 b1,a5s hm a3 b3⟩
theorem b4M(hm:∀k l,m k=some l->m2 k=m1 k){v0 v1:Value}(a:mD ⟨h0,ok0,m⟩ c v0)(b:mD ⟨h1,ok1,m1⟩ c v1):mD ⟨h1,ok1,m2⟩ c v1:=by
 cases c<;>simp only[mD]at a b ⊢<;>try exact a5p hm a b
 case tup cs=>obtain⟨_,_,a⟩:=a;obtain⟨arr,e,b⟩:=b;exact⟨arr,e,a5s hm a b⟩
theorem a6R(hm:∀k l,m k=some l->m2 k=m1 k){sz:Nat}{l0 l1:Loc}{hole:Option (Nat×Nat×Option Nat)}(a:Zn ⟨h0,ok0,m⟩ sz l0 hole)(b:Zn ⟨h1,ok1,m1⟩ sz l1 hole):Zn ⟨h1,ok1,m2⟩ sz l1 hole:=by
 obtain _|⟨i,o,_|n⟩:=hole
 .trivial
 .trivial
 .obtain⟨_,_,_,_,_,l',_,_,e,_⟩:=a;obtain⟨b1,b2,b3,b4,b5,l2,c1,c2,c3,c4⟩:=b;exact⟨b1,b2,b3,b4,b5,l2,c1,c2,by rw[hm _ _ e];exact c3,c4⟩
theorem b4L(hm:∀k l,m k=some l->m2 k=m1 k)(hk:m2.kid=m1.kid)(km:∀k l,m k=some l->m1 k=some l){n:Nat}(a:Ig ⟨h0,ok0,m⟩ n c)(b:∀l,m n=some l->Ig ⟨h1,ok1,m1⟩ n c):Ig ⟨h1,ok1,m2⟩ n c:=by
 cases c<;>simp only[Ig]at a b ⊢
 case bcells cs=>obtain⟨_,_,_,e0,_,a⟩:=a;obtain⟨blk,arr,T,e,hh,b⟩:=b _ e0;exact⟨blk,arr,T,by rw[hm _ _ e0];exact e,hh,t_ hm a b⟩
 case barr t xs=>obtain⟨_,e0,_⟩:=a;obtain⟨l,e,b⟩:=b _ e0;exact⟨l,by rw[hm _ _ e0];exact e,qf (λ_ _ h=>h) (λ_ _ _=>rfl) (λ_ _=>rfl) b⟩
 case bfrz t xs=>obtain⟨_,e0,_⟩:=a;obtain⟨l,e,b,hb⟩:=b _ e0;exact⟨l,by rw[hm _ _ e0];exact e,qf (λ_ _ h=>h) (λ_ _ _=>rfl) (λ_ _=>rfl) b,hb⟩
 case barrs md xs hole=>obtain⟨he,_,_,e0,⟨_,ha⟩,_⟩:=a;obtain⟨_,l,Os,e,⟨b,hl⟩,hb⟩:=b _ e0;exact⟨he,l,Os,by rw[hm _ _ e0];exact e,⟨b,a6R hm ha hl⟩,by rw[hk];exact hb⟩
 case bfc t x=>obtain⟨_,_,e0,_⟩:=a;obtain⟨blk,es,e,b⟩:=b _ e0;exact⟨blk,es,by rw[hm _ _ e0];exact e,b⟩
 case gone t=>obtain⟨_,e0,_⟩:=a;obtain⟨l,e,b⟩:=b _ e0;exact⟨l,by rw[hm _ _ e0];exact e,b⟩
 case biter l p=>obtain⟨_,_,_,e0,_⟩:=a;obtain⟨blk,s,q,e,hh,b⟩:=b _ e0;exact⟨blk,s,q,by rw[hm _ _ e0];exact e,hh,b⟩
 case bsb tb c=>obtain⟨_,_,_,e0,_,_,a⟩:=a;obtain⟨blk,a1,v1,e,hh,hs,b⟩:=b _ e0;exact⟨blk,a1,v1,by rw[hm _ _ e0];exact e,hh,hs,r_ hm a b⟩
 case brow te xs=>obtain⟨_,e0,_⟩:=a;obtain⟨l,e,b⟩:=b _ e0;exact⟨l,by rw[hm _ _ e0];exact e,b⟩
 case blen ln sz=>obtain⟨k,l,e,e0,h⟩:=a;exact⟨k,l,e,by rw[hm _ _ e0];exact km _ _ e0,h⟩
def cut(m:Mp)(N:Nat):Mp:=⟨λn=>if n<N then m n else none,m.kid⟩
section
variable {X:Fx} {cl ch N:Nat} {S S1 S2:Sm} {m m1:Mp} {ok ok1:Nat->Ty->Prop} {a a1:Act} {w w1:World}
theorem Rel.climb(R:Rel X cl ch S m ok a w){cl' :Nat}(h:cl<=cl'):Rel X cl' ch S m ok a w:={ R with fresh:=λn h1 h2=>R.fresh n l9 h2 }
theorem Rel.rebase(R0:Rel X cl N S m ok a w){cl1 ch1:Nat}(R1:Rel X cl1 ch1 S1 m1 ok1 a1 w1)(km:∀k l,m k=some l->m1 k=some l)
  (hS:∀k,S2 k= .undef\/(S2 k=S k/\(k<ai+N->S1 k=S k))):
  Rel X N N S2 (cut m1 N) ok1 a1 w1/\(∀T,Tk X S1 m1 ok1 w1 T->Tk X S2 (cut m1 N) ok1 w1 T)/\(∀k l,m k=some l->cut m1 N k=some l):=by
 have hdom:∀k l,m k=some l->k<N:=λk l h=>by
  rcases Nat.lt_or_ge k N with h1|h1
  .exact h1
  .rw[R0.strict k h1]at h;cases h
 have hagree:∀k l,m k=some l->cut m1 N k=m1 k:=λk l h=>by simp[cut,hdom k l h]
 have hown:∀n,V9 (cut m1 N) n (S2 (ai+n))=V9 m1 n (S1 (ai+n))\/V9 (cut m1 N) n (S2 (ai+n))=[]:=λn=>by
  rcases hS (ai+n)with h1|⟨h1,h2⟩
  .right;rw[h1];rfl
  .rcases Nat.lt_or_ge n N with hn|hn
   .left;rw[h2 l9,←h1];exact Nc (by simp[cut,hn]) rfl
   .right;have hc:m n=none:=R0.strict n hn;have hb:=R0.box n;rw[h1];cases hv:S (ai+n)<;>rw[hv]at hb<;>try rfl
    case bcells=>obtain⟨_,_,_,e,_⟩:=hb;simp only at e;rw[hc]at e;cases e
    case barr=>obtain⟨_,e,_⟩:=hb;simp only at e;rw[hc]at e;cases e
    case barrs=>obtain⟨_,_,_,e,_⟩:=hb;simp only at e;rw[hc]at e;cases e
    case biter=>obtain⟨_,_,_,e,_⟩:=hb;simp only at e;rw[hc]at e;cases e
    case bsb=>obtain⟨_,_,_,e,_⟩:=hb;simp only at e;rw[hc]at e;cases e
    case brow=>obtain⟨_,e,_⟩:=hb;simp only at e;rw[hc]at e;cases e
 have hownM:∀n b,b∈V9 (cut m1 N) n (S2 (ai+n))->b∈V9 m1 n (S1 (ai+n)):=λn b h=>by
  rcases hown n with e|e
  .rw[←e];exact h
  .rw[e]at h;cases h
 refine⟨{ kept:=R1.kept,size:=R1.size,nodef:=R1.nodef,okLt:=R1.okLt,okIn:=R1.okIn,okOut:=R1.okOut,frame:=R1.frame,gl:=R1.gl,slot:=λn hn=>?_,box:=λn=>?_,inj:=λn n' b h h' =>R1.inj n n' b (hownM n b h) (hownM n' b h'),nd:=λn=>(hown n).elim (λe=>by rw[e];exact R1.nd n) (λe=>by rw[e];exact fJ),sep:=λn b h=>R1.sep n b (hownM n b h),fresh:=λn h1 _=>?_,strict:=λn h=>?_ },λT hT=>⟨hT.nodup,λb hb=>?_⟩,λk l h=>by rw[hagree k l h];exact km k l h⟩
 .rcases hS n with h1|⟨h1,h2⟩
  .rw[h1];trivial
  .rw[h1];refine b4M hagree (R0.slot n hn) ?_;rw[←h2 l9];exact R1.slot n hn
 .rcases hS (ai+n)with h1|⟨h1,h2⟩
  .rw[h1];trivial
  .rw[h1];refine b4L hagree rfl km (R0.box n) λl hl=>?_;rw[←h2 (by have:=hdom n l hl;omega)];exact R1.box n
 .simp[cut];omega
 .simp[cut];omega
 .obtain⟨f1,f2,f3,f4⟩:=hT.free b hb;exact⟨f1,f2,f3,λn e=>f4 n (hownM n b e)⟩
theorem kR{R:Type}{q:Nat}{sg:Sig}{rs:Rgs}{s:St}{wr:Rgs}{K:sF sg->Option R}{r:R}(h:RH q sg rs s wr K=some r):
  ∃x,K x=some r/\∀{s0:St} {cl cl1 ch1:Nat} {m m1:Mp} {ok ok1:Nat->Ty->Prop} {a a1:Act} {w w1:World},Rel X cl (CB*q) (gq s0) m ok a w->Rel X cl1 ch1 (gq s) m1 ok1 a1 w1->(∀k l,m k=some l->m1 k=some l)->
   (∀k,¬Wr wr k->gq s k=gq s0 k)->∃m2 ok2 O,Rel X (CB*q) (CB*q) (gq (IW rs s0)) m2 ok2 a1 w1/\Tk X (gq (IW rs s0)) m2 ok2 w1 O/\
    a6j w1.heap ok2 sg x a1.tmps O/\(∀k l,m k=some l->m2 k=some l):=by
 unfold RH at h;obtain⟨x,s1,tr,he,hk⟩:=rE h;cases hc:YT (ai+CB*q) rs (Ui tr.2 wr)
 .simp[hc]at hk
 simp only[hc,cond_true]at hk;refine⟨x,hk,λ{s0 cl cl1 ch1 m m1 ok ok1 a a1 w w1} R0 R1 km hun=>?_⟩;have key:=wC (a6H R1 (Q:=λy S' =>∃ok' O,Rel X cl1 ch1 S' m1 ok' a1 w1/\Tk X S' m1 ok' w1 O/\a6j w1.heap ok' sg y a1.tmps O)
  λS' ok' y O R' T' _ _ hr=>⟨ok',O,R',T',hr⟩) he
 obtain⟨ok',O,R',T',hr⟩:=key;have hcov:=WR hc;obtain⟨R2,hT2,hm2⟩:=R0.rebase (S2:=gq (IW rs s0)) R' km (λk=>by
  by_cases hw:Wr rs k
  .exact .inl (a4C hw)
  .refine .inr ⟨VL hw,λhlt=>?_⟩;have hnw:¬Wr (Ui tr.2 wr) k:=λh=>by
    rcases hcov k h with h1|h1
    .omega
    .exact hw h1
   rw[Ov,not_or]at hnw;rw[MQ he k hnw.1];exact hun k hnw.2)
 exact⟨_,ok',O,R2,hT2 O T',hr,hm2⟩
theorem uh{R:Type}{q:Nat}{sg:Sig}{rs:Rgs}{s:St}{x:sF sg}{K:St->Rgs->Option R}{r:R}(h:enter q sg rs s x K=some r):
  ∃s' w',K s' w' =some r/\(∀k,Wr rs k->Wr w' k)/\(∀k,¬Wr w' k->gq s' k=gq s k)/\
   ∀{N:Nat} {m:Mp} {ok:Nat->Ty->Prop} {a:Act} {w:World} {O:d6a},N<=CB*q->Rel X N N (gq (IW rs s)) m ok a w->Tk X (gq (IW rs s)) m ok w O->
    a6j w.heap ok sg x a.tmps O->
    ∃m',Rel X (CB*(q+1)) (CB*(q+1)) (gq s') m' ok a w/\(∀k l,m k=some l->m' k=some l):=by
 unfold enter at h;obtain⟨u,s',tr,he,hk⟩:=rE h;refine⟨s',_,hk,λk hk=>Ov.2 (.inr hk),λk hk=>?_,λ{N m ok a w O} hN R1 T1 hr=>?_⟩
 .rw[Ov,not_or]at hk;rw[MQ he k hk.1,VL hk.2]
 .have key:=wC (a6C (x:=x) (nb:=CB*q) (lim:=CB*q+CB) (Q:=λ_ S' =>∃m',Rel X N (max N (CB*q+CB)) S' m' ok a w/\(∀k l,m k=some l->m' k=some l)) R1 hN T1 hr
   λS' m' R' k=>⟨m',R',k⟩) he
  obtain⟨m',R',k⟩:=key;have e:CB*(q+1)=CB*q+CB:=by rw[Nat.mul_add,ji]
  rw[e];generalize CB*q=Z at*;exact⟨m',(R'.climb l9).chmono l9,k⟩
end
end Go.GP
namespace Go.GP
variable {q:Nat}{m:Mp}{a:Act}{w:World}{s:St}{wr:Rgs}{q':Nat}{n:Nat}
section
variable {X:Fx} {rt:Ret} {mE:Mp} {RetP:rt.den->Act->World->Prop}
def TJ(X:Fx)(q:Nat)(m:Mp)(s:St)(wr:Rgs)(s' :St)(w' :Rgs)(a:Act)(w:World):Prop:=
 ∃m' ok',Rel X (CB*q) (CB*q) (gq s') m' ok' a w/\(∀k l,m k=some l->m' k=some l)/\(∀k,Wr wr k->Wr w' k)/\(∀k,¬Wr w' k->gq s' k=gq s k)
def a6h(X:Fx)(RetP:rt.den->Act->World->Prop)(q:Nat)(m:Mp)(s:St)(wr:Rgs)(fl:Flow rt.den)(s' :St)(w' :Rgs)(e:Exit)(a:Act)(w:World):Prop:=
 match fl with
 | .nm=>e= .normal/\TJ X q m s wr s' w' a w| .ex id=>e= .exit id/\TJ X q m s wr s' w' a w| .rt x=>e= .ret/\RetP x a w
def a8y(X:Fx)(RetP:rt.den->Act->World->Prop)(q:Nat)(m:Mp)(s:St)(wr:Rgs){R:Type}(K:Flow rt.den->St->Rgs->Option R)(r:R)(e:Exit)(a:Act)(w:World):Prop:=
 ∃fl s' w',K fl s' w' =some r/\a6h X RetP q m s wr fl s' w' e a w
structure DOk (X:Fx) (mE:Mp) (RetP:rt.den->Act->World->Prop) (D:Den rt.den) (c:Code) (n:Nat):Prop where
 run:∀{q:Nat} {an:Ann} {s:St} {wr:Rgs} {R:Type} {K:Flow rt.den->St->Rgs->Option R} {r:R},D q an s wr R K=some r->
  ∀{m:Mp} {ok:Nat->Ty->Prop} {a:Act} {w:World},Rel X (CB*q) (CB*q) (gq s) m ok a w->(∀k l,mE k=some l->m k=some l)->
   c.wp X.P (a8y X RetP (q+n) m s wr K r) a w
def b2k(X:Fx)(rt:Ret)(mE:Mp)(RetP:rt.den->Act->World->Prop):Prop:=
 ∀{s:St} {R:Type} {K:rt.den->Option R} {r:R},(b8s X.E rt).runK s ([],[]) (λx _ _=>K x)=some r->
  ∃x,K x=some r/\∀{cl ch:Nat} {m:Mp} {ok:Nat->Ty->Prop} {a:Act} {w:World},Rel X cl ch (gq s) m ok a w->(∀k l,mE k=some l->m k=some l)->RetP x a w
theorem a8R{p q:Nat}(h:p<=q):CB*p<=CB*q:=Nat.mul_le_mul_left _ h
theorem Rel.upq{p q:Nat}{S:Sm}{ok:Nat->Ty->Prop}(R:Rel X (CB*p) (CB*p) S m ok a w)(h:p<=q):Rel X (CB*q) (CB*q) S m ok a w:=
 (R.climb (a8R h)).chmono (a8R h)
theorem TJ.here{ok:Nat->Ty->Prop}(R:Rel X (CB*q) (CB*q) (gq s) m ok a w)(h:q<=q'):TJ X q' m s wr s wr a w:=
 ⟨m,ok,R.upq h,λ_ _ h=>h,λ_ h=>h,λ_ _=>rfl⟩
theorem TJ.up{s s' :St}{wr w' :Rgs}(h:TJ X q m s wr s' w' a w)(hq:q<=q'):TJ X q' m s wr s' w' a w:=by obtain⟨m',ok',R,h1,h2,h3⟩:=h;exact⟨m',ok',R.upq hq,h1,h2,h3⟩
theorem TJ.trans{m m1:Mp}{s s1 s2:St}{wr w1 w2:Rgs}(k1:∀k l,m k=some l->m1 k=some l)(k2:∀k,Wr wr k->Wr w1 k)(k3:∀k,¬Wr w1 k->gq s1 k=gq s k)
  (h:TJ X q m1 s1 w1 s2 w2 a w) (hq:q<=q'):TJ X q' m s wr s2 w2 a w:=by
 obtain⟨m',ok',R,h1,h2,h3⟩:=h;exact⟨m',ok',R.upq hq,λk l h=>h1 k l (k1 k l h),λk h=>h2 k (k2 k h),λk h=>(h3 k h).trans (k3 k λh' =>h (h2 k h'))⟩
theorem a6h.up{s s' :St}{wr w' :Rgs}{fl:Flow rt.den}{e:Exit}(h:a6h X RetP q m s wr fl s' w' e a w)(hq:q<=q'):a6h X RetP q' m s wr fl s' w' e a w:=by
 cases fl with
 |nm=>exact⟨h.1,h.2.up hq⟩|ex id=>exact⟨h.1,h.2.up hq⟩|rt x=>exact h
theorem a6h.trans{m m1:Mp}{s s1 s2:St}{wr w1 w2:Rgs}{fl:Flow rt.den}{e:Exit}(k1:∀k l,m k=some l->m1 k=some l)(k2:∀k,Wr wr k->Wr w1 k)(k3:∀k,¬Wr w1 k->gq s1 k=gq s k)
  (h:a6h X RetP q m1 s1 w1 fl s2 w2 e a w) (hq:q<=q'):a6h X RetP q' m s wr fl s2 w2 e a w:=by
 cases fl with
 |nm=>exact⟨h.1,h.2.trans k1 k2 k3 hq⟩|ex id=>exact⟨h.1,h.2.trans k1 k2 k3 hq⟩|rt x=>exact h
theorem Qs(hq:q+1<=n){s s3:St}{wr w3:Rgs}{m m2:Mp}{ok2:Nat->Ty->Prop}
  (km:∀k l,m k=some l->m2 k=some l) (hout:∀k,¬Wr w3 k->gq s3 k=gq s k)
  (hR:∃m',Rel X (CB*(q+1)) (CB*(q+1)) (gq s3) m' ok2 a w/\(∀k l,m2 k=some l->m' k=some l)):TJ X n m s wr s3 (YB w3 wr) a w:=by
 obtain⟨m',R,k⟩:=hR;exact⟨m',ok2,R.upq hq,λk' l h=>k _ _ (km _ _ h),λk h=>a1Q.2 (.inr h),λk h=>hout k λh' =>h (a1Q.2 (.inl h'))⟩
theorem xF{core:Den rt.den}{c:Code}(hc:DOk X mE RetP core c n):DOk X mE RetP (Oj core) c (n+1):=by
 refine⟨?_⟩;intro q an s wr R K r h m ok a w Rl hE;have plain:core (q+1) an s wr R K=some r->c.wp X.P (a8y X RetP (q+(n+1)) m s wr K r) a w:=λh=>by have:=hc.run h (Rl.upq (vY q)) hE;rwa[show q+1+n=q+(n+1) by omega]at this
 cases an
 case join rs nm an=>
  unfold Oj at h;simp only at h;obtain⟨x,h1,h2⟩:=Jb h;obtain⟨s3,w3,hk3,hrs,hout,hR⟩:=uh (X:=X) h2;refine wp_mono (hc.run h1 (Rl.upq (vY q)) hE) ?_;rintro e a' w' ⟨fl,s',wr',hk,hfl⟩;cases fl with
  |ex id=>cases hk|rt x=>cases hk|nm=>obtain⟨rfl,m',ok',R1,k1,k2,k3⟩:=hfl;obtain⟨x',hx,hL⟩:=kR (X:=X) hk;cases hx;obtain⟨m2,ok2,O,R2,T2,hr,km⟩:=hL Rl R1 k1 k3;exact⟨.nm,s3,_,hk3,rfl,Qs (q:=q) l9 km hout (hR (F5 _) R2 T2 hr)⟩
 case joinR rs nm an=>
  unfold Oj at h;simp only at h;obtain⟨o,h1,h2⟩:=Jb h;refine wp_mono (hc.run h1 (Rl.upq (vY q)) hE) ?_;rintro e a' w' ⟨fl,s',wr',hk,hfl⟩;cases fl with
  |ex id=>cases hk|rt x=>cases hk;exact⟨.rt x,_,_,h2,hfl⟩|nm=>obtain⟨rfl,m',ok',R1,k1,k2,k3⟩:=hfl;obtain⟨x',hx,hL⟩:=kR (X:=X) hk;cases hx;obtain⟨s3,w3,hk3,hrs,hout,hR⟩:=uh (X:=X) (show enter q nm rs s x' (λs' w' =>K .nm s' (YB w' wr))=some r from h2);obtain⟨m2,ok2,O,R2,T2,hr,km⟩:=hL Rl R1 k1 k3;exact⟨.nm,s3,_,hk3,rfl,Qs (q:=q) l9 km hout (hR (F5 _) R2 T2 hr)⟩
 all_goals exact plain h
theorem a6U{core:Den rt.den}{c:Code}(hc:DOk X mE RetP core c n):DOk X mE RetP (a4A core) (.loop c) (2+n):=by
 refine⟨?_⟩;intro q an s wr R K r h m ok a w Rl hE;cases an
 case loop rs hd xid xs an=>
  unfold a4A at h;simp only at h;obtain⟨x0,hk0,hL0⟩:=kR (X:=X) h;obtain⟨m2,ok2,O,R2,T2,hr,km⟩:=hL0 Rl Rl (λ_ _ h=>h) (λ_ _=>rfl);obtain⟨y,hl,hen⟩:=Jb hk0;clear hk0 h hL0;obtain⟨s3,w3,hk3,hrs,hout,hR⟩:=uh (X:=X) hen;refine wp_loop_rounds kH ?_;unfold Y8 at hl;have key:∀(f:Nat) {x:sF hd} {m2:Mp} {ok2:Nat->Ty->Prop} {O:d6a} {a:Act} {w:World},
    uS (λx=>b4S core q rs hd xid xs an s x) f x=some y->
    Rel X (CB*q) (CB*q) (gq (IW rs s)) m2 ok2 a w->Tk X (gq (IW rs s)) m2 ok2 w O->a6j w.heap ok2 hd x a.tmps O->(∀k l,m k=some l->m2 k=some l)->
    Code.rounds X.P c (a8y X RetP (q+(2+n)) m s wr K r) f a w:=by
   intro f;induction f with
   |zero=>intro x m2 ok2 O a w h;simp[uS]at h|succ f ih=>
    intro x m2 ok2 O a w h R2 T2 hr km;rw[rounds_succ];unfold uS at h;split at h
    .rename_i x' hf;obtain⟨s1,w1,hcore,_,hout1,hR1⟩:=uh (X:=X) (show enter q hd rs s x _=some _ from hf);obtain⟨m1,R1,km1⟩:=hR1 (F5 _) R2 T2 hr;refine wp_mono (hc.run hcore (R1.upq l9) (λk l h=>km1 _ _ (km _ _ (hE _ _ h)))) ?_;rintro e a' w' ⟨fl,s',wr',hk,hfl⟩;cases fl with
     |rt x=>cases hk|ex id=>
      simp only at hk;cases hb:Nat.beq id xid
      .simp[hb]at hk
      .simp only[hb,cond_true]at hk;obtain⟨y',hx,_⟩:=kR (X:=X) hk;cases hx
     |nm=>obtain⟨rfl,m',ok',R1',k1,k2,k3⟩:=hfl;obtain⟨y',hx,hL⟩:=kR (X:=X) hk;cases hx;obtain⟨m4,ok4,O4,R4,T4,hr4,km4⟩:=hL Rl R1' (λk l h=>k1 _ _ (km1 _ _ (km _ _ h))) (λk h=>(k3 k h).trans (hout1 k λh' =>h (k2 k h')));exact ih h R4 T4 hr4 km4
    .rename_i y' hf;cases h;obtain⟨s1,w1,hcore,_,hout1,hR1⟩:=uh (X:=X) (show enter q hd rs s x _=some _ from hf);obtain⟨m1,R1,km1⟩:=hR1 (F5 _) R2 T2 hr;refine wp_mono (hc.run hcore (R1.upq l9) (λk l h=>km1 _ _ (km _ _ (hE _ _ h)))) ?_;rintro e a' w' ⟨fl,s',wr',hk,hfl⟩;cases fl with
     |rt x=>cases hk|nm=>simp only at hk;obtain⟨y',hx,_⟩:=kR (X:=X) hk;cases hx
     |ex id=>
      simp only at hk;cases hb:Nat.beq id xid
      .simp[hb]at hk
      .simp only[hb,cond_true]at hk;have hid:=iD hb;subst hid;obtain⟨rfl,m',ok',R1',k1,k2,k3⟩:=hfl;obtain⟨y',hx,hL⟩:=kR (X:=X) hk;cases hx;obtain⟨m4,ok4,O4,R4,T4,hr4,km4⟩:=hL Rl R1' (λk l h=>k1 _ _ (km1 _ _ (km _ _ h))) (λk h=>(k3 k h).trans (hout1 k λh' =>h (k2 k h')));exact⟨.ex id,s3,_,hk3,rfl,Qs (q:=q+1) l9 km4 hout (hR (a8R (vY q)) R4 T4 hr4)⟩
    .cases h
  exact key kH (x:=x0) hl R2 T2 hr km
 case loopR rs hd xid xs an=>
  unfold a4A at h;simp only at h;obtain⟨x0,hk0,hL0⟩:=kR (X:=X) h;obtain⟨m2,ok2,O,R2,T2,hr,km⟩:=hL0 Rl Rl (λ_ _ h=>h) (λ_ _=>rfl);obtain⟨y,hl,hen⟩:=Jb hk0;clear hk0 h hL0;refine wp_loop_rounds kH ?_;unfold U0 at hl;have key:∀(f:Nat) {x:sF hd} {m2:Mp} {ok2:Nat->Ty->Prop} {O:d6a} {a:Act} {w:World},
    qH (λx=>b4T core q rs hd xid xs an s x) f x=some y->
    Rel X (CB*q) (CB*q) (gq (IW rs s)) m2 ok2 a w->Tk X (gq (IW rs s)) m2 ok2 w O->a6j w.heap ok2 hd x a.tmps O->(∀k l,m k=some l->m2 k=some l)->
    Code.rounds X.P c (a8y X RetP (q+(2+n)) m s wr K r) f a w:=by
   intro f;induction f with
   |zero=>intro x m2 ok2 O a w h;simp[qH]at h|succ f ih=>
    intro x m2 ok2 O a w h R2 T2 hr km;rw[rounds_succ];unfold qH at h;split at h
    .rename_i x' hf;obtain⟨s1,w1,hcore,_,hout1,hR1⟩:=uh (X:=X) (show enter q hd rs s x _=some _ from hf);obtain⟨m1,R1,km1⟩:=hR1 (F5 _) R2 T2 hr;refine wp_mono (hc.run hcore (R1.upq l9) (λk l h=>km1 _ _ (km _ _ (hE _ _ h)))) ?_;rintro e a' w' ⟨fl,s',wr',hk,hfl⟩;cases fl with
     |rt x=>cases hk|ex id=>
      simp only at hk;cases hb:Nat.beq id xid
      .simp[hb]at hk
      .simp only[hb,cond_true]at hk;obtain⟨y',hx,_⟩:=kR (X:=X) hk;cases hx
     |nm=>obtain⟨rfl,m',ok',R1',k1,k2,k3⟩:=hfl;obtain⟨y',hx,hL⟩:=kR (X:=X) hk;cases hx;obtain⟨m4,ok4,O4,R4,T4,hr4,km4⟩:=hL Rl R1' (λk l h=>k1 _ _ (km1 _ _ (km _ _ h))) (λk h=>(k3 k h).trans (hout1 k λh' =>h (k2 k h')));exact ih h R4 T4 hr4 km4
    .rename_i y' hf;cases h;obtain⟨s3,w3,hk3,hrs,hout,hR⟩:=uh (X:=X) (show enter (q+1) xs rs s y' (λs' w' =>K (.ex xid) s' (YB w' wr))=some r from hen);obtain⟨s1,w1,hcore,_,hout1,hR1⟩:=uh (X:=X) (show enter q hd rs s x _=some _ from hf);obtain⟨m1,R1,km1⟩:=hR1 (F5 _) R2 T2 hr;refine wp_mono (hc.run hcore (R1.upq l9) (λk l h=>km1 _ _ (km _ _ (hE _ _ h)))) ?_;rintro e a' w' ⟨fl,s',wr',hk,hfl⟩;cases fl with
     |rt x=>cases hk|nm=>simp only at hk;obtain⟨y',hx,_⟩:=kR (X:=X) hk;cases hx
     |ex id=>
      simp only at hk;cases hb:Nat.beq id xid
      .simp[hb]at hk
      .simp only[hb,cond_true]at hk;have hid:=iD hb;subst hid;obtain⟨rfl,m',ok',R1',k1,k2,k3⟩:=hfl;obtain⟨y',hx,hL⟩:=kR (X:=X) hk;cases hx;obtain⟨m4,ok4,O4,R4,T4,hr4,km4⟩:=hL Rl R1' (λk l h=>k1 _ _ (km1 _ _ (km _ _ h))) (λk h=>(k3 k h).trans (hout1 k λh' =>h (k2 k h')));exact⟨.ex id,s3,_,hk3,rfl,Qs (q:=q+1) l9 km4 hout (hR (a8R (vY q)) R4 T4 hr4)⟩
    .rename_i r' hf;cases h;obtain⟨s1,w1,hcore,_,hout1,hR1⟩:=uh (X:=X) (show enter q hd rs s x _=some _ from hf);obtain⟨m1,R1,km1⟩:=hR1 (F5 _) R2 T2 hr;refine wp_mono (hc.run hcore (R1.upq l9) (λk l h=>km1 _ _ (km _ _ (hE _ _ h)))) ?_;rintro e a' w' ⟨fl,s',wr',hk,hfl⟩;cases fl with
     |rt x=>cases hk;obtain⟨rfl,hp⟩:=hfl;exact⟨.rt r',[],[],hen,rfl,hp⟩
     |nm=>simp only at hk;obtain⟨y',hx,_⟩:=kR (X:=X) hk;cases hx
     |ex id=>
      simp only at hk;cases hb:Nat.beq id xid
      .simp[hb]at hk
      .simp only[hb,cond_true]at hk;obtain⟨y',hx,_⟩:=kR (X:=X) hk;cases hx
    .cases h
  exact key kH (x:=x0) hl R2 T2 hr km
 all_goals (unfold a4A at h;cases h)
theorem EH(H:FxOk X)(hret:b2k X rt mE RetP):∀c:Code,DOk X mE RetP (den X.E rt c) c (Cc c)
 | .skip=>xF (n:=0) ⟨λ{q an s wr R K r} h {m ok a w} Rl hE=>wp_skip ⟨.nm,s,wr,h,rfl,TJ.here Rl l9⟩⟩| .label l=>xF (n:=0) ⟨λ{q an s wr R K r} h {m ok a w} Rl hE=>wp_label ⟨.nm,s,wr,h,rfl,TJ.here Rl l9⟩⟩| .exit id=>xF (n:=0) ⟨λ{q an s wr R K r} h {m ok a w} Rl hE=>wp_exit ⟨.ex id,s,wr,h,rfl,TJ.here Rl l9⟩⟩| .ret=>xF (n:=0) ⟨λ{q an s wr R K r} h {m ok a w} Rl hE=>by obtain⟨x,hk,hp⟩:=hret (K:=λx=>K (.rt x) [] []) h;exact wp_ret ⟨.rt x,[],[],hk,rfl,hp Rl hE⟩⟩
 | .region id ops draw=>xF (n:=1) ⟨λ{q an s wr R K r} h {m ok a w} Rl hE=>by
  obtain⟨s',w',hk,⟨t,rfl,hfr⟩,hR⟩:=a2S H h;refine hR (Rl.chmono (kX _ _)) λm' ok' a' w2 R' k1 k2=>⟨.nm,s',_,hk,rfl,m',ok',?_,k1,λk h=>Vo.2 (.inr h),λk h=>hfr k λx hx hkx=>h (Vo.2 (.inl ⟨x,hx,hkx⟩))⟩;have e:CB*(q+1)=CB*q+CB:=by rw[Nat.mul_add,ji]
  rw[e];exact R'.climb (kX _ _)⟩
 | .seq x y=>by
  have hx:=EH H hret x;have hy:=EH H hret y;have:=xF (X:=X) (mE:=mE) (RetP:=RetP) (c:=.seq x y) (n:=Cc x+Cc y) (core:=λq a s w R K=>den X.E rt x q a.l s w R λfl s' w' =>match fl with
   | .nm=>den X.E rt y (q+Cc x) a.r s' w' R K| .ex id=>K (.ex id) s' w'
   | .rt r=>K (.rt r) s' w') (DOk.mk λ{q an s wr R K r} h {m ok a w} Rl hE=>by
    refine wp_seq (wp_mono (hx.run h Rl hE) ?_);rintro e a' w' ⟨fl,s',wr',hk,hfl⟩;cases fl with
    |nm=>obtain⟨rfl,m',ok',R1,k1,k2,k3⟩:=hfl;refine wp_mono (hy.run hk R1 (λk l h=>k1 _ _ (hE _ _ h))) ?_;rintro e a2 w2 ⟨fl,s2,wr2,hk2,hfl2⟩;exact⟨fl,s2,wr2,hk2,hfl2.trans k1 k2 k3 l9⟩
    |ex id=>obtain⟨rfl,hs⟩:=hfl;exact⟨.ex id,s',wr',hk,rfl,hs.up l9⟩
    |rt x=>obtain⟨rfl,hs⟩:=hfl;exact⟨.rt x,s',wr',hk,rfl,hs⟩)
  rw[show Cc (.seq x y)=Cc x+Cc y+1 by simp only[Cc];omega];exact this
 | .block id x=>by
  have hx:=EH H hret x;have:=xF (X:=X) (mE:=mE) (RetP:=RetP) (c:=.block id x) (n:=Cc x) (core:=λq a s w R K=>den X.E rt x q a.l s w R λfl s' w' =>match fl with
   | .nm=>K .nm s' w'| .ex j=>bif Nat.beq j id then K .nm s' w' else K (.ex j) s' w'
   | .rt r=>K (.rt r) s' w') (DOk.mk λ{q an s wr R K r} h {m ok a w} Rl hE=>by
    refine wp_block (wp_mono (hx.run h Rl hE) ?_);rintro e a' w' ⟨fl,s',wr',hk,hfl⟩;cases fl with
    |nm=>obtain⟨rfl,hs⟩:=hfl;exact⟨.nm,s',wr',hk,rfl,hs⟩
    |ex j=>
     obtain⟨rfl,hs⟩:=hfl;simp only at hk;cases hb:Nat.beq j id
     .simp only[hb,cond_false]at hk;have hne:j≠id:=λe=>by subst e;simp at hb
      simp only[Exit.inBlock,hne,if_false];exact⟨.ex j,s',wr',hk,rfl,hs⟩
     .simp only[hb,cond_true]at hk;have:=iD hb;subst this;simp only[Exit.inBlock,if_true];exact⟨.nm,s',wr',hk,rfl,hs⟩
    |rt x=>obtain⟨rfl,hs⟩:=hfl;exact⟨.rt x,s',wr',hk,rfl,hs⟩)
  rw[show Cc (.block id x)=Cc x+1 by simp only[Cc];omega];exact this
 | .cond c x y=>by
  have hx:=EH H hret x;have hy:=EH H hret y;have:=xF (X:=X) (mE:=mE) (RetP:=RetP) (c:=.cond c x y) (n:=Cc x+Cc y) (core:=λq a s w R K=>(ru c λv=>Cmd.ret v:Cmd V).runK s ([],[]) λv s' _=>match v with
   | .b t=>l7 t (den X.E rt x q a.l s' w R K) (den X.E rt y (q+Cc x) a.r s' w R K)
   |_=>none) (DOk.mk λ{q an s wr R K r} h {m ok a w} Rl hE=>by
    obtain⟨v,s',tr,he,hk⟩:=rE h;obtain⟨hv,hs⟩:=wC (aG Rl (K:=λv=>Cmd.ret v) (x:=c) (Q:=λv S' =>mD ⟨w.heap,ok,m⟩ v (a.eval c)/\S' =gq s) λv hv=>⟨hv,rfl⟩) he;cases v<;>try (simp at hk;done)
    case b t=>
     have R1:Rel X (CB*q) (CB*q) (gq s') m ok a w:=by rw[hs];exact Rl
     refine wp_cond_split (Wh hv) (λht=>?_) (λht=>?_)
     .subst ht;refine wp_mono (hx.run (show den X.E rt x q an.l s' wr R K=some r from hk) R1 hE) ?_;rintro e a2 w2 ⟨fl,s2,wr2,hk2,hfl2⟩;exact⟨fl,s2,wr2,hk2,hfl2.trans (λ_ _ h=>h) (λ_ h=>h) (λk _=>by rw[hs]) l9⟩
     .subst ht;refine wp_mono (hy.run (show den X.E rt y (q+Cc x) an.r s' wr R K=some r from hk) (R1.upq l9) hE) ?_;rintro e a2 w2 ⟨fl,s2,wr2,hk2,hfl2⟩;exact⟨fl,s2,wr2,hk2,hfl2.trans (λ_ _ h=>h) (λ_ h=>h) (λk _=>by rw[hs]) l9⟩)
  rw[show Cc (.cond c x y)=Cc x+Cc y+1 by simp only[Cc];omega];exact this
 | .loop x=>by have hx:=EH H hret x;have:=xF (a6U hx);rw[show Cc (.loop x)=2+Cc x+1 by simp only[Cc];omega];exact this| .goto l=>⟨λh=>by simp[den]at h⟩| .scope x=>⟨λh=>by simp[den]at h⟩| .rangeFunc ..=>⟨λh=>by simp[den]at h⟩| .refuse ..=>⟨λh=>by simp[den]at h⟩
end
end Go.GP
namespace Go.GP
structure EnvOk (P:Program) (E:Env):Prop where
 nt:64*E.nt<=999936
 tt:∀t i,dW E.tt t=some i->TiOk P t i
 fs:∀p∈E.fs,dB P E.gl p.1 p.2
 eqs:∀t sh,dW E.eqs t=some sh->Qn P t sh
 ms:∀p∈E.ms,IG P p.1.1 p.1.2 p.2.1 p.2.2
 fn:∀p∈E.fs,∃fn,P.funcs[p.1]? =some fn/\fn.body.isSome=true/\(fn.name== "runtime.NumGoroutine")=false
 pl:∀p∈E.pl,PlP P p.1 p.2.1 p.2.2
theorem UT{C:Cx} :∀{a:List V} {xs:d5Z},iW C a xs->a.length=xs.length
 |[],_,h=>by simp only[iW]at h;simp[h]|c::a,_,⟨v,r,e,h1,h2⟩=>by subst e;simp[UT h2]
def Wp(tmps:Array Value):ResultVar->Sem Value
 | .tmp t=>pure (tmps.getD t undef)| .cell a t=>do loadVar t (←asAddr (tmps.getD a undef))
def b2j(h:Array Obj)(tm:Nat->Value):d6a->d5Z->d6a->Prop
 |[],os,B=>os=[]/\B=[]|n::ns,os,B=>(∃b arr T os' B',tm n= .pointer (some ⟨b,0,none⟩)/\h[b]? =some (.cells arr T (0,0))/\os= .agg arr::os' /\B=b::B' /\b2j h tm ns os' B')\/
  (∃t b arr T os' B',tm n= .iface t (.pointer (some ⟨b,0,none⟩))/\h[b]? =some (.cells arr T (0,0))/\os= .agg arr::os' /\B=b::B' /\b2j h tm ns os' B')\/
  (∃l os',Loc.view l none (tm n)/\os=tm n::os' /\b2j h tm ns os' B)
def a1M(h:Array Obj)(ok:Nat->Ty->Prop):List MG->d5Z->Prop
 |[],vs=>vs=[]|m::ms,vs=>∃v r cs x O,vs=v::r/\We m.1 v cs/\qW h ok m.2 none x cs O/\a1M h ok ms r
theorem a0D{h:Array Obj}{ok:Nat->Ty->Prop} :∀{ms:List MG} {x:bC ms} {vs:d5Z} {O:d6a},xA h ok ms x vs O->a1M h ok ms vs
 |[],_,_,_,e=>e.1|[m],x,_,_,⟨v,cs,e,hg,hr⟩=>⟨v,[],cs,x,_,e,hg,hr,rfl⟩|m::m' ::r,x,_,_,⟨v,cs,vs',O1,O2,e,eo,hg,h1,h2⟩=>⟨v,vs',cs,x.1,O1,e,hg,h1,a0D h2⟩
section
variable {X:Fx} {cl ch:Nat} {m:Mp} {a:Act} {w:World}
theorem PT{α:Type}{Q:α->Sm->Prop}(H:FxOk X){S:Sm}{ok:Nat->Ty->Prop}(R:Rel X cl ch S m ok a w):∀(l:List ResultVar) {K:List V->Cmd α}
  (hK:∀vs rvs,iW ⟨w.heap,ok,m⟩ vs rvs->rvs.length=l.length->(l.mapM (Wp a.tmps)).run X.P w= .ok rvs w->(K vs).post S Q),(Wn X.E l K).post S Q
 |[],K,hK=>hK [] [] rfl rfl A7
 | .tmp t::l,K,hK=>by unfold Wn;refine dD λhb=>bf ?_;refine PT H R l λvs rvs hr hl hrun=>?_;refine hK _ (a.tmps.getD t undef::rvs) ⟨_,_,rfl,R.slot t (MJ hb),hr⟩ (by simp[hl]) ?_;simp only[List.mapM_cons,H6,Wp,Y7,I5,hrun]
 | .cell p t::l,K,hK=>by unfold Wn;refine dD λhb=>bf ?_;refine MZ H R (R.slot p (MJ hb)) λv u ad hv hx hload=>?_;refine PT H R l λvs rvs hr hl hrun=>?_;refine hK _ (u::rvs) ⟨_,_,rfl,hv,hr⟩ (by simp[hl]) ?_;simp only[List.mapM_cons,H6,Wp,hx,asAddr,Y7,I5,hload,hrun]
theorem JU{α:Type}{Q:α->Sm->Prop} :∀(ns:d6a) {S:Sm} {ok:Nat->Ty->Prop} {T:d6a} {K:List V->Cmd α} (R:Rel X cl ch S m ok a w) (hT:Tk X S m ok w T)
  (hK:∀S' ws os B,Rel X cl ch S' m ok a w->Tk X S' m ok w (T++B)->b2j w.heap (λn=>a.tmps.getD n Go.undef) ns os B->iW ⟨w.heap,ok,m⟩ ws os->(K ws).post S' Q),(VR ns K).post S Q
 |[],S,ok,T,K,R,hT,hK=>hK S [] [] [] R (by simpa using hT) ⟨rfl,rfl⟩ rfl|n::ns,S,ok,T,K,R,hT,hK=>by
  unfold VR;refine dL λhb=>bf ?_;have hsl:=R.slot n (by rw[iI]at hb;exact hb);split<;>try trivial
  .rename_i bx hSn;rw[hSn]at hsl;obtain⟨blk,hm,hv⟩:=hsl;refine bf ?_;split<;>try trivial
   rename_i cs hS;obtain⟨blk',arr,Ty,hm',hh,hl⟩:=R.own_cells hS;simp only at hm;rw[hm]at hm';cases hm';refine jb ?_;have hT1:Tk X (upd S (ai+bx) .dead) m ok w (T++[blk]):=hT.kill R bx (λb hb=>by simp at hb;subst hb;simp[V9,hS,hm]) A7;refine JU ns (R.kill bx) hT1 λS' ws os B R' T' ho hw=>?_;exact hK S' _ (.agg arr::os) (blk::B) R' (by simpa using T') (.inl ⟨blk,arr,Ty,os,B,hv,hh,rfl,rfl,ho⟩) ⟨_,_,rfl,⟨arr,rfl,hl⟩,hw⟩
  .rename_i t u hSn;rw[hSn]at hsl;obtain⟨z,hz,_,hsl⟩:=hsl;split<;>try trivial
   rename_i bx;obtain⟨blk,hm,hv⟩:=hsl;refine bf ?_;split<;>try trivial
   rename_i cs hS;obtain⟨blk',arr,Ty,hm',hh,hl⟩:=R.own_cells hS;simp only at hm;rw[hm]at hm';cases hm';refine jb ?_;have hT1:Tk X (upd S (ai+bx) .dead) m ok w (T++[blk]):=hT.kill R bx (λb hb=>by simp at hb;subst hb;simp[V9,hS,hm]) A7;refine JU ns (R.kill bx) hT1 λS' ws os B R' T' ho hw=>?_;exact hK S' _ (.agg arr::os) (blk::B) R' (by simpa using T') (.inr (.inl ⟨t,blk,arr,Ty,os,B,hv▸hz,hh,rfl,rfl,ho⟩)) ⟨_,_,rfl,⟨arr,rfl,hl⟩,hw⟩
  .rename_i bx hSn;rw[hSn]at hsl;obtain⟨l,hm,hv⟩:=hsl;refine JU ns R hT λS' ws os B R' T' ho hw=>?_;exact hK S' _ (a.tmps.getD n Go.undef::os) B R' T' (.inr (.inr ⟨l,os,hv,rfl,ho⟩)) ⟨_,_,rfl,⟨l,hm,hv⟩,hw⟩
end
theorem TE{l:Loc}{v:Value}(h:l.view none v):(∃a n c,v= .slice a n c)\/∃b,v= .map (some b):=by
 cases l with
 |nil=>exact .inl ⟨_,_,_,h⟩|st b=>cases h|mp b=>exact .inr ⟨_,h⟩|arr blk off len cap sz=>exact .inl ⟨_,_,_,h⟩
theorem b1i{h h0:Array Obj}{ok0:Nat->Ty->Prop}{tm:Nat->Value} :∀(ms:List MG) (k:Nat) {vals:d5Z} {os:d5Z} {B:d6a},b7U ms=true->
  a1M h0 ok0 ms vals->(∀i v,k+i∈mW ms k->vals[i]? =some v->tm (k+i)=v)->b2j h tm (mW ms k) os B->Aw h ms vals os B:=by
 have tail:∀{m:List MG} {k:Nat} {v:Value} {r:d5Z},(∀i u,k+i∈mW m (k+1)->(v::r)[i]? =some u->tm (k+i)=u)->∀i u,(k+1)+i∈mW m (k+1)->r[i]? =some u->tm ((k+1)+i)=u:=by intro m k v r h i u hi hu;have e:k+(i+1)=k+1+i:=l9;have:=h (i+1) u (by rw[e];exact hi) (by simpa using hu);rwa[e]at this
 have tail2:∀{m:List MG} {k:Nat} {v:Value} {r:d5Z},(∀i u,k+i∈k::mW m (k+1)->(v::r)[i]? =some u->tm (k+i)=u)->(tm k=v)/\∀i u,(k+1)+i∈mW m (k+1)->r[i]? =some u->tm ((k+1)+i)=u:=λh=>
  ⟨by have:=h 0 _ A7 rfl;simpa using this,tail (λi u hi hu=>h i u (Y2 _ hi) hu)⟩
 intro ms;induction ms with
 |nil=>intro k vals os B hsb hs ht ho;simp only[a1M]at hs;subst hs;exact ho|cons m ms ih=>
  intro k vals os B hsb hs ht ho;obtain⟨v,r,cs,x,O,rfl,hg,hr,hs⟩:=hs;obtain⟨g,m⟩:=m;cases m
  case box md=>
   unfold mW at ht ho;obtain⟨htv,ht⟩:=tail2 ht;obtain⟨blk,arr,T,O',hc,_⟩:=hr;have hv:v= .pointer (some ⟨blk,0,none⟩)\/∃ar,v= .agg ar:=by
    cases g
    .left;have hg:cs=[v]:=hg;rw[hg]at hc;simpa using hc
    .right;obtain⟨ar,e,_⟩:=hg;exact⟨ar,e⟩
   rcases ho with⟨b,arr,T,os',B',e,hh,e1,e2,ho'⟩|⟨t,b,arr,T,os',B',e,_⟩|⟨l,os',e,_⟩
   .exact⟨b,arr,T,os',B',htv.symm.trans e,hh,e1,e2,ih (k+1) hsb hs ht ho'⟩
   .rw[htv]at e;rcases hv with rfl|⟨_,rfl⟩<;>cases e
   .rcases TE e with⟨_,_,_,e⟩|⟨_,e⟩<;>rw[htv]at e<;>rcases hv with rfl|⟨_,rfl⟩<;>cases e
  case ownb u=>
   unfold mW at ht ho;obtain⟨htv,ht⟩:=tail2 ht;obtain⟨l,v',hc,hvv,_⟩:=hr;have hv:((∃a n c,v= .slice a n c)\/∃b,v= .map (some b))\/∃ar,v= .agg ar:=by
    cases g
    .left;have hg:cs=[v]:=hg;rw[hg]at hc;simp only[I4,and_true]at hc;subst hc;exact TE hvv
    .right;obtain⟨ar,e,_⟩:=hg;exact⟨ar,e⟩
   rcases ho with⟨b,arr,T,os',B',e,_⟩|⟨t,b,arr,T,os',B',e,_⟩|⟨l,os',e,rfl,ho'⟩
   .rw[htv]at e;rcases hv with(⟨_,_,_,rfl⟩|⟨_,rfl⟩)|⟨_,rfl⟩<;>cases e
   .rw[htv]at e;rcases hv with(⟨_,_,_,rfl⟩|⟨_,rfl⟩)|⟨_,rfl⟩<;>cases e
   .rw[htv];exact⟨os',rfl,ih (k+1) hsb hs ht ho'⟩
  case ifc t md=>
   cases md
   case box md=>
    unfold mW at ht ho;obtain⟨htv,ht⟩:=tail2 ht;obtain⟨u,hc,blk,arr,T,O',hu,_⟩:=hr;have hv:v= .iface t u\/∃ar,v= .agg ar:=by
     cases g
     .left;have hg:cs=[v]:=hg;rw[hg]at hc;simpa using hc
     .right;obtain⟨ar,e,_⟩:=hg;exact⟨ar,e⟩
    rcases ho with⟨b,arr,T,os',B',e,_⟩|⟨t,b,arr,T,os',B',e,hh,e1,e2,ho'⟩|⟨l,os',e,_⟩
    .rw[htv]at e;rcases hv with rfl|⟨_,rfl⟩<;>cases e
    .exact⟨t,b,arr,T,os',B',htv.symm.trans e,hh,e1,e2,ih (k+1) hsb hs ht ho'⟩
    .rcases TE e with⟨_,_,_,e⟩|⟨_,e⟩<;>rw[htv]at e<;>rcases hv with rfl|⟨_,rfl⟩<;>cases e
   all_goals
    unfold mW at ht ho;exact ih (k+1) hsb hs (tail ht) ho
  case sbx=>cases hsb
  case sit=>cases hsb
  all_goals
   unfold mW at ht ho;exact ih (k+1) hsb hs (tail ht) ho
theorem a5W:∀{a b:d6a},b7b a b=true->∀n∈a,n∈b
 |[],_,_,_,h=>by cases h|a::r,b,h,n,hn=>by
  unfold b7b at h;cases hb:IY a b<;>rw[hb]at h
  .cases h
  .rcases D5.1 hn with rfl|hn
   .exact a1l hb
   .exact a5W h n hn
theorem Xp:∀{ms:List MG} {k n:Nat},n∈mW ms k->k<=n/\n<k+ms.length
 |[],k,n,h=>by cases h|(g,m)::ms,k,n,h=>by
  have key:n∈k::mW ms (k+1)->k<=n/\n<k+(ms.length+1):=λh=>by
   rcases D5.1 h with rfl|h
   .omega
   .have:=Xp h;omega
  cases m
  case box md=>exact key h
  case ownb u=>exact key h
  case ifc t md=>
   cases md
   case box md=>exact key h
   all_goals exact key (Y2 _ h)
  all_goals exact key (Y2 _ h)
variable {P:Program}
theorem a5y{w:World}{fn:Func}{tmps:Array Value}{rvs:d5Z}(h:(fn.results.toList.mapM (Wp tmps)).run P w= .ok rvs w):
  ∃v,(results fn tmps).run P w= .ok v w/\a6i rvs.length v rvs:=by
 have hm:(fn.results.mapM (Wp tmps)).run P w= .ok rvs.toArray w:=by rw[Array.mapM_eq_mapM_toList];simp[h]
 have e:results fn tmps=(do let vs ←fn.results.mapM (Wp tmps);pure (if h:vs.size=1 then vs[0]else .tuple vs):Sem Value):=by unfold results;congr 1
 rw[e,H6,hm];clear h hm e;rcases rvs with _|⟨x,_|⟨y,r⟩⟩
 .exact⟨.tuple #[],rfl,rfl,rfl⟩
 .exact⟨x,rfl,rfl,rfl⟩
 .exact⟨.tuple (x::y::r).toArray,A7,rfl,rfl⟩
section
variable {X:Fx} {cl ch:Nat} {m:Mp} {ok:Nat->Ty->Prop} {a:Act} {w:World}
theorem b0x{Q:Unit->Sm->Prop}{xall:d5Z}(hall:∀k p,xall[k]? =some p->a.tmps.getD k Go.undef=p):∀(ms:List MG) (n:Nat) {xs:d5Z} {S:Sm} {K:Cmd Unit}
  (R:Rel X cl ch S m ok a w) (hxs:∀i v,xs[i]? =some v->a.tmps.getD (n+i) Go.undef=v) (hl:ms.length=xs.length) (hd:b0h w.heap xall ms xs)
  (hK:∀S',Rel X cl ch S' m ok a w->K.post S' Q),(a6y ms n K).post S Q:=by
 intro ms;induction ms with
 |nil=>intro n xs S K R hxs hl hd hK;exact hK S R|cons md ms ih=>
  intro n xs S K R hxs hl hd hK;obtain⟨g,md⟩:=md;cases xs with
  |nil=>cases hl|cons x xs=>
   have hxs' :∀i v,xs[i]? =some v->a.tmps.getD (n+1+i) Go.undef=v:=λi v h=>by have:=hxs (i+1) v (by simpa using h);rwa[show n+(i+1)=n+1+i by omega]at this
   have hl' :ms.length=xs.length:=by simpa using hl
   cases md
   case dv k off sz fo=>obtain⟨⟨p,hp,hpa⟩,hd⟩:=hd;unfold a6y;refine dL λhb=>bf ?_;simp only[A8]at hb;have hk:=MJ hb.1;have hn:=MJ hb.2;have hsl:=R.slot k hk;rw[hall k p hp]at hsl;refine Ti R hsl λr y hr hy=>jb ?_;have hx:=hxs 0 x rfl;rw[aB]at hx;have:y=x:=hy.det hpa;subst this;exact ih (n+1) (R.slotV hn (by rw[hx];exact hr)) hxs' hl' hd hK
   all_goals
    unfold a6y;exact ih (n+1) R hxs' hl' hd hK
end
theorem a6x{E:Env}{f:FuncId}{fn:Func}{c:Code}{ps:List MG}{rt:Ret}{an:Ann}{F:bC ps->Option rt.den}(hf:P.funcs[f]? =some fn)(hb:fn.body=some c)(hnt:fn.ntmps=E.nt)
  (hres:fn.results.toList=rt.rs.map (·.1)) (hE:EnvOk P E) (hF:∀x r,F x=some r->b7F E ps rt c an x=some r):
  dB P E.gl f ⟨ps,rt.rs.map (·.2),rt.outs.map (·.2),F⟩:=by
 intro w ok O vals x r hlt hnd hO hgl hrel hdv hfn;have hden:=hF x r hfn;clear hfn hF;let X:Fx:=⟨P,E,w,O,ok,vals.toArray++Array.replicate (E.nt -vals.length) undef⟩;have H:FxOk X:=⟨hE.nt,hE.tt,hE.fs,hE.eqs,hE.ms,hE.fn,hE.pl⟩;refine calls_of_wp_defers hf hb ?_;simp only[dV];rw[hnt];generalize hact:({ tmps:=vals.toArray++Array.replicate (E.nt -vals.length) undef,defers:=[] } :Act)=act;have hvl:vals.length=ps.length:=RV hrel;unfold b7F at hden;cases hle00:(Nat.ble ps.length E.nt&&Qa (rt.outs.map (·.1)) (mW ps 0)&&b7b (rt.outs.map (·.1)) E.kp&&b7U ps)
 .simp only[hle00,cond_false]at hden;cases hden
 simp only[hle00,cond_true]at hden;simp only[A8]at hle00;obtain⟨⟨⟨hle0,hsame⟩,hsub⟩,hnosb⟩:=hle00;have hsame:=Qb hsame;have hsub:=a5W hsub;have hle1:=Y4 hle0;obtain⟨u,s,tr,he,hk⟩:=rE hden;have hsize:act.tmps.size=E.nt:=by subst hact;simp;omega
 have hslots:∀n,n<vals.length->act.tmps.getD n undef=vals.getD n undef:=λn hn=>by subst hact;simp only[af];rw[jH (by simpa using hn)];simp[AB]
 have R0:Rel X 0 0 (gq []) nom ok act w:={ size:=hsize,nodef:=(by subst hact;intro d hd;cases hd),slot:=λn _=>trivial,box:=λn=>trivial,inj:=λn n' b h=>(by simp[gq,V9]at h),nd:=λn=>(by simp[gq,V9]),sep:=λn b h=>(by simp[gq,V9]at h),okLt:=hlt,okIn:=λb t h=>h,okOut:=λb t h=> .inl h,frame:=Frame'.refl w O,fresh:=λ_ _ _=>rfl,strict:=λ_ _=>rfl,gl:=hgl,kept:=λn _=>by subst hact;rfl };have T0:Tk X (gq []) nom ok w (O++[]):=⟨by simpa using hnd,λb hb=>by simp only[G5]at hb;obtain⟨h1,h2⟩:=hO b hb;exact⟨h1,h2,.inr hb,λn e=>by simp[gq,V9]at e⟩⟩
 have key:=wC (MN (T:=[]) ps (Q:=λ_ S' =>∃m' vs,Rel X 0 CB S' m' ok act w/\iW ⟨w.heap,ok,m'⟩ vs vals) R0 (F5 0) T0 hrel
  (K:=λvs n=>bif Nat.ble n CB then QW (List.range vs.length) vs (a6y ps 0 (.ret ()))else .fail) λS1 m1 vs n1 ch1 R1 c1 T1 k1 s1 l1 e1=>dD λhb=>by
   have hn1:=Y4 hb;have hvs:=UT l1;have hr:vals=(List.range vs.length).map λn=>act.tmps.getD n Go.undef:=by
    apply kW
    .simp[hvs]
    .intro i h1 h2;simp only[List.getElem_map,List.getElem_range];rw[hslots i h1,AB,fH h1];rfl
   have hall:∀k p,vals[k]? =some p->act.tmps.getD k Go.undef=p:=λk p hk=>by rw[hslots k (X0.1 hk).1,AB,hk];rfl
   refine NK _ (R1.chmono (ch' :=CB) l9) (by rw[←hr];exact l1) λS' R' =>?_;refine b0x hall ps 0 R' (λi v hi=>by rw[bP];exact hall i v hi) hvl.symm hdv λS2 R2=>⟨m1,vs,R2,l1⟩) he
 obtain⟨mE,vs,RE,hvs⟩:=key;have Rq:Rel X (CB*1) (CB*1) (gq s) mE ok act w:=(RE.climb (bU _)).chmono (by rw[ji];exact F5 _);let RetP:rt.den->Act->World->Prop:=λr a' w' =>(∀d∈a'.defers,a3C P d)/\∃v,(results fn a'.tmps).run P w' = .ok v w' /\
  ∃v' ok' O' rs os B,(Ending.returned v)= .returned v' /\Frame' w w' O/\(∀b t,ok b t->ok' b t)/\(∀b t,ok' b t->b<w'.heap.size/\(ok b t\/w.heap.size<=b\/b∈O))/\
   (O' ++B).Nodup/\(∀b∈O' ++B,(∀t,¬ok' b t)/\b<w'.heap.size/\(w.heap.size<=b\/b∈O))/\
   a6i (rt.rs.map (·.2)).length v' rs/\Aw w'.heap ps vals os B/\xA w'.heap ok' (rt.rs.map (·.2)++rt.outs.map (·.2)) r (rs++os) O'
 have hret:b2k X rt mE RetP:=by
  intro s R K r h;obtain⟨x,s',tr,he,hk⟩:=rE h;refine⟨x,hk,λ{cl ch m ok1 a1 w1} R1 km=>?_⟩;refine wC (Q:=λx _=>RetP x a1 w1) ?_ he;unfold b8s;refine PT H R1 _ λvs1 rvs hv1 hl1 hrun=>JU (T:=[]) _ R1 Tk.nil λS2 ws os B R2 T2 hout hws=>?_;refine CE _ R2 T2 λS2 m2 R2 T2 km2=>?_;refine a4d _ R2 T2 (a9P km2 (NC hv1 hws)) λS3 ok3 y O3 R3 T3 k3 s3 hy=>?_;simp only[H8]at T3;have hp:(B++O3).Perm (O3++B):=jO;rw[←hres]at hrun;obtain⟨v,hv,hrv⟩:=a5y hrun;refine⟨R3.nodef,v,hv,v,ok3,O3,rvs,os,B,rfl,R3.frame,R3.okIn,λb t hb=>⟨R3.okLt b t hb,R3.okOut b t hb⟩,hp.nodup_iff.1 T3.nodup,λb hb=>?_,?_,b1i ps 0 hnosb (a0D hrel) (λi v hi hv=>?_) (by rw[hsame]at hout;exact hout),hy⟩
  .obtain⟨f1,f2,f3,_⟩:=T3.free b (hp.mem_iff.2 hb);exact⟨f1,f2,f3⟩
  .refine⟨by rw[hl1];simp,hrv.2⟩
  .have h1:=R1.kept (0+i) (hsub _ (by rw[hsame];exact hi));have hlt:=(Xp hi).2;rw[h1];have h2:=hslots (0+i) (by rw[hvl];omega);rw[←hact]at h2;refine h2.trans ?_;rw[AB,bP,hv];rfl
 have hwp:=(EH H hret c).run hk Rq (λ_ _ h=>h);refine wp_mono hwp ?_;rintro e a' w' ⟨fl,s',wr',hk2,hfl⟩;cases fl with
 |ex id=>cases hk2|rt y=>cases hk2;obtain⟨rfl,h1,v,h2,h3⟩:=hfl;exact Pj ⟨v,h2,h3⟩ _ h1
 |nm=>obtain⟨rfl,m',ok',R',k1,_,_⟩:=hfl;obtain⟨y,hy,hp⟩:=hret (K:=some) hk2;cases hy;obtain⟨h1,v,h2,h3⟩:=hp R' k1;exact Pj ⟨v,h2,h3⟩ _ h1
def zV:V->Value->Bool
 | .undef,v=>v.oneCell'| .b x,.bool y=>x==y| .i k n,.int k' n' =>decide (k=k')&&decide (n=n')| .s l,.string s=>decide (l=s.data.toList)| .nl,.slice none 0 0=>true| .sl t xs,.map none=>t.isEnt&&xs.isEmpty| .npt,.pointer none=>true|_,_=>false
def zL:List V->d5Z->Bool
 |[],[]=>true|c::cs,v::vs=>zV c v&&zL cs vs|_,_=>false
theorem b9k{C:Cx}{c:V}{v:Value}(h:zV c v=true):xP C c v/\v.oneCell' =true:=by
 unfold zV at h;split at h
 .exact⟨trivial,h⟩
 .simp at h;subst h;exact⟨rfl,rfl⟩
 .simp at h;obtain⟨rfl,rfl⟩:=h;exact⟨rfl,rfl⟩
 .rename_i l s;have:=of_decide_eq_true h;subst this;exact⟨rfl,rfl⟩
 .exact⟨rfl,rfl⟩
 .rename_i t xs;simp only[A8,List.isEmpty_iff]at h;obtain⟨h1,rfl⟩:=h;exact⟨(a7y h1).2 ⟨none,rfl,λ_=>rfl,λ_ h=>nomatch h⟩,rfl⟩
 .exact⟨rfl,rfl⟩
 .cases h
theorem b0b{C:Cx} :∀{cs:List V} {vs:d5Z},zL cs vs=true->ig C cs vs
 |[],[],_=>rfl|[],_::_,h=>by simp[zL]at h|_::_,[],h=>by simp[zL]at h|c::cs,v::vs,h=>by unfold zL at h;simp only[A8]at h;obtain⟨h1,h2⟩:=b9k (C:=C) h.1;exact⟨v,vs,rfl,h1,h2,b0b h.2⟩
def UU:(t:Ty)->d5Z->Option d5Z
 | .bool,.bool b::r=>bif b then none else some r| .int k,.int k' n::r=>bif decide (k=k')&&decide (n=0)then some r else none| .str,.string s::r=>bif decide (s.data.toList=[])then some r else none| .sl t,.slice none 0 0::r=>bif t.isEnt then none else some r| .sl t,.map none::r=>bif t.isEnt then some r else none
 | .prod a b,vs=>match UU a vs with|some r=>UU b r|none=>none
 | .unit,vs=>some vs|_,_=>none
theorem Wi:∀{t:Ty} {vs r:d5Z},UU t vs=some r->∃cs,vs=cs++r/\mJ #[] (λ_ _=>False) t t.zero cs
 | .bool,vs,r,h=>by
  cases vs with
  |nil=>cases h|cons v vs=>
   cases v<;>try (cases h;done)
   case bool b=>
    cases b
    .simp only[UU,cond_false,F9]at h;subst h;exact⟨[.bool false],rfl,rfl⟩
    .simp[UU]at h
 | .int k,vs,r,h=>by
  cases vs with
  |nil=>cases h|cons v vs=>
   cases v<;>try (cases h;done)
   case int k' n=>
    unfold UU at h;cases hc:(decide (k=k')&&decide (n=0))
    .simp[hc]at h
    .simp only[hc,cond_true,F9]at h;simp only[A8,decide_eq_true_eq]at hc;obtain⟨rfl,rfl⟩:=hc;subst h;exact⟨[.int k 0],rfl,rfl⟩
 | .str,vs,r,h=>by
  cases vs with
  |nil=>cases h|cons v vs=>
   cases v<;>try (cases h;done)
   case string s=>
    unfold UU at h;cases hc:decide (s.data.toList=[])
    .simp only[hc,cond_false]at h;cases h
    .simp only[hc,cond_true,F9]at h;subst h;have he:=of_decide_eq_true hc;refine⟨[.string s],rfl,?_⟩;show[Value.string s]=[Value.string ⟨(Ty.zero .str).toArray⟩];congr 2;obtain⟨⟨l⟩⟩:=s;simp only at he;subst he;rfl
 | .sl t,vs,r,h=>by
  cases vs with
  |nil=>cases h|cons v vs=>
   cases v<;>try (cases h;done)
   case slice a n c=>
    cases a<;>try (cases h;done)
    cases n<;>try (cases h;done)
    cases c<;>try (cases h;done)
    cases ht:t.isEnt<;>simp only[UU,ht,cond_true,cond_false,F9]at h
    .subst h;exact⟨[.slice none 0 0],rfl,.inl ⟨ht,none,0,rfl,F5 _,λi x hi=>by simp[Ty.zero]at hi⟩⟩
    .cases h
   case map mv=>
    cases mv<;>try (cases h;done)
    cases ht:t.isEnt<;>simp only[UU,ht,cond_true,cond_false,F9]at h
    .cases h
    .subst h;exact⟨[.map none],rfl,.inr ⟨ht,none,rfl,λ_=>rfl,λ_ h=>nomatch h⟩⟩
 | .ent ..,vs,r,h=>by
  cases vs with
  |nil=>cases h|cons v vs=>cases v<;>cases h
 | .unit,vs,r,h=>by
  have:vs=r:=by cases vs<;>(simp only[UU,F9]at h;exact h)
  subst this;exact⟨[],rfl,rfl⟩
 | .prod a b,vs,r,h=>by
  have h' :(match UU a vs with|some r=>UU b r|none=>none)=some r:=by cases vs<;>exact h
  cases ha:UU a vs with
  |none=>simp[ha]at h'|some r1=>simp only[ha]at h';obtain⟨c,rfl,h1⟩:=Wi ha;obtain⟨d,rfl,h2⟩:=Wi h';exact⟨c++d,A7,c,d,rfl,h1,h2⟩
def b0y:List (Nat×Nat)->List Field->Bool
 |[],[]=>true|(t,o)::r,f::fs=>Nat.beq f.type t&&Nat.beq f.offset o&&b0y r fs|_,_=>false
theorem a0M:∀{a:List (Nat×Nat)} {b:List Field},b0y a b=true->b.map (λf=>(f.type,f.offset))=a
 |[],[],_=>rfl|[],_::_,h=>by simp[b0y]at h|_::_,[],h=>by simp[b0y]at h|(t,o)::r,f::fs,h=>by unfold b0y at h;simp only[A8]at h;have h1:=iD h.1.1;have h2:=iD h.1.2;simp[a0M h.2,←h1,←h2]
def b7i(P:Program)(t:TypeId)(td:TD):Bool:=
 match P.underlying t with
 |none=>false
 |some d=>match td,d with
  | .bool,.bool=>true| .int k,.int k' =>decide (k=k')| .str,.string=>true| .sl e,.slice e' =>Nat.beq e e'| .ptr e,.pointer e' =>Nat.beq e e'| .struct fs,.struct fields=>b0y fs fields.toList| .arr n e,.array n' e' =>Nat.beq n n' &&Nat.beq e e'| .map k e,.map k' e' =>Nat.beq k k' &&Nat.beq e e'| .other,.struct _=>false| .other,.array _ _=>false| .other,_=>true|_,_=>false
theorem a8p{t:TypeId}{td:TD}(h:b7i P t td=true):b7j P t td:=by
 unfold b7i at h;split at h
 .cases h
 .rename_i d hd;split at h<;>try (cases h;done)
  .exact hd
  .have:=of_decide_eq_true h;subst this;exact hd
  .exact hd
  .have:=iD h;subst this;exact hd
  .have:=iD h;subst this;exact hd
  .rename_i fs fields;exact⟨fields,hd,a0M h⟩
  .simp only[A8]at h;have h1:=iD h.1;have h2:=iD h.2;subst h1;subst h2;exact hd
  .simp only[A8]at h;have h1:=iD h.1;have h2:=iD h.2;subst h1;subst h2;exact hd
  .rename_i h1 h2;refine⟨d,hd,?_⟩;cases d<;>first|trivial|exact absurd rfl (h1 _)|exact absurd rfl (h2 _ _)
def b0c(inf:TypeInfo)(i:TI):Bool:=
 bif Nat.beq i.zero.length i.size then(match inf.zero with|some z=>zL i.zero z.cells.toList|none=>false)else true
def c0g(inf:TypeInfo)(i:TI):Bool:=
 match i.ty with
 |none=>true|some u=>Nat.beq u.size i.size&&(match inf.zero with|some z=>(match UU u z.cells.toList with|some []=>true|_=>false)|none=>false)
def b9p(inf:TypeInfo)(i:TI):Bool:=
 match inf.zero with
 |none=>true|some z=>bif dA i.td then(match z with| .agg _=>true|_=>false)else z.oneCell'
def b7k(P:Program)(t:TypeId)(i:TI):Bool:=
 match P.info? t with
 |none=>false|some inf=>Nat.beq inf.size i.size&&Nat.beq inf.bytes i.bytes&&b0c inf i&&c0g inf i&&b7i P t i.td&&(dA i.td || Nat.beq i.size 1)&&b9p inf i
theorem a8q{t:TypeId}{i:TI}(h:b7k P t i=true):TiOk P t i:=by
 unfold b7k at h;split at h
 .cases h
 .rename_i inf hi;simp only[A8,oO]at h;obtain⟨⟨⟨⟨⟨⟨h1,h2⟩,h3⟩,h4⟩,h5⟩,h6⟩,h8⟩:=h;refine⟨⟨inf,hi,iD h1,iD h2,λhl=>?_,λu hu=>?_⟩,a8p h5,λha=>?_,λinf' z hinf hz=>?_⟩
  .unfold b0c at h3;rw[hl,show Nat.beq i.size i.size=true from Nat.beq_refl _]at h3;simp only[cond_true]at h3;split at h3
   .rename_i z hz;exact⟨z,hz,b0b h3⟩
   .cases h3
  .unfold c0g at h4;simp only[hu,A8]at h4;refine⟨iD h4.1,?_⟩;have h7:=h4.2;split at h7
   .rename_i z hz;split at h7
    .rename_i hr;obtain⟨cs,e,hrep⟩:=Wi hr;rw[G5]at e;exact⟨z,hz,by rw[e];exact hrep⟩
    .cases h7
   .cases h7
  .rcases h6 with h6|h6
   .rw[ha]at h6;cases h6
   .exact iD h6
  .rw[hi]at hinf;cases hinf;unfold b9p at h8;rw[hz]at h8;refine⟨λha=>?_,λha=>?_⟩<;>simp only[ha,cond_true,cond_false]at h8
   .split at h8
    .exact⟨_,rfl⟩
    .cases h8
   .exact h8
def a6d(P:Program):List (Nat×TI)->Bool
 |[]=>true|(t,i)::r=>b7k P t i&&a6d P r
theorem R_{P:Program} :∀{tt:List (Nat×TI)},a6d P tt=true->∀t i,dW tt t=some i->TiOk P t i
 |[],_,t,i,h=>by simp[dW]at h|(k,v)::r,hc,t,i,h=>by
  unfold a6d at hc;simp only[A8]at hc;unfold dW at h;cases hb:Nat.beq k t
  .simp only[hb,cond_false]at h;exact R_ hc.2 t i h
  .simp only[hb,cond_true,F9]at h;have:=iD hb;subst this;subst h;exact a8q hc.1
def a0U(P:Program):List (Nat×FSpec)->Bool
 |[]=>true|(f,_)::r=>(match P.funcs[f]? with|some fn=>fn.body.isSome&&!(fn.name== "runtime.NumGoroutine")|none=>false)&&a0U P r
theorem Zj{P:Program} :∀{l:List (Nat×FSpec)},a0U P l=true->∀p∈l,∃fn,P.funcs[p.1]? =some fn/\fn.body.isSome=true/\(fn.name== "runtime.NumGoroutine")=false
 |[],_,p,h=>by cases h|(k,v)::r,hc,p,h=>by
  unfold a0U at hc;simp only[A8]at hc;rcases D5.1 h with rfl|h
  .have h1:=hc.1;split at h1
   .rename_i fn hf;simp only[A8,dP]at h1;exact⟨fn,hf,h1.1,h1.2⟩
   .cases h1
  .exact Zj hc.2 p h
end Go.GP
namespace Go.GP
def b2e(P:Program)(gl:List (Nat×(t:Ty)×List t.den)):List (Nat×FSpec)->Prop
 |[]=>True|(f,s)::r=>dB P gl f s/\b2e P gl r
theorem a0B{P:Program}{gl:List (Nat×(t:Ty)×List t.den)} :∀{l:List (Nat×FSpec)},b2e P gl l->∀p∈l,dB P gl p.1 p.2
 |[],_,p,h=>by cases h|(k,v)::r,hc,p,h=>by
  rcases D5.1 h with rfl|h
  .exact hc.1
  .exact a0B hc.2 p h
def a3A(P:Program):List ((Nat×String)×Nat×Option Nat)->Prop
 |[]=>True|(k,r)::l=>IG P k.1 k.2 r.1 r.2/\a3A P l
theorem Yo{P:Program} :∀{l:List ((Nat×String)×Nat×Option Nat)},a3A P l->∀p∈l,IG P p.1.1 p.1.2 p.2.1 p.2.2
 |[],_,p,h=>by cases h|(k,v)::r,hc,p,h=>by
  rcases D5.1 h with rfl|h
  .exact hc.1
  .exact Yo hc.2 p h
def a3B(P:Program):List (Nat×Nat×Nat)->Prop
 |[]=>True|(f,off,sz)::l=>PlP P f off sz/\a3B P l
theorem Yp{P:Program} :∀{l:List (Nat×Nat×Nat)},a3B P l->∀p∈l,PlP P p.1 p.2.1 p.2.2
 |[],_,p,h=>by cases h|(f,off,sz)::l,hc,p,h=>by
  rcases D5.1 h with rfl|h
  .exact hc.1
  .exact Yp hc.2 p h
theorem b2M{P:Program}{E:Env}(hnt:Nat.ble (64*E.nt) 999936=true)(htt:a6d P E.tt=true)(heq:∀t sh,dW E.eqs t=some sh->Qn P t sh)(hfn:a0U P E.fs=true)(hms:a3A P E.ms)(hfs:b2e P E.gl E.fs)(hpl:a3B P E.pl):EnvOk P E:=
 ⟨Y4 hnt,R_ htt,a0B hfs,heq,Yo hms,Zj hfn,Yp hpl⟩
end Go.GP
namespace Go.GP
def MO(rec:TypeId->List Ty->Bool)(cells:TypeId->Nat):Nat->List Field->List Ty->Bool
 |_,[],sh=>sh.isEmpty|off,f::r,sh=>(f.name != "_")&&Nat.beq f.offset off&&Nat.ble (cells f.type) sh.length&&rec f.type (sh.take (cells f.type))&&MO rec cells (off+cells f.type) r (sh.drop (cells f.type))
def Bz(P:Program):Nat->TypeId->List Ty->Bool
 |0,_,_=>false
 |n+1,t,sh=>match P.underlying t with
  |some .bool=>(match sh with|[.bool]=>true|_=>false)|some (.int k)=>(match sh with|[.int k']=>decide (k=k')|_=>false)|some .string=>(match sh with|[.str]=>true|_=>false)|some (.struct fs)=> !P.stoodInHeld t&&(P.info? t).isSome&&Nat.beq (P.cellsOf t) sh.length&&MO (Bz P n) P.cellsOf 0 fs.toList sh|_=>false
theorem kG.length:∀{sh:List Ty} {vs:d5Z},kG sh vs->vs.length=sh.length
 |[],_,h=>by simp only[kG]at h;subst h;rfl| .bool::ts,_,⟨_,_,rfl,h⟩=>by simp[kG.length h]| .int _::ts,_,⟨_,_,rfl,h⟩=>by simp[kG.length h]| .str::ts,_,⟨_,_,rfl,h⟩=>by simp[kG.length h]| .sl _::_,_,h=>h.elim| .prod _ _::_,_,h=>h.elim| .unit::_,_,h=>h.elim
theorem kG.take_drop:∀{sh:List Ty} {vs:d5Z} (n:Nat),kG sh vs->kG (sh.take n) (vs.take n)/\kG (sh.drop n) (vs.drop n)
 |sh,vs,0,h=>⟨by simp[kG],h⟩|[],_,n+1,h=>by simp only[kG]at h;subst h;exact⟨rfl,rfl⟩| .bool::ts,_,n+1,⟨b,r,rfl,h⟩=>by have:=kG.take_drop n h;exact⟨⟨b,_,rfl,this.1⟩,this.2⟩| .int _::ts,_,n+1,⟨b,r,rfl,h⟩=>by have:=kG.take_drop n h;exact⟨⟨b,_,rfl,this.1⟩,this.2⟩| .str::ts,_,n+1,⟨b,r,rfl,h⟩=>by have:=kG.take_drop n h;exact⟨⟨b,_,rfl,this.1⟩,this.2⟩| .sl _::_,_,_+1,h=>h.elim| .prod _ _::_,_,_+1,h=>h.elim| .unit::_,_,_+1,h=>h.elim
theorem Md{C:Cx} :∀{sh:List Ty} {cs:List V} {vs:d5Z},Em sh cs=true->ig C cs vs->kG sh vs
 |[],[],vs,_,h=>h|[],_::_,_,h,_=>by simp[Em]at h|t::ts,[],_,h,_=>by cases t<;>simp[Em]at h|t::ts,c::cs,_,h,⟨v,r,rfl,h1,_,h3⟩=>by
  cases t<;>cases c<;>simp only[Em,A8,decide_eq_true_eq]at h<;>try (cases h;done)
  case bool.b x=>have h1:v= .bool x:=h1;subst h1;exact⟨_,_,rfl,Md h h3⟩
  case int.i k k' n=>have h1:v= .int k' n:=h1;obtain⟨rfl,h⟩:=h;subst h1;exact⟨_,_,rfl,Md h h3⟩
  case str.s l=>have h1:v= .string ⟨l.toArray⟩:=h1;subst h1;exact⟨_,_,rfl,Md h h3⟩
theorem a2e{a b:V}{r q:List V}{e:Bool}(h:Du (a::r) (b::q)=some e):∃e1 e2,eq1 a b=some e1/\Du r q=some e2/\e=(e1&&e2):=by
 unfold Du at h;split at h
 .cases h
 .rename_i e1 h1;split at h
  .cases h;exact⟨_,true,h1,rfl,A7⟩
  .split at h
   .rename_i e2 h2;cases h;exact⟨_,_,h1,h2,rfl⟩
   .cases h
theorem TW{C:Cx} :∀{cs ds:List V} {xs ys:d5Z} {e:Bool},ig C cs xs->ig C ds ys->Du cs ds=some e->(e=true↔xs=ys)
 |[],[],xs,ys,e,h1,h2,h=>by
  simp only[ig]at h1 h2;subst h1;subst h2;have:e=true:=by simpa[Du]using h.symm
  simp[this]
 |[],_::_,_,_,_,_,_,h=>by simp[Du]at h|_::_,[],_,_,_,_,_,h=>by simp[Du]at h|a::r,b::q,xs,ys,e,hx,hy,h=>by
  obtain⟨v,vs,rfl,hv,_,hvs⟩:=hx;obtain⟨u,us,rfl,hu,_,hus⟩:=hy;obtain⟨e1,e2,k1,k2,rfl⟩:=a2e h;have ih:=TW hvs hus k2;have hd:e1=true↔v=u:=by
   cases a<;>cases b<;>simp only[eq1]at k1<;>try (cases k1;done)
   case b.b x y=>have hv:v= .bool x:=hv;have hu:u= .bool y:=hu;subst hv;subst hu;cases k1;simp[jG]
   case i.i j x k y=>
    have hv:v= .int j x:=hv;have hu:u= .int k y:=hu;subst hv;subst hu;by_cases hk:j=k
    .subst hk;simp only[decide_true,cond_true,F9]at k1;subst k1;simp[x8]
    .simp[hk]at k1
   case s.s x y=>have hv:v= .string ⟨x.toArray⟩:=hv;have hu:u= .string ⟨y.toArray⟩:=hu;subst hv;subst hu;cases k1;simp[seq]
  simp only[A8,I4,hd,ih]
def VOf(P:Program)(t:TypeId)(xs:d5Z)(v:Value):Prop:=match P.underlying t with
 |some (.struct _)=>v= .agg xs.toArray|_=>xs=[v]
variable {P:Program}{t:TypeId}
theorem a6p{i:TypeInfo}(h:P.info? t=some i):P.cellsOf t=i.size:=by simp[Program.cellsOf,h]
variable {n:Nat}{sh:List Ty}
theorem ZW(hc:Bz P n t sh=true)(hcs:P.cellsOf t=sh.length){cs:Array Value}{off:Nat}(hl:off+sh.length<=cs.size)(w:World):
  ∃v,(part t cs off).run P w= .ok v w/\VOf P t ((cs.toList.drop off).take sh.length) v:=by
 cases n with
 |zero=>cases hc|succ n=>
  unfold Bz at hc;split at hc
  all_goals try (cases hc;done)
  .rename_i ht;split at hc<;>try (cases hc;done)
   simp only[H5,dX]at hl ⊢;refine⟨cs[off]'l9,?_,?_⟩
   .have h1:=IB (P:=P) (t:=t) (d:=.bool) ht w;simp only[part,H6,h1,I5,dA,df,if_false,U2 (show off<cs.size by omega),Y7]
   .simp only[VOf,ht];apply kW
    .simp;omega
    .intro i h1 h2;simp at h1 h2;simp[show i=0 by omega]
  .rename_i k ht;split at hc<;>try (cases hc;done)
   simp only[H5,dX]at hl ⊢;refine⟨cs[off]'l9,?_,?_⟩
   .have h1:=IB (P:=P) (t:=t) (d:=.int k) ht w;simp only[part,H6,h1,I5,dA,df,if_false,U2 (show off<cs.size by omega),Y7]
   .simp only[VOf,ht];apply kW
    .simp;omega
    .intro i h1 h2;simp at h1 h2;simp[show i=0 by omega]
  .rename_i ht;split at hc<;>try (cases hc;done)
   simp only[H5,dX]at hl ⊢;refine⟨cs[off]'l9,?_,?_⟩
   .have h1:=IB (P:=P) (t:=t) (d:=.str) ht w;simp only[part,H6,h1,I5,dA,df,if_false,U2 (show off<cs.size by omega),Y7]
   .simp only[VOf,ht];apply kW
    .simp;omega
    .intro i h1 h2;simp at h1 h2;simp[show i=0 by omega]
  .rename_i fs ht;simp only[A8]at hc;obtain⟨⟨⟨_,h2⟩,_⟩,_⟩:=hc;obtain⟨inf,hinf⟩:=FW.1 h2;have hsz:=a6p hinf;refine⟨.agg (cs.extract off (off+inf.size)),?_,?_⟩
   .have h1:=IB (P:=P) (t:=t) (d:=.struct (fs.toList.map λf=>(f.type,f.offset))) ⟨fs,ht,rfl⟩ w;have h3:(sizeOf t).run P w= .ok inf.size w:=by
     simp[sizeOf,typeInfo,hinf]
    simp only[part,H6,h1,I5,dA,if_true,h3,Y7]
   .simp only[VOf,ht];congr 1;apply lC;rw[←hsz,hcs];simp[oh,Array.toList_extract]
theorem VC{P:Program} :∀(n:Nat) (t:TypeId) (sh:List Ty),Bz P n t sh=true->∀(d:Nat),n<=d->∀(xs ys:d5Z) (v u:Value),kG sh xs->kG sh ys->VOf P t xs v->VOf P t ys u->∀w:World,
  ∃r,(Op.equalIn d t v u).run P w= .ok r w/\(r=true↔xs=ys)
 |0,_,_,h,_,_,_,_,_,_,_,_,_,_,_=>by cases h|n+1,t,sh,h,d,hd,xs,ys,v,u,hx,hy,hv,hu,w=>by
  obtain⟨d,rfl⟩:∃k,d=k+1:=⟨d -1,l9⟩;unfold Bz at h;split at h
  all_goals try (cases h;done)
  .rename_i ht;split at h<;>try (cases h;done)
   obtain⟨a,r1,rfl,h1⟩:=hx;obtain⟨b,r2,rfl,h2⟩:=hy;simp only[kG]at h1 h2;subst h1;subst h2;simp only[VOf,ht]at hv hu;obtain rfl:=(X8 hv).1;obtain rfl:=(X8 hu).1;exact⟨a==b,run_equalIn_bool w d t a b ht,A7⟩
  .rename_i k ht;split at h<;>try (cases h;done)
   have:=of_decide_eq_true h;subst this;obtain⟨a,r1,rfl,h1⟩:=hx;obtain⟨b,r2,rfl,h2⟩:=hy;simp only[kG]at h1 h2;subst h1;subst h2;simp only[VOf,ht]at hv hu;obtain rfl:=(X8 hv).1;obtain rfl:=(X8 hu).1;exact⟨a==b,run_equalIn_int w d t k k a b ht,A7⟩
  .rename_i ht;split at h<;>try (cases h;done)
   obtain⟨a,r1,rfl,h1⟩:=hx;obtain⟨b,r2,rfl,h2⟩:=hy;simp only[kG]at h1 h2;subst h1;subst h2;simp only[VOf,ht]at hv hu;obtain rfl:=(X8 hv).1;obtain rfl:=(X8 hu).1;refine⟨a.toList==b.toList,run_equalIn_string w d t a b ht,?_⟩;constructor
   .intro h;have h:=eq_of_beq h;rw[ByteArray.toList_eq,ByteArray.toList_eq]at h;obtain⟨⟨x⟩⟩:=a;obtain⟨⟨y⟩⟩:=b;simp only at h;rw[h]
   .intro h;injection h with h;injection h with h;rw[h];simp
  .rename_i fs ht;simp only[A8,dP]at h;obtain⟨⟨⟨h1,h2⟩,h3⟩,h4⟩:=h;have hlen:=iD h3;simp only[VOf,ht]at hv hu;subst hv;subst hu;have hfo:P.fieldsOf t=fs:=by simp[Program.fieldsOf,ht]
   rw[run_equalIn_struct w d t _ _ (by rw[hfo];exact ht) h1,hfo];have hxl:=hx.length;have hyl:=hy.length;have key:∀(l:List Field) (off:Nat) (s:List Ty),MO (Bz P n) P.cellsOf off l s=true->s=sh.drop off->off<=sh.length->∃r,(Op.eqFields d xs.toArray ys.toArray l).run P w= .ok r w/\(r=true↔xs.drop off=ys.drop off):=by
    intro l;induction l with
    |nil=>
     intro off s hs he ho;unfold MO at hs;have:s=[]:=by simpa using hs
     have hoff:off=sh.length:=by have:=congrArg List.length (he.symm.trans this);simp at this;omega
     refine⟨true,rfl,?_⟩;rw[dH l9,dH l9];simp
    |cons f r ih=>
     intro off s hs he ho;unfold MO at hs;simp only[A8]at hs;obtain⟨⟨⟨⟨g1,g2⟩,g3⟩,g4⟩,g5⟩:=hs;have g2:=iD g2;have g3:=Y4 g3;subst he;simp only[nX]at g3;have hsl:((sh.drop off).take (P.cellsOf f.type)).length=P.cellsOf f.type:=by simp;omega
     obtain⟨v1,e1,o1⟩:=ZW g4 hsl.symm (cs:=xs.toArray) (off:=off) (by rw[hsl];simp;omega) w;obtain⟨u1,e2,o2⟩:=ZW g4 hsl.symm (cs:=ys.toArray) (off:=off) (by rw[hsl];simp;omega) w;rw[hsl]at o1 o2;obtain⟨b1,e3,q1⟩:=VC n f.type _ g4 d l9 _ _ v1 u1 (((hx.take_drop off).2).take_drop _).1 (((hy.take_drop off).2).take_drop _).1 o1 o2 w;obtain⟨b2,e4,q2⟩:=ih (off+P.cellsOf f.type) _ g5 (by rw[Z9]) l9;have hne:f.name≠ "_":=by simpa using g1
     have split:(xs.drop off=ys.drop off)↔((xs.drop off).take (P.cellsOf f.type)=(ys.drop off).take (P.cellsOf f.type)/\xs.drop (off+P.cellsOf f.type)=ys.drop (off+P.cellsOf f.type)):=by
      constructor
      .intro h;rw[h];exact⟨rfl,by rw[←Z9,←Z9,h]⟩
      .rintro⟨p1,p2⟩;rw[←iR (P.cellsOf f.type) (xs.drop off),←iR (P.cellsOf f.type) (ys.drop off),p1,Z9,Z9,p2]
     simp only[Op.eqFields,if_pos hne,H6,g2,e1,e2,e3,I5];cases b1 with
     |false=>
      refine⟨false,A7,?_⟩;have:¬((xs.drop off).take (P.cellsOf f.type)=(ys.drop off).take (P.cellsOf f.type)):=λh=>by have:=q1.2 h;cases this
      simp only[df,false_iff];intro h;exact this (split.1 h).1
     |true=>refine⟨b2,by simpa using e4,?_⟩;rw[q2,split];exact⟨λh=>⟨q1.1 rfl,h⟩,λh=>h.2⟩
   have:=key fs.toList 0 sh h4 A7 l9;simpa using this
theorem a0L{P:Program}(em:Bool):∀(n:Nat) (t:TypeId) (sh:List Ty),Bz P n t sh=true->∀(d:Nat),n<=d->∀(xs:d5Z) (v:Value),kG sh xs->VOf P t xs v->∀w:World,
  (Instr.checkKey em d t v).run P w= .ok () w
 |0,_,_,h,_,_,_,_,_,_,_=>by cases h|n+1,t,sh,h,d,hd,xs,v,hx,hv,w=>by
  obtain⟨d,rfl⟩:∃k,d=k+1:=⟨d -1,l9⟩;unfold Bz at h;split at h
  all_goals try (cases h;done)
  .rename_i ht;split at h<;>try (cases h;done)
   obtain⟨a,r1,rfl,h1⟩:=hx;simp only[kG]at h1;subst h1;simp only[VOf,ht]at hv;obtain rfl:=(X8 hv).1;simp[Instr.checkKey,run_underlying ht]
  .rename_i k ht;split at h<;>try (cases h;done)
   have:=of_decide_eq_true h;subst this;obtain⟨a,r1,rfl,h1⟩:=hx;simp only[kG]at h1;subst h1;simp only[VOf,ht]at hv;obtain rfl:=(X8 hv).1;simp[Instr.checkKey,run_underlying ht]
  .rename_i ht;split at h<;>try (cases h;done)
   obtain⟨a,r1,rfl,h1⟩:=hx;simp only[kG]at h1;subst h1;simp only[VOf,ht]at hv;obtain rfl:=(X8 hv).1;simp[Instr.checkKey,run_underlying ht]
  .rename_i fs ht;simp only[A8,dP]at h;obtain⟨⟨⟨h1,h2⟩,h3⟩,h4⟩:=h;have hlen:=iD h3;simp only[VOf,ht]at hv;subst hv;have hxl:=hx.length;have key:∀(l:List Field) (off:Nat) (s:List Ty),MO (Bz P n) P.cellsOf off l s=true->s=sh.drop off->off<=sh.length->
     (forIn l PUnit.unit (λ(f:Field) (_:PUnit)=>(do
      if f.name≠ "_" then Instr.checkKey em d f.type (←part f.type xs.toArray f.offset)
      pure (ForInStep.yield PUnit.unit):Sem (ForInStep PUnit)))).run P w= .ok PUnit.unit w:=by
    intro l;induction l with
    |nil=>intro off s hs he ho;rfl|cons f r ih=>
     intro off s hs he ho;unfold MO at hs;simp only[A8]at hs;obtain⟨⟨⟨⟨g1,g2⟩,g3⟩,g4⟩,g5⟩:=hs;have g2:=iD g2;have g3:=Y4 g3;subst he;simp only[nX]at g3;have hsl:((sh.drop off).take (P.cellsOf f.type)).length=P.cellsOf f.type:=by simp;omega
     obtain⟨v1,e1,o1⟩:=ZW g4 hsl.symm (cs:=xs.toArray) (off:=off) (by rw[hsl];simp;omega) w;rw[hsl]at o1;have e3:=a0L em n f.type _ g4 d l9 _ v1 (((hx.take_drop off).2).take_drop _).1 o1 w;have e4:=ih (off+P.cellsOf f.type) _ g5 (by rw[Z9]) l9;have hne:f.name≠ "_":=by simpa using g1
     simp only[List.forIn_cons,H6,hne,ne_eq,not_false_eq_true,if_true,g2,e1,e3,I5,Y7];exact e4
   have:=key fs.toList 0 sh h4 A7 l9;simp only[Instr.checkKey,H6,run_underlying ht,I5];simp at this;simp[this]
theorem a4s(hn:n<=10000)(h:Bz P n t sh=true)(hs:(match P.underlying t with|some (.struct _)=>true|_=>false)=true):a3D P t sh:=by
 have hv:∀zs:Array Value,VOf P t zs.toList (.agg zs):=λzs=>by
  unfold VOf;split
  .simp
  .rename_i hh;exfalso;split at hs
   .rename_i fs hf;exact hh fs hf
   .cases hs
 refine⟨?_,λw xs hx=>⟨λem=>a0L em n t sh h 10000 hn _ _ hx (hv xs) w,λys hy=>VC n t sh h 10000 hn _ _ _ _ hx hy (hv xs) (hv ys) w⟩⟩;split at hs
 .rename_i fs hf;exact⟨fs,hf⟩
 .cases hs
theorem a6D(hn:n<=10000)(h:Bz P n t sh=true)(hs:(match P.underlying t with|some (.struct _)=>true|_=>false)=true)(hg:P.eqGuardType P.depth t=false):Qn P t sh:=by
 refine⟨?_,a4s hn h hs⟩;intro w C cs ds xs ys e op x y s1 s2 h1 h2 he hop;have hv:∀zs:Array Value,VOf P t zs.toList (.agg zs):=λzs=>by
  unfold VOf;split
  .simp
  .rename_i hh;exfalso;split at hs
   .rename_i fs hf;exact hh fs hf
   .cases hs
 obtain⟨r,hr,hq⟩:=VC n t sh h 10000 hn _ _ _ _ (Md s1 h1) (Md s2 h2) (hv xs) (hv ys) w;have hre:r=e:=by have:=TW h1 h2 he;cases r<;>cases e<;>simp_all
 subst hre;rcases hop with rfl|rfl
 .rw[H6,run_eqGuard_agg w .eql t x y xs ys hg];simp only[I5,run_eql_struct,hr,if_pos]
 .rw[H6,run_eqGuard_agg w .neq t x y xs ys hg];simp[run_neq_struct,hr]
def a6E(P:Program):List (Nat×List Ty)->Bool
 |[]=>true|(t,sh)::r=>Bz P 20 t sh&&(match P.underlying t with|some (.struct _)=>true|_=>false)&&!P.eqGuardType P.depth t&&a6E P r
theorem a4a{P:Program} :∀{l:List (Nat×List Ty)},a6E P l=true->∀t sh,dW l t=some sh->Qn P t sh
 |[],_,t,sh,h=>by simp[dW]at h|(k,v)::r,hc,t,sh,h=>by
  unfold a6E at hc;simp only[A8,dP]at hc;unfold dW at h;cases hb:Nat.beq k t
  .simp only[hb,cond_false]at h;exact a4a hc.2 t sh h
  .simp only[hb,cond_true,F9]at h;have:=iD hb;subst this;subst h;exact a6D l9 hc.1.1.1 hc.1.1.2 hc.1.2
end Go.GP
