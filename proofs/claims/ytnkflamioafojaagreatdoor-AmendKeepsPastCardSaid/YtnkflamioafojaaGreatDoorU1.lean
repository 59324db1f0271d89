import Derived.Test.YtnkflamioafojaaGreatDoorU0
import Derived.Laws.MakeOwn
import Derived.ArgAppend
import Derived.MapKept
import Derived.WideKeyRuns
import Derived.Lib.AppendStr
import Derived.Laws.IdiomStrings
import Derived.Orders
import Derived.LoopN
import Derived.Laws.StructEq
import Derived.ChangeSame
import Derived.Carry
import Derived.SizedLaws
import Derived.Deep.DeepHandedRow
import Derived.Lib.LaidTab
import Derived.Lib.ItoaNum
import Derived.Lib.ItoaMem
import Derived.Lib.Repeat
import Derived.Sort.Grow
import Derived.Lib.SlicesCompact
import Derived.Lib.Bytealg
import Derived.Sort.Row
set_option linter.all false
namespace Go.GP
variable {α:Type}{t:TypeId}{q:Nat}{sz:Nat}{f:Nat}{P:Program}{j:TI}{x:Operand}{Q:α->Sm->Prop}
section
variable {X:Fx} {cl ch:Nat} {S:Sm} {m:Mp} {ok:Nat->Ty->Prop} {a:Act} {w:World} {o:Oper}
theorem JE(H:FxOk X){t f off n:Nat}{ag:Bool}(h:OD X.E t f=some (off,n,ag)):
  ∃fields fld j,X.P.underlying t=some (.struct fields)/\fields[f]? =some fld/\fld.offset=off/\TiOk X.P fld.type j/\j.size=n/\n≠0/\ag=kw j.td:=by
 unfold OD at h;cases hi:fP X.E.tt t with
 |none=>simp[hi]at h|some i=>
  have Hi:=H.tt t i hi;have htd:=Hi.td;simp only[hi]at h;cases hd:i.td<;>simp only[hd]at h<;>try (simp at h;done)
  rename_i fs;rw[hd]at htd;obtain⟨fields,hu,hf⟩:=htd;cases hfs:fs[f]? with
  |none=>simp[hfs]at h|some x=>
   obtain⟨ft,off'⟩:=x;simp only[hfs]at h;cases hj:fP X.E.tt ft with
   |none=>simp[hj]at h|some j=>
    simp only[hj]at h;cases hb:Nat.beq j.size 0
    .simp only[hb,cond_false,H7,lI]at h;obtain⟨rfl,rfl,rfl⟩:=h;rw[←hf]at hfs;simp only[S9,iF]at hfs;obtain⟨fld,hfl,he⟩:=hfs;simp only[lI]at he;obtain⟨rfl,rfl⟩:=he;refine⟨fields,fld,j,hu,by simpa using hfl,rfl,H.tt _ _ hj,rfl,λe=>?_,rfl⟩;rw[e]at hb;simp at hb
    .simp[hb]at h
theorem PK{t f off:Nat}{fields:Array Field}{fld:Field}(w:World)(hu:P.underlying t=some (.struct fields))(hf:fields[f]? =some fld)(ho:fld.offset=off)
  (hj:TiOk P fld.type j) (hn:j.size≠0) (b p:Nat):(Instr.fieldAt t (.pointer (some ⟨b,p,none⟩)) f).run P w= .ok (.pointer (some ⟨b,p+off,none⟩)) w:=by
 simp[Instr.fieldAt,run_underlying hu,hf,Instr.sureAddr,fieldPlace,uK hj,hn,jw,ho]
theorem a2b(H:FxOk X)(R:Rel X cl ch S m ok a w)(ho:o.op= .fieldAddr t x f):(dZ X.E q o).post S (λ_ S' =>kW X cl ch o a w m ok S'):=by
 unfold dZ;simp only[ho];refine cu R λp hp=>?_;split<;>try trivial
 rename_i off n ag hfo;obtain⟨fields,fld,j,hu,hf,hoff,hj,hn,hn0,_⟩:=JE H hfo;have hj0:j.size≠0:=o5;cases p<;>try trivial
 case ptr bx o' =>obtain⟨blk,h1,h2⟩:=hp;exact bD H R (v:=.ptr bx (o' +off)) ⟨blk,h1,rfl⟩ (by simp[execOp,ho,h2,PK w hu hf hoff hj hj0])
 case ep bx ix o' =>obtain⟨blk,o2,len,cap,sz,h1,h2,h3⟩:=hp;exact bD H R (v:=.ep bx ix (o' +off)) ⟨blk,o2,len,cap,sz,h1,h2,rfl⟩ (by simp[execOp,ho,h3,PK w hu hf hoff hj hj0,ou])
 case dp u y o' =>obtain⟨blk,o2,es,h1,h2⟩:=hp;exact bD H R (v:=.dp u y (o' +off)) ⟨blk,o2,es,rfl,h2⟩ (by simp[execOp,ho,h1,PK w hu hf hoff hj hj0,ou])
theorem b3d(H:FxOk X)(R:Rel X cl ch S m ok a w)(ho:o.op= .field t x f):(dZ X.E q o).post S (λ_ S' =>kW X cl ch o a w m ok S'):=by
 unfold dZ;simp only[ho];refine cu R λp hp=>?_;split<;>try trivial
 rename_i off n ag hfo;obtain⟨fields,fld,j,hu,hf,hoff,hj,hn,hn0,rfl⟩:=JE H hfo;refine IQ hp λps us hg hl=>BL λhle=>?_;obtain⟨arr,hx,rfl⟩:=hg;have hL:=kU hl;have hlen:((arr.toList.drop off).take n).length=n:=by simp at hL ⊢;omega
 refine bD H R (Ee (xn n (vT off hl)) (λha=>by rw[hlen,←hn];exact hj.one ha)) ?_;have hpart:(part fld.type arr off).run X.P w= .ok (UT (kw j.td) ((arr.toList.drop off).take n)) w:=by
  unfold part;rw[I4,GN hj.td];simp only[J5];cases ha:kw j.td
  .have h1:=hj.one ha;have hlt:off<arr.size:=by simp at hL;omega
   simp only[gJ,if_false,UT];rw[show arr[off]? =some arr[off]from by simp[hlt]];have:n=1:=o5;subst this;simp[List.take_one,hlt]
  .simp only[if_true,UT,I4,uK hj,J5,hn,au];congr 2;apply lu;simp[oh]
 simp[execOp,ho,hx,Instr.field,run_underlying hu,hf,asAgg,hoff,hpart]
theorem Ls(H:FxOk X){t n sz:Nat}(h:Lr X.E t=some (false,n,sz)):∃e j,X.P.underlying t=some (.slice e)/\TiOk X.P e j/\j.size=sz:=by
 unfold Lr at h;cases hi:fP X.E.tt t with
 |none=>simp[hi]at h|some i=>
  have htd:=(H.tt t i hi).td;simp only[hi]at h;cases hd:i.td<;>simp only[hd]at h<;>try (simp at h;done)
  .rename_i e;rw[hd]at htd;cases hj:fP X.E.tt e with
   |none=>simp[hj]at h|some j=>simp[hj]at h;exact⟨e,j,htd,H.tt _ _ hj,h.2⟩
  .rename_i l e;cases hj:fP X.E.tt e<;>simp[hj]at h
theorem a6n(H:FxOk X){t n sz:Nat}(h:Lr X.E t=some (true,n,sz)):∃e j,X.P.underlying t=some (.array n e)/\TiOk X.P e j/\j.size=sz:=by
 unfold Lr at h;cases hi:fP X.E.tt t with
 |none=>simp[hi]at h|some i=>
  have htd:=(H.tt t i hi).td;simp only[hi]at h;cases hd:i.td<;>simp only[hd]at h<;>try (simp at h;done)
  .rename_i e;cases hj:fP X.E.tt e<;>simp[hj]at h
  .rename_i l e;rw[hd]at htd;cases hj:fP X.E.tt e with
   |none=>simp[hj]at h|some j=>simp[hj]at h;obtain⟨rfl,h⟩:=h;exact⟨e,j,htd,H.tt _ _ hj,h⟩
theorem Ci{l:List α}{n:Int}{y:α}(h:G9 l n=some y):0<=n/\l[n.toNat]? =some y/\n.toNat<l.length/\n<l.length:=by
 unfold G9 at h;split at h
 .rename_i h0;have:=(aO.1 h).1;exact⟨h0,h,this,o5⟩
 .cases h
theorem yM{t e:TypeId}(w:World)(hu:P.underlying t=some (.slice e))(hj:TiOk P e j){k:IntKind}{n:Int}{b p len cap:Nat}(h0:0<=n)(hlt:n<len):
  (Instr.indexAt t (.slice (some ⟨b,p,none⟩) len cap) (.int k n)).run P w= .ok (.pointer (some ⟨b,p+n.toNat*j.size,none⟩)) w:=by
 simp[Instr.indexAt,asIntOf,run_underlying hu,h0,hlt,uK hj,jw]
theorem UH{t e:TypeId}(w:World){len:Nat}(hu:P.underlying t=some (.array len e))(hj:TiOk P e j){k:IntKind}{n:Int}{b p:Nat}(h0:0<=n)(hlt:n<len):
  (Instr.indexAt t (.pointer (some ⟨b,p,none⟩)) (.int k n)).run P w= .ok (.pointer (some ⟨b,p+n.toNat*j.size,none⟩)) w:=by
 simp[Instr.indexAt,asIntOf,run_underlying hu,h0,hlt,uK hj,jw,Instr.sureAddr]
theorem a6y{w:World}{r:Nat}{es:Array MapEntry}{ck:Nat}(hb:w.heap[r]? =some (.map es ck)):(getObj r).run P w= .ok (.map es ck) w:=by simp[getObj,Sem.run,hb]
theorem ET{u:Ty}(h:szB sz u=true):u.isEnt=false/\sz=u.size:=by
 unfold szB at h;cases hu:u.isEnt<;>rw[hu]at h
 .exact⟨rfl,iI h⟩
 .cases h
theorem b1k{C:Cx}{t:Ty}{xs:List t.den}{l:Loc}{vw:Option (Nat×Nat)}{v:Value}(h0:t.isEnt=false)(ha:arrOk C t xs l)(hv:l.view vw v){i:Nat}{y:t.den}(hy:(jW vw xs)[i]? =some y):
  ∃blk off len cap,l= .arr blk off len cap t.size/\xs[a4f vw+i]? =some y/\∃p c,v= .slice (some ⟨blk,p,none⟩) (jW vw xs).length c/\p+i*t.size=off+(a4f vw+i)*t.size:=by
 cases l with
 |nil=>obtain⟨ha,_⟩:=ha;subst ha;rcases vw with _|⟨lo,hi⟩<;>simp[jW,mP]at hy
 |st b=>cases ha|mp b=>exact absurd ha.1 (by simp[h0])|arr blk off len cap sz=>
  obtain⟨_,rfl,rfl,hc,_⟩:=ha;rcases vw with _|⟨lo,hi⟩
  .simp only[Loc.view]at hv;subst hv;exact⟨blk,off,_,cap,rfl,by simpa[a4f,jW]using hy,off,cap,rfl,by simp[a4f]⟩
  .obtain⟨h1,h2,rfl⟩:=hv;have hl:(jW (some (lo,hi)) xs).length=hi -lo:=by simp[jW,mP];omega
   have hi' :i<hi -lo:=by rw[←hl];exact(aO.1 hy).1
   have hx' :xs[lo+i]? =some y:=by
    simp only[jW,mP,P9,aG]at hy;split at hy
    .exact hy
    .cases hy
   have hne:cap≠lo:=o5;exact⟨blk,off,_,cap,rfl,hx',off+lo*t.size,cap -lo,by rw[hl];simp[hne],by simp[a4f,L8];omega⟩
theorem a2c(H:FxOk X)(R:Rel X cl ch S m ok a w){x ix:Operand}(ho:o.op= .indexAddr t x ix):(dZ X.E q o).post S (λ_ S' =>kW X cl ch o a w m ok S'):=by
 unfold dZ;simp only[ho];refine cu R λu hu=>cu R λv hv=>?_;unfold YX;split<;>try trivial
 ·
  rename_i k n l sz hsz;obtain⟨e,j,hut,hj,hjs⟩:=Ls H hsz;have hix:=wL hv;cases u<;>try trivial
  case sl u xs=>refine dJ λhb=>gG λy hy=>?_;obtain⟨hE0,hb'⟩:=ET hb;obtain⟨h0,hget,hlt,hlt'⟩:=Ci hy;obtain⟨ad,cap,hx,hc,hel⟩:=(AZ hE0).1 hu;simp only[H6,and_true]at hx;obtain⟨blk,off,es,rfl,hok,he,hr⟩:=hel _ y hget;refine bD H R (v:=.dp u y 0) (x:=.pointer (some ⟨blk,off+n.toNat*u.size,none⟩)) ⟨blk,off+n.toNat*u.size,es,rfl,hok,he,hr⟩ ?_;simp[execOp,ho,hx,hix,yM w hut hj h0 hlt',hjs,hb']
  case own bx vw=>
   obtain⟨loc,hm,hview⟩:=hu;refine di ?_;split
   .rename_i ln sz' hSl;split<;>try trivial
    refine ed λhb=>⟨λhin=>?_,λ_=>trivial⟩;have hb' :=iI hb;have hin' :=of_decide_eq_true (show decide (0<=n/\n<ln)=true from hin);have hbx:=R.box (RH+bx);rw[hSl]at hbx;obtain⟨k',l',e,hm',hl⟩:=hbx;have e' :k' =bx:=o5;subst e';simp only at hm hm';rw[hm]at hm';cases hm';cases loc with
    |nil=>simp only at hl;omega|st b=>cases hl|mp b=>cases hl|arr blk off len cap sz2=>obtain⟨rfl,rfl⟩:=hl;simp only[Loc.view]at hview;refine bD H R (v:=.ep k' (U8 n) 0) (x:=.pointer (some ⟨blk,off+n.toNat*sz',none⟩)) ⟨blk,off,len,cap,sz',hm,by unfold U8;omega,rfl⟩ ?_;simp[execOp,ho,hview,hix,yM w hut hj hin'.1 hin'.2,hjs,hb']
   refine di ?_;split<;>try trivial
   .rename_i u xs hS;refine dJ λhb=>gG λy hy=>?_;obtain⟨hE0,hb'⟩:=ET hb;obtain⟨h0,hget,hlt,hlt'⟩:=Ci hy;obtain⟨loc',hm',ha⟩:=R.own_arr hS;simp only at hm;rw[hm]at hm';cases hm';obtain⟨blk,off,len,cap,rfl,hx2,p,c,hvv,hp⟩:=b1k hE0 ha hview hget;have hlen:=ha.2.2.1;have hlt2:=(aO.1 hx2).1;rw[b7e];refine bD H R (v:=.ep bx (a4f vw+U8 n) 0) (x:=.pointer (some ⟨blk,p+n.toNat*u.size,none⟩)) ⟨blk,off,len,cap,u.size,hm,by rw[hlen];exact hlt2,by rw[hp];rfl⟩ ?_;simp[execOp,ho,hvv,hix,yM w hut hj h0 hlt',hjs,hb']
   .rename_i u xs hS;refine dJ λhb=>gG λy hy=>?_;obtain⟨hE0,hb'⟩:=ET hb;obtain⟨h0,hget,hlt,hlt'⟩:=Ci hy;obtain⟨loc',hm',ha,hok⟩:=R.own_frz hS;simp only at hm;rw[hm]at hm';cases hm';obtain⟨ad,cap,hx,hc,hel⟩:=(AZ hE0).1 (qF (C:=⟨w.heap,ok,m⟩) ha hview (λ_ _ h=>h) hok);simp only[H6,and_true]at hx;obtain⟨blk,off,es,rfl,hok',he,hr⟩:=hel _ y hget;refine bD H R (v:=.dp u y 0) (x:=.pointer (some ⟨blk,off+n.toNat*u.size,none⟩)) ⟨blk,off+n.toNat*u.size,es,rfl,hok',he,hr⟩ ?_;simp[execOp,ho,hx,hix,yM w hut hj h0 hlt',hjs,hb']
   .rename_i md xs hole hS;split<;>try trivial
    refine ed λhb=>gG λy hy=>?_;have hb' :=iI hb;obtain⟨h0,hget,hlt,hlt'⟩:=Ci hy;obtain⟨hel,loc',Os,hm',⟨ha,hho⟩,hk⟩:=R.own_barrs hS;simp only at hm;rw[hm]at hm';cases hm';cases loc with
    |st b=>cases ha|mp b=>cases ha|nil=>obtain⟨e1,_⟩:=ha;subst e1;simp at hlt
    |arr blk off len cap sz' =>obtain⟨rfl,rfl,h3,_⟩:=ha;simp only[Loc.view]at hview;refine bD H R (v:=.ep bx (U8 n) 0) (x:=.pointer (some ⟨blk,off+n.toNat*md.size,none⟩)) ⟨blk,off,xs.length,cap,md.size,hm,hlt,rfl⟩ ?_;simp[execOp,ho,hview,hix,yM w hut hj h0 hlt',hjs,hb']
 ·
  rename_i k n l sz hsz;obtain⟨e,j,hut,hj,hjs⟩:=a6n H hsz;have hix:=wL hv;cases u<;>try trivial
  case glob g=>
   cases hg:fP X.E.gl g with
   |none=>simp only[hg];trivial|some p=>
   obtain⟨u,xs⟩:=p;simp only[hg];refine dJ λhb=>gG λy hy=>?_;simp only[D5]at hb;have hb1:=iI hb.1;have hb2:=iI hb.2;obtain⟨h0,hget,hlt,hlt'⟩:=Ci hy;obtain⟨hok,_,hel⟩:=R.gl g _ hg;obtain⟨es,he,hr⟩:=hel _ y hget;have hx:a.eval x= .pointer (some ⟨g,0,none⟩):=hu;refine bD H R (v:=.dp u y 0) (x:=.pointer (some ⟨g,0+n.toNat*u.size,none⟩)) ⟨g,n.toNat*u.size,es,A7,hok,he,hr⟩ ?_;have:=UH w hut hj (k:=k) (b:=g) (p:=0) h0 (by rw[hb2];exact hlt');simp only[hjs,hb1]at this;simp[execOp,ho,hx,hix,this]
  case ptr bx off=>refine⟨λhin=>?_,λ_=>trivial⟩;have hin' :=of_decide_eq_true (show decide (0<=n/\n<(l:Int))=true from hin);obtain⟨blk,hm,hx⟩:=hu;refine bD H R (v:=.ptr bx (off+U8 n*sz)) (x:=.pointer (some ⟨blk,off+n.toNat*sz,none⟩)) ⟨blk,hm,rfl⟩ ?_;have:=UH w hut hj (k:=k) (b:=blk) (p:=off) hin'.1 hin'.2;simp only[hjs]at this;simp[execOp,ho,hx,hix,this]
theorem Ze(R:Rel X cl ch S m ok a w){sz fo:Nat}{c:V}{u:Value}(hu:xR ⟨w.heap,ok,m⟩ c u){K:V->Cmd α}
  (hK:∀r y,nI ⟨w.heap,ok,m⟩ r y->(∃b bo n k,u= .slice (some ⟨b,bo,none⟩) n k/\0<=G8 .i64 (n:Int) 1/\G8 .i64 (n:Int) 1<(n:Int)/\y= .pointer (some ⟨b,bo+(G8 .i64 (n:Int) 1).toNat*sz+fo,none⟩))->(K r).post S Q):
  (a8L sz fo c K).post S Q:=by
 unfold a8L;split<;>try trivial
 .rename_i u' xs;refine dJ λhb=>gG λy hy=>?_;obtain⟨hE0,hb'⟩:=ET hb;obtain⟨h0,hget,hlt,hlt'⟩:=Ci hy;obtain⟨ad,cap,hx,hc,hel⟩:=(AZ hE0).1 hu;simp only[H6,and_true]at hx;obtain⟨blk,off,es,rfl,hok,he,hr⟩:=hel _ y hget;refine hK (.dp u' y fo) _ ⟨blk,off+(G8 .i64 (o8 xs) 1).toNat*u'.size,es,rfl,hok,he,hr⟩ ⟨blk,off,xs.length,cap,hx,h0,hlt',?_⟩;rw[hb'];rfl
 .rename_i bx;obtain⟨loc,hm,hview⟩:=hu;refine di ?_;split
  .rename_i ln sz' hSl;refine ed λhb=>⟨λhin=>?_,λ_=>trivial⟩;have hb' :=iI hb;have hin' :=of_decide_eq_true (show decide (0<=G8 .i64 ln 1/\G8 .i64 ln 1<ln)=true from hin);have hbx:=R.box (RH+bx);rw[hSl]at hbx;obtain⟨k',l',e,hm',hl⟩:=hbx;have e' :k' =bx:=o5;subst e';simp only at hm hm';rw[hm]at hm';cases hm';cases loc with
   |nil=>simp only at hl;omega|st b=>cases hl|mp b=>cases hl|arr blk off len cap sz2=>obtain⟨rfl,rfl⟩:=hl;simp only[Loc.view]at hview;refine hK (.ep k' (U8 (G8 .i64 (len:Int) 1)) fo) (.pointer (some ⟨blk,off+(G8 .i64 (len:Int) 1).toNat*sz' +fo,none⟩)) ⟨blk,off,len,cap,sz',hm,by unfold U8;omega,rfl⟩ ⟨blk,off,len,cap,hview,hin'.1,hin'.2,?_⟩;rw[hb']
  refine di ?_;split<;>try trivial
  .rename_i u xs hS;refine dJ λhb=>gG λy hy=>?_;obtain⟨hE0,hb'⟩:=ET hb;obtain⟨h0,hget,hlt,hlt'⟩:=Ci hy;obtain⟨loc',hm',ha⟩:=R.own_arr hS;simp only at hm;rw[hm]at hm';cases hm';cases loc with
   |nil=>obtain⟨e1,_⟩:=ha;subst e1;simp at hlt
   |st b=>cases ha|mp b=>rw[ha.1]at hE0;cases hE0|arr blk off len cap sz2=>obtain⟨_,rfl,rfl,_⟩:=ha;simp only[Loc.view]at hview;refine hK (.ep bx (U8 (G8 .i64 (o8 xs) 1)) fo) (.pointer (some ⟨blk,off+(G8 .i64 (o8 xs) 1).toNat*u.size+fo,none⟩)) ⟨blk,off,xs.length,cap,u.size,hm,hlt,rfl⟩ ⟨blk,off,xs.length,cap,hview,h0,hlt',?_⟩;rw[hb'];rfl
  .rename_i u xs hS;refine dJ λhb=>gG λy hy=>?_;obtain⟨hE0,hb'⟩:=ET hb;obtain⟨h0,hget,hlt,hlt'⟩:=Ci hy;obtain⟨loc',hm',ha,hok⟩:=R.own_frz hS;simp only at hm;rw[hm]at hm';cases hm';obtain⟨ad,cap,hx,hc,hel⟩:=(AZ hE0).1 (qF (C:=⟨w.heap,ok,m⟩) (vw:=none) ha hview (λ_ _ h=>h) hok);simp only[H6,and_true]at hx;obtain⟨blk,off,es,rfl,hok',he,hr⟩:=hel _ y hget;refine hK (.dp u y fo) _ ⟨blk,off+(G8 .i64 (o8 xs) 1).toNat*u.size,es,rfl,hok',he,hr⟩ ⟨blk,off,xs.length,cap,hx,h0,hlt',?_⟩;rw[hb'];rfl
  .rename_i md xs hole hS;refine ed λhb=>gG λy hy=>?_;have hb' :=iI hb;obtain⟨h0,hget,hlt,hlt'⟩:=Ci hy;obtain⟨hel,loc',Os,hm',⟨ha,hho⟩,hk⟩:=R.own_barrs hS;simp only at hm;rw[hm]at hm';cases hm';cases loc with
   |st b=>cases ha|mp b=>cases ha|nil=>obtain⟨e1,_⟩:=ha;subst e1;simp at hlt
   |arr blk off len cap sz' =>obtain⟨rfl,rfl,h3,_⟩:=ha;simp only[Loc.view]at hview;refine hK (.ep bx (U8 (G8 .i64 (o8 xs) 1)) fo) (.pointer (some ⟨blk,off+(G8 .i64 (o8 xs) 1).toNat*md.size+fo,none⟩)) ⟨blk,off,xs.length,cap,md.size,hm,hlt,rfl⟩ ⟨blk,off,xs.length,cap,hview,h0,hlt',?_⟩;rw[hb'];rfl
theorem WY{C:Cx}{c:V}{vs:d4J}(h:iJ C [c] vs):∃v,vs=[v]/\xR C c v:=by obtain⟨v,r,rfl,h1,h2,h3⟩:=h;simp only[iJ]at h3;subst h3;exact⟨v,rfl,h1⟩
theorem SE(R:Rel X cl ch S m ok a w){off sz fo:Nat}{p:V}{x:Value}(hp:nI ⟨w.heap,ok,m⟩ p x){K:V->Cmd α}
  (hK:∀r y,nI ⟨w.heap,ok,m⟩ r y->UX w.heap x off sz fo y->(K r).post S Q):(a4K off sz fo p K).post S Q:=by
 unfold a4K;split<;>try trivial
 .rename_i bx o;obtain⟨blk,hm,rfl⟩:=hp;refine di ?_;split<;>try trivial
  rename_i cs hS;obtain⟨blk',arr,T,hm',hh,hl⟩:=R.own_cells hS;simp only at hm;rw[hm]at hm';cases hm';refine BL λhle=>?_;have hlen:=kU hl;have e:=jM hh (o+off) 1 (by simp at hlen;omega);have hl1:=xn 1 (vT (o+off) hl);split<;>try trivial
  rename_i c hc;rw[hc]at hl1;obtain⟨u,hu,hr⟩:=WY hl1;rw[hu]at e;refine Ze R hr λr y h1 ⟨b,bo,n,k,h2,h3,h4,h5⟩=>hK r y h1 ⟨blk,o,b,bo,n,k,rfl,by rw[e,h2],h3,h4,h5⟩
 .rename_i t z o;obtain⟨blk,o',es,rfl,hb,he,hr⟩:=hp;refine BL λhle=>?_;rw[pI]at hle;have e:=Be he (o+off) 1 hle;have hl1:=xn 1 (vT (o+off) (tV (C:=⟨w.heap,ok,m⟩) hr));split<;>try trivial
  rename_i c hc;rw[hc]at hl1;obtain⟨u,hu,hr⟩:=WY hl1;rw[hu]at e;refine Ze R hr λr y h1 ⟨b,bo,n,k,h2,h3,h4,h5⟩=>hK r y h1 ⟨blk,o' +o,b,bo,n,k,rfl,by rw[ou,e,h2],h3,h4,h5⟩
theorem a4y{C:Cx} :∀{vs:List V} {xs:d4J} (k:Nat),jb C vs xs->b7o vs k= .un\/∃x,xs[k]? =some x/\nI C (b7o vs k) x
 |[],_,k,_=> .inl (by cases k<;>rfl)|v::r,_,0,⟨x,xr,e,h1,h2⟩=> .inr ⟨x,by subst e;rfl,h1⟩|v::r,_,k+1,⟨x,xr,e,h1,h2⟩=>by subst e;rw[List.getElem?_cons_succ];exact a4y k h2
theorem b1Y(R:Rel X cl ch S m ok a w){all:List V}{xall:d4J}(hall:jb ⟨w.heap,ok,m⟩ all xall):∀(ms:List MG) {vs:List V} {xs:d4J} {K:Cmd α}
  (hv:jb ⟨w.heap,ok,m⟩ vs xs) (hK:a9F w.heap xall ms xs->K.post S Q),(dvC all ms vs K).post S Q:=by
 intro ms;induction ms with
 |nil=>
  intro vs xs K hv hK;cases vs with
  |nil=>exact hK trivial|cons v vs=>trivial
 |cons md ms ih=>
  intro vs xs K hv hK;obtain⟨g,md⟩:=md;cases vs with
  |nil=>cases md<;>trivial|cons v vs=>
   obtain⟨x,r,rfl,h1,h2⟩:=hv;cases md
   case dv k off sz fo=>
    unfold dvC;rcases a4y k hall with e|⟨p,hp,hr⟩
    .rw[e];trivial
    .refine SE R hr λr0 y h3 h4=>?_;unfold c3S;split<;>try trivial
     rename_i n i o n' i' o';refine dJ λhb=>⟨λhi=>?_,λ_=>trivial⟩;simp only[D5]at hb;have e1:=iI hb.1;have e2:=iI hb.2;have e3:=iI hi;subst e1;subst e2;subst e3;obtain⟨b1,o1,l1,c1,s1,m1,_,rfl⟩:=h1;obtain⟨b2,o2,l2,c2,s2,m2,_,rfl⟩:=h3;simp only at m1 m2;rw[m1]at m2;cases m2;exact ih h2 λhd=>hK ⟨⟨p,hp,h4⟩,hd⟩
   all_goals
    unfold dvC;exact ih h2 λhd=>hK hd
theorem b2z{α β:Type}{f:α->β}{args:Array α}{u:β}(h:args.toList.map f=[u]):∃y,args=#[y]/\f y=u:=by obtain⟨l⟩:=args;simp only[List.map_eq_cons_iff,List.map_eq_nil_iff]at h;obtain⟨y,r,h1,h2,h3⟩:=h;subst h3;exact⟨y,by rw[h1],h2⟩
theorem a4c{α β:Type}{f:α->β}{args:Array α}{u v:β}(h:args.toList.map f=[u,v]):∃y z,args=#[y,z]/\f y=u/\f z=v:=by obtain⟨l⟩:=args;simp only[List.map_eq_cons_iff,List.map_eq_nil_iff]at h;obtain⟨y,r,h1,h2,z,r',h3,h4,h5⟩:=h;subst h5;subst h3;exact⟨y,z,by rw[h1],h2,h4⟩
theorem b9P(H:FxOk X)(R:Rel X cl ch S m ok a w){c:Call}(ho:o.op= .call c)(hc:c.callee= .builtin .len):(dZ X.E q o).post S (λ_ S' =>kW X cl ch o a w m ok S'):=by
 obtain⟨cal,args,ats⟩:=c;simp only at hc;subst hc;unfold dZ;simp only[ho];refine oz R _ λvs hvs=>?_;split<;>try trivial
 rename_i t rt x hat
 obtain⟨u,r,he,hx,hr⟩:=hvs;simp only[jb]at hr;subst hr;refine lU H λi hi=>?_;have htd:=hi.td;obtain⟨y,rfl,rfl⟩:=b2z he;have h0:ats[0]? =some t:=by
  obtain⟨l⟩:=ats;simp only at hat
  simp[hat]
 have fin:∀(v:V) (n:Nat),nI ⟨w.heap,ok,m⟩ v (.int .i64 n)->(Builtin.len_ ats o.type #[a.eval y]).run X.P w= .ok (.int .i64 n) w->(gu X.E o.dst v).post S (λ_ S' =>kW X cl ch o a w m ok S'):=λv n hv h=>
  bD H R hv (by simp[execOp,ho,resolve,invoke,builtin,h])
 have mapLen:∀{ke e n:Nat},X.P.underlying t=some (.map ke e)->(∃mv,a.eval y= .map mv/\(mv=none->n=0)/\∀blk,mv=some blk->∃es ck,w.heap[blk]? =some (.map es ck)/\es.size=n)->
   (gu X.E o.dst (.i .i64 n)).post S (λ_ S' =>kW X cl ch o a w m ok S'):=λ{ke e n} hu ⟨mv,hv,h1,h2⟩=>by
  refine fin _ n rfl ?_;cases mv with
  |none=>rw[h1 rfl];simp[Builtin.len_,h0,run_underlying hu,hv,goInt]|some blk=>obtain⟨es,ck,h3,h4⟩:=h2 blk rfl;simp[Builtin.len_,h0,run_underlying hu,hv,goInt,a6y h3,h4]
 unfold c3V;split<;>try trivial
 .rename_i l htd';rw[htd']at htd;refine fin _ l.length rfl ?_;simp[Builtin.len_,h0,run_underlying (show X.P.underlying t=some .string from htd),Pz hx,goInt];rfl
 .rename_i e u xs htd';rw[htd']at htd;cases hE0:u.isEnt
  .simp only[cond_false];obtain⟨ad,cap,hv,_⟩:=(AZ hE0).1 hx;simp only[H6,and_true]at hv;refine fin _ xs.length rfl ?_;simp[Builtin.len_,h0,run_underlying (show X.P.underlying t=some (.slice e)from htd),hv,goInt]
  .trivial
 .rename_i ke e u xs htd';rw[htd']at htd;cases hE0:u.isEnt
  .trivial
  .simp only[cond_true];refine mapLen htd ?_;obtain⟨mv,hv,h1,h2⟩:=(b4g hE0).1 hx;exact⟨mv,by simpa using hv,(λe=>by simp[h1 e]),λblk hb=>by obtain⟨_,es,ck,h3,h4,_⟩:=h2 blk hb;exact⟨es,ck,h3,h4⟩⟩
 .rename_i ke e bx htd';rw[htd']at htd;obtain⟨loc,hm,hview⟩:=hx;simp only at hm;refine di ?_;have key:∀{u:Ty} {xs:List u.den},u.isEnt=true->arrOk ⟨w.heap,ok,m⟩ u xs loc->(gu X.E o.dst (.i .i64 (o8 xs))).post S (λ_ S' =>kW X cl ch o a w m ok S'):=λ{u xs} hE0 ha=>by
   refine mapLen htd ?_;cases loc with
   |nil=>exact absurd ha.2 (by simp[hE0])|st b=>cases ha|arr blk off len cap sz=>exact absurd ha.1 (by simp[hE0])|mp b=>simp only[Loc.view]at hview;obtain⟨_,es,ck,h3,h4,_⟩:=ha;exact⟨some b,hview,(λh=>nomatch h),λblk hb=>by cases hb;exact⟨es,ck,h3,h4⟩⟩
  split<;>try trivial
  .rename_i u xs hS;obtain⟨loc',hm',ha⟩:=R.own_arr hS;rw[hm]at hm';cases hm';cases hE0:u.isEnt
   .trivial
   .exact key hE0 ha
  .rename_i u xs hS;obtain⟨loc',hm',ha,_⟩:=R.own_frz hS;rw[hm]at hm';cases hm';cases hE0:u.isEnt
   .trivial
   .exact key hE0 ha
 .rename_i e htd';rw[htd']at htd;have hv:a.eval y= .slice none 0 0:=hx;refine fin _ 0 rfl ?_;simp[Builtin.len_,h0,run_underlying (show X.P.underlying t=some (.slice e)from htd),hv,goInt]
 .rename_i e bx vw htd';rw[htd']at htd;obtain⟨loc,hm,hview⟩:=hx;refine di ?_;split
  .rename_i ln sz' hSl;split<;>try trivial
   have hbx:=R.box (RH+bx);rw[hSl]at hbx;obtain⟨k',l',e',hm',hl⟩:=hbx;have e2:k' =bx:=o5;subst e2;simp only at hm hm';rw[hm]at hm';cases hm';cases loc with
   |nil=>simp only at hl;subst hl;simp only[Loc.view]at hview;refine fin _ 0 rfl ?_;simp[Builtin.len_,h0,run_underlying (show X.P.underlying t=some (.slice e)from htd),hview,goInt]|st b=>cases hl|mp b=>cases hl|arr blk off len cap sz2=>obtain⟨rfl,rfl⟩:=hl;simp only[Loc.view]at hview;refine fin _ len rfl ?_;simp[Builtin.len_,h0,run_underlying (show X.P.underlying t=some (.slice e)from htd),hview,goInt]
  refine di ?_;have key:∀{u:Ty} {xs:List u.den},u.isEnt=false->arrOk ⟨w.heap,ok,m⟩ u xs loc->(gu X.E o.dst (.i .i64 (o8 (jW vw xs)))).post S (λ_ S' =>kW X cl ch o a w m ok S'):=λ{u xs} hE0 ha=>by obtain⟨ad,cap,hv,_⟩:=(AZ hE0).1 (qF (C:=⟨w.heap,ok,m⟩) (ok' :=λ_ _=>True) ha hview (λ_ _ _=>trivial) (λ_ _=>trivial));simp only[H6,and_true]at hv;refine fin _ (jW vw xs).length rfl ?_;simp[Builtin.len_,h0,run_underlying (show X.P.underlying t=some (.slice e)from htd),hv,goInt]
  split<;>try trivial
  .rename_i u xs hS;obtain⟨loc',hm',ha⟩:=R.own_arr hS;simp only at hm;rw[hm]at hm';cases hm';cases hE0:u.isEnt
   .exact key hE0 ha
   .trivial
  .rename_i u xs hS;obtain⟨loc',hm',ha,_⟩:=R.own_frz hS;simp only at hm;rw[hm]at hm';cases hm';cases hE0:u.isEnt
   .exact key hE0 ha
   .trivial
  .rename_i md xs hole hS;split<;>try trivial
   obtain⟨hel,loc',Os,hm',⟨ha,hho⟩,hk⟩:=R.own_barrs hS;simp only at hm;rw[hm]at hm';cases hm';cases loc with
   |st b=>cases ha|mp b=>cases ha|nil=>obtain⟨e1,_⟩:=ha;subst e1;simp only[Loc.view]at hview;refine fin _ 0 rfl ?_;simp[Builtin.len_,h0,run_underlying (show X.P.underlying t=some (.slice e)from htd),hview,goInt]
   |arr blk off len cap sz' =>obtain⟨rfl,rfl,h3,_⟩:=ha;simp only[Loc.view]at hview;refine fin _ xs.length rfl ?_;simp[Builtin.len_,h0,run_underlying (show X.P.underlying t=some (.slice e)from htd),hview,goInt]
theorem a0U(H:FxOk X)(R:Rel X cl ch S m ok a w){c:Call}(ho:o.op= .call c)(hc:c.callee= .builtin .min\/c.callee= .builtin .max):(dZ X.E q o).post S (λ_ S' =>kW X cl ch o a w m ok S'):=by
 obtain⟨cal,args,ats⟩:=c;simp only at hc;rcases hc with rfl|rfl
 all_goals
  unfold dZ;simp only[ho];refine oz R _ λvs hvs=>?_;split<;>try trivial
  rename_i k p k' r;obtain⟨u,r',he,hx,v,r'',he',hy,hr⟩:=hvs;simp only[jb]at hr;subst hr;rw[he']at he;refine dJ λhk=>?_;have hk' :k=k' :=of_decide_eq_true hk;subst hk';obtain⟨y,z,rfl,rfl,rfl⟩:=a4c he
 .refine bD H R (v:=.i k (qG p r)) rfl ?_;simp[execOp,ho,resolve,invoke,builtin,Builtin.min_,Builtin.min2,wL hx,wL hy,qG]
 .refine bD H R (v:=.i k (mZ p r)) rfl ?_;simp[execOp,ho,resolve,invoke,builtin,Builtin.max_,Builtin.max2,wL hx,wL hy,mZ]
end
end Go.GP
namespace Go.GP
def Bnd(d:Int)(o:Option Value)(n:Int):Prop:=(o=none/\n=d)\/∃k,o=some (.int k n)
theorem Iu{P:Program}{w:World}{isS:Bool}{len cap:Nat}{lo hi:Option Value}{x y:Int}(hlo:Bnd 0 lo x)(hhi:Bnd len hi y)(h0:0<=x)(h1:x<=y)(h2:y<=len)(hc:len<=cap):
  (Instr.sliceBounds isS len cap lo hi none).run P w= .ok (x.toNat,y.toNat,cap) w:=by
 have hyc:y<=cap:=o5;have hy0:0<=y:=o5;have e:((y.toNat:Nat):Int)=y:=o5;rcases hlo with⟨rfl,rfl⟩|⟨k,rfl⟩<;>rcases hhi with⟨rfl,rfl⟩|⟨k',rfl⟩
 .simp[Instr.sliceBounds]
 .simp[Instr.sliceBounds,Instr.sliceBound,asIntOf,hy0,hyc]
 .simp[Instr.sliceBounds,Instr.sliceBound,asIntOf,h0,h1]
 .simp[Instr.sliceBounds,Instr.sliceBound,asIntOf,hy0,hyc,h0,e,h1]
theorem a0O{α:Type}{l r:List α}{x y:Int}(h:nH l x y=some r):0<=x/\x<=y/\y<=l.length/\r=(l.take y.toNat).drop x.toNat:=by
 unfold nH at h;split at h
 .rename_i hh;cases h;exact⟨hh.1,hh.2.1,hh.2.2,rfl⟩
 .cases h
theorem G_(l:d4H)(x y:Nat):(⟨l.toArray⟩:ByteArray).extract x y=⟨((l.take y).drop x).toArray⟩:=by apply ByteArray.ext;apply lu;simp[ByteArray.data_extract,oh,kL]
theorem b7C{h:Array Obj}{ok:Nat->Ty->Prop}{t:Ty}(ht:t.isEnt=false){xs:List t.den}{ad:Option Addr}{cap:Nat}{x y:Nat}(hr:rep h ok (.sl t) xs [.slice ad xs.length cap])(h1:x<=y)(h2:y<=xs.length):
  rep h ok (.sl t) ((xs.take y).drop x) [.slice (if cap=x then ad else ad.map (·.add (x*t.size))) (y -x) (cap -x)]:=by
 obtain⟨ad',cap',e,hc,hel⟩:=(AZ ht).1 hr;simp only[H6,qU,and_true,true_and]at e;obtain⟨rfl,rfl⟩:=e;have hl:((xs.take y).drop x).length=y -x:=by simp;omega
 refine(AZ ht).2 ⟨_,cap -x,by rw[hl],by rw[hl];omega,λi z hz=>?_⟩;have hi:i<y -x:=by rw[←hl];exact(aO.1 hz).1
 have hz' :xs[x+i]? =some z:=by
  simp only[P9,aG]at hz;split at hz
  .exact hz
  .cases hz
 obtain⟨blk,off,es,rfl,hb,he,hrp⟩:=hel _ z hz';have hne:cap≠x:=o5;refine⟨blk,off+x*t.size,es,by simp[hne,jw],hb,?_,hrp⟩;rw[←he];congr 1;rw[L8];omega
section
variable {X:Fx} {cl ch:Nat} {S:Sm} {m:Mp} {ok:Nat->Ty->Prop} {a:Act} {w:World} {o:Oper}
theorem xW{C:Cx}{d n:Int}{v:Option V}{u:Option Value}(h:DF d v=some n)(hr:(v=none/\u=none)\/∃c x,v=some c/\u=some x/\nI C c x):Bnd d u n:=by
 rcases hr with⟨rfl,rfl⟩|⟨c,x,rfl,rfl,hr⟩
 .simp[DF]at h;subst h;exact .inl ⟨rfl,rfl⟩
 .cases c<;>simp[DF]at h;subst h;exact .inr ⟨_,by rw[wL hr]⟩
theorem Jq(H:FxOk X)(R:Rel X cl ch S m ok a w){t:TypeId}{x:V}{u:Value}{lo hi:Option V}{lv hv:Option Value}(hx:nI ⟨w.heap,ok,m⟩ x u)
  (hlo:(lo=none/\lv=none)\/∃c y,lo=some c/\lv=some y/\nI ⟨w.heap,ok,m⟩ c y) (hhi:(hi=none/\hv=none)\/∃c y,hi=some c/\hv=some y/\nI ⟨w.heap,ok,m⟩ c y)
  {K:V->Cmd Unit} {Q:Unit->Sm->Prop} (hK:∀v z,nI ⟨w.heap,ok,m⟩ v z->(Instr.sliceAt t u lv hv none).run X.P w= .ok z w->(K v).post S Q):(VU X.E t x lo hi K).post S Q:=by
 unfold VU;cases x<;>try trivial
 case s l=>
  refine lU H λi hi' =>?_;have htd:=hi'.td;split<;>try trivial
  rename_i p q htd' hp hq;rw[htd']at htd;refine gG λr hr=>?_;obtain⟨h0,h1,h2,rfl⟩:=a0O hr;have hb:=Iu (P:=X.P) (w:=w) (isS:=false) (cap:=l.length) (xW hp hlo) (xW hq hhi) h0 h1 h2 (E8 _);refine hK (.s _) (.string ⟨((l.take q.toNat).drop p.toNat).toArray⟩) rfl ?_;have hus:X.P.underlying t=some .string:=htd;have hs:(⟨l.toArray⟩:ByteArray).size=l.length:=rfl;simp[Instr.sliceAt,run_underlying hus,Instr.slice,Pz hx,hs,hb,G_]
 case sl v l=>
  dsimp only;split<;>try trivial
  rename_i n sz p q hsz hp hq;obtain⟨e,j,hut,hj,hjs⟩:=Ls H hsz;refine dJ λhbq=>gG λr hr=>?_;obtain⟨hE0,hbq'⟩:=ET hbq;obtain⟨h0,h1,h2,rfl⟩:=a0O hr;have hx' :rep w.heap ok (.sl v) l [u]:=hx;obtain⟨ad,cap,hu,hc,_⟩:=(AZ hE0).1 hx';simp only[H6,and_true]at hu;subst hu;have hb:=Iu (P:=X.P) (w:=w) (isS:=true) (cap:=cap) (xW hp hlo) (xW hq hhi) h0 h1 h2 hc;refine hK (.sl v _) _ (b7C hE0 (x:=p.toNat) (y:=q.toNat) hx' o5 o5) ?_;simp[Instr.sliceAt,run_underlying hut,Instr.slice,hb,uK hj,hjs,hbq']
 case own bx vw=>
  cases vw with
  |some _=>trivial|none=>
  obtain⟨loc,hm,hview⟩:=hx;refine di ?_;have key:∀{v:Ty} {xs:List v.den} {n sz:Nat} {p q:Int},arrOk ⟨w.heap,ok,m⟩ v xs loc->Lr X.E t=some (false,n,sz)->DF 0 lo=some p->DF (o8 xs) hi=some q->
    (bif szB sz v then Cmd.br (pX p q (o8 xs)) (K (.own bx (some (U8 p,U8 q)))) .fail else .fail).post S Q:=λ{v xs n sz p q} ha hsz hp hq=>by
   obtain⟨e,j,hut,hj,hjs⟩:=Ls H hsz;refine dJ λhbq=>⟨λhr=>?_,λ_=>trivial⟩;obtain⟨hE0,hbq'⟩:=ET hbq;have hr' :=of_decide_eq_true (show decide (0<=p/\p<=q/\q<=o8 xs)=true from hr);obtain⟨h0,h1,h2⟩:=hr';have h2' :q<=(xs.length:Int):=h2;cases loc with
   |st b=>cases ha|mp b=>exact absurd ha.1 (by simp[hE0])|nil=>
    obtain⟨ha,_⟩:=ha;subst ha;simp only[Loc.view]at hview;subst hview;have h2'' :q<=((0:Nat):Int):=by simpa using h2'
    have hb:=Iu (P:=X.P) (w:=w) (isS:=true) (len:=0) (cap:=0) (xW hp hlo) (by have:=xW hq hhi;simpa[o8]using this) h0 h1 h2'' (E8 _);have ep:p=0:=o5;have eq:q=0:=o5;subst ep;subst eq;refine hK (.own bx (some (U8 0,U8 0))) (.slice none 0 0) ⟨.nil,hm,rfl,rfl,rfl⟩ ?_;simp[Instr.sliceAt,run_underlying hut,Instr.slice,hb,uK hj]
   |arr blk off len cap sz' =>
    obtain⟨_,rfl,rfl,hc,_⟩:=ha;simp only[Loc.view]at hview;subst hview;have hb:=Iu (P:=X.P) (w:=w) (isS:=true) (cap:=cap) (xW hp hlo) (xW hq hhi) h0 h1 h2' hc;refine hK (.own bx (some (U8 p,U8 q))) _ ⟨_,hm,by unfold U8;omega,by unfold U8;omega,rfl⟩ ?_;have e1:(if cap=p.toNat then some (⟨blk,off,none⟩:Addr)else some ⟨blk,off+p.toNat*v.size,none⟩)=some (if cap=p.toNat then⟨blk,off,none⟩else⟨blk,off+p.toNat*v.size,none⟩):=by split<;>rfl
    simp[Instr.sliceAt,run_underlying hut,Instr.slice,hb,uK hj,hjs,hbq',jw,U8,e1];by_cases ecp:cap=p.toNat<;>simp[ecp]
  split<;>try trivial
  .rename_i v xs hS;obtain⟨loc',hm',ha⟩:=R.own_arr hS;simp only at hm;rw[hm]at hm';cases hm';split<;>try trivial
   rename_i n sz p q hsz hp hq;exact key ha hsz hp hq
  .rename_i v xs hS;obtain⟨loc',hm',ha,_⟩:=R.own_frz hS;simp only at hm;rw[hm]at hm';cases hm';split<;>try trivial
   rename_i n sz p q hsz hp hq;exact key ha hsz hp hq
theorem b0E(H:FxOk X)(R:Rel X cl ch S m ok a w){t:TypeId}{x:Operand}{lo hi:Option Operand}{q:Nat}(ho:o.op= .slice t x lo hi none)
  (hA:∀bx,lo=none->hi=none->nI ⟨w.heap,ok,m⟩ (.ptr bx 0) (a.eval x)->(m_ X.E (O8 q o.dst) t bx λr=>gu X.E o.dst r).post S (λ_ S' =>kW X cl ch o a w m ok S')):(dZ X.E q o).post S (λ_ S' =>kW X cl ch o a w m ok S'):=by
 unfold dZ;simp only[ho];refine cu R λv hv=>oz R _ λbs hbs=>?_;split<;>try trivial
 .split
  .exact hA _ rfl rfl hv
  refine Jq H R (lv:=none) (hv:=none) hv (.inl ⟨rfl,rfl⟩) (.inl ⟨rfl,rfl⟩) λr z hr hz=>bD H R hr ?_;simp[execOp,ho,hz]
 .rename_i l c;obtain⟨y,r,he,h1,h2⟩:=hbs;simp only[jb]at h2;subst h2;simp at he;subst he;refine Jq H R (lv:=some (a.eval l)) (hv:=none) hv (.inr ⟨_,_,rfl,rfl,h1⟩) (.inl ⟨rfl,rfl⟩) λr z hr hz=>bD H R hr ?_;simp[execOp,ho,hz]
 .rename_i h c;obtain⟨y,r,he,h1,h2⟩:=hbs;simp only[jb]at h2;subst h2;simp at he;subst he;refine Jq H R (lv:=none) (hv:=some (a.eval h)) hv (.inl ⟨rfl,rfl⟩) (.inr ⟨_,_,rfl,rfl,h1⟩) λr z hr hz=>bD H R hr ?_;simp[execOp,ho,hz]
 .rename_i l h c d;obtain⟨y,r,he,h1,y',r',he',h2,h3⟩:=hbs;simp only[jb]at h3;subst h3;subst he';simp at he;obtain⟨rfl,rfl⟩:=he;refine Jq H R (lv:=some (a.eval l)) (hv:=some (a.eval h)) hv (.inr ⟨_,_,rfl,rfl,h1⟩) (.inr ⟨_,_,rfl,rfl,h2⟩) λr z hr hz=>bD H R hr ?_;simp[execOp,ho,hz]
end
end Go.GP
namespace Go.GP
def gy(h:Array Obj)(ok:Nat->Ty->Prop)(t:Ty)(xs:List t.den)(cs:d4J):Prop:=
 cs.length=xs.length*t.size/\∀i x,xs[i]? =some x->rep h ok t x ((cs.drop (i*t.size)).take t.size)
variable {h:Array Obj}{ok:Nat->Ty->Prop}{t:Ty}
theorem gy.nil :gy h ok t [] []:=⟨A7,λi x hi=>by simp at hi⟩
theorem gy.append{xs ys:List t.den}{cs ds:d4J}(hx:gy h ok t xs cs)(hy:gy h ok t ys ds):gy h ok t (xs++ys) (cs++ds):=by
 refine⟨by simp[hx.1,hy.1,L8],λi x hi=>?_⟩;by_cases hlt:i<xs.length
 .rw[N8 hlt]at hi;have h1:=hx.2 i x hi;have hle:(i+1)*t.size<=cs.length:=by rw[hx.1];exact J3 _ o5
  rw[L8,bZ]at hle;rw[List.drop_append_of_le_length o5,Y5 aH];exact h1
 .rw[H5 o5]at hi;have h1:=hy.2 _ x hi;have hle:cs.length<=i*t.size:=by rw[hx.1];exact J3 _ o5
  rw[List.drop_append,iD hle,J9];have:i*t.size -cs.length=(i -xs.length)*t.size:=by rw[hx.1,Nat.sub_mul]
  rw[this];exact h1
variable {cs:d4J}{x:t.den}
theorem gy.one(hr:rep h ok t x cs):gy h ok t [x] cs:=by
 refine⟨by simp[jh hr],λi y hi=>?_⟩;have:i=0:=by have:=(aO.1 hi).1;simp at this;exact this
 subst this;simp at hi;subst hi;have:(List.drop (0*t.size) cs).take t.size=cs:=by simp[←jh hr]
 rw[this];exact hr
variable {xs:List t.den}
theorem gy.mono{h h' :Array Obj}{ok ok' :Nat->Ty->Prop}(hok:∀b t,ok b t->ok' b t)(hh:∀b t,ok b t->h'[b]? =h[b]?)(hr:gy h ok t xs cs):gy h' ok' t xs cs:=
 ⟨hr.1,λi x hi=>iV hok hh (hr.2 i x hi)⟩
theorem gy.rep_all{h:Array Obj}{ok:Nat->Ty->Prop}{t:Ty}{x:t.den}{cs:d4J}(hr:rep h ok t x cs):∀n,gy h ok t (List.replicate n x) ((List.replicate n cs).flatten)
 |0=>by simpa using gy.nil|n+1=>by have:=(gy.one hr).append (gy.rep_all hr n);simpa[jl]using this
theorem gy.one_cell{h:Array Obj}{ok:Nat->Ty->Prop}{t:Ty} :∀{xs:List t.den} {cs:d4J},gy h ok t xs cs->∀v∈cs,v.oneCell' =true
 |[],cs,hr=>by have:=hr.1;simp at this;simp[this]|x::xs,cs,hr=>by
  intro v hv;have h0:=hr.2 0 x rfl;simp only[Nat.zero_mul,mY]at h0;have hl:=hr.1;simp only[H8,L8,bZ]at hl;have hrest:gy h ok t xs (cs.drop t.size):=by refine⟨by simp;omega,λi y hi=>?_⟩;have:=hr.2 (i+1) y (by simpa using hi);rw[aN];rwa[show t.size+i*t.size=(i+1)*t.size by rw[L8];omega]
  rw[←iT t.size cs]at hv;rcases E9.1 hv with hv|hv
  .exact BJ h0 v hv
  .exact gy.one_cell hrest v hv
variable {blk:Nat}{off:Nat}{cap:Nat}{C:Cx}
theorem gy.arrOk(h0:t.isEnt=false)(hr:gy C.h C.ok t xs cs){c:Array Value}{T:TypeId}{f:Nat×Nat}(hb:C.h[blk]? =some (.cells c T f))(hz:fzo t c.size f)
  (hcap:xs.length<=cap) (hfit:off+cap*t.size<=c.size) (he:(c.toList.drop off).take (xs.length*t.size)=cs):Go.GP.arrOk C t xs (.arr blk off xs.length cap t.size):=by
 refine⟨h0,rfl,rfl,hcap,c,T,f,hb,hz,hfit,λi x hi=>?_⟩;have hlt:=(aO.1 hi).1;have hle:(i+1)*t.size<=xs.length*t.size:=J3 _ o5;rw[L8,bZ]at hle;have hle2:xs.length*t.size<=cap*t.size:=J3 _ hcap;refine⟨_,jM hb _ _ o5,?_⟩;have h1:=hr.2 i x hi;rw[←he,kL,jo,aN]at h1;rwa[ja o5]at h1
theorem a0o{blk off len cap sz:Nat}(h:arrOk C t xs (.arr blk off len cap sz)):
  ∃c T f,C.h[blk]? =some (.cells c T f)/\fzo t c.size f/\sz=t.size/\len=xs.length/\len<=cap/\off+cap*sz<=c.size/\gy C.h C.ok t xs ((c.toList.drop off).take (len*sz)):=by
 obtain⟨_,rfl,rfl,h3,c,T,f,hb,hz,hf,hx⟩:=h;refine⟨c,T,f,hb,hz,rfl,rfl,h3,hf,?_,λi x hi=>?_⟩
 .have:xs.length*t.size<=cap*t.size:=J3 _ h3;simp;omega
 .obtain⟨es,he,hr⟩:=hx i x hi;obtain⟨c',T',f',hb',hn',rfl⟩:=rF he;rw[hb]at hb';cases hb';have hlt:=(aO.1 hi).1;have hle:(i+1)*t.size<=xs.length*t.size:=J3 _ o5;rw[L8,bZ]at hle;rw[kL,jo,aN,ja o5];exact hr
def yP(h:Array Obj)(ok:Nat->Ty->Prop)(m:M)(xs:List m.den)(cs:d4J)(Os:List d4K):Prop:=
 cs.length=xs.length*m.size/\Os.length=xs.length/\∀i x,xs[i]? =some x->∃O,Os[i]? =some O/\qY h ok m none x ((cs.drop (i*m.size)).take m.size) O
theorem yP.nil{m:M} :yP h ok m [] [] []:=⟨A7,rfl,λi x hi=>by simp at hi⟩
theorem yP.append{t:M}{xs ys:List t.den}{cs ds:d4J}{Os Ps:List d4K}(hx:yP h ok t xs cs Os)(hy:yP h ok t ys ds Ps):yP h ok t (xs++ys) (cs++ds) (Os++Ps):=by
 refine⟨by simp[hx.1,hy.1,L8],by simp[hx.2.1,hy.2.1],λi x hi=>?_⟩;by_cases hlt:i<xs.length
 .rw[N8 hlt]at hi;obtain⟨O,hO,h1⟩:=hx.2.2 i x hi;have hle:(i+1)*t.size<=cs.length:=by rw[hx.1];exact J3 _ o5
  rw[L8,bZ]at hle;rw[List.drop_append_of_le_length o5,Y5 aH];exact⟨O,by rw[N8 (by rw[hx.2.1];exact hlt)];exact hO,h1⟩
 .rw[H5 o5]at hi;obtain⟨O,hO,h1⟩:=hy.2.2 _ x hi;have hle:cs.length<=i*t.size:=by rw[hx.1];exact J3 _ o5
  rw[List.drop_append,iD hle,J9];have:i*t.size -cs.length=(i -xs.length)*t.size:=by rw[hx.1,Nat.sub_mul]
  rw[this];exact⟨O,by rw[H5 (by rw[hx.2.1];omega),hx.2.1];exact hO,h1⟩
theorem yP.one{t:M}{x:t.den}{O:d4K}(hr:qY h ok t none x cs O):yP h ok t [x] cs [O]:=by
 refine⟨by simp[dC hr],rfl,λi y hi=>?_⟩;have:i=0:=by have:=(aO.1 hi).1;simp at this;exact this
 subst this;simp at hi;subst hi;have:(List.drop (0*t.size) cs).take t.size=cs:=by simp[←dC hr]
 rw[this];exact⟨O,rfl,hr⟩
variable {Os:List d4K}
theorem yP.mono{h h' :Array Obj}{ok ok' :Nat->Ty->Prop}{t:M}{xs:List t.den}(hok:∀b t,ok b t->ok' b t)(hh:∀b t,ok b t->h'[b]? =h[b]?)(hO:∀b∈Os.flatten,h'[b]? =h[b]?)(hr:yP h ok t xs cs Os):yP h' ok' t xs cs Os:=
 ⟨hr.1,hr.2.1,λi x hi=>by obtain⟨O,h1,h2⟩:=hr.2.2 i x hi;exact⟨O,h1,kY hok hh (λb hb=>hO b (fC.2 ⟨O,mM h1,hb⟩)) h2⟩⟩
theorem yP.rep_all{h:Array Obj}{ok:Nat->Ty->Prop}{t:M}{x:t.den}{cs:d4J}(hr:qY h ok t none x cs []):∀n,yP h ok t (List.replicate n x) ((List.replicate n cs).flatten) (List.replicate n [])
 |0=>by simpa using yP.nil|n+1=>by have:=(yP.one hr).append (yP.rep_all hr n);simpa[jl]using this
theorem yP.one_cell{h:Array Obj}{ok:Nat->Ty->Prop}{t:M} :∀{xs:List t.den} {cs:d4J} {Os:List d4K},yP h ok t xs cs Os->∀v∈cs,v.oneCell' =true
 |[],cs,_,hr=>by have:=hr.1;simp at this;simp[this]|x::xs,cs,Os,hr=>by
  intro v hv;obtain⟨O,hO,h0⟩:=hr.2.2 0 x rfl;simp only[Nat.zero_mul,mY]at h0;have hl:=hr.1;simp only[H8,L8,bZ]at hl;have hl2:=hr.2.1;simp only[H8]at hl2;have hrest:yP h ok t xs (cs.drop t.size) (Os.drop 1):=by refine⟨by simp;omega,by simp;omega,λi y hi=>?_⟩;obtain⟨O',hO',this⟩:=hr.2.2 (i+1) y (by simpa using hi);rw[aN];refine⟨O',by rw[P9,Nat.add_comm];exact hO',?_⟩;rwa[show t.size+i*t.size=(i+1)*t.size by rw[L8];omega]
  rw[←iT t.size cs]at hv;rcases E9.1 hv with hv|hv
  .exact qJ h0 v hv
  .exact yP.one_cell hrest v hv
theorem yP.arrs{t:M}{xs:List t.den}(hr:yP h ok t xs cs Os){c:Array Value}{T:TypeId}(hb:h[blk]? =some (.cells c T (0,0)))
  (hcap:xs.length<=cap) (hfit:off+cap*t.size<=c.size) (he:(c.toList.drop off).take (xs.length*t.size)=cs):EX h t.size (λ_ x es O=>qY h ok t none x es O) xs Os (.arr blk off xs.length cap t.size):=by
 refine⟨rfl,rfl,hcap,hr.2.1,c,T,hb,hfit,λi x hi=>?_⟩;have hlt:=(aO.1 hi).1;have hle:(i+1)*t.size<=xs.length*t.size:=J3 _ o5;rw[L8,bZ]at hle;have hle2:xs.length*t.size<=cap*t.size:=J3 _ hcap;obtain⟨O,hO,h1⟩:=hr.2.2 i x hi;refine⟨_,O,hO,jM hb _ _ o5,?_⟩;rw[←he,kL,jo,aN]at h1;rwa[ja o5]at h1
theorem a3k{t:M}{xs:List t.den}{blk off len cap sz:Nat}(k:EX h t.size (λ_ x es O=>qY h ok t none x es O) xs Os (.arr blk off len cap sz)):
  ∃c T,h[blk]? =some (.cells c T (0,0))/\sz=t.size/\len=xs.length/\len<=cap/\off+cap*sz<=c.size/\yP h ok t xs ((c.toList.drop off).take (len*sz)) Os:=by
 obtain⟨rfl,rfl,h3,h7,c,T,hb,hf,hx⟩:=k;refine⟨c,T,hb,rfl,rfl,h3,hf,?_,h7,λi x hi=>?_⟩
 .have:xs.length*t.size<=cap*t.size:=J3 _ h3;simp;omega
 .obtain⟨es,O,hO,he,hr⟩:=hx i x hi;obtain⟨c',T',f',hb',hn',rfl⟩:=rF he;rw[hb]at hb';cases hb';have hlt:=(aO.1 hi).1;have hle:(i+1)*t.size<=xs.length*t.size:=J3 _ o5;rw[L8,bZ]at hle;rw[kL,jo,aN,ja o5];exact⟨O,hO,hr⟩
theorem b1N{α β:Type}(e:α=β)(e' :List α=List β):cast e' []=[]:=by subst e;rfl
theorem D_{h:Array Obj}{ok:Nat->Ty->Prop}{C:Cx} :∀(m:M) (he:m.el=true) {zs:List V} {cs r:d4J},rep h ok m.ty m.ty.zero cs->iJ C zs (cs++r)->WJ m zs=true->qY h ok m none (m.zero he) cs []
 | .dat t,_,_,_,_,hr,_,_=>⟨hr,rfl⟩| .unit,_,_,_,_,hr,_,_=>⟨hr,rfl⟩| .own t,he,zs,cs,r,hr,hz,hn=>by
  have ht:t.isEnt=false:=by simpa[M.el]using he
  obtain⟨a,cap,rfl,_⟩:=(AZ ht).1 hr;unfold WJ at hn;split at hn
  .obtain⟨v,r',e,h1,_⟩:=hz;simp only[bg,J9,H6]at e;obtain⟨rfl,rfl⟩:=e;exact⟨_,rfl,rfl,.nil,h1,⟨rfl,ht⟩,rfl⟩
  .cases hn
 | .owns t,he,zs,cs,r,hr,hz,hn=>by
  obtain⟨a,cap,rfl,_⟩:=(AZ (M.ty_ent (m:=t) (by simpa[M.el]using he))).1 hr;unfold WJ at hn;split at hn
  .obtain⟨v,r',e,h1,_⟩:=hz;simp only[bg,J9,H6]at e;obtain⟨rfl,rfl⟩:=e;have he' :t.el=true:=by simpa[M.el]using he
   refine BI.2 ⟨he',.nil,_,[],rfl,h1,⟨?_,rfl⟩,rfl⟩;exact b1N (M.denEq t he').symm _
  .cases hn
 | .pair p q,he,zs,cs,r,hr,hz,hn=>by
  obtain⟨c,d,rfl,h1,h2⟩:=hr;have he' :p.el=true/\q.el=true:=by simpa[M.el]using he
  have hp:=jh h1;rw[M.ty_size he'.1]at hp;unfold WJ at hn;split at hn
  .rename_i r' hd;obtain⟨_,rfl⟩:=YG _ _ _ hd;cases hb:WJ p zs<;>rw[hb]at hn
   .cases hn
   .have a1:=D_ p he'.1 (r:=d++r) h1 (by simpa using hz) hb;have hz' :=vT p.size hz;rw[show(c++d++r).drop p.size=d++r by rw[←hp,G5,List.drop_left]]at hz';have a2:=D_ q he'.2 (r:=r) h2 hz' hn;refine⟨c,d,[],[],rfl,rfl,?_,?_⟩
    .have:=Vh (M.denEq p he'.1).symm (M.denEq q he'.2).symm (M.denEq (.pair p q) he).symm (p.ty.zero,q.ty.zero);exact(congrArg (λz:p.den×q.den=>qY h ok p none z.1 c []) this).mpr a1
    .have:=Vh (M.denEq p he'.1).symm (M.denEq q he'.2).symm (M.denEq (.pair p q) he).symm (p.ty.zero,q.ty.zero);exact(congrArg (λz:p.den×q.den=>qY h ok q none z.2 d []) this).mpr a2
  .cases hn
 | .box _,he,_,_,_,_,_,_=>by simp[M.el]at he| .ownb _,he,_,_,_,_,_,_=>by simp[M.el]at he| .cell _,he,_,_,_,_,_,_=>by simp[M.el]at he| .fr _,he,_,_,_,_,_,_=>by simp[M.el]at he| .sbx _ _,he,_,_,_,_,_,_=>by simp[M.el]at he| .lp _,he,_,_,_,_,_,_=>by simp[M.el]at he| .dv ..,he,_,_,_,_,_,_=>by simp[M.el]at he| .sit,he,_,_,_,_,_,_=>by simp[M.el]at he| .rp _,he,_,_,_,_,_,_=>by simp[M.el]at he| .fn _ _,he,_,_,_,_,_,_=>by simp[M.el]at he| .ifc _ _,he,_,_,_,_,_,_=>by simp[M.el]at he
theorem OW(z:Array Value):∀n,(madeCells z (n*z.size)).toList=(List.replicate n z.toList).flatten:=by
 intro n;rcases jH z.size with h0|h0
 .have:z=#[]:=by simpa using h0
  subst this;simp[madeCells]
 induction n with
 |zero=>simp[madeCells]|succ n ih=>
  rw[zu,lg,←ih];simp only[madeCells,nK,Array.toList_range,List.flatten_cons,List.flatten_nil,G7];rw[L8,bZ,List.range_add,bJ,xJ];congr 1;apply nP
  .simp
  .intro i h1 h2;simp at h1 h2;simp[Nat.mod_eq_of_lt h1,Nat.add_mod,h1,getElem!_pos]
theorem Lt{E:Env}{t e:Nat}{u:Ty}(h:Hg E t=some (e,u)):u.isEnt=false:=by
 unfold Hg at h;split at h<;>try (cases h;done)
 split at h<;>try (cases h;done)
 split at h<;>try (cases h;done)
 split at h<;>try (cases h;done)
 rename_i u' _;cases hu:u'.isEnt
 .revert h;generalize (Nat.beq _ _&&Nat.ble _ _)=b;cases b<;>simp[hu];rintro _ rfl;exact hu
 .simp[hu]at h
theorem Bi{X:Fx}(H:FxOk X){t e:Nat}{u:Ty}(h:Hg X.E t=some (e,u)):
  ∃j z inf,X.P.underlying t=some (.slice e)/\TiOk X.P e j/\X.P.info? e=some inf/\inf.size=u.size/\j.size=u.size/\inf.bytes<=65536/\inf.zero=some z/\rep #[] (λ_ _=>False) u u.zero z.cells.toList:=by
 unfold Hg at h;cases hi:fP X.E.tt t with
 |none=>simp[hi]at h|some i=>
  have htd:=(H.tt t i hi).td;simp only[hi]at h;cases hd:i.td<;>simp only[hd]at h<;>try (simp at h;done)
  rename_i e';rw[hd]at htd;cases hj:fP X.E.tt e' with
  |none=>simp[hj]at h|some j=>
   simp only[hj]at h;cases hy:j.ty with
   |none=>simp[hy]at h|some u' =>
    simp only[hy]at h;cases hb:(Nat.beq u'.size j.size&&Nat.ble j.bytes 65536&&!u'.isEnt)
    .simp only[hb,cond_false]at h;cases h
    .simp only[hb,cond_true,H7,lI]at h;obtain⟨rfl,rfl⟩:=h;simp only[D5]at hb;have h1:=iI hb.1.1;have h2:=Y9 hb.1.2;obtain⟨inf,a1,a2,a3,a4,a5⟩:=(H.tt e' j hj).info;obtain⟨b1,z,b2,b3⟩:=a5 u' hy;exact⟨j,z,inf,htd,H.tt _ _ hj,a1,o5,o5,o5,b2,b3⟩
variable {q:Nat}{w1:World}{T:d4K}
section
variable {X:Fx} {cl ch:Nat} {S:Sm} {m:Mp} {ok:Nat->Ty->Prop} {a:Act} {w:World} {o:Oper}
theorem a1i(h:rep #[] (λ_ _=>False) t x cs):rep C.h C.ok t x cs:=
 iV (λ_ _ h=>h.elim) (λ_ _ h=>h.elim) h
theorem Ib(H:FxOk X){v vv:V}{Q:Unit->Sm->Prop}
  (hK:∀n,n=O8 q o.dst->CB*q<=n->n+64<=CB*q+CB->S (aS+n)= .undef->(gu X.E o.dst vv).post (upd S (aS+n) v) Q):
  (xQ (O8 q o.dst) v (gu X.E o.dst vv)).post S Q:=by
 refine tK λhn=>?_;cases hd:o.dst with
 |none=>have hin:=uz H (q:=q) none (λt h=>by cases h);rw[hd]at hn;have:=hK (O8 q none) (by rw[hd]) hin.1 hin.2 hn;rwa[hd]at this|some t=>
  cases hb:a0S X.E t with
  |false=>unfold gu;simp only[hb,cond_false];trivial|true=>have hin:=uz H (q:=q) (some t) (λt' h=>by cases h;exact(Ea hb).1);rw[hd]at hn;have:=hK (O8 q (some t)) (by rw[hd]) hin.1 hin.2 hn;rwa[hd]at this
theorem b0r(H:FxOk X){v vv u:V}{Q:Unit->Sm->Prop}
  (hK:∀n,n=O8 q o.dst->CB*q<=n->n+64<=CB*q+CB->S (aS+n)= .undef->(Cmd.set (aS+(RH+n)) u (gu X.E o.dst vv)).post (upd S (aS+n) v) Q):
  (xQ (O8 q o.dst) v (.set (aS+(RH+O8 q o.dst)) u (gu X.E o.dst vv))).post S Q:=by
 refine tK λhn=>?_;cases hd:o.dst with
 |none=>have hin:=uz H (q:=q) none (λt h=>by cases h);rw[hd]at hn;have:=hK (O8 q none) (by rw[hd]) hin.1 hin.2 hn;rwa[hd]at this|some t=>
  cases hb:a0S X.E t with
  |false=>refine jC ?_;unfold gu;simp only[hb,cond_false];trivial|true=>have hin:=uz H (q:=q) (some t) (λt' h=>by cases h;exact(Ea hb).1);rw[hd]at hn;have:=hK (O8 q (some t)) (by rw[hd]) hin.1 hin.2 hn;rwa[hd]at this
theorem a6K(R:Rel X cl ch S m ok a w)(hos:w1.os=w.os)(htp:w1.tape=w.tape)(hout:w1.output=w.output)(hh:w1.heap=w.heap)
  {u:Ty} (ht:u.isEnt=false) {xs:List u.den} {cs:d4J} {e:TypeId} {c:Array Value} {cap n:Nat} (hr:gy w.heap ok u xs cs)
  (hcap:xs.length<=cap) (hfit:cap*u.size<=c.size) (he:c.toList.take (xs.length*u.size)=cs) (hcl:cl<=n) (hch:n<ch) (hn:S (aS+n)= .undef) {f:Nat×Nat} (hz:fzo u c.size f):
  Rel X cl ch (upd S (aS+n) (.barr u xs)) (oG m n (.arr w.heap.size 0 xs.length cap u.size) []) ok a (w1.alloc (.cells c e f)):=by
 have R1:Rel X cl ch S m ok a w1:=R.same hos htp hout hh;have hblk:(w1.alloc (.cells c e f)).heap[w.heap.size]? =some (.cells c e f):=by rw[←hh];exact heap_alloc_new w1 _
 refine R1.new hn hcl hch A7 (by simp[Y1,hh]) ⟨_,bi _ _ _ _,?_⟩;refine gy.arrOk (cs:=cs) ht (hr.mono (λ_ _ h=>h) (λb t hb=>?_)) hblk hz hcap o5 (by simpa using he);have:=R.okLt b t hb;show(w1.heap.push (.cells c e f))[b]? =_;rw[hh];exact zJ _ _ this
theorem Qu(H:FxOk X)(R:Rel X (CB*q) (CB*q+CB) S m ok a w)(hos:w1.os=w.os)(htp:w1.tape=w.tape)(hout:w1.output=w.output)(hh:w1.heap=w.heap)
  {u:Ty} (ht:u.isEnt=false) {xs:List u.den} {cs:d4J} {e:TypeId} {c:Array Value} {cap:Nat} (hr:gy w.heap ok u xs cs)
  (hcap:xs.length<=cap) (hfit:cap*u.size<=c.size) (he:c.toList.take (xs.length*u.size)=cs) {w0:World} {m0:Mp} {ok0:Nat->Ty->Prop} (hm:∀k l,m0 k=some l->m k=some l) (hok:∀b t,ok0 b t->ok b t)
  {f:Nat×Nat} (hz:fzo u c.size f)
  (run:(execOp a.eval o).run X.P w0= .ok (.value (.slice (some ⟨w.heap.size,0,none⟩) xs.length cap)) (w1.alloc (.cells c e f))):
  (xQ (O8 q o.dst) (.barr u xs) (gu X.E o.dst (.own (O8 q o.dst) none))).post S (λ_ S' =>kW X (CB*q) (CB*q+CB) o a w0 m0 ok0 S'):=by
 refine Ib H λn e1 h1 h2 hn=>?_;rw[←e1];clear e1;generalize CB*q=Z at*;have R' :=a6K R hos htp hout hh ht (e:=e) hr hcap hfit he h1 (by show n<Z+1000000;change n+64<=Z+1000000 at h2;omega) hn hz;refine yg H R' (λk l h=>?_) hok ⟨_,bi _ _ _ _,rfl⟩ run;by_cases ek:k=n
 .subst ek;have:=R.fresh k h1 hn;have h3:=hm _ _ h;rw[this]at h3;cases h3
 .rw[jV _ _ _ ek];exact hm _ _ h
theorem WH(R:Rel X cl ch S m ok a w)(hT:Tk X S m ok w T)(hos:w1.os=w.os)(htp:w1.tape=w.tape)(hout:w1.output=w.output)(hh:w1.heap=w.heap)
  {md:M} (hel:md.el=true) {xs:List md.den} {cs:d4J} {Os:List d4K} {e:TypeId} {c:Array Value} {cap n:Nat} (hr:yP w.heap ok md xs cs Os) (hnd:Os.flatten.Nodup) (hO:∀b∈Os.flatten,b∈T)
  (hcap:xs.length<=cap) (hfit:cap*md.size<=c.size) (he:c.toList.take (xs.length*md.size)=cs) (hcl:cl<=n) (hch:n<ch) (hn:S (aS+n)= .undef):
  Rel X cl ch (upd S (aS+n) (.barrs md xs none)) (oG m n (.arr w.heap.size 0 xs.length cap md.size) Os.flatten) ok a (w1.alloc (.cells c e)):=by
 have R1:Rel X cl ch S m ok a w1:=R.same hos htp hout hh;have T1:Tk X S m ok w1 T:=⟨hT.nodup,λb hb=>by rw[hh];exact hT.free b hb⟩;have hblk:(w1.alloc (.cells c e)).heap[w.heap.size]? =some (.cells c e (0,0)):=by rw[←hh];exact heap_alloc_new w1 _
 have hold:∀b,b<w.heap.size->(w1.alloc (.cells c e)).heap[b]? =w.heap[b]?:=λb hb=>by show(w1.heap.push (.cells c e))[b]? =_;rw[hh];exact zJ _ _ hb
 refine R1.newK T1 hn hcl hch A7 (by simp[Y1,hh]) hnd hO ⟨hel,_,Os,bi _ _ _ _,?_,A7⟩;exact⟨yP.arrs (cs:=cs) (hr.mono (λ_ _ h=>h) (λb t hb=>hold b (R.okLt b t hb)) (λb hb=>hold b (hT.free b (hO b hb)).2.1)) hblk hcap o5 (by simpa using he),trivial⟩
theorem Zr(H:FxOk X)(R:Rel X (CB*q) (CB*q+CB) S m ok a w)(hT:Tk X S m ok w T)(hos:w1.os=w.os)(htp:w1.tape=w.tape)(hout:w1.output=w.output)(hh:w1.heap=w.heap)
  {md:M} (hel:md.el=true) {xs:List md.den} {cs:d4J} {Os:List d4K} {e:TypeId} {c:Array Value} {cap:Nat} (hr:yP w.heap ok md xs cs Os) (hnd:Os.flatten.Nodup) (hO:∀b∈Os.flatten,b∈T)
  (hcap:xs.length<=cap) (hfit:cap*md.size<=c.size) (he:c.toList.take (xs.length*md.size)=cs) {w0:World} {m0:Mp} {ok0:Nat->Ty->Prop} (hm:∀k l,m0 k=some l->m k=some l) (hok:∀b t,ok0 b t->ok b t)
  (run:(execOp a.eval o).run X.P w0= .ok (.value (.slice (some ⟨w.heap.size,0,none⟩) xs.length cap)) (w1.alloc (.cells c e))):
  (xQ (O8 q o.dst) (.barrs md xs none) (gu X.E o.dst (.own (O8 q o.dst) none))).post S (λ_ S' =>kW X (CB*q) (CB*q+CB) o a w0 m0 ok0 S'):=by
 refine Ib H λn e1 h1 h2 hn=>?_;rw[←e1];clear e1;generalize CB*q=Z at*;have R' :=WH R hT hos htp hout hh (e:=e) hel hr hnd hO hcap hfit he h1 (by show n<Z+1000000;change n+64<=Z+1000000 at h2;omega) hn;refine yg H R' (λk l h=>?_) hok ⟨_,bi _ _ _ _,rfl⟩ run;by_cases ek:k=n
 .subst ek;have:=R.fresh k h1 hn;have h3:=hm _ _ h;rw[this]at h3;cases h3
 .rw[jV _ _ _ ek];exact hm _ _ h
theorem a4v(H:FxOk X)(R:Rel X (CB*q) (CB*q+CB) S m ok a w)(hT:Tk X S m ok w T)(hos:w1.os=w.os)(htp:w1.tape=w.tape)(hout:w1.output=w.output)(hh:w1.heap=w.heap)
  {md:M} (hel:md.el=true) {xs:List md.den} {cs:d4J} {Os:List d4K} {e:TypeId} {c:Array Value} {cap:Nat} (hr:yP w.heap ok md xs cs Os) (hnd:Os.flatten.Nodup) (hO:∀b∈Os.flatten,b∈T)
  (hcap:xs.length<=cap) (hfit:cap*md.size<=c.size) (he:c.toList.take (xs.length*md.size)=cs) {w0:World} {m0:Mp} {ok0:Nat->Ty->Prop} (hm:∀k l,m0 k=some l->m k=some l) (hok:∀b t,ok0 b t->ok b t)
  (run:(execOp a.eval o).run X.P w0= .ok (.value (.slice (some ⟨w.heap.size,0,none⟩) xs.length cap)) (w1.alloc (.cells c e))):
  (xQ (O8 q o.dst) (.barrs md xs none) (.set (aS+(RH+O8 q o.dst)) (.blen (o8 xs) md.size) (gu X.E o.dst (.own (O8 q o.dst) none)))).post S (λ_ S' =>kW X (CB*q) (CB*q+CB) o a w0 m0 ok0 S'):=by
 refine b0r H λn e1 h1 h2 hn=>?_;refine jC ?_;rw[←e1];clear e1;generalize CB*q=Z at*;have R' :=WH R hT hos htp hout hh (e:=e) hel hr hnd hO hcap hfit he h1 (by show n<Z+1000000;change n+64<=Z+1000000 at h2;omega) hn;refine yg H (R'.mark (lV _ _ _)) (λk l h=>?_) hok ⟨_,bi _ _ _ _,rfl⟩ run;by_cases ek:k=n
 .subst ek;have:=R.fresh k h1 hn;have h3:=hm _ _ h;rw[this]at h3;cases h3
 .rw[jV _ _ _ ek];exact hm _ _ h
theorem a2d(H:FxOk X)(R:Rel X (CB*q) (CB*q+CB) S m ok a w){t:TypeId}{l c:Operand}(ho:o.op= .makeSlice t l c):(dZ X.E q o).post S (λ_ S' =>kW X (CB*q) (CB*q+CB) o a w m ok S'):=by
 unfold dZ;simp only[ho];split
 .rename_i md hom;split<;>try trivial
  rename_i e u het;obtain⟨j,z,inf,hu,hj,h1,h2,h3,h4,h5,h6⟩:=Bi H het;have hz:=jh h6;refine cu R λv hv=>?_;split<;>try trivial
  rename_i k n;refine ed λhc=>?_;simp only[D5]at hc;obtain⟨⟨hs,hsz⟩,hza⟩:=hc;split<;>try trivial
  rename_i hel;obtain⟨hel,rfl⟩:=hel;refine gG λxs hxs=>?_;have hec:a.eval c=a.eval l:=by
   unfold g_ at hs;split at hs
   .have:=iI hs;subst this;rfl
   .cases hs
  unfold tq at hxs;split at hxs
  .rename_i hh;cases hxs;have e1:=wL hv;have e2:=hec.trans e1;have hms:=M.ty_size hel;have hby:(inf.bytes:Int)*n<=65536*1073741824:=by
    have:inf.bytes*n.toNat<=65536*1073741824:=Nat.mul_le_mul h4 o5;have e:(n.toNat:Int)=n:=o5;rw[←e,←ui];generalize inf.bytes*n.toNat=p at*;omega
   have hrun:=run_make (P:=X.P) w t e inf z hu h1 h5 k k n n hh.1 (fV _) o5 o5;have hflat:=OW z.cells n.toNat
   have hzs:z.cells.size=md.ty.size:=by simpa using hz
   have hzero:qY w.heap ok md none (md.zero hel) z.cells.toList []:=by
    unfold a9D at hza;rw[het]at hza;simp only at hza;cases hj2:fP X.E.tt e with
    |none=>rw[hj2]at hza;cases hza|some j2=>
     rw[hj2]at hza;simp only at hza;cases hb:Nat.beq j2.zero.length j2.size<;>rw[hb]at hza
     .cases hza
     .obtain⟨inf2,a1,a2,a3,a4,a5⟩:=(H.tt e j2 hj2).info;rw[h1]at a1;cases a1;obtain⟨z2,b1,b2⟩:=a4 (iI hb);rw[h5]at b1;cases b1;exact D_ md hel (r:=[]) (a1i (C:=⟨w.heap,ok,m⟩) h6) (by simpa using b2) hza
   refine a4v H R (T:=[]) Tk.nil rfl rfl rfl rfl (cs:=(List.replicate n.toNat z.cells.toList).flatten) (c:=madeCells z.cells (n.toNat*inf.size)) (cap:=n.toNat) (e:=e) hel (yP.rep_all hzero _) A7 A7 A7 (by simp[size_madeCells,h2,hms]) ?_ (λ_ _ h=>h) (λ_ _ h=>h) (w1:=w) ?_
   .rw[h2,←hzs,hflat];rw[Y6 (by simp[List.length_flatten,hzs,hms])]
   .simp[execOp,ho,e1,e2,hrun]
  .cases hxs
 split<;>try trivial
 rename_i e u het;obtain⟨j,z,inf,hu,hj,h1,h2,h3,h4,h5,h6⟩:=Bi H het;have hz:=jh h6;have key:∀{k k' :IntKind} {n n' :Int},a.eval l= .int k n->a.eval c= .int k' n' ->0<=n->n<=n' ->n' <=1073741824->
   (xQ (O8 q o.dst) (.barr u (List.replicate n.toNat u.zero)) (gu X.E o.dst (.own (O8 q o.dst) none))).post S (λ_ S' =>kW X (CB*q) (CB*q+CB) o a w m ok S'):=λ{k k' n n'} e1 e2 g0 g1 g2=>by
  have hby:(inf.bytes:Int)*n' <=65536*1073741824:=by have:inf.bytes*n'.toNat<=65536*1073741824:=Nat.mul_le_mul h4 o5;have e:(n'.toNat:Int)=n' :=o5;rw[←e,←ui];generalize inf.bytes*n'.toNat=p at*;omega
  have hrun:=run_make (P:=X.P) w t e inf z hu h1 h5 k k' n n' g0 g1 o5 o5;have hflat:=OW z.cells n'.toNat
  have hzs:z.cells.size=u.size:=by simpa using hz
  refine Qu H R rfl rfl rfl rfl (Lt het) (cs:=(List.replicate n.toNat z.cells.toList).flatten) (c:=madeCells z.cells (n'.toNat*inf.size)) (cap:=n'.toNat) (e:=e) (gy.rep_all (a1i (C:=⟨w.heap,ok,m⟩) h6) _) aH (by simp[size_madeCells,h2]) ?_ (λ_ _ h=>h) (λ_ _ h=>h) (w1:=w) (.inl rfl) ?_
  .rw[h2,←hzs,hflat];have:n'.toNat=n.toNat+(n'.toNat -n.toNat):=o5;rw[this,←List.replicate_append_replicate,lg,Y5 (by simp[List.length_flatten]),Y6 (by simp[List.length_flatten])]
  .simp[execOp,ho,e1,e2,hrun]
 refine cu R λv hv=>?_;split<;>try trivial
 rename_i k n;cases hs:g_ l c
 .simp only[cond_false];refine cu R λv' hv' =>?_;split<;>try trivial
  rename_i k' n';refine⟨λhr=>gG λxs hxs=>?_,λ_=>trivial⟩;have hr' :=of_decide_eq_true (show decide (0<=n/\n<=n' /\n' <=1073741824)=true from hr);unfold tq at hxs;split at hxs
  .cases hxs;exact key (wL hv) (wL hv') hr'.1 hr'.2.1 hr'.2.2
  .cases hxs
 .simp only[cond_true];refine gG λxs hxs=>?_;have hec:a.eval c=a.eval l:=by
   unfold g_ at hs;split at hs
   .have:=iI hs;subst this;rfl
   .cases hs
  unfold tq at hxs;split at hxs
  .rename_i hh;cases hxs;exact key (wL hv) (hec.trans (wL hv)) hh.1 (fV _) hh.2
  .cases hxs
end
end Go.GP
namespace Go.GP
theorem Kq:∀(vs:d4J) (k off:Nat) (cs:Array Value),off+k+vs.length<=cs.size->
  (vs.zipIdx k).foldl (λcs (x:Value×Nat)=>cs.setIfInBounds (off+x.2) x.1) cs=(dP (off+k) vs cs.toList).toArray
 |[],k,off,cs,h=>by simp[dP]|v::vs,k,off,cs,h=>by
  simp only[List.zipIdx_cons,dA];rw[Kq vs (k+1) off (cs.setIfInBounds (off+k) v) (by simp only[H8]at h;rw[Array.size_setIfInBounds];omega)];congr 1;simp only[H8]at h;have hsz:cs.toList.length=cs.size:=rfl;apply ai;intro i;rw[uM (by rw[nG,eH];omega),uM (by rw[H8];omega)];simp only[nG,H8,U0];by_cases h1:i<off+k
  .rw[if_pos (show i<off+(k+1) by omega),if_pos h1,if_neg (show ¬off+k=i by omega)]
  .rw[if_neg h1];by_cases h2:i=off+k
   .subst h2;rw[if_pos (show off+k<off+(k+1) by omega),if_pos rfl,if_pos (show off+k<cs.toList.length by omega),if_pos (show off+k<off+k+(vs.length+1) by omega)];simp
   .rw[if_neg (show ¬i<off+(k+1) by omega)];by_cases h3:i<off+(k+1)+vs.length
    .rw[if_pos h3,if_pos (show i<off+k+(vs.length+1) by omega)];rw[show i -(off+k)=(i -(off+(k+1)))+1 by omega];simp
    .rw[if_neg h3,if_neg (show ¬i<off+k+(vs.length+1) by omega),if_neg (show ¬off+k=i by omega)]
theorem a2V(v:Value)(off:Nat)(cs:Array Value)(h:off+v.cells.size<=cs.size):
  v.cells.zipIdx.foldl (λcs (c,j)=>cs.setIfInBounds (off+j) c) cs=(dP off v.cells.toList cs.toList).toArray:=by
 have:=Kq v.cells.toList 0 off cs (by simpa using h);rw[dL]at this;rw[←this,←Array.foldl_toList,Array.toList_zipIdx]
theorem Vt{place:Nat->Option (Nat×Nat)}{cs:Array Value}{i off size:Nat}{v:Value}{rest:List (Nat×Value)}(hp:place i=some (off,size))(hs:v.cells.size=size)(hf:off+v.cells.size<=cs.size):
  Instr.fill place cs ((i,v)::rest)=Instr.fill place (dP off v.cells.toList cs.toList).toArray rest:=by
 have h2:¬(v.cells.size≠size\/off+v.cells.size>cs.size):=o5;simp only[Instr.fill,hp];rw[if_neg (by simpa using h2),a2V v off cs hf]
theorem YO{size:Nat} :∀(vs:d4J) (n:Nat) (cs:Array Value),(∀v∈vs,v.cells.size=size)->cs.size=(n+vs.length)*size->
  Instr.fill (λi=>some (i*size,size)) cs ((List.range' n vs.length).zip vs)=some (cs.toList.take (n*size)++vs.flatMap (λv=>v.cells.toList)).toArray
 |[],n,cs,_,h=>by simp only[fQ,dL]at h;have:cs.toList.take (n*size)=cs.toList:=Y6 (by rw[←h];exact E8 _);simp[Instr.fill,this]|v::vs,n,cs,hv,h=>by
  have h1:=hv v A7;simp only[H8]at h;have e1:(n+(vs.length+1))*size=n*size+size+vs.length*size:=by rw[L8,L8];omega
  simp only[H8,nR,iU];rw[Vt (off:=n*size) (size:=size) rfl h1 o5];rw[YO vs (n+1) _ (λu hu=>hv u (by simp[hu])) (by have:=zW (p:=n*size) (us:=v.cells.toList) (L:=cs.toList) aH;simp only[bC,this];rw[L8,L8];simp;omega)]
  congr 2;simp only[List.flatMap_cons];rw[←G5];congr 1;unfold dP;have hsz:cs.toList.length=cs.size:=rfl;have h1' :v.cells.toList.length=size:=h1;rw[L8,bZ,Y5 (by rw[I9,fB,h1'];omega)];rw[Y6 (by rw[I9,fB,h1'];omega)]
theorem PI{P:Program}{w:World}{t e:TypeId}{inf:TypeInfo}{z:Value}{n sz:Nat}{parts:Array (Nat×Value)}{F:Array Value}(hu:P.underlying t=some (.slice e))(hi:P.info? e=some inf)(hs:inf.size=sz)(hz:inf.zero=some z)
  (hle:n*sz<=16777216) (hf:∀cs:Array Value,cs.size=n*sz->Instr.fill (λi=>some (i*sz,sz)) cs parts.toList=some F):
  (Instr.buildSlice t n parts).run P w= .ok (.slice (some ⟨w.heap.size,0,none⟩) n n) (w.alloc (.cells F e)):=by
 subst hs;have hsz:(sizeOf e).run P w= .ok inf.size w:=by simp[sizeOf,typeInfo,hi]
 have hnle:¬(n*inf.size>2^24):=by show ¬(n*inf.size>16777216);omega
 unfold Instr.buildSlice;simp only[I4,run_underlying hu,J5,hsz,if_neg hnle];generalize n*inf.size=N at*;have fin:∀zero:Array Value,((match Instr.fill (λi=>some (i*inf.size,inf.size)) ((Array.range N).map (zero[·% zero.size]!)) parts.toList with
   |some cells=>(do pure (Value.slice (some (←newRow e cells)) n n):Sem Value)
   |_=>stuck "buildSlice: a part of the wrong size"):Sem Value).run P w= .ok (.slice (some ⟨w.heap.size,0,none⟩) n n) (w.alloc (.cells F e)):=λzero=>by
  rw[hf _ A7];simp[newRow]
 by_cases hn:N=0
 .rw[if_pos hn];simp only[I4,au,J5];exact fin _
 .rw[if_neg hn];have hzv:(zeroValue e).run P w= .ok z w:=by simp[zeroValue,typeInfo,hi,hz]
  simp only[I4,hzv,au,J5];exact fin _
variable {t:TypeId}
section
variable {X:Fx} {cl ch:Nat} {S:Sm} {m:Mp} {ok:Nat->Ty->Prop} {a:Act} {w:World} {o:Oper}
theorem Nr{α:Type}{Q:α->Sm->Prop}(u:Ty):∀(is:d4K) (vs:List V) {us:d4J} (n k:Nat) {K:List u.den->Cmd α} {S:Sm} {ok:Nat->Ty->Prop} (R:Rel X cl ch S m ok a w) (hl:is.length=us.length)
  (hv:jb ⟨w.heap,ok,m⟩ vs us)
  (hK:∀S' ok' xs,Rel X cl ch S' m ok' a w->(∀b t,ok b t->ok' b t)->us.length=k->is=List.range' n us.length->(∀v∈us,v.cells.size=u.size)->xs.length=us.length->gy w.heap ok' u xs (us.flatMap λv=>v.cells.toList)->(K xs).post S' Q),
  (AC u (is.zip vs) n k K).post S Q
 |[],vs,us,n,k,K,S,ok,R,hl,hv,hK=>by
  have:us=[]:=by cases us<;>simp at hl ⊢
  subst this;simp only[qR];cases k with
  |zero=>unfold AC;exact hK S ok [] R (λ_ _ h=>h) rfl rfl A7 rfl gy.nil|succ k=>unfold AC;trivial
 |i::is,vs,us,n,k,K,S,ok,R,hl,hv,hK=>by
  cases us with
  |nil=>simp at hl|cons x us=>
  cases vs with
  |nil=>simp[jb]at hv|cons v vs=>
  obtain⟨x',r,e,h1,h2⟩:=hv;simp only[H6]at e;obtain⟨rfl,rfl⟩:=e;simp only[iU];cases k with
  |zero=>unfold AC;trivial|succ k=>
  unfold AC;refine dJ λhi=>vY h1 λcs hcs=>?_;have hi' :=iI hi;subst hi';refine La (T:=[]) u R Tk.nil hcs λS1 ok1 y q ws ws' R1 T1 k1 s1 e1 g1 l1=>?_;cases q with
  |cons _ _=>trivial|nil=>
  simp only[iJ]at l1;subst l1;simp only[G7]at e1;refine Nr u is vs (i+1) k R1 (by simpa using hl) (PD k1 h2) λS2 ok2 ys R2 k2 c1 c2 c3 c4 c5=>?_;refine hK S2 ok2 (y::ys) R2 (λb t h=>k2 b t (k1 b t h)) (by simp[c1]) ?_ ?_ (by simp[c4]) ?_
  .simp[nR,c2]
  .intro z hz;rcases D6.1 hz with rfl|hz
   .have:=jh g1;rw[←e1]at this;simpa using this
   .exact c3 z hz
  .have:=(gy.one (iV k2 (λ_ _ _=>rfl) g1)).append c5;simpa[e1]using this
theorem JW{α:Type}{Q:α->Sm->Prop}(md:M):∀(is:d4K) (vs:List V) {us:d4J} (n k:Nat) {K:List md.den->Cmd α} {S:Sm} {ok:Nat->Ty->Prop} {T:d4K} (R:Rel X cl ch S m ok a w) (hT:Tk X S m ok w T) (hl:is.length=us.length)
  (hv:jb ⟨w.heap,ok,m⟩ vs us)
  (hK:∀S' ok' xs Os,Rel X cl ch S' m ok' a w->Tk X S' m ok' w (T++Os.flatten)->(∀b t,ok b t->ok' b t)->us.length=k->is=List.range' n us.length->(∀v∈us,v.cells.size=md.size)->xs.length=us.length->yP w.heap ok' md xs (us.flatMap λv=>v.cells.toList) Os->(K xs).post S' Q),
  (xX md (is.zip vs) n k K).post S Q
 |[],vs,us,n,k,K,S,ok,T,R,hT,hl,hv,hK=>by
  have:us=[]:=by cases us<;>simp at hl ⊢
  subst this;simp only[qR];cases k with
  |zero=>unfold xX;exact hK S ok [] [] R (by simpa using hT) (λ_ _ h=>h) rfl rfl A7 rfl yP.nil|succ k=>unfold xX;trivial
 |i::is,vs,us,n,k,K,S,ok,T,R,hT,hl,hv,hK=>by
  cases us with
  |nil=>simp at hl|cons x us=>
  cases vs with
  |nil=>simp[jb]at hv|cons v vs=>
  obtain⟨x',r,e,h1,h2⟩:=hv;simp only[H6]at e;obtain⟨rfl,rfl⟩:=e;simp only[iU];cases k with
  |zero=>unfold xX;trivial|succ k=>
  unfold xX;refine ed λhi=>vY h1 λcs hcs=>?_;have hi' :=iI hi;subst hi';refine Hm md R hT hcs λS1 ok1 y q ws ws' O R1 T1 k1 s1 e1 g1 l1=>?_;cases q with
  |cons _ _=>trivial|nil=>
  simp only[iJ]at l1;subst l1;simp only[G7]at e1;refine JW md is vs (i+1) k R1 T1 (by simpa using hl) (PD k1 h2) λS2 ok2 ys Os R2 T2 k2 c1 c2 c3 c4 c5=>?_;refine hK S2 ok2 (y::ys) (O::Os) R2 (by simpa[G5]using T2) (λb t h=>k2 b t (k1 b t h)) (by simp[c1]) ?_ ?_ (by simp[c4]) ?_
  .simp[nR,c2]
  .intro z hz;rcases D6.1 hz with rfl|hz
   .have:=dC g1;rw[←e1]at this;simpa using this
   .exact c3 z hz
  .have:=(yP.one (kY k2 (λ_ _ _=>rfl) (λ_ _=>rfl) g1)).append c5;simpa[e1]using this
theorem U_(H:FxOk X){q:Nat}(R:Rel X (CB*q) (CB*q+CB) S m ok a w){n:Nat}{ps:Array (Nat×Operand)}(ho:o.op= .buildSlice t n ps):(dZ X.E q o).post S (λ_ S' =>kW X (CB*q) (CB*q+CB) o a w m ok S'):=by
 unfold dZ;simp only[ho];split<;>try trivial
 rename_i e u het;obtain⟨j,z,inf,hu,hj,h1,h2,h3,h4,h5,h6⟩:=Bi H het;have hz:=jh h6;refine dJ λhle=>oz R _ λvs hvs=>?_;have hle' :n*u.size<=16777216:=Y9 hle;split
 rotate_left
 .rename_i md hom;refine ed λhc=>?_;simp only[D5]at hc;have hms:=iI hc.1;refine JW md _ vs 0 n (T:=[]) R Tk.nil A7 hvs λS' ok' xs Os R' T' k c1 c2 c3 c4 c5=>?_;rw[J9]at T';simp only[H9]at c1 c2;have hparts:(ps.map λ(i,x)=>(i,a.eval x)).toList=(List.range' 0 ((ps.toList.map (·.2)).map a.eval).length).zip ((ps.toList.map (·.2)).map a.eval):=by
   simp only[H9];rw[←c2];simp[List.zip_map',List.zip_map,nK,qP]
  have hxl:xs.length=n:=by rw[c4];simpa using c1
  have hflat:=c5.1;have hcl:((ps.toList.map (·.2)).map a.eval).length=n:=by simpa using c1
  have hfill:∀cs:Array Value,cs.size=n*u.size->Instr.fill (λi=>some (i*u.size,u.size)) cs (ps.map λ(i,x)=>(i,a.eval x)).toList=some ((((ps.toList.map (·.2)).map a.eval).flatMap λv=>v.cells.toList)).toArray:=λcs hcs=>by rw[hparts,YO _ 0 cs (by rw[←hms];exact c3) (by rw[hcl,hcs];simp)];simp
  refine Zr (w1:=w) (e:=e) (cap:=xs.length) H R' T' rfl rfl rfl rfl hc.2 c5 T'.nodup (λ_ h=>h) (E8 _) (by rw[←hflat];simp) (c:=((((ps.toList.map (·.2)).map a.eval).flatMap λv=>v.cells.toList)).toArray) (Y6 (by rw[hflat];exact E8 _)) (λ_ _ h=>h) k ?_;have hrun:=PI (w:=w) (n:=n) hu h1 h2 h5 hle' hfill;simp only[execOp,ho,I4,hrun,J5,au,hxl]
 refine Nr u _ vs 0 n R A7 hvs λS' ok' xs R' k c1 c2 c3 c4 c5=>?_;have hsz:(sizeOf e).run X.P w= .ok u.size w:=by simp[sizeOf,typeInfo,h1,h2]
 simp only[H9]at c1 c2;have hparts:(ps.map λ(i,x)=>(i,a.eval x)).toList=(List.range' 0 ((ps.toList.map (·.2)).map a.eval).length).zip ((ps.toList.map (·.2)).map a.eval):=by simp only[H9];rw[←c2];simp[List.zip_map',List.zip_map,nK,qP]
 have hxl:xs.length=n:=by rw[c4];simpa using c1
 have hflat:=c5.1;have hcl:((ps.toList.map (·.2)).map a.eval).length=n:=by simpa using c1
 have hfill:∀cs:Array Value,cs.size=n*u.size->Instr.fill (λi=>some (i*u.size,u.size)) cs (ps.map λ(i,x)=>(i,a.eval x)).toList=some ((((ps.toList.map (·.2)).map a.eval).flatMap λv=>v.cells.toList)).toArray:=λcs hcs=>by rw[hparts,YO _ 0 cs c3 (by rw[hcl,hcs];simp)];simp
 refine Qu (w1:=w) (e:=e) (cap:=xs.length) H R' rfl rfl rfl rfl (Lt het) c5 (E8 _) (by rw[←hflat];simp) (c:=((((ps.toList.map (·.2)).map a.eval).flatMap λv=>v.cells.toList)).toArray) (Y6 (by rw[hflat];exact E8 _)) (λ_ _ h=>h) k (.inl rfl) ?_;have hrun:=PI (w:=w) (n:=n) hu h1 h2 h5 hle' hfill;simp only[execOp,ho,I4,hrun,J5,au,hxl]
theorem Ya{E:Env} :∀{fs:List (Nat×Nat)},a8n E fs=true->∀p∈fs,∃i,fP E.tt p.1=some i
 |[],_,p,hp=>by cases hp|(t,o)::r,h,p,hp=>by
  unfold a8n at h;cases hi:fP E.tt t with
  |none=>simp[hi]at h|some i=>
   simp only[hi]at h;rcases D6.1 hp with rfl|hp
   .exact⟨i,hi⟩
   .exact Ya h p hp
def Ul(P:Program)(fields:Array Field):List (Nat×Nat):=fields.toList.map λf=>(f.offset,((P.info? f.type).map (·.size)).getD 0)
theorem WO{P:Program} :∀(fs:List Field),(∀f∈fs,∃i,P.info? f.type=some i)->
  fs.mapM (λf=>(P.info? f.type).map λi=>(f.offset,i.size))=some (fs.map λf=>(f.offset,((P.info? f.type).map (·.size)).getD 0))
 |[],_=>by simp|f::fs,h=>by obtain⟨i,hi⟩:=h f A7;rw[List.mapM_cons,WO fs (λg hg=>h g (by simp[hg]))];simp[hi]
theorem KY{α:Type}{Q:α->Sm->Prop}(H:FxOk X){t:Nat}{fields:Array Field}(hu:X.P.underlying t=some (.struct fields)):
  ∀(is:d4K) (vs:List V) {us:d4J} {cs:List V} {arr:Array Value} {K:List V->Cmd α} (hl:is.length=us.length) (hv:jb ⟨w.heap,ok,m⟩ vs us) (hc:iJ ⟨w.heap,ok,m⟩ cs arr.toList)
  (hK:∀cs' arr',Instr.fill ((Ul X.P fields).toArray[·]?) arr (is.zip us)=some arr' ->iJ ⟨w.heap,ok,m⟩ cs' arr'.toList->(K cs').post S Q),(ER X.E t (is.zip vs) cs K).post S Q
 |[],vs,us,cs,arr,K,hl,hv,hc,hK=>by simp only[qR];unfold ER;exact hK cs arr (by simp[Instr.fill]) hc|i::is,vs,us,cs,arr,K,hl,hv,hc,hK=>by
  cases us with
  |nil=>simp at hl|cons x us=>
  cases vs with
  |nil=>simp[jb]at hv|cons v vs=>
  obtain⟨x',r,e,h1,h2⟩:=hv;simp only[H6]at e;obtain⟨rfl,rfl⟩:=e;simp only[iU];unfold ER;split<;>try trivial
  rename_i off n ag hf;obtain⟨fields',fld,j,hu',hfl,hoff,hj,hn,hn0,_⟩:=JE H hf;rw[hu]at hu';cases hu';obtain⟨inf,i1,i2,_⟩:=hj.info;refine vY h1 λws hws=>dJ λhb=>Ec off ws cs λhle=>?_;have hb' :=iI hb;have hL:=kU hc;have hLw:=kU hws;have hxs:x.cells.size=n:=by simp at hLw;omega
  have hpl:((Ul X.P fields).toArray[i]?)=some (off,n):=by
   have hfl' :fields.toList[i]? =some fld:=by simpa using hfl
   simp[Ul,hfl,i1,i2,hoff,hn]
  refine KY H hu is vs (arr:=(dP off x.cells.toList arr.toList).toArray) (by simpa using hl) h2 (by simpa using EL hws hc) λcs' arr' hfill hrel=>?_;refine hK cs' arr' ?_ hrel;rw[iU,Vt (place:=λk=>(Ul X.P fields).toArray[k]?) (cs:=arr) hpl hxs (by simp at hL;omega)];exact hfill
theorem QR{α:Type}{Q:α->Sm->Prop}{sz:Nat} :
  ∀(is:d4K) (vs:List V) {us:d4J} {cs:List V} {arr:Array Value} {K:List V->Cmd α} (hl:is.length=us.length) (hv:jb ⟨w.heap,ok,m⟩ vs us) (hc:iJ ⟨w.heap,ok,m⟩ cs arr.toList)
  (hK:∀cs' arr',Instr.fill (λi=>some (i*sz,sz)) arr (is.zip us)=some arr' ->iJ ⟨w.heap,ok,m⟩ cs' arr'.toList->(K cs').post S Q),(Og sz (is.zip vs) cs K).post S Q
 |[],vs,us,cs,arr,K,hl,hv,hc,hK=>by simp only[qR];unfold Og;exact hK cs arr (by simp[Instr.fill]) hc|i::is,vs,us,cs,arr,K,hl,hv,hc,hK=>by
  cases us with
  |nil=>simp at hl|cons x us=>
  cases vs with
  |nil=>simp[jb]at hv|cons v vs=>
  obtain⟨x',r,e,h1,h2⟩:=hv;simp only[H6]at e;obtain⟨rfl,rfl⟩:=e;simp only[iU];unfold Og;refine vY h1 λws hws=>dJ λhb=>Ec (i*sz) ws cs λhle=>?_;have hb' :=iI hb;have hL:=kU hc;have hLw:=kU hws;have hxs:x.cells.size=sz:=by simp at hLw;omega
  refine QR is vs (arr:=(dP (i*sz) x.cells.toList arr.toList).toArray) (by simpa using hl) h2 (by simpa using EL hws hc) λcs' arr' hfill hrel=>?_;refine hK cs' arr' ?_ hrel;rw[iU,Vt (place:=λk=>some (k*sz,sz)) (cs:=arr) rfl hxs (by simp at hL;omega)];exact hfill
theorem b3a(H:FxOk X)(R:Rel X cl ch S m ok a w){ps:Array (Nat×Operand)}{q:Nat}(ho:o.op= .build t ps):(dZ X.E q o).post S (λ_ S' =>kW X cl ch o a w m ok S'):=by
 unfold dZ;simp only[ho];refine lU H λi hi=>?_;split<;>try trivial
 case h_2=>
  rename_i n e htd';have htd:=hi.td;rw[htd']at htd;refine lU H λj hj=>dJ λhb=>oz R _ λvs hvs=>?_;obtain⟨inf,h1,h2,h3,h4,h5⟩:=hi.info;obtain⟨ine,e1,e2,_⟩:=hj.info;obtain⟨z,hz1,hz2⟩:=h4 (iI hb);refine QR _ vs (us:=(ps.toList.map (·.2)).map a.eval) (arr:=z.cells) A7 hvs (SL hz2) λcs' arr' hfill hrel=>?_;refine bD H R (v:=.agg cs') (x:=.agg arr') ⟨arr',rfl,hrel⟩ ?_;have hparts:(ps.map λ(i,x)=>(i,a.eval x)).toList=(ps.toList.map (·.1)).zip ((ps.toList.map (·.2)).map a.eval):=by simp[List.zip_map',List.zip_map,nK,qP]
  have hbuilt:X.P.built t (ps.map λ(i,x)=>(i,a.eval x)).toList=some arr' :=by unfold Program.built;simp only[h1,show X.P.underlying t=some (.array n e)from htd,hz1,e1];rw[hparts,e2];exact hfill
  have:=run_build (P:=X.P) w t _ arr' hbuilt;simp only[execOp,ho,I4,this,J5,au]
 rename_i fs htd';have htd:=hi.td;rw[htd']at htd;obtain⟨fields,hu,hfs⟩:=htd;refine dJ λhb=>oz R _ λvs hvs=>?_;simp only[D5]at hb;obtain⟨inf,h1,h2,h3,h4,h5⟩:=hi.info;obtain⟨z,hz1,hz2⟩:=h4 (iI hb.2);refine KY H hu _ vs (us:=(ps.toList.map (·.2)).map a.eval) (arr:=z.cells) A7 hvs (SL hz2) λcs' arr' hfill hrel=>?_;refine bD H R (v:=.agg cs') (x:=.agg arr') ⟨arr',rfl,hrel⟩ ?_;have hparts:(ps.map λ(i,x)=>(i,a.eval x)).toList=(ps.toList.map (·.1)).zip ((ps.toList.map (·.2)).map a.eval):=by simp[List.zip_map',List.zip_map,nK,qP]
 have hmap:=WO (P:=X.P) fields.toList (λf hf=>by obtain⟨i',hi'⟩:=Ya hb.1 (f.type,f.offset) (by rw[←hfs];exact O9.2 ⟨f,hf,rfl⟩);obtain⟨inf',q1,_⟩:=(H.tt _ _ hi').info;exact⟨inf',q1⟩)
 have hbuilt:X.P.built t (ps.map λ(i,x)=>(i,a.eval x)).toList=some arr' :=by unfold Program.built;simp only[h1,hu,hz1,hmap];rw[hparts];exact hfill
 have:=run_build (P:=X.P) w t _ arr' hbuilt;simp only[execOp,ho,I4,this,J5,au]
end
end Go.GP
namespace Go.GP
def GX(h:Array Obj)(sz:Nat)(v:Value)(n:Nat)(es:d4J):Prop:=
 es.length=n*sz/\((n=0/\∃ad cap,v= .slice ad 0 cap)\/(∃blk off cap,v= .slice (some ⟨blk,off,none⟩) n cap/\0<n/\fH h blk off (n*sz)=some es)\/∃b:ByteArray,v= .string b/\n=b.size/\es=Lib.strCells b)
variable {v:Value}{h:Array Obj}
theorem b7B{ok:Nat->Ty->Prop}{t:Ty}{ys:List t.den}(ht:t.isEnt=false)(hr:rep h ok (.sl t) ys [v]):∃es,GX h t.size v ys.length es/\gy h ok t ys es:=by
 obtain⟨ad,cap,e,hc,hel⟩:=(AZ ht).1 hr;simp only[H6,and_true]at e;subst e;rcases jH ys.length with h0|h0
 .have:ys=[]:=O7.1 h0;subst this;exact⟨[],⟨A7,.inl ⟨rfl,ad,cap,rfl⟩⟩,gy.nil⟩
 .obtain⟨y,hy⟩:∃y,ys[ys.length -1]? =some y:=by
   refine⟨ys[ys.length -1]'o5,?_⟩;exact fO _
  obtain⟨blk,off,es,rfl,hok,he,hr⟩:=hel _ y hy;obtain⟨c,T,f,hb,hn,_⟩:=rF he;have hle:off+ys.length*t.size<=c.size:=by
   have:ys.length*t.size=(ys.length -1)*t.size+t.size:=by
    conv=>lhs;rw[show ys.length=(ys.length -1)+1 by omega,L8,bZ]
   omega
  refine⟨(c.toList.drop off).take (ys.length*t.size),⟨by simp;omega,.inr (.inl ⟨blk,off,cap,rfl,h0,jM hb _ _ hle⟩)⟩,by simp;omega,λi x hi=>?_⟩;obtain⟨blk',off',es',ha',hok',he',hr'⟩:=hel i x hi;simp only[H7,jf,and_true]at ha';obtain⟨rfl,rfl⟩:=ha';obtain⟨c',T',f',hb',hn',rfl⟩:=rF he';rw[hb]at hb';cases hb';have hlt:=(aO.1 hi).1;have hle2:(i+1)*t.size<=ys.length*t.size:=J3 _ o5;rw[L8,bZ]at hle2;rw[kL,jo,aN,ja o5];exact hr'
theorem A_{C:Cx}{t:Ty}{xs:List t.den}{l:Loc}(ht:t.isEnt=false)(ha:arrOk C t xs l)(hv:l.view none v):∃es,GX C.h t.size v xs.length es/\gy C.h C.ok t xs es:=by
 cases l with
 |st b=>cases ha|mp b=>exact absurd ha.1 (by simp[ht])|nil=>obtain⟨ha,_⟩:=ha;subst ha;simp only[Loc.view]at hv;subst hv;exact⟨[],⟨A7,.inl ⟨rfl,none,0,rfl⟩⟩,gy.nil⟩
 |arr blk off len cap sz=>
  obtain⟨c,T,f,hb,hz,rfl,rfl,hc,hf,hr⟩:=a0o ha;simp only[Loc.view]at hv;subst hv;have hle:xs.length*t.size<=cap*t.size:=J3 _ hc;refine⟨_,⟨hr.1,?_⟩,hr⟩;rcases jH xs.length with h0|h0
  .exact .inl ⟨h0,_,cap,by rw[h0]⟩
  .exact .inr (.inl ⟨blk,off,cap,rfl,h0,jM hb _ _ o5⟩)
variable {es:d4J}{P:Program}
theorem xO{w w' :World}{sz n:Nat}(h:GX w.heap sz v n es)(hh:w'.heap=w.heap):(Builtin.firstCells sz n v).run P w' = .ok es.toArray w' :=by
 obtain⟨hl,h⟩:=h;rcases h with⟨rfl,ad,cap,rfl⟩|⟨blk,off,cap,rfl,hn,hc⟩|⟨b,rfl,rfl,rfl⟩
 .have:es=[]:=O7.1 (by simpa using hl);subst this;cases ad with
  |none=>simp[Builtin.firstCells]|some b=>have:=run_loadCells_list (P:=P) w' b [] (λj v h=>by simp at h);simp[Builtin.firstCells];simpa using this
 .refine run_firstCells_some w' sz n _ _ cap es hl λj u hu=>?_;rw[jw];exact Aa (w:=w') (by rw[hh];exact hc) hu
 .exact Lib.run_firstCells_string w' sz b
theorem GX.lenOf{sz n:Nat}(hs:GX h sz v n es)(w:World):(Builtin.lenOf v).run P w= .ok n w:=by rcases hs.2 with⟨rfl,ad,cap,rfl⟩|⟨blk,off,cap,rfl,hn,hc⟩|⟨b,rfl,rfl,rfl⟩<;>rfl
section runs
variable {P:Program} {w:World} {t ty e:TypeId} {i:TypeInfo} {z:Value}
theorem Ry(ht:P.underlying t=some (.slice e))(hi:P.info? e=some i){blk off len cap n:Nat}{c:Array Value}{T:TypeId}{f:Nat×Nat}(hb:w.heap[blk]? =some (.cells c T f))(hz:f=(0,0)\/f=(c.size,c.size+1))(hv:GX w.heap i.size v n es)
  (h1:∀u∈es,u.oneCell' =true) (hroom:len+n<=cap) (hfit:off+cap*i.size<=c.size):
  (Builtin.append_ #[t,t] ty #[.slice (some ⟨blk,off,none⟩) len cap,v]).run P w= .ok (.slice (some ⟨blk,off,none⟩) (len+n) cap) (w.setRow blk (dP (off+len*i.size) es c.toList).toArray):=by
 have hle:(len+n)*i.size<=cap*i.size:=J3 _ hroom;rw[L8,←hv.1]at hle;have hf:=xO (P:=P) (w' :=w) hv rfl;have hst:=Ef (P:=P) blk (off+len*i.size) T es 0 c f w hb hz o5 h1;simp only[dL]at hst;simp[Builtin.append_,run_underlying ht,sizeOf,typeInfo,hi,hv.lenOf,hroom,hf,jw,hst,dP]
theorem NM(ht:P.underlying t=some (.slice e))(hi:P.info? e=some i)(hv:GX w.heap i.size v 0 es):
  (Builtin.append_ #[t,t] ty #[.slice none 0 0,v]).run P w= .ok (.slice none 0 0) w:=by
 have hf:=xO (P:=P) (w' :=w) hv rfl;simp[Builtin.append_,run_underlying ht,sizeOf,typeInfo,hi,hv.lenOf,hf]
theorem PH(ht:P.underlying t=some (.slice e))(hi:P.info? e=some i)(hz:i.zero=some z)(hby:i.bytes<=65536){s v:Value}{sAd:Option Addr}{len cap n:Nat}{olds es:d4J}(hse:s= .slice sAd len cap)
  (hs:GX w.heap i.size s len olds) (hv:GX w.heap i.size v n es) (hg:cap<len+n) (hmax:len+n<=1073741824):
  (Builtin.append_ #[t,t] ty #[s,v]).run P w= .ok (.slice (some ⟨w.heap.size,0,none⟩) (len+n) (grownCap w (len+n) cap e))
   (w.drew.alloc (.cells ((olds++es).toArray++Builtin.zeroCells z.cells (grownCap w (len+n) cap e -(len+n))) e)):=by
 subst hse;have hn:¬(len+n<=cap):=o5;have h63' :¬(9223372036854775807<((len:Int)+(n:Int))):=o5;have hb2:(len+n)*i.bytes<=1073741824*65536:=Nat.mul_le_mul hmax hby;have h48' :¬(281474976710656<Builtin.nextslicecap (len+n) cap*i.bytes):=by have:=growslice_fits hg (show(len+n)*i.bytes<=140737488355328 by omega);omega
 have hf:=xO (P:=P) (w' :=w.drew) hv rfl;have hfo:=xO (P:=P) (w' :=w.drew) hs rfl;simp[Builtin.append_,run_underlying ht,sizeOf,typeInfo,zeroValue,hi,hz,hv.lenOf,hn,h63',h48',Question.forced,hf,hfo,newRow,grownCap];generalize Builtin.zeroCells _ _=Z;congr 2;apply lu;simp
end runs
variable {q:Nat}{t:TypeId}{e:TypeId}{u:Ty}{z:Value}{inf:TypeInfo}{α:Type}{md:M}
section
variable {X:Fx} {cl ch:Nat} {S:Sm} {m:Mp} {ok:Nat->Ty->Prop} {a:Act} {w:World} {o:Oper}
theorem a0c{Q:α->Sm->Prop}(R:Rel X cl ch S m ok a w)(ht:u.isEnt=false){y:V}{vy:Value}{K:List u.den->Cmd α}(hy:nI ⟨w.heap,ok,m⟩ y vy)
  (hK:∀ys es,GX w.heap u.size vy ys.length es->gy w.heap ok u ys es->(K ys).post S Q):(b0K u y K).post S Q:=by
 unfold b0K;split<;>try trivial
 .have hy' :vy= .slice none 0 0:=hy;subst hy';simp only[ht,cond_false];exact hK [] [] ⟨A7,.inl ⟨rfl,none,0,rfl⟩⟩ gy.nil
 .obtain⟨ad,c,rfl,_⟩:=(show ∃a c,vy=Value.slice a 0 c/\a.isNone=_ from hy);simp only[ht,cond_false];exact hK [] [] ⟨A7,.inl ⟨rfl,ad,c,rfl⟩⟩ gy.nil
 .rename_i t' xs;refine jL λe=>?_;subst e;obtain⟨es,h1,h2⟩:=b7B ht (show rep w.heap ok (.sl t') xs [vy]from hy);exact hK xs es h1 h2
 .rename_i bx vw;obtain⟨l,hm,hv⟩:=hy;refine di ?_;split<;>try trivial
  .rename_i t' xs hS;obtain⟨l',hm',ha⟩:=R.own_arr hS;simp only at hm;rw[hm]at hm';cases hm';refine jL λe=>?_;subst e;obtain⟨a1,a2,_⟩:=Lj ha hv;obtain⟨es,h1,h2⟩:=A_ ht a1 a2;exact hK _ es h1 h2
  .rename_i t' xs hS;obtain⟨l',hm',ha,_⟩:=R.own_frz hS;simp only at hm;rw[hm]at hm';cases hm';refine jL λe=>?_;subst e;obtain⟨a1,a2,_⟩:=Lj ha hv;obtain⟨es,h1,h2⟩:=A_ ht a1 a2;exact hK _ es h1 h2
theorem Wv{Q:α->Sm->Prop}{T:d4K}(R:Rel X cl ch S m ok a w)(hT:Tk X S m ok w T){y:V}{vy:Value}{K:List md.den->List V->Cmd α}(hy:nI ⟨w.heap,ok,m⟩ y vy)
  (hK:∀S' ok' ys r O,Rel X cl ch S' m ok' a w->Tk X S' m ok' w (T++O)->(∀b t,ok b t->ok' b t)->bP S S' ->qY w.heap ok' (.owns md) none ys [vy] O->(K ys r).post S' Q):
  (exM Du (.owns md) [y] K).post S Q:=by
 have key:xR ⟨w.heap,ok,m⟩ y vy->vy.oneCell' =true->(exM Du (.owns md) [y] K).post S Q:=λh1 h2=>by
  refine Hm (.owns md) R hT (vs:=[vy]) ⟨vy,[],rfl,h1,h2,rfl⟩ λS' ok' ys r us us' O R' T' k s e hr l=>?_;have:us=[vy]:=by obtain⟨v,e',_⟩:=hr;subst e';simp at e;simp[e.1]
  subst this;exact hK S' ok' ys r O R' T' k s hr
 cases y<;>try (unfold exM;trivial)
 .exact key hy (by have h:vy= .slice none 0 0:=hy;subst h;rfl)
 .refine key hy ?_;obtain⟨l,_,hv⟩:=hy;exact nU hv
theorem a1q{ok:Nat->Ty->Prop}{xs:List md.den}{Os:List d4K}{l:Loc}(ha:EX h md.size (λ_ x es O=>qY h ok md none x es O) xs Os l)(hv:l.view none v):∃es,GX h md.size v xs.length es/\yP h ok md xs es Os:=by
 cases l with
 |st b=>cases ha|mp b=>cases ha|nil=>obtain⟨rfl,rfl⟩:=ha;simp only[Loc.view]at hv;subst hv;exact⟨[],⟨A7,.inl ⟨rfl,none,0,rfl⟩⟩,yP.nil⟩
 |arr blk off len cap sz=>
  obtain⟨c,T,hb,rfl,rfl,hc,hf,hr⟩:=a3k ha;simp only[Loc.view]at hv;subst hv;have hle:xs.length*md.size<=cap*md.size:=J3 _ hc;refine⟨_,⟨hr.1,?_⟩,hr⟩;rcases jH xs.length with h0|h0
  .exact .inl ⟨h0,_,cap,by rw[h0]⟩
  .exact .inr (.inl ⟨blk,off,cap,rfl,h0,jM hb _ _ o5⟩)
theorem Vz{xs ys zs:List α}(h:dB xs ys=some zs):xs.length+ys.length<=1073741824/\zs=xs++ys:=by
 unfold dB at h;split at h
 .cases h;exact⟨by assumption,rfl⟩
 .cases h
theorem PY(z:Array Value)(n:Nat):(Builtin.zeroCells z n).size=n*z.size:=by simp[Builtin.zeroCells]
theorem QO(H:FxOk X)(R:Rel X (CB*q) (CB*q+CB) S m ok a w)(ht:u.isEnt=false){j:TI}(hu:X.P.underlying t=some (.slice e))(h1:X.P.info? e=some inf)(h2:inf.size=u.size)(h4:inf.bytes<=65536)
  (h5:inf.zero=some z) (hz:z.cells.size=u.size) {xs ys:List u.den} {s v:Value} {sAd:Option Addr} {cap:Nat} {olds es:d4J} (hse:s= .slice sAd xs.length cap)
  (hs:GX w.heap u.size s xs.length olds) (hv:GX w.heap u.size v ys.length es) (r1:gy w.heap ok u xs olds) (r2:gy w.heap ok u ys es) (hg:cap<xs.length+ys.length) (hmax:xs.length+ys.length<=1073741824)
  (run:∀r w',(Builtin.append_ #[t,t] o.type #[s,v]).run X.P w= .ok r w' ->(execOp a.eval o).run X.P w= .ok (.value r) w'):
  (xQ (O8 q o.dst) (.barr u (xs++ys)) (gu X.E o.dst (.own (O8 q o.dst) none))).post S (λ_ S' =>kW X (CB*q) (CB*q+CB) o a w m ok S'):=by
 have hrun:=PH (P:=X.P) (w:=w) (t:=t) (ty:=o.type) hu h1 h5 h4 (s:=s) (v:=v) hse (by rw[h2];exact hs) (by rw[h2];exact hv) hg hmax;have hge:=grownCap_ge w (xs.length+ys.length) cap e;have r:=r1.append r2;rw[←I9]at hrun hge;refine Qu H R (w1:=w.drew) rfl rfl rfl rfl ht r hge ?_ ?_ (λ_ _ h=>h) (λ_ _ h=>h) (.inl rfl) (run _ _ hrun)
 .have hl:=r.1;simp only[qO,bC,hl,PY,hz,←L8];exact J3 _ o5
 .have hl:=r.1;simp only[oK];rw[Y5 (by rw[hl];exact E8 _),←hl];exact bM
theorem QP(H:FxOk X)(R:Rel X (CB*q) (CB*q+CB) S m ok a w)(ht:u.isEnt=false)(hu:X.P.underlying t=some (.slice e))(h1:X.P.info? e=some inf)(h2:inf.size=u.size)(h4:inf.bytes<=65536)
  (h5:inf.zero=some z) (hz:z.cells.size=u.size) {ys:List u.den} {s v:Value} {es:d4J} (hse:s= .slice none 0 0)
  (hv:GX w.heap u.size v ys.length es) (r2:gy w.heap ok u ys es) (hmax:ys.length<=1073741824)
  (run:∀r w',(Builtin.append_ #[t,t] o.type #[s,v]).run X.P w= .ok r w' ->(execOp a.eval o).run X.P w= .ok (.value r) w'):
  (xQ (O8 q o.dst) (.barr u ys) (gu X.E o.dst (.own (O8 q o.dst) none))).post S (λ_ S' =>kW X (CB*q) (CB*q+CB) o a w m ok S'):=by
 rcases jH ys.length with h0|h0
 .have hy:ys=[]:=O7.1 h0;subst hy;have hrun:=NM (P:=X.P) (w:=w) (t:=t) (ty:=o.type) hu h1 (v:=v) (by rw[h2];exact hv);rw[←hse]at hrun;refine Ib H λn e1 g1 g2 hn=>?_;rw[←e1];clear e1;generalize CB*q=Z at*;have R' :Rel X Z (Z+CB) (upd S (aS+n) (.barr u [])) (oG m n .nil []) ok a w:=by
   refine R.lay hn g1 (by show n<Z+1000000;change n+64<=Z+1000000 at g2;omega) A7 rfl rfl rfl (E8 _) (λ_ _ _=>rfl) (by simp[Y1]) (λb hb=>by simp[Y1]at hb) ⟨.nil,bi _ _ _ _,rfl,ht⟩
  refine yg H R' (λk l h=>?_) (λ_ _ h=>h) ⟨.nil,bi _ _ _ _,hse⟩ (run _ _ hrun);by_cases ek:k=n
  .subst ek;have:=R.fresh k g1 hn;rw[this]at h;cases h
  .rw[jV _ _ _ ek];exact h
 .have:=QO (j:=⟨0,0,.bool,none,[]⟩) H R ht hu h1 h2 h4 h5 hz (xs:=[]) (ys:=ys) (s:=s) (v:=v) (sAd:=none) (cap:=0) (olds:=[]) (es:=es) hse ⟨A7,.inl ⟨rfl,none,0,hse⟩⟩ hv gy.nil r2 (by simpa using h0) (by simpa using hmax) run;simpa using this
theorem a5P(H:FxOk X)(R:Rel X (CB*q) (CB*q+CB) S m ok a w){j:TI}(hu:X.P.underlying t=some (.slice e))(h1:X.P.info? e=some inf)(h2:inf.size=md.size)(h4:inf.bytes<=65536)
  (h5:inf.zero=some z) (hz:z.cells.size=md.size) {x y:V} {s v:Value} (hx:nI ⟨w.heap,ok,m⟩ x s) (hy:nI ⟨w.heap,ok,m⟩ y v)
  (run:∀r w',(Builtin.append_ #[t,t] o.type #[s,v]).run X.P w= .ok r w' ->(execOp a.eval o).run X.P w= .ok (.value r) w'):
  (exM Du (.owns md) [y] λys _=>exM Du (.owns md) [x] λxs _=>Cmd.opt (dB xs ys) λzs=>xQ (O8 q o.dst) (.barrs md zs none) (gu X.E o.dst (.own (O8 q o.dst) none))).post S (λ_ S' =>kW X (CB*q) (CB*q+CB) o a w m ok S'):=by
 refine Wv (T:=[]) R Tk.nil hy λS1 ok1 ys _ O1 R1 T1 k1 s1 g1=>?_;refine Wv R1 T1 (XL k1 hx) λS2 ok2 xs _ O2 R2 T2 k2 s2 g2=>?_;have k12:∀b t,ok b t->ok2 b t:=λb t h=>k2 b t (k1 b t h);have g1:=kY k2 (λ_ _ _=>rfl) (λ_ _=>rfl) g1;obtain⟨hel,ly,vy,Oy,ey,hvy,hay,rfl⟩:=BI.1 g1;obtain⟨_,lx,vx,Ox,ex,hvx,hax,rfl⟩:=BI.1 g2;simp only[H6,and_true]at ey ex;subst ey;subst ex;refine gG λzs hzs=>?_;obtain⟨hmax,rfl⟩:=Vz hzs;obtain⟨es,hv,ry⟩:=a1q hay hvy;obtain⟨olds,hs,rx⟩:=a1q hax hvx;have hnd2:=T2.nodup;have rr:=rx.append ry;have hT3:∀b∈(Ox++Oy).flatten,b∈[]++(ly.blks++Oy.flatten)++(lx.blks++Ox.flatten):=λb hb=>by
  simp only[lg,E9]at hb ⊢;rcases hb with hb|hb
  .exact .inr (.inr hb)
  .exact .inl (.inr (.inr hb))
 have hnd3:(Ox++Oy).flatten.Nodup:=by rw[lg];have h:=L6.1 hnd2;simp only[J9]at h;refine L6.2 ⟨(L6.1 h.2.1).2.1,(L6.1 h.1).2.1,λp hp r hr e=>h.2.2 r (by simp[hr]) p (by simp[hp]) e.symm⟩
 have fresh:∀{sAd:Option Addr} {cap:Nat},s= .slice sAd xs.length cap->cap<xs.length+ys.length->(xQ (O8 q o.dst) (.barrs md (xs++ys) none) (gu X.E o.dst (.own (O8 q o.dst) none))).post S2 (λ_ S' =>kW X (CB*q) (CB*q+CB) o a w m ok S'):=λ{sAd cap} hse hg=>by
  have hrun:=PH (P:=X.P) (w:=w) (t:=t) (ty:=o.type) hu h1 h5 h4 (s:=s) (v:=v) hse (by rw[h2];exact hs) (by rw[h2];exact hv) hg hmax;have hge:=grownCap_ge w (xs.length+ys.length) cap e;rw[←I9]at hrun hge;refine Zr H R2 T2 (w1:=w.drew) rfl rfl rfl rfl hel rr hnd3 hT3 hge ?_ ?_ (λ_ _ h=>h) k12 (run _ _ hrun)
  .have hl:=rr.1;simp only[qO,bC,hl,PY,hz,←L8];exact J3 _ o5
  .have hl:=rr.1;simp only[oK];rw[Y5 (by rw[hl];exact E8 _),←hl];exact bM
 cases lx with
 |st b=>cases hax|mp b=>cases hax|nil=>
  obtain⟨rfl,rfl⟩:=hax;simp only[Loc.view]at hvx;rcases jH ys.length with h0|h0
  .have hy0:ys=[]:=O7.1 h0;subst hy0;have hO0:Oy=[]:=O7.1 ry.2.1;subst hO0;have hrun:=NM (P:=X.P) (w:=w) (t:=t) (ty:=o.type) hu h1 (v:=v) (by rw[h2];exact hv);rw[←hvx]at hrun;refine Ib H λn e1 g1 g2 hn=>?_;rw[←e1];clear e1;generalize CB*q=Z at*;have R' :Rel X Z (Z+CB) (upd S2 (aS+n) (.barrs md ([]++[]) none)) (oG m n .nil []) ok2 a w:=by
    refine R2.lay hn g1 (by show n<Z+1000000;change n+64<=Z+1000000 at g2;omega) A7 rfl rfl rfl (E8 _) (λ_ _ _=>rfl) (by simp[Y1]) (λb hb=>by simp[Y1]at hb) ⟨hel,.nil,[],bi _ _ _ _,⟨⟨rfl,rfl⟩,trivial⟩,A7⟩
   refine yg H R' (λk l h=>?_) k12 ⟨.nil,bi _ _ _ _,hvx⟩ (run _ _ hrun);by_cases ek:k=n
   .subst ek;have:=R2.fresh k g1 hn;rw[this]at h;cases h
   .rw[jV _ _ _ ek];exact h
  .exact fresh (sAd:=none) (cap:=0) hvx (by simpa using h0)
 |arr blk off len cap sz=>
  obtain⟨c,T,hb,rfl,rfl,hcap,hfit,r1⟩:=a3k hax;simp only[Loc.view]at hvx;by_cases hroom:xs.length+ys.length<=cap
  .have hrun:=Ry (P:=X.P) (w:=w) (t:=t) (ty:=o.type) (off:=off) (cap:=cap) hu h1 hb (.inl rfl) (v:=v) (n:=ys.length) (es:=es) (by rw[h2];exact hv) ry.one_cell hroom (by rw[h2];exact hfit);rw[←hvx]at hrun;obtain⟨q1,q2,q3,q4⟩:=T2.free blk (by simp[Loc.blks]);have hle:(xs.length+ys.length)*md.size<=cap*md.size:=J3 _ hroom;rw[L8]at hle;have hesl:=hv.1;have hcl:c.toList.length=c.size:=rfl;have hsp:(dP (off+xs.length*md.size) es c.toList).length=c.size:=by rw[zW o5];rfl
   have hblk:∀b∈(Ox++Oy).flatten,b≠blk:=λb hbm e=>by
    subst e;rw[lg]at hbm;have h:=L6.1 hnd2;simp only[J9]at h;rcases E9.1 hbm with hbm|hbm
    .exact(L6.1 h.2.1).2.2 b (by simp[Loc.blks]) b hbm rfl
    .exact h.2.2 b (by simp[hbm]) b (by simp[Loc.blks]) rfl
   refine Ib H λn e1 g1 g2 hn=>?_;rw[←e1];clear e1;generalize CB*q=Z at*;have hoth:∀b,b≠blk->(w.setRow blk (dP (off+xs.length*md.size) es c.toList).toArray).heap[b]? =w.heap[b]?:=λb hb=>setRow_other w blk b _ hb;have hown1:Y1 (oG m n (.arr blk off (xs.length+ys.length) cap md.size) (Ox++Oy).flatten) n (.barrs md (xs++ys) none)=blk::(Ox++Oy).flatten:=by simp[Y1]
   have R' :Rel X Z (Z+CB) (upd S2 (aS+n) (.barrs md (xs++ys) none)) (oG m n (.arr blk off (xs.length+ys.length) cap md.size) (Ox++Oy).flatten) ok2 a (w.setRow blk (dP (off+xs.length*md.size) es c.toList).toArray):=by
    refine R2.lay hn g1 (by show n<Z+1000000;change n+64<=Z+1000000 at g2;omega) A7 rfl rfl rfl A7 (λb _ hne=>hoth b (λe=>hne (by rw[hown1,e];simp))) (by rw[hown1];exact az.2 ⟨λh=>hblk blk h rfl,hnd3⟩) (λb hbb=>?_) ⟨hel,_,Ox++Oy,bi _ _ _ _,?_,A7⟩
    .rw[hown1]at hbb;obtain⟨q1,q2,q3,q4⟩:=T2.free b (by
      rcases D6.1 hbb with rfl|h
      .simp[Loc.blks]
      .exact hT3 b h)
     exact⟨q1,by simpa using q2,q3,q4⟩
    .refine⟨?_,trivial⟩;have:=yP.arrs (h:=(w.setRow blk (dP (off+xs.length*md.size) es c.toList).toArray).heap) (ok:=ok2) (cs:=((c.toList.drop off).take (xs.length*md.size))++es) (cap:=cap) (off:=off) ((r1.append ry).mono (λ_ _ h=>h) (λb t hb=>hoth b (λe=>q1 t (e▸hb))) (λb hb=>hoth b (hblk b hb))) (setRow_heap w blk c _ T (0,0) hb) (by rw[I9];exact hroom) (by rw[bC,hsp];exact hfit) ?_
     .rw[I9]at this;exact this
     .simp only[I9,L8];rw[We (n:=xs.length*md.size+ys.length*md.size) o5 o5];unfold dP;have hd:((c.toList.drop off).take (xs.length*md.size+ys.length*md.size)).drop (xs.length*md.size+es.length)=[]:=iD (by rw[fB,kX];omega);rw[jo,ja (jv _ _),hd,G7]
   refine yg H R' (λk l h=>?_) k12 ⟨_,bi _ _ _ _,rfl⟩ (run _ _ (by rw[h2]at hrun;exact hrun));by_cases ek:k=n
   .subst ek;have:=R2.fresh k g1 hn;rw[this]at h;cases h
   .rw[jV _ _ _ ek];exact h
  .exact fresh hvx o5
theorem f_{w:World}{t t' ty e:TypeId}{i:TypeInfo}(ht:P.underlying t=some (.slice e))(hs:P.underlying t' =some .string)(hi:P.info? e=some i){s:Value}{b:ByteArray} :
  (Builtin.append_ #[t,t'] ty #[s,.string b]).run P w=(Builtin.append_ #[t,t] ty #[s,.string b]).run P w:=by
 cases s<;>simp[Builtin.append_,run_underlying ht,run_underlying hs,sizeOf,typeInfo,hi]
theorem Ye(H:FxOk X)(R:Rel X (CB*q) (CB*q+CB) S m ok a w){p:Operand}{x:V}{j:TI}(ht:u.isEnt=false)(hu:X.P.underlying t=some (.slice e))(h1:X.P.info? e=some inf)(h2:inf.size=u.size)(h4:inf.bytes<=65536)
  (h5:inf.zero=some z) (hz:z.cells.size=u.size) (hx:nI ⟨w.heap,ok,m⟩ x (a.eval p)) {ys:List u.den} {v:Value} {es:d4J} (hv:GX w.heap u.size v ys.length es) (r2:gy w.heap ok u ys es)
  (run:∀r w',(Builtin.append_ #[t,t] o.type #[a.eval p,v]).run X.P w= .ok r w' ->(execOp a.eval o).run X.P w= .ok (.value r) w'):
  (Xz (O8 q o.dst) u x ys λv=>gu X.E o.dst v).post S (λ_ S' =>kW X (CB*q) (CB*q+CB) o a w m ok S'):=by
 unfold Xz;split<;>try trivial
 ·
  refine gG λzs hzs=>?_;obtain⟨hmax,rfl⟩:=Vz hzs;have hx' :a.eval p= .slice none 0 0:=hx;simp only[J9];exact QP H R ht hu h1 h2 h4 h5 hz hx' hv r2 (by simpa using hmax) run
 .rename_i bx vw;obtain⟨loc,hm,hview⟩:=hx;refine di ?_;split<;>try trivial
  rename_i u' xs hS;refine jL λeu=>?_;subst eu;refine gG λzs hzs=>jC ?_;obtain⟨hmax,rfl⟩:=Vz hzs;obtain⟨loc',hm',ha⟩:=R.own_arr hS;simp only at hm;rw[hm]at hm';cases hm';have R1:=R.kill bx;obtain⟨a1,a2,a3⟩:=Lj ha hview;generalize hl2:Nj loc vw=l2 at*;generalize jW vw xs=xs' at*;cases l2 with
  |st b=>cases a1|mp b=>exact absurd a1.1 (by simp[ht])|nil=>obtain⟨a1,_⟩:=a1;subst a1;simp only[Loc.view]at a2;simp only[J9];exact QP H R1 ht hu h1 h2 h4 h5 hz a2 hv r2 (by simpa using hmax) run
  |arr blk off len cap sz=>
   obtain⟨c,T,f,hb,hfz,rfl,rfl,hcap,hfit,r1⟩:=a0o a1;simp only[Loc.view]at a2;simp only at hb r1;by_cases hroom:xs'.length+ys.length<=cap
   ·
    have hrun:=Ry (P:=X.P) (w:=w) (t:=t) (ty:=o.type) (off:=off) (cap:=cap) hu h1 hb hfz.of (v:=v) (n:=ys.length) (es:=es) (by rw[h2];exact hv) r2.one_cell hroom (by rw[h2];exact hfit);rw[←a2]at hrun;have hown:Y1 m bx (S (aS+bx))=[blk]:=by
     cases loc with
     |nil=>simp[Loc.blks]at a3|st _=>cases ha|mp b=>exact absurd ha.1 (by simp[ht])|arr b2 _ _ _ _=>simp[Loc.blks]at a3;simp[Y1,hS,hm,a3]
    obtain⟨s1,s2,s3⟩:=R.sep bx blk (by rw[hown];simp);have hle:(xs'.length+ys.length)*u'.size<=cap*u'.size:=J3 _ hroom;rw[L8]at hle;have hel:=hv.1;have hcl:c.toList.length=c.size:=rfl;have hsp:(dP (off+xs'.length*u'.size) es c.toList).length=c.size:=by rw[zW o5];rfl
    refine Ib H λn e1 g1 g2 hn=>?_;rw[←e1];clear e1;generalize CB*q=Z at*;have hkeep:∀b t,ok b t->(w.setRow blk (dP (off+xs'.length*u'.size) es c.toList).toArray).heap[b]? =w.heap[b]?:=λb t hb=>setRow_other w blk b _ (λe=>s1 t (e▸hb));have R' :Rel X Z (Z+CB) (upd (upd S (aS+bx) .dead) (aS+n) (.barr u' (xs' ++ys))) (oG m n (.arr blk off (xs'.length+ys.length) cap u'.size) []) ok a (w.setRow blk (dP (off+xs'.length*u'.size) es c.toList).toArray):=by
     refine R1.lay hn g1 (by show n<Z+1000000;change n+64<=Z+1000000 at g2;omega) A7 rfl rfl rfl A7 (λb _ hne=>?_) (by simp[Y1]) (λb hbb=>?_) ⟨_,bi _ _ _ _,?_⟩
     .refine setRow_other w blk b _ (λe=>hne ?_);subst e;simp[Y1]
     .simp[Y1]at hbb;subst hbb;refine⟨s1,by simpa using s2,s3,λk e=>?_⟩;obtain⟨k1,k2⟩:=BC rfl e;exact k1 (R.inj k bx b k2 (by rw[hown];simp))
     .rw[←I9];refine gy.arrOk ht (cs:=((c.toList.drop off).take (xs'.length*u'.size))++es) ((r1.append r2).mono (λ_ _ h=>h) hkeep) (setRow_heap w blk c _ T f hb) (by rw[bC,hsp];exact hfz) (by rw[I9];exact hroom) (by rw[bC,hsp];exact hfit) ?_;simp only[I9,L8];rw[We (n:=xs'.length*u'.size+ys.length*u'.size) o5 o5];unfold dP;have hd:((c.toList.drop off).take (xs'.length*u'.size+ys.length*u'.size)).drop (xs'.length*u'.size+es.length)=[]:=iD (by rw[fB,kX];omega);rw[jo,ja (jv _ _),hd,G7]
    refine yg H R' (λk l h=>?_) (λ_ _ h=>h) ⟨_,bi _ _ _ _,rfl⟩ (run _ _ (by rw[h2]at hrun;exact hrun))
    .by_cases ek:k=n
     .subst ek;have:=R1.fresh k g1 hn;rw[this]at h;cases h
     .rw[jV _ _ _ ek];exact h
   .obtain⟨olds,q1,q2⟩:=A_ (C:=⟨w.heap,ok,m⟩) ht a1 a2;exact QO (j:=j) H R1 ht hu h1 h2 h4 h5 hz a2 q1 hv q2 r2 o5 hmax run
theorem b0A(H:FxOk X)(R:Rel X (CB*q) (CB*q+CB) S m ok a w){c:Call}(ho:o.op= .call c)(hc:c.callee= .builtin .append):(dZ X.E q o).post S (λ_ S' =>kW X (CB*q) (CB*q+CB) o a w m ok S'):=by
 obtain⟨cal,args,ats⟩:=c;simp only at hc;subst hc;unfold dZ;simp only[ho];refine oz R _ λvs hvs=>?_;split<;>try trivial
 rename_i t t' x y hat
 obtain⟨u1,r,he,hx,u2,r',he',hy,hr⟩:=hvs;simp only[jb]at hr;subst hr;rw[he']at he;obtain⟨p,p',rfl,rfl,rfl⟩:=a4c he;cases htt:Nat.beq t t'
 ·
  simp only[cond_false];split<;>try trivial
  rename_i l;refine lU H λi hi=>?_;have hd:=hi.td;split<;>try trivial
  rename_i htd;rw[htd]at hd;unfold a8u;split<;>try trivial
  rename_i e het;obtain⟨j,z,inf,hu,hj,h1,h2,h3,h4,h5,h6⟩:=Bi H het;have hz:z.cells.size=(Ty.int IntKind.u8).size:=by have:=jh h6;simpa using this
  split<;>try trivial
  have hats:ats=#[t,t']:=by
   obtain⟨l⟩:=ats;simp only at hat
   rw[hat]
  have hs:a.eval p' = .string ⟨l.toArray⟩:=hy;refine Ye (j:=j) H R (Lt het) hu h1 h2 h4 h5 hz hx (v:=.string ⟨l.toArray⟩) (es:=Lib.strCells ⟨l.toArray⟩) ?_ ?_ ?_
  .refine⟨?_,.inr (.inr ⟨_,rfl,?_,rfl⟩)⟩
   .rw[Lib.strCells_length];simp[Q_,Ty.size,ByteArray.size]
   .simp[Q_,ByteArray.size]
  .refine⟨by rw[Lib.strCells_length];simp[Q_,Ty.size,ByteArray.size],λi x hi=>?_⟩;show(((Lib.strCells ⟨l.toArray⟩).drop (i*1)).take 1)=[.int .u8 x];have hl:l[i]?.map (λc=>(c.toNat:Int))=some x:=by simpa[Q_,S9]using hi
   obtain⟨c,hc,rfl⟩:=iF.1 hl;have h7:(Lib.strCells ⟨l.toArray⟩)[i]? =some (.int .u8 c.toNat):=by simp[Lib.strCells,hc]
   obtain⟨g1,g2⟩:=aO.1 h7;rw[bY,gm g1,g2];rfl
  .intro r w' h;rw[←f_ hu hd h1]at h;simp[execOp,ho,resolve,invoke,builtin,hats,hs,h]
 simp only[cond_true];have htt' :=iI htt;subst htt';have hats:ats=#[t,t]:=by
  obtain⟨l⟩:=ats;simp only at hat
  rw[hat]
 have run:∀(s v:Value),a.eval p=s->a.eval p' =v->∀r w',(Builtin.append_ #[t,t] o.type #[s,v]).run X.P w= .ok r w' ->(execOp a.eval o).run X.P w= .ok (.value r) w' :=λs v e1 e2 r w' h=>by subst e1;subst e2;simp[execOp,ho,resolve,invoke,builtin,hats,h]
 unfold a8t;split
 .trivial
 rename_i e u het;obtain⟨j,z,inf,hu,hj,h1,h2,h3,h4,h5,h6⟩:=Bi H het;have hz:z.cells.size=u.size:=by have:=jh h6;simpa using this
 split
 rotate_left
 .rename_i md hom;refine ed λhms=>?_;have hms:=iI hms;exact a5P (j:=j) H R hu h1 (by rw[h2,hms]) h4 h5 (by rw[hz,hms]) hx hy (run _ _ rfl rfl)
 have ht:=Lt het;refine a0c R ht hy λys es hv r2=>?_;exact Ye (j:=j) H R ht hu h1 h2 h4 h5 hz hx hv r2 (run _ _ rfl rfl)
theorem u_{α:Type}{Q:α->Sm->Prop}{S:Sm}{C:Cx}{u:Ty}(hf:u.flat=true):∀(n:Nat) {cs:List V} {vs:d4J} {K:List u.den->Cmd α},iJ C cs vs->
  (∀xs,xs.length=n->gy C.h C.ok u xs vs->(K xs).post S Q)->(a5B u n cs K).post S Q
 |0,cs,vs,K,hL,hK=>by
  unfold a5B;cases cs with
  |nil=>simp only[iJ]at hL;subst hL;exact hK [] rfl gy.nil|cons _ _=>trivial
 |n+1,cs,vs,K,hL,hK=>by unfold a5B;refine Ju u hf hL λx r us us' e hr hL' =>?_;refine u_ hf n hL' λxs hl hxs=>?_;subst e;exact hK (x::xs) (by simp[hl]) ((gy.one (hr C.h C.ok)).append hxs)
theorem b3g(H:FxOk X)(R:Rel X (CB*q) (CB*q+CB) S m ok a w){x:Operand}{lo hi:Option Operand}(ho:o.op= .slice t x lo hi none):(dZ X.E q o).post S (λ_ S' =>kW X (CB*q) (CB*q+CB) o a w m ok S'):=by
 refine b0E H R ho λbx hlo hhi hx=>?_;subst hlo;subst hhi;obtain⟨blk,hm,hx⟩:=hx;unfold m_;refine lU H λi hi=>?_;have htd:=hi.td;split<;>try trivial
 rename_i n e hd;rw[hd]at htd;have hut:X.P.underlying t=some (.array n e):=htd;refine lU H λj hj=>?_;split<;>try trivial
 rename_i u hju;refine ed λhf=>di ?_;split<;>try trivial
 rename_i cs hS;obtain⟨blk',arr,T,hm',hh,hl⟩:=R.own_cells hS;simp only at hm;rw[hm]at hm';cases hm';refine u_ (C:=⟨w.heap,ok,m⟩) hf n hl λxs hlen hr=>jC ?_;have hjz:u.size=j.size:=by obtain⟨inf,_,_,_,_,hty⟩:=hj.info;exact(hty u hju).1
 have ht:u.isEnt=false:=by cases u<;>first|rfl|(cases hf;done)
 have hown:Y1 m bx (S (aS+bx))=[blk]:=by simp[Y1,hS,hm]
 obtain⟨s1,s2,s3⟩:=R.sep bx blk (by rw[hown];simp);have R1:=R.kill bx;refine Ib H λnn e1 g1 g2 hn=>?_;rw[←e1];clear e1;generalize CB*q=Z at*;have hsz:arr.toList.length=xs.length*u.size:=hr.1;have R' :Rel X Z (Z+CB) (upd (upd S (aS+bx) .dead) (aS+nn) (.barr u xs)) (oG m nn (.arr blk 0 xs.length xs.length u.size) []) ok a w:=by
  refine R1.lay hn g1 (by show nn<Z+1000000;change nn+64<=Z+1000000 at g2;omega) A7 rfl rfl rfl (E8 _) (λ_ _ _=>rfl) (by simp[Y1]) (λb hbb=>?_) ⟨_,bi _ _ _ _,?_⟩
  .simp[Y1]at hbb;subst hbb;refine⟨s1,s2,s3,λk e=>?_⟩;obtain⟨k1,k2⟩:=BC rfl e;exact k1 (R.inj k bx b k2 (by rw[hown];simp))
  .refine gy.arrOk ht (C:=⟨w.heap,ok,oG m nn (.arr blk 0 xs.length xs.length u.size) []⟩) (cs:=arr.toList) hr hh (.inl rfl) (E8 _) (by rw[←hsz];simp) ?_;simp only[mY];exact Y6 (by rw[hsz];exact E8 _)
 refine yg H R' (λk l h=>?_) (λ_ _ h=>h) (x:=.slice (some ⟨blk,0,none⟩) n n) ⟨_,bi _ _ _ _,by rw[hlen];rfl⟩ ?_
 .by_cases ek:k=nn
  .subst ek;have:=R1.fresh k g1 hn;rw[this]at h;cases h
  .rw[jV _ _ _ ek];exact h
 .have hb:=Iu (P:=X.P) (w:=w) (isS:=false) (len:=n) (cap:=n) (lo:=none) (hi:=none) (x:=0) (y:=n) (.inl ⟨rfl,rfl⟩) (.inl ⟨rfl,rfl⟩) o5 o5 o5 (E8 _);simp[execOp,ho,hx,Instr.sliceAt,run_underlying hut,Instr.sureAddr,hb,uK hj,jw]
theorem a6T(H:FxOk X)(R:Rel X (CB*q) (CB*q+CB) S m ok a w){src t:TypeId}{x:Operand}(ho:o.op= .convert src t x):
  (dZ X.E q o).post S (λ_ S' =>kW X (CB*q) (CB*q+CB) o a w m ok S'):=by
 refine a4E H R ho λl hl hsrc=>?_;unfold b1R;split<;>try trivial
 rename_i e het;obtain⟨j,z,inf,hu,hj,h1,h2,h3,h4,h5,h6⟩:=Bi H het;refine lU H λk hk=>?_;have hkd:=hk.td;split<;>try trivial
 rename_i hke;rw[hke]at hkd;have hrun:=run_bytes_of_string (P:=X.P) w src t e ⟨l.toArray⟩ hsrc hu hkd;have hsz:(⟨l.toArray⟩:ByteArray).size=l.length:=by simp[ByteArray.size]
 have hge:=grownCap_ge w (⟨l.toArray⟩:ByteArray).size 0 e;generalize hcap:grownCap w (⟨l.toArray⟩:ByteArray).size 0 e=cap at*;have hbs:(bytesRow ⟨l.toArray⟩ cap).size=cap:=by simp[bytesRow];omega
 have hll:(Q_ l).length=l.length:=by simp[Q_]
 refine Qu H R (w1:=w.drew) (u:=.int .u8) (e:=e) (cap:=cap) (c:=bytesRow ⟨l.toArray⟩ cap) (cs:=Lib.strCells ⟨l.toArray⟩) (f:=((bytesRow ⟨l.toArray⟩ cap).size,(bytesRow ⟨l.toArray⟩ cap).size+1)) rfl rfl rfl rfl rfl ?_ ?_ ?_ ?_ (λ_ _ h=>h) (λ_ _ h=>h) (.inr ⟨rfl,rfl⟩) ?_
 .refine⟨by rw[Lib.strCells_length];simp[Q_,Ty.size,ByteArray.size],λi x hi=>?_⟩;show(((Lib.strCells ⟨l.toArray⟩).drop (i*1)).take 1)=[.int .u8 x];have hl:l[i]?.map (λc=>(c.toNat:Int))=some x:=by simpa[Q_,S9]using hi
  obtain⟨c,hc,rfl⟩:=iF.1 hl;have h7:(Lib.strCells ⟨l.toArray⟩)[i]? =some (.int .u8 c.toNat):=by simp[Lib.strCells,hc]
  obtain⟨g1,g2⟩:=aO.1 h7;rw[bY,gm g1,g2];rfl
 .omega
 .rw[hbs];simp[Ty.size]
 .rw[hll];have:(bytesRow ⟨l.toArray⟩ cap).toList=Lib.strCells ⟨l.toArray⟩++List.replicate (cap -l.length) (.int .u8 0):=by
   simp[bytesRow,Lib.strCells,hsz]
  rw[this,Y5 (by rw[Lib.strCells_length,hsz];simp[Ty.size])];exact Y6 (by rw[Lib.strCells_length,hsz];simp[Ty.size])
 .simp only[execOp,ho,hl];rw[I4,hrun,hll,←hsz];rfl
end
theorem a2u{h h' :Array Obj}{ok ok' :Nat->Ty->Prop} :∀{t:Ty} (hf:t.flat=true) {x:t.den} {c d:d4J},rep h ok t x c->rep h' ok' t x d->c=d
 | .bool,_,_,_,_,h1,h2=>by simp only[rep]at h1 h2;rw[h1,h2]| .int _,_,_,_,_,h1,h2=>by simp only[rep]at h1 h2;rw[h1,h2]| .str,_,_,_,_,h1,h2=>by simp only[rep]at h1 h2;rw[h1,h2]| .unit,_,_,_,_,h1,h2=>by simp only[rep]at h1 h2;rw[h1,h2]| .prod p q,hf,_,_,_,h1,h2=>by simp only[Ty.flat,D5]at hf;obtain⟨a,b,rfl,a1,a2⟩:=h1;obtain⟨a',b',rfl,b1,b2⟩:=h2;rw[a2u hf.1 a1 b1,a2u hf.2 a2 b2]
 | .sl _,hf,_,_,_,_,_=>by cases hf| .ent ..,hf,_,_,_,_,_=>by cases hf
def b1r(ag:Bool)(k:Ty)(x:k.den)(kv:Value):Prop:=gok ag kv/\rep #[] (λ_ _=>False) k x (RX ag kv)
theorem a6x{ag:Bool}{u v:Value}(hu:gok ag u)(hv:gok ag v)(h:RX ag u=RX ag v):u=v:=by
 cases ag
 .simpa[RX]using h
 .obtain⟨a,rfl⟩:=hu;obtain⟨b,rfl⟩:=hv;have:a.toList=b.toList:=h;rw[Array.toList_inj.1 this]
theorem b1r.det{ag:Bool}{k:Ty}(hf:k.flat=true){x:k.den}{u v:Value}(h1:b1r ag k x u)(h2:b1r ag k x v):u=v:=
 a6x h1.1 h2.1 (a2u hf h1.2 h2.2)
end Go.GP
namespace Go.GP
theorem a1m:∀(n:Nat) (vs a b:List V),MR n vs=some (a,b)->vs=a++b/\a.length=n
 |0,vs,a,b,h=>by simp[MR]at h;obtain⟨rfl,rfl⟩:=h;simp
 |n+1,[],a,b,h=>by simp[MR]at h|n+1,v::vs,a,b,h=>by
  unfold MR at h;cases hs:MR n vs with
  |none=>simp[hs]at h|some p=>obtain⟨a',b'⟩:=p;simp only[hs,H7,lI]at h;obtain⟨rfl,rfl⟩:=h;obtain⟨rfl,hl⟩:=a1m n vs _ _ hs;exact⟨rfl,by simp[hl]⟩
theorem Xa{C:Cx} :∀{a b:List V} {xs ys:d4J},a.length=xs.length->jb C (a++b) (xs++ys)->jb C a xs/\jb C b ys
 |[],b,xs,ys,hl,h=>by
  have:xs=[]:=by cases xs<;>simp at hl ⊢
  subst this;exact⟨rfl,h⟩
 |c::a,b,xs,ys,hl,h=>by
  cases xs with
  |nil=>simp at hl|cons x xs=>obtain⟨v,r,e,h1,h2⟩:=h;simp only[bg,H6]at e;obtain⟨rfl,rfl⟩:=e;obtain⟨h3,h4⟩:=Xa (by simpa using hl) h2;exact⟨⟨_,_,rfl,h1,h3⟩,h4⟩
theorem a9m{C:Cx} :∀{a:List V} {xs:d4J},JA a=false->jb C a xs->a2s C a xs
 |[],xs,_,h=>h|c::a,xs,ht,⟨v,r,e,h1,h2⟩=>by
  have ht2:JA a=false:=by cases c<;>first|exact ht|(simp[JA]at ht)
  refine⟨v,r,e,?_,a9m ht2 h2⟩;cases c<;>first|exact h1|(simp[JA]at ht)
variable {v:Value}
theorem b4h{C:Cx}{a:List V}{xs:d4J}{n:Nat}(ht:JA a=false)(h:jb C a xs)(hr:a5K n v xs):nI C (b7D a) v:=by
 obtain⟨_,hv⟩:=hr;cases a with
 |nil=>simp only[jb]at h;subst h;simp only at hv;subst hv;exact⟨_,rfl,rfl⟩|cons c a=>
  obtain⟨x,r,rfl,h1,h2⟩:=h;cases a with
  |nil=>simp only[jb]at h2;subst h2;simp only at hv;subst hv;exact h1|cons d a=>obtain⟨y,r',rfl,h3,h4⟩:=h2;simp only at hv;subst hv;exact⟨_,rfl,a9m ht ⟨_,_,rfl,h1,_,_,rfl,h3,h4⟩⟩
theorem Ym{h:Array Obj}{ok ok' :Nat->Ty->Prop} :∀{ts:List Ty} {x:Wl ts} {vs:d4J},(∀b u,ok b u->WL u ts=true->ok' b u)->Ha h ok (Wi ts x) vs->Ha h ok' (Wi ts x) vs
 |[],_,_,_,hr=>hr|[t],x,_,f,hr=>by obtain⟨v,r,e,⟨b,o,es,hv,hb,hc,hp⟩,h2⟩:=hr;exact⟨v,r,e,⟨b,o,es,hv,f _ _ hb (by simp[WL]),hc,zl (λb u h k=>f b u h (by simp[WL,k])) hp⟩,h2⟩
 |t::t' ::ts,x,_,f,hr=>by obtain⟨v,r,e,⟨b,o,es,hv,hb,hc,hp⟩,h2⟩:=hr;exact⟨v,r,e,⟨b,o,es,hv,f _ _ hb (by simp[WL]),hc,zl (λb u h k=>f b u h (by simp[WL,k])) hp⟩,Ym (ts:=t' ::ts) (λb u h k=>f b u h (by rw[WL,k];simp)) h2⟩
theorem Ve{h:Array Obj}{ok ok' :Nat->Ty->Prop}{m:Mp}{t:Ty}{xs:List t.den}{l:Loc}(f:∀b u,ok b u->Ty.occ u t=true->ok' b u)(hr:arrOk ⟨h,ok,m⟩ t xs l):arrOk ⟨h,ok',m⟩ t xs l:=by
 cases l with
 |nil=>exact hr|st b=>exact hr|mp b=>obtain⟨h1,es,ck,h2,h3,h4⟩:=hr;refine⟨h1,es,ck,h2,h3,λi y hi=>?_⟩;obtain⟨e,a1,a2,a3⟩:=h4 i y hi;exact⟨e,a1,a2,zl f a3⟩
 |arr blk off len cap sz=>obtain⟨h0,h1,h2,h3,c,T,g,h4,hz,h5,h6⟩:=hr;refine⟨h0,h1,h2,h3,c,T,g,h4,hz,h5,λi y hi=>?_⟩;obtain⟨es,he,hp⟩:=h6 i y hi;exact⟨es,he,zl f hp⟩
theorem Ir{h:Array Obj}{ok ok' :Nat->Ty->Prop} :∀{m:M} {ho:Option Nat} {x:m.den} {cs:d4J} {O:d4K},(∀b u,ok b u->m.occ u=true->ok' b u)->qY h ok m ho x cs O->qY h ok' m ho x cs O
 | .dat t,_,_,_,_,f,hr=>⟨zl f hr.1,hr.2⟩| .unit,_,_,_,_,_,hr=>hr| .pair a b,_,_,_,_,f,⟨c,d,O1,O2,e,eo,h1,h2⟩=>⟨c,d,O1,O2,e,eo,Ir (λb u h k=>f b u h (by simp[M.occ,k])) h1,Ir (λb u h k=>f b u h (by simp[M.occ,k])) h2⟩| .box m,_,_,_,_,f,⟨blk,arr,T,O',e,hh,hr,eo⟩=>⟨blk,arr,T,O',e,hh,Ir f hr,eo⟩| .own t,ho,_,_,_,f,⟨v,e,h1,ha⟩=>by
  refine⟨v,e,h1,?_⟩;split at ha
  .exact ha
  .obtain⟨l,hv,ha,hO⟩:=ha;exact⟨l,hv,Ve f ha,hO⟩
 | .owns m,ho,_,_,_,f,⟨v,e,h1,ha⟩=>by
  refine⟨v,e,h1,?_⟩;split at ha
  .exact ha
  .obtain⟨he,l,Os,hv,ha,hO⟩:=ha;exact⟨he,l,Os,hv,IL (λ_ _=>rfl) (λi x es O _ hr=>Ir f hr) ha,hO⟩
 | .ownb t,_,_,_,_,f,⟨l,v,e,hv,ha,hO⟩=>⟨l,v,e,hv,Ve f ha,hO⟩| .rp t,_,_,_,_,f,⟨v,e,⟨b,o,es,hv,hb,hc,hp⟩,h2⟩=>⟨v,e,⟨b,o,es,hv,f _ _ hb (by simp[M.occ]),hc,zl (λb u h k=>f b u h (by simp[M.occ,k])) hp⟩,h2⟩| .fn g ts,_,_,_,_,f,⟨vs,e,h1,h2⟩=>⟨vs,e,Ym f h1,h2⟩| .ifc t m,_,_,_,_,f,⟨u,e,h1⟩=>⟨u,e,Ir f h1⟩| .cell _,_,_,_,_,_,h=>h| .fr t,_,_,_,_,f,⟨l,v,e,hv,ha,hk,hO⟩=>⟨l,v,e,hv,Ve (λb u h k=>f b u h (by simp[M.occ,k])) ha,λb h=>f b t (hk b h) (by simp[M.occ]),hO⟩| .sbx _ _,_,_,_,_,f,h=>h| .lp t,_,_,_,_,f,⟨v,e,⟨b,o,es,hv,hb,hc,hp⟩,h2⟩=>⟨v,e,⟨b,o,es,hv,f _ _ hb (by simp[M.occ]),hc,zl (λb u h k=>f b u h (by simp[M.occ,k])) hp⟩,h2⟩| .dv ..,_,_,_,_,f,h=>h| .sit,_,_,_,_,f,h=>h
theorem ZV{h:Array Obj}{ok ok' :Nat->Ty->Prop} :∀{ms:List MG} {x:ay ms} {vs:d4J} {O:d4K},(∀b u,ok b u->OZ u ms=true->ok' b u)->vU h ok ms x vs O->vU h ok' ms x vs O
 |[],_,_,_,_,e=>e|[m],_,_,_,f,⟨v,cs,e,hg,hr⟩=>⟨v,cs,e,hg,Ir (λb u h k=>f b u h (by simp[OZ,k])) hr⟩|m::m' ::r,_,_,_,f,⟨v,cs,vs',O1,O2,e,eo,hg,h1,h2⟩=>
  ⟨v,cs,vs',O1,O2,e,eo,hg,Ir (λb u h k=>f b u h (by simp[OZ,k])) h1,ZV (λb u h k=>f b u h (by rw[OZ,k];simp)) h2⟩
theorem Ud{u:Ty} :∀{a b:List MG},OZ u (a++b)=(OZ u a || OZ u b)
 |[],_=>rfl|m::a,b=>by simp[OZ,Ud,Bool.or_assoc]
theorem a0Y:∀{fs:List (Nat×FSpec)} {f:Nat} {vs:List V} {s:FSpec},a4L fs f vs=some s->(f,s)∈fs
 |[],_,_,_,h=>by simp[a4L]at h|(g,s')::r,f,vs,s,h=>by
  unfold a4L at h;cases hb:(Nat.beq g f&&RV s'.ps vs)
  .rw[hb]at h;exact X9 _ (a0Y h)
  .rw[hb]at h;simp only[cond_true,H7]at h;subst h;simp only[D5]at hb;have:=iI hb.1;subst this;exact jG
theorem b8o{l l0:Loc}(h:l.view none v)(h0:l0.view none v)(hs:∀b o n c s b' o' n' c' s',l= .arr b o n c s->l0= .arr b' o' n' c' s' ->s=s'):l=l0:=by
 cases l<;>cases l0<;>simp only[Loc.view]at h h0
 .rfl
 .rw[h]at h0;cases h0
 .rw[h]at h0;cases h0
 .rw[h]at h0;cases h0
 .rw[h]at h0;simp only[qU,H7,jf,and_true]at h0;obtain⟨⟨rfl,rfl⟩,rfl,rfl⟩:=h0;have:=hs _ _ _ _ _ _ _ _ _ _ rfl rfl;subst this;rfl
 .rw[h]at h0;cases h0
 .rw[h]at h0;cases h0
 .rw[h]at h0;cases h0
 .rw[h]at h0;cases h0;rfl
theorem Rx{h:Array Obj}{ok:Nat->Ty->Prop} :∀{ms:List MG} {x:ay ms} {vs:d4J} {O:d4K},vU h ok ms x vs O->vs.length=ms.length
 |[],_,_,_,e=>by simp[e.1]|[m],_,_,_,⟨v,cs,e,hg,hr⟩=>by simp[e]|m::m' ::r,_,_,_,⟨v,cs,vs',O1,O2,e,eo,hg,h1,h2⟩=>by have:=Rx h2;subst e;simp[this]
variable {q:Nat}{f:FuncId}{c:Call}
section
variable {X:Fx} {cl ch:Nat} {S:Sm} {m:Mp} {ok:Nat->Ty->Prop} {a:Act} {w:World} {o:Oper}
theorem bu{α:Type}{Q:α->Sm->Prop}{h0:Array Obj}{ok0:Nat->Ty->Prop}{m0:Mp} :∀(ms:List MG) {vs:List V} {vals:d4J} {ws:List V} {os:d4J} {B:d4K} {K:Cmd α} {S:Sm}
  (R:Rel X cl ch S m ok a w) (hm:∀k l,m0 k=some l->m k=some l) (hT:Tk X S m ok w B) (hv:jb ⟨h0,ok0,m0⟩ vs vals) (ho:zx w.heap ms vals os B) (hw:jb ⟨w.heap,ok,m⟩ ws os)
  (hK:∀S',Rel X cl ch S' m ok a w->K.post S' Q),(aV ms vs ws K).post S Q
 |[],vs,vals,ws,os,B,K,S,R,hm,hT,hv,ho,hw,hK=>by
  cases vs with
  |cons _ _=>unfold aV;trivial|nil=>
   cases ws with
   |cons _ _=>unfold aV;trivial|nil=>unfold aV;exact hK S R
 |(g,.dat t)::ms,vs,vals,ws,os,B,K,S,R,hm,hT,hv,ho,hw,hK=>by
  cases vs with
  |nil=>unfold aV;trivial|cons v vs=>obtain⟨x,r,rfl,h1,h2⟩:=hv;unfold aV;exact bu ms R hm hT h2 ho hw hK
 |(g,.own t)::ms,vs,vals,ws,os,B,K,S,R,hm,hT,hv,ho,hw,hK=>by
  cases vs with
  |nil=>unfold aV;trivial|cons v vs=>obtain⟨x,r,rfl,h1,h2⟩:=hv;unfold aV;exact bu ms R hm hT h2 ho hw hK
 |(g,.pair p q)::ms,vs,vals,ws,os,B,K,S,R,hm,hT,hv,ho,hw,hK=>by
  cases vs with
  |nil=>unfold aV;trivial|cons v vs=>obtain⟨x,r,rfl,h1,h2⟩:=hv;unfold aV;exact bu ms R hm hT h2 ho hw hK
 |(g,.unit)::ms,vs,vals,ws,os,B,K,S,R,hm,hT,hv,ho,hw,hK=>by
  cases vs with
  |nil=>unfold aV;trivial|cons v vs=>obtain⟨x,r,rfl,h1,h2⟩:=hv;unfold aV;exact bu ms R hm hT h2 ho hw hK
 |(g,.cell _)::ms,vs,vals,ws,os,B,K,S,R,hm,hT,hv,ho,hw,hK=>by
  cases vs with
  |nil=>unfold aV;trivial|cons v vs=>obtain⟨x,r,rfl,h1,h2⟩:=hv;unfold aV;exact bu ms R hm hT h2 ho hw hK
 |(g,.fr _)::ms,vs,vals,ws,os,B,K,S,R,hm,hT,hv,ho,hw,hK=>by
  cases vs with
  |nil=>unfold aV;trivial|cons v vs=>obtain⟨x,r,rfl,h1,h2⟩:=hv;unfold aV;exact bu ms R hm hT h2 ho hw hK
 |(g,.box md)::ms,vs,vals,ws,os,B,K,S,R,hm,hT,hv,ho,hw,hK=>by
  cases vs with
  |nil=>unfold aV;trivial|cons v0 vs=>
  cases v0<;>try (unfold aV;trivial)
  case ptr bx off=>
  cases ws with
  |nil=>unfold aV;trivial|cons o0 ws=>
  cases o0<;>try (unfold aV;trivial)
  case agg cs=>
   unfold aV;refine di ?_;split<;>try trivial
   rename_i hS;refine jC ?_;obtain⟨x,r,rfl,h1,h2⟩:=hv;obtain⟨y,r',rfl,h3,h4⟩:=hw;obtain⟨b,arr,T,os',B',e1,hh,e2,rfl,ho'⟩:=ho;simp only[H6]at e2;obtain⟨rfl,rfl⟩:=e2;obtain⟨blk,hmb,e3⟩:=h1;subst e1;simp only[oM,H7,jf,and_true]at e3;obtain⟨rfl,rfl⟩:=e3;obtain⟨arr',e4,hl⟩:=h3;simp only[Value.agg.injEq]at e4;subst e4;have hmb' :=hm _ _ hmb;obtain⟨R',T'⟩:=R.backV (n:=bx) (v:=.bcells cs) (O1:=[b]) (B:=B') A7 (by simpa using hT) (by simp[Y1,hmb']) ⟨b,_,T,hmb',hh,hl⟩;exact bu ms R' hm T' h2 ho' h4 hK
 |(g,.ifc t (.box md))::ms,vs,vals,ws,os,B,K,S,R,hm,hT,hv,ho,hw,hK=>by
  cases vs with
  |nil=>unfold aV;trivial|cons v0 vs=>
  cases v0<;>try (unfold aV;trivial)
  case ifc t' v1=>
  cases v1<;>try (unfold aV;trivial)
  case ptr bx off=>
  cases ws with
  |nil=>unfold aV;trivial|cons o0 ws=>
  cases o0<;>try (unfold aV;trivial)
  case agg cs=>
   unfold aV;refine di ?_;split<;>try trivial
   rename_i hS;refine jC ?_;obtain⟨x,r,rfl,h1,h2⟩:=hv;obtain⟨y,r',rfl,h3,h4⟩:=hw;obtain⟨t2,b,arr,T,os',B',e1,hh,e2,rfl,ho'⟩:=ho;simp only[H6]at e2;obtain⟨rfl,rfl⟩:=e2;obtain⟨u,e5,_,h1⟩:=h1;obtain⟨blk,hmb,e3⟩:=h1;subst e1;subst e3;simp only[Value.iface.injEq,oM,H7,jf,and_true]at e5;obtain⟨rfl,rfl,rfl⟩:=e5;obtain⟨arr',e4,hl⟩:=h3;simp only[Value.agg.injEq]at e4;subst e4;have hmb' :=hm _ _ hmb;obtain⟨R',T'⟩:=R.backV (n:=bx) (v:=.bcells cs) (O1:=[b]) (B:=B') A7 (by simpa using hT) (by simp[Y1,hmb']) ⟨b,_,T,hmb',hh,hl⟩;exact bu ms R' hm T' h2 ho' h4 hK
 |(g,.ownb t)::ms,vs,vals,ws,os,B,K,S,R,hm,hT,hv,ho,hw,hK=>by
  cases vs with
  |nil=>unfold aV;trivial|cons v0 vs=>
  obtain⟨x,r,rfl,h1,h2⟩:=hv;obtain⟨os',rfl,ho'⟩:=ho;cases v0<;>try (unfold aV;trivial)
  case nl=>
   cases ws with
   |nil=>unfold aV;trivial|cons o0 ws=>
   cases o0<;>try (unfold aV;trivial)
   case own nm vw=>
   cases vw with
   |some _=>unfold aV;trivial|none=>
   unfold aV;obtain⟨y,r',e,h3,h4⟩:=hw;simp only[H6]at e;obtain⟨rfl,rfl⟩:=e;refine jC ?_;have T1:=Tk.kill R hT nm (bs:=[]) (λb h=>by cases h) fJ;rw[G7]at T1;exact bu ms (R.kill nm) hm T1 h2 ho' h4 hK
  case own bx vw=>
   cases vw with
   |some _=>unfold aV;trivial|none=>
   cases ws with
   |nil=>unfold aV;trivial|cons o0 ws=>
   cases o0<;>try (unfold aV;trivial)
   case own nm vw=>
   cases vw with
   |some _=>unfold aV;trivial|none=>
   unfold aV;obtain⟨y,r',e,h3,h4⟩:=hw;simp only[H6]at e;obtain⟨rfl,rfl⟩:=e;obtain⟨l0,hm0,hv0⟩:=h1;obtain⟨l,hml,hvl⟩:=h3;have hm0' :=hm _ _ hm0;refine di ?_;split<;>try trivial
   rename_i u xs hS;refine jC (di ?_);split<;>try trivial
   rename_i t' hS2;refine jL λe=>?_;subst e;refine jC ?_;obtain⟨l',hml',ha⟩:=R.own_arr hS;simp only at hml;rw[hml]at hml';cases hml';have R1:=R.kill nm;have hob:Y1 m nm (S (aS+nm))=l.blks:=by rw[hS];cases l<;>first|(simp[Y1,hml,Loc.blks];done)|cases ha
   have T1:=Tk.kill R hT nm (bs:=l.blks) (λb h=>by rw[hob];exact h) (Loc.blks_nodup l);have hg:=R1.box bx;rw[hS2]at hg;obtain⟨l1,hm1,hsz⟩:=hg;simp only at hm1;rw[hm0']at hm1;cases hm1;have hll:l=l0:=b8o hvl hv0 (λb o n c s b' o' n' c' s' e1 e2=>by subst e1;rw[hsz _ _ _ _ _ e2];exact ha.2.1);subst hll;obtain⟨R',T'⟩:=R1.backV (n:=bx) (v:=.barr u xs) (O1:=l.blks) (B:=B) A7 (T1.perm jQ) (by cases l<;>first|(simp[Y1,hm0',Loc.blks];done)|cases ha) ⟨l,hm0',ha⟩;exact bu ms R' hm T' h2 ho' h4 hK
 |(g,.lp _)::ms,vs,vals,ws,os,B,K,S,R,hm,hT,hv,ho,hw,hK=>by
  cases vs with
  |nil=>unfold aV;trivial|cons v vs=>obtain⟨x,r,rfl,h1,h2⟩:=hv;unfold aV;exact bu ms R hm hT h2 ho hw hK
 |(g,.dv ..)::ms,vs,vals,ws,os,B,K,S,R,hm,hT,hv,ho,hw,hK=>by
  cases vs with
  |nil=>unfold aV;trivial|cons v vs=>obtain⟨x,r,rfl,h1,h2⟩:=hv;unfold aV;exact bu ms R hm hT h2 ho hw hK
 |(g,.sit)::ms,vs,vals,ws,os,B,K,S,R,hm,hT,hv,ho,hw,hK=>by cases vs<;>(unfold aV;trivial)|(g,.sbx _ _)::ms,vs,vals,ws,os,B,K,S,R,hm,hT,hv,ho,hw,hK=>by
  cases vs with
  |nil=>unfold aV;trivial|cons v0 vs=>
  obtain⟨x,r,rfl,h1,h2⟩:=hv;obtain⟨os',rfl,ho'⟩:=ho;cases v0<;>try (unfold aV;trivial)
  case ptr bx off=>
  cases ws with
  |nil=>unfold aV;trivial|cons o0 ws=>
  cases o0<;>try (unfold aV;trivial)
  case ptr nm off' =>
   unfold aV;obtain⟨y,r',e,h3,h4⟩:=hw;simp only[H6]at e;obtain⟨rfl,rfl⟩:=e;obtain⟨b0,hm0,hv0⟩:=h1;obtain⟨b1,hm1,hv1⟩:=h3;have hm0' :=hm _ _ hm0;have hbb:b0=b1:=by rw[hv0]at hv1;simp only[oM,H7,jf,and_true]at hv1;exact hv1.1
   subst hbb;refine di ?_;split<;>try trivial
   rename_i tb0 c hS;refine jC (di ?_);split<;>try trivial
   rename_i hS2;refine jC ?_;have hb:=R.box nm;rw[hS]at hb;obtain⟨blk',a0,v0,hm',hh,hs,g1⟩:=hb;simp only at hm1 hm';rw[hm1]at hm';cases hm';have R1:=R.kill nm;have T1:=Tk.kill R hT nm (bs:=[b0]) (λb h=>by rw[hS];simp[Y1,hm1];simpa using h) A7;obtain⟨R',T'⟩:=R1.backV (n:=bx) (v:=.bsb tb0 c) (O1:=[b0]) (B:=B) A7 (T1.perm jQ) (by simp[Y1,hm0']) ⟨b0,a0,v0,hm0',hh,hs,g1⟩;exact bu ms R' hm T' h2 ho' h4 hK
 |(g,.owns md)::ms,vs,vals,ws,os,B,K,S,R,hm,hT,hv,ho,hw,hK=>by
  cases vs with
  |nil=>unfold aV;trivial|cons v vs=>obtain⟨x,r,rfl,h1,h2⟩:=hv;unfold aV;exact bu ms R hm hT h2 ho hw hK
 |(g,.rp t)::ms,vs,vals,ws,os,B,K,S,R,hm,hT,hv,ho,hw,hK=>by
  cases vs with
  |nil=>unfold aV;trivial|cons v vs=>obtain⟨x,r,rfl,h1,h2⟩:=hv;unfold aV;exact bu ms R hm hT h2 ho hw hK
 |(g,.fn f ts)::ms,vs,vals,ws,os,B,K,S,R,hm,hT,hv,ho,hw,hK=>by
  cases vs with
  |nil=>unfold aV;trivial|cons v vs=>obtain⟨x,r,rfl,h1,h2⟩:=hv;unfold aV;exact bu ms R hm hT h2 ho hw hK
 |(g,.ifc t (.dat u))::ms,vs,vals,ws,os,B,K,S,R,hm,hT,hv,ho,hw,hK=>by
  cases vs with
  |nil=>unfold aV;trivial|cons v vs=>obtain⟨x,r,rfl,h1,h2⟩:=hv;unfold aV;exact bu ms R hm hT h2 ho hw hK
 |(g,.ifc t (.own u))::ms,vs,vals,ws,os,B,K,S,R,hm,hT,hv,ho,hw,hK=>by
  cases vs with
  |nil=>unfold aV;trivial|cons v vs=>obtain⟨x,r,rfl,h1,h2⟩:=hv;unfold aV;exact bu ms R hm hT h2 ho hw hK
 |(g,.ifc t (.pair p q))::ms,vs,vals,ws,os,B,K,S,R,hm,hT,hv,ho,hw,hK=>by
  cases vs with
  |nil=>unfold aV;trivial|cons v vs=>obtain⟨x,r,rfl,h1,h2⟩:=hv;unfold aV;exact bu ms R hm hT h2 ho hw hK
 |(g,.ifc t (.unit))::ms,vs,vals,ws,os,B,K,S,R,hm,hT,hv,ho,hw,hK=>by
  cases vs with
  |nil=>unfold aV;trivial|cons v vs=>obtain⟨x,r,rfl,h1,h2⟩:=hv;unfold aV;exact bu ms R hm hT h2 ho hw hK
 |(g,.ifc t (.cell _))::ms,vs,vals,ws,os,B,K,S,R,hm,hT,hv,ho,hw,hK=>by
  cases vs with
  |nil=>unfold aV;trivial|cons v vs=>obtain⟨x,r,rfl,h1,h2⟩:=hv;unfold aV;exact bu ms R hm hT h2 ho hw hK
 |(g,.ifc t (.lp _))::ms,vs,vals,ws,os,B,K,S,R,hm,hT,hv,ho,hw,hK=>by
  cases vs with
  |nil=>unfold aV;trivial|cons v vs=>obtain⟨x,r,rfl,h1,h2⟩:=hv;unfold aV;exact bu ms R hm hT h2 ho hw hK
 |(g,.ifc t (.dv ..))::ms,vs,vals,ws,os,B,K,S,R,hm,hT,hv,ho,hw,hK=>by
  cases vs with
  |nil=>unfold aV;trivial|cons v vs=>obtain⟨x,r,rfl,h1,h2⟩:=hv;unfold aV;exact bu ms R hm hT h2 ho hw hK
 |(g,.ifc t (.fr _))::ms,vs,vals,ws,os,B,K,S,R,hm,hT,hv,ho,hw,hK=>by
  cases vs with
  |nil=>unfold aV;trivial|cons v vs=>obtain⟨x,r,rfl,h1,h2⟩:=hv;unfold aV;exact bu ms R hm hT h2 ho hw hK
 |(g,.ifc t (.owns md))::ms,vs,vals,ws,os,B,K,S,R,hm,hT,hv,ho,hw,hK=>by
  cases vs with
  |nil=>unfold aV;trivial|cons v vs=>obtain⟨x,r,rfl,h1,h2⟩:=hv;unfold aV;exact bu ms R hm hT h2 ho hw hK
 |(g,.ifc t .sit)::ms,vs,vals,ws,os,B,K,S,R,hm,hT,hv,ho,hw,hK=>by
  cases vs with
  |nil=>unfold aV;trivial|cons v vs=>obtain⟨x,r,rfl,h1,h2⟩:=hv;unfold aV;exact bu ms R hm hT h2 ho hw hK
 |(g,.ifc t (.sbx _ _))::ms,vs,vals,ws,os,B,K,S,R,hm,hT,hv,ho,hw,hK=>by
  cases vs with
  |nil=>unfold aV;trivial|cons v vs=>obtain⟨x,r,rfl,h1,h2⟩:=hv;unfold aV;exact bu ms R hm hT h2 ho hw hK
 |(g,.ifc t (.ownb u))::ms,vs,vals,ws,os,B,K,S,R,hm,hT,hv,ho,hw,hK=>by
  cases vs with
  |nil=>unfold aV;trivial|cons v vs=>obtain⟨x,r,rfl,h1,h2⟩:=hv;unfold aV;exact bu ms R hm hT h2 ho hw hK
 |(g,.ifc t (.rp u))::ms,vs,vals,ws,os,B,K,S,R,hm,hT,hv,ho,hw,hK=>by
  cases vs with
  |nil=>unfold aV;trivial|cons v vs=>obtain⟨x,r,rfl,h1,h2⟩:=hv;unfold aV;exact bu ms R hm hT h2 ho hw hK
 |(g,.ifc t (.fn f ts))::ms,vs,vals,ws,os,B,K,S,R,hm,hT,hv,ho,hw,hK=>by
  cases vs with
  |nil=>unfold aV;trivial|cons v vs=>obtain⟨x,r,rfl,h1,h2⟩:=hv;unfold aV;exact bu ms R hm hT h2 ho hw hK
 |(g,.ifc t (.ifc t2 md))::ms,vs,vals,ws,os,B,K,S,R,hm,hT,hv,ho,hw,hK=>by
  cases vs with
  |nil=>unfold aV;trivial|cons v vs=>obtain⟨x,r,rfl,h1,h2⟩:=hv;unfold aV;exact bu ms R hm hT h2 ho hw hK
theorem MJ{P:Program}{w:World}{fn:Func}(hf:P.funcs[f]? =some fn)(hb:fn.body.isSome=true)(hn:(fn.name== "runtime.NumGoroutine")=false)(args:Array Value):
  (callFunc f args).run P w= .ok (.enter f args) w:=by
 have hb' :¬fn.body=none:=by intro e;rw[e]at hb;cases hb
 have hn' :¬fn.name= "runtime.NumGoroutine":=by intro e;rw[e]at hn;simp at hn
 simp[callFunc,hf,hn',hb']
theorem a9P(H:FxOk X)(R:Rel X (CB*q) (CB*q+CB) S m ok a w){h0:Array Obj}{ok0:Nat->Ty->Prop}{s:FSpec}{vs:List V}{vals:d4J}{r:ay (s.rs++s.outs)}{rs os:d4J}{O' B:d4K}
  (hT:Tk X S m ok w (O' ++B)) (hv:jb ⟨h0,ok0,m⟩ vs vals) (hret:a5K s.rs.length v rs) (ho:zx w.heap s.ps vals os B) (hr:vU w.heap ok (s.rs++s.outs) r (rs++os) O') {Q:Unit->Sm->Prop}
  (hK:∀S' m',Rel X (CB*q) (CB*q+CB) S' m' ok (a.put o.dst v) w->(∀k l,m k=some l->m' k=some l)->Q () S'):
  (QV (s.rs++s.outs) r (O8 q o.dst) λws n' =>bif Nat.ble n' (O8 q o.dst+64)then(match MR s.rs.length ws with
    |some (a,o')=>bif JA a then .fail else aV s.ps vs o' (gu X.E o.dst (b7D a))
    |none=> .fail)else .fail).post S Q:=by
 have hcl:CB*q<=O8 q o.dst:=by
  cases o.dst with
  |none=>exact jv _ _|some t=>exact jv _ _
 refine Lu (T:=B) _ R hcl hT hr λS1 m1 ws n1 ch1 R1 c1 T1 k1 s1 l1 e1=>dJ λhle=>?_;have hle' :=Y9 hle;split<;>try trivial
 rename_i p p' hsp;obtain⟨rfl,hpl⟩:=a1m _ _ _ _ hsp;obtain⟨l2,l3⟩:=Xa (by rw[hpl,hret.1]) l1;cases ht:JA p
 .simp only[cond_false];refine bu s.ps R1 k1 T1 hv ho l3 λS2 R2=>?_;have hres:=b4h ht l2 hret;cases hd:o.dst with
  |none=>have hin:=uz H (q:=q) none (λt h=>by cases h);rw[hd]at hle' hK;exact hK S2 m1 (R2.chmono (by generalize CB*q=Z at*;generalize O8 q none=N at*;omega)) k1
  |some t=>unfold gu;refine dJ λhb=>?_;have hin:=uz H (q:=q) (some t) (λt' h=>by cases h;exact(Ea hb).1);rw[hd]at hle' hK;have R3:Rel X (CB*q) (CB*q+CB) S2 m1 ok a w:=R2.chmono (by generalize CB*q=Z at*;generalize O8 q (some t)=N at*;omega);exact hK _ m1 (R3.put H.ntB hb hres) k1
 .trivial
theorem TC(H:FxOk X)(R:Rel X (CB*q) (CB*q+CB) S m ok a w){vs:List V}{vals:d4J}(hvs:jb ⟨w.heap,ok,m⟩ vs vals)
  (run:∀fn,X.P.funcs[f]? =some fn->fn.body.isSome=true->(fn.name== "runtime.NumGoroutine")=false->(execOp a.eval o).run X.P w= .ok (.enter f vals.toArray) w):
  (a0t X.E q o.dst f vs).post S (λ_ S' =>kW X (CB*q) (CB*q+CB) o a w m ok S'):=by
 unfold a0t;split
 .trivial
 rename_i s hs;have hmem:=a0Y hs;have hF:=H.fs _ hmem;obtain⟨fn,hf,hb,hnm⟩:=H.fn _ hmem;have hrun:=run fn hf hb hnm;refine b1Y R hvs s.ps hvs λhdv=>?_;refine LH (ln:=a1T s) (T:=[]) s.ps R Tk.nil hvs λS1 ok1 x O R1 T1 k1 s1 hrel=>gG λr hr=>?_;simp only[J9]at T1;generalize hokc:okL (a1T s) S1 m ok1=okc at hrel;have c1:∀b t,ok1 b t->okc b t:=λb t h=>by rw[←hokc];exact .inl h
 have hsep1:∀b t,ok1 b t->∀n,b∉Y1 m n (S1 (aS+n)):=λb t h n e=>(R1.sep n b e).1 t h;have hlt:∀b t,okc b t->b<w.heap.size:=λb t h=>by
  rw[←hokc]at h;rcases h with h|⟨_,n,h,_⟩
  .exact R1.okLt b t h
  .exact(R1.sep n b h).2.1
 have hfree:∀b∈O,(∀t,¬okc b t)/\b<w.heap.size:=λb hb=>by
  obtain⟨f1,f2,f3,f4⟩:=T1.free b hb;refine⟨λt h=>?_,f2⟩;rw[←hokc]at h;rcases h with h|⟨_,n,h,_⟩
  .exact f1 t h
  .exact f4 n h
 have hC:=hF w okc O _ x r hlt T1.nodup hfree (λg u hg=>by obtain⟨g1,g3,g2⟩:=R1.gl g u hg;refine⟨c1 _ _ g1,g3,λi y hi=>?_⟩;obtain⟨es,he,hr⟩:=g2 i y hi;exact⟨es,he,iV c1 (λ_ _ _=>rfl) hr⟩) hrel hdv hr
 have hown:∀b,(w.heap.size<=b\/b∈O)->(X.w0.heap.size<=b\/b∈X.O)/\∀n,b∉Y1 m n (S1 (aS+n)):=λb hb=>by
  rcases hb with hb|hb
  .have:=R1.frame.size;exact⟨.inl o5,λn e=>by have:=(R1.sep n b e).2.1;omega⟩
  .exact(T1.free b hb).2.2
 revert hC;generalize hPost:(λ(e:Ending) (w' :World)=>∃v ok' O' rs os B,e= .returned v/\Frame' w w' O/\(∀b t,okc b t->ok' b t)/\(∀b t,ok' b t->b<w'.heap.size/\(okc b t\/w.heap.size<=b\/b∈O))/\
  (O' ++B).Nodup/\(∀b∈O' ++B,(∀t,¬ok' b t)/\b<w'.heap.size/\(w.heap.size<=b\/b∈O))/\
  a5K s.rs.length v rs/\zx w'.heap s.ps vals os B/\vU w'.heap ok' (s.rs++s.outs) r (rs++os) O')=Post
 intro hC;have hall:∀p: { p:Ending×World // Post p.1 p.2 },(QV (s.rs++s.outs) r (O8 q o.dst) λws n' =>bif Nat.ble n' (O8 q o.dst+64)then(match MR s.rs.length ws with
   |some (a,o')=>bif JA a then .fail else aV s.ps vs o' (gu X.E o.dst (b7D a))
   |none=> .fail)else .fail).post S1 (λ_ S' =>∃v m' okf,p.1.1= .returned v/\Rel X (CB*q) (CB*q+CB) S' m' okf (a.put o.dst v) p.1.2/\(∀k l,m k=some l->m' k=some l)/\(∀b t,ok b t->okf b t)):=by
  rintro⟨⟨e,w'⟩,hp⟩;rw[←hPost]at hp;obtain⟨v,ok',O',rs,os,B,rfl,fr,k2,hok',hnd,hfr,hret,houts,hrel'⟩:=hp;have k3:∀b t,ok1 b t->(ok' b t/\∀n,b∉Y1 m n (S1 (aS+n))):=λb t h=>⟨k2 b t (c1 b t h),hsep1 b t h⟩;have R2:Rel X (CB*q) (CB*q+CB) S1 m (λb t=>ok' b t/\∀n,b∉Y1 m n (S1 (aS+n))) a w' :=by
   refine R1.world fr.os fr.tape fr.output fr.size (λb hb h=>fr.block b hb λhO=>?_) k3 (λb t h=>⟨(hok' b t h.1).1,?_⟩)
   .obtain⟨f1,f2,f3,f4⟩:=T1.free b hO;rcases h with⟨t,h⟩|⟨n,h⟩|h
    .exact f1 t h
    .exact f4 n h
    .exact h f3
   .rcases(hok' b t h.1).2 with h'|h'
    .rw[←hokc]at h';rcases h' with h'|⟨_,n,h',_⟩
     .exact .inl h'
     .exact absurd h' (h.2 n)
    .exact .inr (hown b h')
  have hrel2:vU w'.heap (λb t=>ok' b t/\∀n,b∉Y1 m n (S1 (aS+n))) (s.rs++s.outs) r (rs++os) O' :=by
   refine ZV (λb u h k=>⟨h,λn e=>?_⟩) hrel';rcases(hok' b u h).2 with h'|h'
   .rw[←hokc]at h';rcases h' with h'|⟨hl,_⟩
    .exact hsep1 b u h' n e
    .rw[Ud]at k;unfold a1T at hl;rw[k]at hl;cases hl
   .exact(hown b h').2 n e
  refine a9P H R2 (h0:=w.heap) (ok0:=ok) (vals:=vals) (rs:=rs) (os:=os) (O' :=O') (B:=B) (v:=v) ⟨hnd,λb hb=>?_⟩ hvs hret houts hrel2 λS' m' R' km=>⟨v,m',_,rfl,R',km,λb t hb=>k3 b t (k1 b t hb)⟩;obtain⟨g1,g2,g3⟩:=hfr b hb;obtain⟨f2,f3⟩:=hown b g3;exact⟨λt h=>g1 t h.1,g2,f2,f3⟩
 refine Eb ?_ (KF hall);intro _ S' hS' next Q hn
 unfold Oper.wp;rw[hrun,Oper.upon_enter];refine Calls.mono hC λe w' hp=>?_;obtain⟨v,m',okf,he,R',km,kok⟩:=hS' ⟨(e,w'),hp⟩;simp only at he;subst he;exact hn m' okf _ w' R' km kok
theorem Vf{α:Type} :∀{l:List (Nat×α)} {n:Nat} {x:α},fP l n=some x->(n,x)∈l
 |[],_,_,h=>by cases h|(k,v)::r,n,x,h=>by
  unfold fP at h;cases hb:Nat.beq k n<;>rw[hb]at h
  .exact X9 _ (Vf h)
  .have:=iI hb;subst this;simp only[cond_true,H7]at h;subst h;exact jG
theorem b7p(H:FxOk X)(R:Rel X (CB*q) (CB*q+CB) S m ok a w)(ho:o.op= .call c)(hc:c.callee= .value (.func f)):(dZ X.E q o).post S (λ_ S' =>kW X (CB*q) (CB*q+CB) o a w m ok S'):=by
 obtain⟨cal,args,ats⟩:=c;simp only at hc;subst hc;unfold dZ;simp only[ho];have e:args.map a.eval=(args.toList.map a.eval).toArray:=by apply lu;simp
 have hrun:∀fn,X.P.funcs[f]? =some fn->fn.body.isSome=true->(fn.name== "runtime.NumGoroutine")=false->(execOp a.eval o).run X.P w= .ok (.enter f (args.toList.map a.eval).toArray) w:=λfn hf hb hnm=>by have:=MJ (P:=X.P) (w:=w) hf hb hnm (args.map a.eval);rw[e]at this;simp[execOp,ho,resolve,Deferred.ofValue,Act.eval,invoke,e,this]
 refine oz R _ λvs hvs=>?_;split
 .rename_i off sz hpl;cases hz:Nat.beq sz 0
  case true=>trivial
  simp only[cond_false];split<;>try trivial
  rename_i v;obtain⟨x,r,e1,h1,h2⟩:=hvs;simp only[jb]at h2;subst h2;refine SE R h1 λr y hy hp=>?_;obtain⟨⟨fn,hf,hb,hnm⟩,hcall⟩:=(H.pl _ (Vf hpl)).snd hz;have hC:=hcall w x y hp;have hr0:=hrun fn hf hb hnm;rw[e1]at hr0;unfold gu;cases hd:o.dst with
  |none=>
   intro next Q hn
   unfold Oper.wp;rw[hr0,Oper.upon_enter];refine Calls.mono hC λen w' hp=>?_;obtain⟨rfl,k,rfl⟩:=hp;rw[hd];exact hn m ok a _ (R.same (w' :=w.drewN k) rfl rfl rfl rfl) (λ_ _ h=>h) (λ_ _ h=>h)
  |some d=>
   refine dJ λhb=>?_;intro next Q hn
   unfold Oper.wp;rw[hr0,Oper.upon_enter];refine Calls.mono hC λen w' hp=>?_;obtain⟨rfl,k,rfl⟩:=hp;rw[hd];exact hn m ok _ _ ((R.put H.ntB hb hy).same (w' :=w.drewN k) rfl rfl rfl rfl) (λ_ _ h=>h) (λ_ _ h=>h)
 .exact TC H R hvs hrun
theorem MH{C:Cx} :∀{a b:List V} {xs ys:d4J},jb C a xs->jb C b ys->jb C (a++b) (xs++ys)
 |[],_,_,_,h,k=>by simp only[jb]at h;subst h;exact k|c::a,b,_,_,⟨v,r,e,h1,h2⟩,k=>by subst e;exact⟨v,r++_,rfl,h1,MH h2 k⟩
theorem ZX{C:Cx} :∀{caps:List ((t:Ty)×t.den)} {vs:d4J},Ha C.h C.ok caps vs->jb C (caps.map c3R) vs
 |[],_,h=>h|c::cs,_,⟨v,r,e,h1,h2⟩=>⟨v,r,e,h1,ZX h2⟩
theorem b3b(H:FxOk X)(R:Rel X (CB*q) (CB*q+CB) S m ok a w){x:Operand}(ho:o.op= .call c)(hc:c.callee= .value x)(hx:∀f,x≠.func f):(dZ X.E q o).post S (λ_ S' =>kW X (CB*q) (CB*q+CB) o a w m ok S'):=by
 obtain⟨cal,args,ats⟩:=c;simp only at hc;subst hc;unfold dZ;simp only[ho];refine oz R _ λvs hvs=>?_;refine cu R λu hu=>?_;split<;>try trivial
 rename_i f caps;obtain⟨cs,hv,hcaps⟩:=hu;refine TC H R (MH hvs (ZX hcaps)) λfn hf hb hnm=>?_;have:=MJ (P:=X.P) (w:=w) hf hb hnm (args.map a.eval++cs);have e:args.map a.eval++cs=(args.toList.map a.eval++cs.toList).toArray:=by apply lu;simp
 rw[e]at this;simp[execOp,ho,resolve,Deferred.ofValue,hv,invoke,e,this]
theorem Su:∀{l:List ((Nat×String)×Nat×Option Nat)} {t:Nat} {n:String} {r:Nat×Option Nat},Zp l t n=some r->((t,n),r)∈l
 |[],_,_,_,h=>by simp[Zp]at h|((u,k),r')::l,t,n,r,h=>by
  unfold Zp at h;cases hb:(Nat.beq u t&&(k==n))<;>rw[hb]at h
  .exact X9 _ (Su h)
  .simp only[cond_true,H7]at h;subst h;simp only[D5,beq_iff_eq]at hb;have:=iI hb.1;subst this;rw[hb.2];exact jG
theorem b0D(H:FxOk X)(R:Rel X (CB*q) (CB*q+CB) S m ok a w){x:Operand}{n:String}(ho:o.op= .call c)(hc:c.callee= .invoke x n):(dZ X.E q o).post S (λ_ S' =>kW X (CB*q) (CB*q+CB) o a w m ok S'):=by
 obtain⟨cal,args,ats⟩:=c;simp only at hc;subst hc;unfold dZ;simp only[ho];refine oz R _ λvs hvs=>cu R λu hu=>?_;split<;>try trivial
 rename_i t v;obtain⟨z,hz,hz1,hzv⟩:=hu;have e2:(#[a.eval x]++args.map a.eval).extract 1 (#[a.eval x]++args.map a.eval).size=args.map a.eval:=by apply lu;simp;exact Y6 (Nat.le_of_eq (by rw[H9];rfl))
 have e3:(#[a.eval x]++args.map a.eval)[0]? =some (a.eval x):=by rw[jJ (by show 0<1;omega)];rfl
 have e4:(args.map a.eval).extract 0 args.size=args.map a.eval:=by
  have h:args.size=(args.map a.eval).size:=by rw[Array.size_map]
  rw[h,Array.extract_size]
 have fin:∀(f:Nat) (r:Value) (fn:Func),X.P.funcs[f]? =some fn->fn.body.isSome=true->(fn.name== "runtime.NumGoroutine")=false->(method (X.P.types.size+Made.depth) t z n).run X.P w= .ok (f,r) w->
   (execOp a.eval o).run X.P w= .ok (.enter f (r::args.toList.map a.eval).toArray) w:=λf r fn hf hb hnm hM=>by
  have:=MJ (P:=X.P) (w:=w) hf hb hnm (#[r]++args.map a.eval);have e:#[r]++args.map a.eval=(r::args.toList.map a.eval).toArray:=by apply lu;simp
  rw[←e];simp only[execOp,ho,resolve,I4,au,J5,invoke,e3];simp[hz,callMethod,hM,e4,this]
 split<;>try trivial
 .rename_i f hmt;have hM:=H.ms _ (Su hmt);exact TC H R (vals:=z::args.toList.map a.eval) ⟨z,_,rfl,Gn hzv,hvs⟩ λfn hf hb hnm=>fin f z fn hf hb hnm (hM z w)
 .rename_i f e0 hmt;have hM:=H.ms _ (Su hmt);refine LP H R (Gn hzv) λv' u ad hv' hp hr=>?_;refine TC H R (vals:=u::args.toList.map a.eval) ⟨u,_,rfl,hv',hvs⟩ λfn hf hb hnm=>fin f u fn hf hb hnm ?_;rw[hM z w ad hp,hr];rfl
end
end Go.GP
namespace Go.GP
variable {q:Nat}{x:Operand}{t:TypeId}
section
variable {X:Fx} {S:Sm} {m:Mp} {ok:Nat->Ty->Prop} {a:Act} {w:World} {o:Oper}
theorem Yl{α:Type}{Q:α->Sm->Prop}{cl ch:Nat} :∀(ms:List MG) {vs:List V} {xs:d4J} {K:List ((t:Ty)×t.den)->Cmd α} {S:Sm} {ok:Nat->Ty->Prop} (R:Rel X cl ch S m ok a w)
  (hv:jb ⟨w.heap,ok,m⟩ vs xs)
  (hK:∀S' ok' cs,Rel X cl ch S' m ok' a w->(∀b t,ok b t->ok' b t)->Ha w.heap ok' cs xs->(K cs).post S' Q),(xY ms vs K).post S Q
 |[],vs,xs,K,S,ok,R,hv,hK=>by
  cases vs with
  |cons _ _=>unfold xY;trivial|nil=>unfold xY;exact hK S ok [] R (λ_ _ h=>h) hv
 |(g,.rp t)::ms,vs,xs,K,S,ok,R,hv,hK=>by
  cases vs with
  |nil=>unfold xY;trivial|cons v vs=>
   obtain⟨x,r,rfl,h1,h2⟩:=hv;unfold xY;have key:xR ⟨w.heap,ok,m⟩ v x->(rpC t v λx=>xY ms vs λcs=>K (⟨t,x⟩::cs)).post S Q:=λh1=>by refine a4W (T:=[]) t R Tk.nil h1 λS1 ok1 y R1 T1 k1 s1 d1=>?_;refine Yl ms R1 (PD k1 h2) λS2 ok2 cs R2 k2 d2=>?_;exact hK S2 ok2 _ R2 (λb t h=>k2 b t (k1 b t h)) ⟨x,r,rfl,GG k2 (λ_ _ _=>rfl) d1,d2⟩
   cases v<;>first|exact key h1|(unfold rpC;trivial)
 |(g,.dat t)::ms,vs,xs,K,S,ok,R,hv,hK=>by cases vs<;>(unfold xY;trivial)|(g,.own t)::ms,vs,xs,K,S,ok,R,hv,hK=>by cases vs<;>(unfold xY;trivial)|(g,.pair p q)::ms,vs,xs,K,S,ok,R,hv,hK=>by cases vs<;>(unfold xY;trivial)|(g,.unit)::ms,vs,xs,K,S,ok,R,hv,hK=>by cases vs<;>(unfold xY;trivial)|(g,.cell _)::ms,vs,xs,K,S,ok,R,hv,hK=>by cases vs<;>(unfold xY;trivial)|(g,.fr _)::ms,vs,xs,K,S,ok,R,hv,hK=>by cases vs<;>(unfold xY;trivial)|(g,.sbx _ _)::ms,vs,xs,K,S,ok,R,hv,hK=>by cases vs<;>(unfold xY;trivial)|(g,.lp _)::ms,vs,xs,K,S,ok,R,hv,hK=>by cases vs<;>(unfold xY;trivial)|(g,.dv ..)::ms,vs,xs,K,S,ok,R,hv,hK=>by cases vs<;>(unfold xY;trivial)|(g,.sit)::ms,vs,xs,K,S,ok,R,hv,hK=>by cases vs<;>(unfold xY;trivial)|(g,.box p)::ms,vs,xs,K,S,ok,R,hv,hK=>by cases vs<;>(unfold xY;trivial)|(g,.owns p)::ms,vs,xs,K,S,ok,R,hv,hK=>by cases vs<;>(unfold xY;trivial)|(g,.ownb p)::ms,vs,xs,K,S,ok,R,hv,hK=>by cases vs<;>(unfold xY;trivial)|(g,.fn f ts)::ms,vs,xs,K,S,ok,R,hv,hK=>by cases vs<;>(unfold xY;trivial)|(g,.ifc t p)::ms,vs,xs,K,S,ok,R,hv,hK=>by cases vs<;>(unfold xY;trivial)
theorem a4F(H:FxOk X)(R:Rel X (CB*q) (CB*q+CB) S m ok a w){f:FuncId}{first caps:Array Operand}(ho:o.op= .makeFunc (.func f) first caps):(dZ X.E q o).post S (λ_ S' =>kW X (CB*q) (CB*q+CB) o a w m ok S'):=by
 unfold dZ;simp only[ho];refine ed λhb=>?_;have hb' :=iI hb;have hf:first=#[]:=by simpa using hb'
 split
 .refine ed λhc=>?_;simp only[D5]at hc;have hn:=iI hc.2;refine yg H R (λ_ _ h=>h) (λ_ _ h=>h) (v:=.idl f _) (x:=.func (.func f) #[] (caps.map a.eval)) ⟨caps.map a.eval,rfl,by simpa using hn⟩ ?_;simp[execOp,ho,Instr.makeFunc,hf]
 split<;>try trivial
 refine oz R _ λvs hvs=>Yl _ R hvs λS' ok' cs R' k hc=>?_;refine yg H R' (λ_ _ h=>h) k (v:=.clos f cs) (x:=.func (.func f) #[] (caps.map a.eval)) ⟨caps.map a.eval,rfl,by simpa using hc⟩ ?_;simp[execOp,ho,Instr.makeFunc,hf]
theorem b3c(H:FxOk X)(R:Rel X (CB*q) (CB*q+CB) S m ok a w){c:Call}(ho:o.op= .defer c):(dZ X.E q o).post S (λ_ S' =>kW X (CB*q) (CB*q+CB) o a w m ok S'):=by
 unfold dZ;simp only[ho];refine ed λhb=>?_;have hb' :=iI hb;have hargs:c.args=#[]:=by simpa using hb'
 split<;>try trivial
 rename_i x hd hc;refine cu R λv hv=>?_;split<;>try trivial
 rename_i f n;split<;>try trivial
 rename_i k z hk;refine ed λhn=>?_;simp only[D5]at hn;have hz:=iI hn.1;have hn' :=iI hn.2;subst hz hn';obtain⟨cap,hx,hs⟩:∃cap:Array Value,a.eval x= .func (.func f) #[] cap/\cap.size=n:=hv;intro next Q hnx
 unfold Oper.wp;have hrun:(execOp a.eval o).run X.P w= .ok (.defer { target:=.fn (.func f) cap,args:=#[] }) w:=by simp[execOp,ho,resolve,hc,hargs,hx,Deferred.ofValue]
 rw[hrun,Oper.upon_defer,hd];refine hnx m ok _ w ?_ (λ_ _ h=>h) (λ_ _ h=>h);have hid:a2Z X.P { target:=.fn (.func f) cap,args:=#[] }:=H.pl _ (Vf hk) cap hs;have R' :Rel X (CB*q) (CB*q+CB) S m ok { a with defers:={ target:=.fn (.func f) cap,args:=#[] }::a.defers } w:=
  { size:=R.size,nodef:=λd hd=>(D6.1 hd).elim (λe=>e▸hid) (R.nodef d),slot:=R.slot,box:=R.box,inj:=R.inj,nd:=R.nd,sep:=R.sep,okLt:=R.okLt,okIn:=R.okIn,okOut:=R.okOut,frame:=R.frame,fresh:=R.fresh,strict:=R.strict,gl:=R.gl,kept:=R.kept }
 exact R'
theorem VG(H:FxOk X)(R:Rel X (CB*q) (CB*q+CB) S m ok a w)(ho:o.op= .makeInterface t x):(dZ X.E q o).post S (λ_ S' =>kW X (CB*q) (CB*q+CB) o a w m ok S'):=by
 unfold dZ;simp only[ho];refine lU H λi hi=>?_;have htd:=hi.td;have key:∀d,X.P.underlying t=some d->(∀ms,d≠.interface ms)->(wI x λv=>(match v with
   | .b ..| .i ..| .s ..| .ptr ..=>gu X.E o.dst (.ifc t v)
   |_=> .fail:Cmd Unit)).post S (λ_ S' =>kW X (CB*q) (CB*q+CB) o a w m ok S'):=λd hd hne=>by
  refine cu R λv hv=>?_;have run:(execOp a.eval o).run X.P w= .ok (.value (.iface t (a.eval x))) w:=by simp only[execOp,ho,Instr.makeInterface,I4,run_underlying hd,J5];cases d<;>first|rfl|exact absurd rfl (hne _)
  cases v<;>try trivial
  case b y=>exact bD H R (v:=.ifc t (.b y)) ⟨_,rfl,by rw[VM hv];rfl,hv⟩ run
  case i k n=>exact bD H R (v:=.ifc t (.i k n)) ⟨_,rfl,by rw[wL hv];rfl,hv⟩ run
  case s l=>exact bD H R (v:=.ifc t (.s l)) ⟨_,rfl,by rw[Pz hv];rfl,hv⟩ run
  case ptr bx off=>obtain⟨blk,h1,h2⟩:=hv;exact bD H R (v:=.ifc t (.ptr bx off)) ⟨_,rfl,by rw[h2];rfl,⟨blk,h1,h2⟩⟩ run
 cases htd' :i.td<;>rw[htd']at htd<;>try trivial
 all_goals exact key _ htd (λ_ e=>by cases e)
theorem V_(H:FxOk X)(R:Rel X (CB*q) (CB*q+CB) S m ok a w){xt t:TypeId}{okk:Bool}(ho:o.op= .typeAssert x xt t okk):(dZ X.E q o).post S (λ_ S' =>kW X (CB*q) (CB*q+CB) o a w m ok S'):=by
 unfold dZ;simp only[ho];refine lU H λi hi=>?_;have htd:=hi.td;have key:∀d,X.P.underlying t=some d->(∀ms,d≠.interface ms)->(wI x λv=>(match v with
   | .ifc t' v=>bif Nat.beq t' t then gu X.E o.dst (bif okk then .tup [v,.b true]else v)else .fail
   |_=> .fail:Cmd Unit)).post S (λ_ S' =>kW X (CB*q) (CB*q+CB) o a w m ok S'):=λd hd hne=>by
  refine cu R λv hv=>?_;cases v<;>try trivial
  case ifc t' c=>
  obtain⟨u,hx,h1,hc⟩:=hv;refine ed λhb=>?_;have hb' :=iI hb;subst hb';have run:(execOp a.eval o).run X.P w= .ok (.value (if okk then .tuple #[u,.bool true]else u)) w:=by simp only[execOp,ho,Instr.typeAssert,I4,run_underlying hd,J5,hx];cases d<;>first|(simp;done)|exact absurd rfl (hne _)
  cases okk
  .exact bD H R (Gn hc) run
  .refine bD H R (v:=.tup [c,.b true]) ⟨_,rfl,⟨_,_,rfl,?_,_,_,rfl,rfl,rfl⟩⟩ run;cases c<;>first|exact hc|cases hc
 cases htd' :i.td<;>rw[htd']at htd<;>try trivial
 case struct fs=>obtain⟨fields,hu,_⟩:=htd;exact key _ hu (λ_ e=>by cases e)
 all_goals exact key _ htd (λ_ e=>by cases e)
theorem b3f(H:FxOk X)(R:Rel X (CB*q) (CB*q+CB) S m ok a w)(ho:o.op= .range t x):(dZ X.E q o).post S (λ_ S' =>kW X (CB*q) (CB*q+CB) o a w m ok S'):=by
 unfold dZ;simp only[ho];refine cu R λu hu=>lU H λi hi=>?_;have hd:=hi.td;split<;>try trivial
 rename_i l htd;rw[htd]at hd;have hx:a.eval x= .string ⟨l.toArray⟩:=hu;refine Qs (l:=.st w.heap.size) (obj:=.stringIter ⟨l.toArray⟩ 0) H R A7 (by simp[Y1]) (λhn hc=>?_) ⟨w.heap.size,A7,rfl⟩ ?_
 .exact⟨w.heap.size,⟨l.toArray⟩,0,A7,heap_alloc_new w _,A7,rfl⟩
 .have hund:X.P.underlying t=some .string:=hd;simp[execOp,ho,Instr.range,run_underlying hund,hx]
theorem b7r(H:FxOk X){cl ch:Nat}(R:Rel X cl ch S m ok a w){b:Bool}(ho:o.op= .next x b):(dZ X.E q o).post S (λ_ S' =>kW X cl ch o a w m ok S'):=by
 unfold dZ;simp only[ho];refine dJ λhs=>?_;subst hs;refine cu R λu hu=>?_;split<;>try trivial
 rename_i bx;obtain⟨blk,hm,hx⟩:=hu;refine di ?_;split<;>try trivial
 rename_i l p hS;have hb:=R.box bx;rw[hS]at hb;obtain⟨blk',s,pos,hm',hh,g1,g2⟩:=hb;simp only at hm hm' hh;rw[hm]at hm';cases hm';subst g2;have hl:(⟨l.toArray⟩:ByteArray)=s:=by rw[←g1]
 have hlen:l.length=s.size:=by rw[←g1,bT];rfl
 have hown:Y1 m bx (S (aS+bx))=[blk]:=by rw[hS];simp[Y1,hm]
 have hx:a.eval x= .pointer (some ⟨blk,0,none⟩):=hx;refine⟨λhlt=>?_,λhge=>?_⟩
 .have hlt:pos<s.size:=by unfold E5 o8 at hlt;rw[decide_eq_true_eq]at hlt;omega
  refine jC ?_;have hsz:blk<w.heap.size:=(J6.1 hh).1;have R2:Rel X cl ch (upd S (aS+bx) (.biter l (PP l (pos:Int)))) m ok a { w with heap:=w.heap.setIfInBounds blk (.stringIter s (pos+(Utf8.decode s pos).2)) }:=by
   refine R.mod (by rw[hown];simp[Y1,hm]) A7 rfl rfl rfl A7 (λb hb=>?_) ?_
   .rw[hown]at hb;simp only[X5]at hb;simp[lZ,Ne.symm hb]
   .refine⟨blk,s,pos+(Utf8.decode s pos).2,hm,?_,g1,?_⟩
    .simp[lZ,hsz]
    .unfold PP;rw[hl];simp
  refine yg (o:=o) H R2 (m0:=m) (ok0:=ok) (λ_ _ h=>h) (λ_ _ h=>h) (x:=.tuple #[.bool true,.int .i64 (pos:Int),.int .i32 ((Utf8.decode s pos).1:Int)]) ?_ ?_
  .refine⟨_,rfl,⟨_,_,rfl,rfl,_,_,rfl,rfl,_,_,rfl,?_,rfl⟩⟩;show Value.int .i32 _=_;unfold KX;rw[hl];simp
  .have e1:(getObj blk).run X.P w= .ok (.stringIter s pos) w:=by simp[getObj,Sem.run,hh]
   have e2:(setObj blk (.stringIter s (pos+(Utf8.decode s pos).2))).run X.P w= .ok () { w with heap:=w.heap.setIfInBounds blk (.stringIter s (pos+(Utf8.decode s pos).2)) }:=by simp[setObj,Sem.run,hh]
   simp[execOp,ho,Instr.next,hx,e1,e2,hlt,goInt]
 .have hge:¬pos<s.size:=λh=>by
   have:E5 ((pos:Nat):Int) (o8 l)=true:=by unfold E5 o8;rw[decide_eq_true_eq];omega
   rw[this]at hge;cases hge
  refine bD H R (x:=.tuple #[.bool false]) ⟨_,rfl,⟨_,_,rfl,rfl,rfl⟩⟩ ?_;have e1:(getObj blk).run X.P w= .ok (.stringIter s pos) w:=by simp[getObj,Sem.run,hh]
  simp[execOp,ho,Instr.next,hx,e1,hge]
theorem b9M(H:FxOk X)(R:Rel X (CB*q) (CB*q+CB) S m ok a w)(o:Oper):(dZ X.E q o).post S (λ_ S' =>kW X (CB*q) (CB*q+CB) o a w m ok S'):=by
 have fin:∀{α:Type} {Q:α->Sm->Prop},(Cmd.fail:Cmd α).post S Q:=trivial;cases ho:o.op
 case move x=>have h:=a9d H R (o:=o) (x:=x) (.inl ho);unfold dZ;simp only[ho];exact h
 case assign x=>have h:=a9d H R (o:=o) (x:=x) (.inr ho);unfold dZ;simp only[ho];exact h
 case pick c x y=>exact b7s H R ho
 case alloc t=>exact b2Y H R ho
 case box t x=>exact b9N H R ho
 case build t ps=>exact b3a H R ho
 case buildSlice t n ps=>exact U_ H R ho
 case load t x=>exact b7q H R ho
 case store t x y=>exact b3h H R ho
 case binOp op t x y yt=>exact b2Z H R ho
 case unOp op t x=>exact b7t H R ho
 case convert s t x=>exact a6T H R ho
 case makeSlice t l c=>exact a2d H R ho
 case slice t x lo hi mx=>
  cases mx with
  |none=>exact b3g H R ho|some _=>unfold dZ;simp only[ho];exact fin
 case fieldAddr t x f=>exact a2b H R ho
 case field t x f=>exact b3d H R ho
 case indexAddr t x ix=>exact a2c H R ho
 case index t x ix=>exact b3e H R ho
 case extract x n=>exact a6U H R ho
 case nilCheck x=>exact a4G H R ho
 case call c=>
  cases hc:c.callee
  case builtin b=>
   cases b
   case len=>exact b9P H R ho hc
   case append=>exact b0A H R ho hc
   case min=>exact a0U H R ho (.inl hc)
   case max=>exact a0U H R ho (.inr hc)
   all_goals
    unfold dZ;simp only[ho];exact oz R _ λvs hvs=>by simp only[hc];exact fin
  case value f=>
   cases f
   case func f=>exact b7p H R ho hc
   all_goals exact b3b H R ho hc (λf e=>by cases e)
  case invoke x n=>exact b0D H R ho hc
 case makeFunc f first caps=>
  cases f
  case func f=>exact a4F H R ho
  all_goals
   unfold dZ;simp only[ho];exact fin
 case defer c=>exact b3c H R ho
 case makeInterface t x=>exact VG H R ho
 case typeAssert x xt t ok=>exact V_ H R ho
 case range t x=>exact b3f H R ho
 case next x b=>exact b7r H R ho
 all_goals
  unfold dZ;simp only[ho];exact fin
def a1u(X:Fx)(cl ch:Nat)(ops:Array Oper)(i:Nat)(a:Act)(w:World)(m:Mp)(ok:Nat->Ty->Prop)(S' :Sm):Prop:=
 ∀(next:Act->World->Prop) (Q:Exit->Act->World->Prop),
  (∀m' ok' a' w',Rel X cl ch S' m' ok' a' w' ->(∀k l,m k=some l->m' k=some l)->(∀b t,ok b t->ok' b t)->next a' w')->wpOp X.P ops Q i next a w
theorem o_(H:FxOk X){cl ch:Nat}(R:Rel X cl ch S m ok a w){ops:Array Oper}{i:Nat}(hi:ops[i]? =some o)(hw:Region.wanted o (yielded ops a.tmps)=false):
  (gu X.E o.dst .un).post S (λ_ S' =>a1u X cl ch ops i a w m ok S'):=by
 have h:∀S',Rel X cl ch S' m ok (a.put o.dst Go.undef) w->a1u X cl ch ops i a w m ok S' :=λS' R' next Q hn=>by unfold wpOp;simp only[hi,hw,gJ,if_false];exact hn m ok _ w R' (λ_ _ h=>h) (λ_ _ h=>h)
 unfold gu;cases hd:o.dst with
 |none=>rw[hd]at h;exact h S R
 |some d=>rw[hd]at h;exact dJ λhb=>h _ (R.put H.ntB hb rfl)
theorem L_{tmps:Array Value}{t:Nat}{v:Value}(h:tmps.getD t Go.undef=v)(hv:v≠Go.undef):tmps[t]? =some v:=by
 rw[aC]at h;cases hx:tmps[t]? with
 |none=>rw[hx]at h;exact absurd h.symm hv|some x=>rw[hx]at h;simpa using h
theorem b1b(H:FxOk X)(R:Rel X (CB*q) (CB*q+CB) S m ok a w){ops:Array Oper}{i:Nat}(hi:ops[i]? =some o):
  (ql X.E q ops.toList o).post S (λ_ S' =>a1u X (CB*q) (CB*q+CB) ops i a w m ok S'):=by
 have yes:Region.wanted o (yielded ops a.tmps)=true->(dZ X.E q o).post S (λ_ S' =>a1u X (CB*q) (CB*q+CB) ops i a w m ok S'):=λhw=>by
  refine Eb ?_ (b9M H R o);intro _ S' h next Q hn
  unfold wpOp;simp only[hi,hw,if_true];exact .inl (h next Q hn)
 unfold ql;cases hg:o.guard with
 |none=>exact yes (by simp[Region.wanted,hg])|some p=>
  obtain⟨j,want⟩:=p;cases hj:ops.toList[j]? with
  |none=>simp only[hj];trivial|some p=>
   simp only[hj];have hj' :ops[j]? =some p:=by simpa using hj
   cases hd:p.dst with
   |none=>trivial|some t=>
    simp only[];refine dJ λhlt=>di ?_;have hsl:=R.slot t (Lm hlt);have hyd:yielded ops a.tmps j=match a.tmps[t]? with|some (.bool b)=>some b|_=>none:=by unfold yielded;rw[hj'];simp only[sU,hd];rfl
    split<;>try trivial
    .rename_i y hS;rw[hS]at hsl;have hb:a.tmps.getD t Go.undef= .bool y:=hsl;have hy:yielded ops a.tmps j=some y:=by
      rw[hyd,L_ hb (by simp[Go.undef])]
     have hwt:Region.wanted o (yielded ops a.tmps)=(bif want then y else !y):=by unfold Region.wanted;rw[hg];simp only[hy];cases want<;>cases y<;>rfl
     cases hc:(bif want then y else !y)
     .simp only[cond_false];exact o_ H R hi (hwt.trans hc)
     .simp only[cond_true];exact yes (hwt.trans hc)
    .rename_i hS;rw[hS]at hsl;have hb:a.tmps.getD t Go.undef=Go.undef:=hsl;have hwt:Region.wanted o (yielded ops a.tmps)=false:=by
      unfold Region.wanted;rw[hg];simp only[hyd];rw[aC]at hb;cases hx:a.tmps[t]? with
      |none=>rfl|some x=>rw[hx]at hb;simp only[fD]at hb;subst hb;rfl
     exact o_ H R hi hwt
end
end Go.GP
namespace Go.GP
def Wp(E:Env)(q:Nat)(all l:List Oper)(S:Nat->Sm)(T:Nat->Tr):Prop:=
 ∀i o,l[i]? =some o->(ql E q all o).eval (S i) ([],[])=some ((),S (i+1),T i)
def b5a(s:Sm)(S:Nat->Sm):Nat->Sm|0=>s|i+1=>S i
def b5b(t:Tr)(T:Nat->Tr):Nat->Tr|0=>t|i+1=>T i
theorem Uy{R:Type}{t:Nat}{s:St}{K:St->Option R}{r:R}(h:XJ t s K=some r):∃s0,gI s0=gI s/\K s0=some r:=by
 unfold XJ at h;rw[Kr]at h;split at h<;>try (simp at h;done)
 .rename_i y hy;have key:∀b:Bool,y=b->gI (.kv t (.b b)::s)=gI s:=λb hb=>by
   subst hb;rw[a8P];funext k;by_cases e:k=t
   .subst e;simp[hy]
   .rw[cO _ _ e]
  cases y
  .exact⟨_,key false rfl,h⟩
  .exact⟨_,key true rfl,h⟩
 .exact⟨s,rfl,h⟩
theorem Xd{R:Type}{E:Env}{q:Nat}{all:List Oper} :∀(l:List Oper) {s:St} {t:Trs} {K:St->Trs->Option R} {r:R},SQ E q all l s t K=some r->
  ∃s' S T,S 0=gI s/\S l.length=gI s' /\Wp E q all l S T/\K s' (((List.range l.length).map T).reverse++t)=some r
 |[],s,t,K,r,h=>⟨s,λ_=>gI s,λ_=>([],[]),rfl,rfl,λi o hi=>by simp at hi,by simpa[SQ]using h⟩|o::l,s,t,K,r,h=>by
  have key:∀s0,gI s0=gI s->(ql E q all o).runK s0 ([],[]) (λ_ s' tr=>SQ E q all l s' (tr::t) K)=some r->
    ∃s' S T,S 0=gI s/\S (o::l).length=gI s' /\Wp E q all (o::l) S T/\K s' (((List.range (o::l).length).map T).reverse++t)=some r:=λs0 hs0 h=>by
   obtain⟨x,s1,tr,e,hk⟩:=ru h;obtain⟨s',S,T,h0,h1,h2,h3⟩:=Xd l hk;refine⟨s',b5a (gI s) S,b5b tr T,rfl,h1,λi o' hi=>?_,?_⟩
   .cases i with
    |zero=>simp at hi;subst hi;show(ql E q all o).eval (gI s) ([],[])=some ((),S 0,tr);rw[←hs0,e,h0]|succ i=>exact h2 i o' (by simpa using hi)
   .rw[H8,List.range_succ_eq_map,bW,List.reverse_cons,G5,xJ];exact h3
  unfold SQ at h;split at h
  .exact key s rfl h
  .obtain⟨s0,e,h⟩:=Uy h;exact key s0 e h
theorem uI{α:Type}(T:Nat->α)(n:Nat):((List.range (n+1)).map T).reverse=T n::((List.range n).map T).reverse:=by rw[eP,bJ,List.reverse_append];rfl
theorem Bh{a b:d4K}(h:Xo a b=true):∀k∈a,k∉b:=by
 induction a with
 |nil=>intro k hk;cases hk|cons x a ih=>
  unfold Xo at h;cases hm:Ia x b
  .simp only[hm,cond_false]at h;intro k hk hkb;rcases D6.1 hk with rfl|hk
   .have:∀(l:d4K),Ia k l=false->k∉l:=by
     intro l;induction l with
     |nil=>intro _ h;cases h|cons y l ih=>
      intro hm hk;unfold Ia at hm;cases hb:Nat.beq y k
      .simp only[hb,cond_false]at hm;rcases D6.1 hk with rfl|hk
       .simp at hb
       .exact ih hm hk
      .simp[hb]at hm
    exact this b hm hkb
   .exact ih h k hk hkb
  .simp[hm]at h
theorem Zn{k:Nat} :∀{l:d4K},Ia k l=true->k∈l
 |[],h=>by simp[Ia]at h|y::l,h=>by
  unfold Ia at h;cases hb:Nat.beq y k
  .simp only[hb,cond_false]at h;exact X9 _ (Zn h)
  .have:=iI hb;subst this;simp
def b1n(x y:Tr):Prop:=(∀k∈x.2,k∉y.1/\k∉y.2)/\∀k∈x.1,k∉y.2
theorem a4A{b:Bool}{x y:Tr}(h:a6O b x y=true):b=true\/b1n x y:=by
 unfold a6O at h;cases b
 .simp only[cond_false,D5]at h;exact .inr ⟨λk hk=>⟨Bh h.1.1 k hk,Bh h.1.2 k hk⟩,λk hk=>Bh h.2 k hk⟩
 .exact .inl rfl
theorem Uf{mask:Nat}{y:Tr}{T:Nat->Tr} :∀n,XH mask y ((List.range n).map T).reverse n=true->∀i,i<n->Nat.testBit mask i=true\/b1n (T i) y
 |0,_,i,hi=>by omega|n+1,h,i,hi=>by
  rw[uI]at h;unfold XH at h;simp only[Nat.add_sub_cancel,D5]at h;by_cases e:i=n
  .subst e;exact a4A h.1
  .exact Uf n h.2 i o5
theorem WM{M:Nat->Nat}{T:Nat->Tr} :∀n,Zy ((List.range n).map M).reverse ((List.range n).map T).reverse=true->∀i j,i<j->j<n->Nat.testBit (M j) i=true\/b1n (T i) (T j)
 |0,_,i,j,_,hj=>by omega|n+1,h,i,j,hi,hj=>by
  rw[uI,uI]at h;unfold Zy at h;simp only[D5,List.length_reverse,H9,ik]at h;by_cases e:j=n
  .subst e;exact Uf j h.1 i hi
  .exact WM n h.2 i j hi o5
theorem a8B{α:Type}{eq:α->α->Bool}(h:∀a b,eq a b=true->a=b):∀{l m:List α},b6W eq l m=true->l=m
 |[],[],_=>rfl|[],_::_,e=>by cases e|_::_,[],e=>by cases e|a::l,b::m,e=>by simp only[b6W,D5]at e;rw[h _ _ e.1,a8B h e.2]
theorem Qi:∀{t:Ty} (a b:t.den),YA t a b=true->a=b
 | .bool,a,b,e=>a7X e| .int _,a,b,e=>of_decide_eq_true e| .str,a,b,e=>of_decide_eq_true e| .sl t,a,b,e=>a8B (λx y h=>Qi x y h) e| .prod p q,a,b,e=>by have e:(YA p a.1 b.1&&YA q a.2 b.2)=true:=e;rw[D5]at e;exact fE (Qi _ _ e.1) (Qi _ _ e.2)| .unit,a,b,e=>rfl| .any _,a,b,e=>rfl| .ent _ _ p q,a,b,e=>by have e:(YA p a.1 b.1&&YA q a.2 b.2)=true:=e;rw[D5]at e;exact fE (Qi _ _ e.1) (Qi _ _ e.2)
theorem a8f{R:Type}{a b:V}{K:Option R}{r:R}(h:b6H a b K=some r):a=b/\K=some r:=by
 unfold b6H at h;rw[Kr,Kr]at h;cases a with
 |i k n=>
  cases b with
  |i k' n' =>
   cases hk:decide (k=k')
   .simp[hk]at h
   .have e:=of_decide_eq_true hk;subst e;simp only[hk,cond_true]at h;cases hi:o9 n n'<;>rw[hi]at h
    .cases h
    .have e:=of_decide_eq_true (show decide (n=n')=true from hi);subst e;exact⟨rfl,h⟩
  |_=>cases h
 |sl t xs=>
  cases b with
  |sl u ys=>
   simp only[Ty.castL]at h;by_cases e:u=t
   .subst e;simp only[dif_pos]at h;cases hi:deq (.sl u) xs ys<;>rw[hi]at h
    .cases h
    .rw[Qi (t:=.sl u) xs ys hi];exact⟨rfl,h⟩
   .rw[dif_neg e]at h;cases h
  |_=>cases h
 |b x=>
  cases b with
  |b y=>
   cases hi:jY x y<;>simp only[hi,l7]at h
   .cases h
   .have e:x=y:=by simpa[jY]using hi
    subst e;exact⟨rfl,h⟩
  |_=>cases h
 |s x=>
  cases b with
  |s y=>
   cases hi:seq x y<;>simp only[hi,l7]at h
   .cases h
   .have e:x=y:=by simpa[seq]using hi
    subst e;exact⟨rfl,h⟩
  |_=>cases h
 |_=>cases h
theorem PM:∀{a b:d4K},PL a b=true->a=b
 |[],[],_=>rfl|[],_::_,h=>by cases h|_::_,[],h=>by cases h|a::l,b::m,h=>by
  unfold PL at h;cases hb:Nat.beq a b
  .simp[hb]at h
  .simp only[hb,cond_true]at h;rw[iI hb,PM h]
def Rp(E:Env)(q:Nat)(all:List Oper)(o:Oper)(tr:Tr)(v:V)(S:Sm):Prop:=
 ∃d S',o.dst=some d/\tr.2=[d]/\(ql E q all o).eval S ([],[])=some ((),S',tr)/\S' d=v
theorem ZL{R:Type}{E:Env}{q:Nat}{all:List Oper}{s:St} :∀{p:a9G} {K:Option R} {r:R},a1e E q all s p K=some r->
  (∀x∈p,Rp E q all x.1 x.2.1 x.2.2 (gI s))/\K=some r
 |[],K,r,h=>⟨λx hx=>by(cases hx),h⟩|(o,tr,v)::p,K,r,h=>by
  unfold a1e at h;obtain⟨x,s2,tr2,e,hk⟩:=ru h;cases hd:o.dst with
  |none=>simp[hd]at hk|some d=>
   simp only[hd]at hk;cases hc:(PL tr.1 tr2.1&&PL tr.2 tr2.2&&PL tr2.2 [d])
   .simp[hc]at hk
   .simp only[hc,cond_true]at hk;simp only[D5]at hc;obtain⟨⟨h1,h2⟩,h3⟩:=hc;have h1:=PM h1;have h2:=PM h2;have h3:=PM h3;have etr:tr=tr2:=fE h1 h2;subst etr;obtain⟨hv,hk⟩:=a8f hk;obtain⟨g1,g2⟩:=ZL hk;refine⟨λy hy=>?_,g2⟩;rcases D6.1 hy with rfl|hy
    .exact⟨d,_,hd,h3,e,hv.symm⟩
    .exact g1 y hy
theorem UG{R:Type}{E:Env}{q:Nat}{all:List Oper} :∀(l:List Oper) {s:St} {t:Trs} {p:a9G} {K:St->Trs->Option R} {r:R},Df E q all l s t p K=some r->
  ∃s' S T,S 0=gI s/\S l.length=gI s' /\Wp E q all l S T/\K s' (((List.range l.length).map T).reverse++t)=some r/\
   (∀x∈p,∀j o',l[j]? =some o' ->qI o' =true->Rp E q all x.1 x.2.1 x.2.2 (S (j+1)))/\
   (∀i j o o',i<j->l[i]? =some o->l[j]? =some o' ->a1J E o=true->qI o' =true->∃d,o.dst=some d/\Rp E q all o (T i) (S (i+1) d) (S (j+1)))
 |[],s,t,p,K,r,h=>⟨s,λ_=>gI s,λ_=>([],[]),rfl,rfl,λi o hi=>by simp at hi,by simpa[Df]using h,λx _ j o' hj=>by simp at hj,λi j o o' _ hi=>by simp at hi⟩|o::l,s,t,p,K,r,h=>by
  have key:∀s0,gI s0=gI s->(ql E q all o).runK s0 ([],[]) (λ_ s' tr=>bif qI o then a1e E q all s' p (Df E q all l s' (tr::t) p K)else Df E q all l s' (tr::t) (ZF E o s' tr p) K)=some r->
    ∃s' S T,S 0=gI s/\S (o::l).length=gI s' /\Wp E q all (o::l) S T/\K s' (((List.range (o::l).length).map T).reverse++t)=some r/\
   (∀x∈p,∀j o',(o::l)[j]? =some o' ->qI o' =true->Rp E q all x.1 x.2.1 x.2.2 (S (j+1)))/\
   (∀i j o1 o',i<j->(o::l)[i]? =some o1->(o::l)[j]? =some o' ->a1J E o1=true->qI o' =true->∃d,o1.dst=some d/\Rp E q all o1 (T i) (S (i+1) d) (S (j+1))):=λs0 hs0 h=>by
   obtain⟨x,s1,tr,e,hk⟩:=ru h;have fin:∀p',(∀y∈p,y∈p')->(a1J E o=true->qI o=false->∃d,o.dst=some d/\(o,tr,gI s1 d)∈p')->(qI o=true->∀y∈p,Rp E q all y.1 y.2.1 y.2.2 (gI s1))->Df E q all l s1 (tr::t) p' K=some r->
     ∃s' S T,S 0=gI s/\S (o::l).length=gI s' /\Wp E q all (o::l) S T/\K s' (((List.range (o::l).length).map T).reverse++t)=some r/\
   (∀x∈p,∀j o',(o::l)[j]? =some o' ->qI o' =true->Rp E q all x.1 x.2.1 x.2.2 (S (j+1)))/\
   (∀i j o1 o',i<j->(o::l)[i]? =some o1->(o::l)[j]? =some o' ->a1J E o1=true->qI o' =true->∃d,o1.dst=some d/\Rp E q all o1 (T i) (S (i+1) d) (S (j+1))):=λp' hp' hex hcall hk=>by
    obtain⟨s',S,T,h0,h1,h2,h3,h4,h5⟩:=UG l hk;refine⟨s',b5a (gI s) S,b5b tr T,rfl,h1,λi o' hi=>?_,?_,λy hy j o' hj hc=>?_,λi j o1 o' hij hi hj he hc=>?_⟩
    .cases i with
     |zero=>simp at hi;subst hi;show(ql E q all o).eval (gI s) ([],[])=some ((),S 0,tr);rw[←hs0,e,h0]|succ i=>exact h2 i o' (by simpa using hi)
    .rw[H8,List.range_succ_eq_map,bW,List.reverse_cons,G5,xJ];exact h3
    .cases j with
     |zero=>simp at hj;subst hj;show Rp E q all y.1 y.2.1 y.2.2 (S 0);rw[h0];exact hcall hc y hy|succ j=>exact h4 y (hp' y hy) j o' (by simpa using hj) hc
    .cases j with
     |zero=>omega|succ j=>
      cases i with
      |zero=>
       simp at hi;subst hi;have hnc:qI o=false:=by
        unfold a1J at he;cases hcc:qI o
        .rfl
        .simp[hcc]at he
       obtain⟨d,hd,hm⟩:=hex he hnc;refine⟨d,hd,?_⟩;have:=h4 _ hm j o' (by simpa using hj) hc;show Rp E q all o tr (S 0 d) (S (j+1));rw[h0];exact this
      |succ i=>exact h5 i j o1 o' o5 (by simpa using hi) (by simpa using hj) he hc
   cases hc:qI o
   .simp only[hc,cond_false]at hk;refine fin _ (λy hy=>?_) (λhe _=>?_) (λh=>by rw[hc]at h;cases h) hk
    .unfold ZF;cases hx:a1J E o
     .exact hy
     .simp only[cond_true];cases hd:o.dst with
      |none=>exact hy|some d=>exact X9 _ hy
    .cases hd:o.dst with
     |none=>simp[a1J,hd]at he|some d=>exact⟨d,rfl,by simp[ZF,he,hd]⟩
   .simp only[hc,cond_true]at hk;obtain⟨g1,g2⟩:=ZL hk;exact fin p (λ_ h=>h) (λ_ h=>by rw[hc]at h;cases h) (λ_=>g1) g2
  unfold Df at h;split at h
  .exact key s rfl h
  .obtain⟨s0,e,h⟩:=Uy h;exact key s0 e h
def a8i(ord:Nat->Nat->Prop)(ex:Nat->Nat->Prop)(T:Nat->Tr)(i j:Nat):Prop:=
 ord i j\/((∀k∈(T i).2,k∉(T j).1/\k∉(T j).2)/\((∀k∈(T i).1,k∉(T j).2)\/
  (ex i j/\(∀k∈(T i).2,k∉(T i).1)/\∀m,i<m->m<j->ord m j\/∀k∈(T i).1,k∉(T m).2)))
theorem Zq{mask:Nat}{x:Tr} :∀{l:List (Nat×Tr)},a8U mask x l=true->∀y∈l,Nat.testBit mask y.1=true\/∀k∈x.1,k∉y.2.2
 |[],_,y,hy=>by cases hy|(m,z)::l,h,y,hy=>by
  unfold a8U at h;simp only[D5,pM]at h;rcases D6.1 hy with rfl|hy
  .exact h.1.imp id (λh=>Bh h)
  .exact Zq h.2 y hy
theorem Rh{E:Env}{all:List Oper}{mask:Nat}{y:Tr}{cy:Bool}{T:Nat->Tr}{N:Nat} :∀n (mids:List (Nat×Tr)),(∀m,n<=m->m<N->(m,T m)∈mids)->Ue E all mask y cy ((List.range n).map T).reverse n mids=true->
  ∀i,i<n->Nat.testBit mask i=true\/((∀k∈(T i).2,k∉y.1/\k∉y.2)/\((∀k∈(T i).1,k∉y.2)\/((cy=true/\b2b E all i=true)/\(∀k∈(T i).2,k∉(T i).1)/\∀m,i<m->m<N->Nat.testBit mask m=true\/∀k∈(T i).1,k∉(T m).2)))
 |0,_,_,_,i,hi=>by omega|n+1,mids,hm,h,i,hi=>by
  rw[uI]at h;unfold Ue at h;simp only[Nat.add_sub_cancel,D5]at h;by_cases e:i=n
  .subst e;have h:=h.1;unfold a9b at h;cases hb:Nat.testBit mask i
   .simp only[hb,cond_false,D5]at h;refine .inr ⟨λk hk=>⟨Bh h.1.1 k hk,Bh h.1.2 k hk⟩,?_⟩;have h2:=h.2;cases hdj:Xo (T i).1 y.2
    .simp only[hdj,cond_false,D5]at h2;exact .inr ⟨h2.1.1,Bh h2.1.2,λm h3 h4=>Zq h2.2 _ (hm m o5 h4)⟩
    .exact .inl (Bh hdj)
   .exact .inl rfl
  .refine Rh n _ (λm h1 h2=>?_) h.2 i o5;by_cases e2:m=n
   .subst e2;simp
   .exact X9 _ (hm m o5 h2)
theorem Uh{E:Env}{all:List Oper}{M:Nat->Nat}{T:Nat->Tr} :∀n,Ug E all ((List.range n).map M).reverse ((List.range n).map T).reverse=true->∀i j,i<j->j<n->
  a8i (λi j=>Nat.testBit (M j) i=true) (λi j=>a1y all j=true/\b2b E all i=true) T i j
 |0,_,i,j,_,hj=>by omega|n+1,h,i,j,hi,hj=>by
  rw[uI,uI]at h;unfold Ug at h;simp only[D5,List.length_reverse,H9,ik]at h;by_cases e:j=n
  .subst e;exact Rh (N:=j) j [] (λm h1 h2=>by omega) h.1 i hi
  .exact Uh n h.2 i j hi o5
theorem b2D{P:Nat->Prop} :∀(n:Nat),(∃j,j<n/\P j)->∃j,j<n/\P j/\∀m,j<m->m<n->¬P m
 |0,⟨j,h,_⟩=>by omega|n+1,⟨j,h,hp⟩=>by
  by_cases e:P n
  .exact⟨n,o5,e,λm h1 h2=>by omega⟩
  .have:j≠n:=λe2=>e (e2▸hp);obtain⟨j',h1,h2,h3⟩:=b2D n ⟨j,o5,hp⟩;refine⟨j',o5,h2,λm h4 h5=>?_⟩;by_cases e2:m=n
   .subst e2;exact e
   .exact h3 m h4 o5
variable {n:Nat}
theorem b1x{c:Nat->Cmd Unit}{S:Nat->Sm}{T:Nat->Tr}(hs:∀i,i<n->(c i).eval (S i) ([],[])=some ((),S (i+1),T i)){ord ex:Nat->Nat->Prop}
  (hc:∀i j,i<j->j<n->a8i ord ex T i j) (hex:∀i j,i<j->j<n->ex i j->∃S',(c i).eval (S (j+1)) ([],[])=some ((),S',T i)/\∀k∈(T i).2,S' k=S (i+1) k)
  {D:d4K} {i:Nat} (hi:i<n) (hD:i∉D) (hlt:∀j∈D,j<n) (hp:∀j,ord j i->j∈D) (hdown:∀j∈D,∀k,ord k j->k∈D):
  (c i).eval (SD S T D n) ([],[])=some ((),SD S T (i::D) n,T i):=by
 have before:∀k,(k∈(T i).1\/k∈(T i).2)->∀j,j<i->k∈(T j).2->j∈D:=λk hk j hj hw=>by
  rcases hc j i hj hi with h|⟨h1,_⟩
  .exact hp j h
  .rcases hk with hk|hk
   .exact absurd hk (h1 k hw).1
   .exact absurd hk (h1 k hw).2
 have afterW:∀k,k∈(T i).2->∀j,i<j->j<n->k∈(T j).2->j∉D:=λk hk j hj hjn hw hjD=>by
  rcases hc i j hj hjn with h|⟨h1,h2⟩
  .exact hD (hdown j hjD i h)
  .exact(h1 k hk).2 hw
 have fin:∀S0 S1:Sm,(c i).eval S0 ([],[])=some ((),S1,T i)->(∀k∈(T i).2,S1 k=S (i+1) k)->(∀k∈(T i).1,SD S T D n k=S0 k)->(c i).eval (SD S T D n) ([],[])=some ((),SD S T (i::D) n,T i):=λS0 S1 he hv hr=>by
  obtain⟨T',h1,_,h3,h4⟩:=AO he (SD S T D n) hr;rw[h1];have:T' =SD S T (i::D) n:=by
   funext k;by_cases hk:k∈(T i).2
   .rw[h4 k hk A7,hv k hk];rw[XW (i::D) k (i+1) n o5 (λj h1 h2 hw=>by
     simp only[D6,not_or];exact⟨o5,afterW k hk j o5 h2 hw⟩)]
    simp[SD,hk]
   .rw[h3 k hk,a8k D i k hk]
  rw[this]
 by_cases hx:∃j,j<n/\(i<j/\j∈D/\∃k∈(T i).1,k∈(T j).2)
 .obtain⟨j,hjn,⟨hij,hjD,k0,hk0,hk1⟩,hmax⟩:=b2D n hx;rcases hc i j hij hjn with h|⟨_,h2⟩
  .exact absurd (hdown j hjD i h) hD
  .rcases h2 with h2|⟨h3,h4,h5⟩
   .exact absurd hk1 (h2 k0 hk0)
   .obtain⟨S',he,hv⟩:=hex i j hij hjn h3;refine fin (S (j+1)) S' he hv λk hk=>?_;rw[XW D k (j+1) n o5 (λm g1 g2 hw hmD=>hmax m o5 g2 ⟨o5,hmD,k,hk,hw⟩)];refine Qc hs D k (j+1) o5 λm hm hw=>?_;rcases Nat.lt_trichotomy m i with g|g|g
    .exact before k (.inl hk) m g hw
    .subst g;exact absurd hk (h4 k hw)
    .by_cases e:m=j
     .subst e;exact hjD
     .rcases h5 m g o5 with g2|g2
      .exact hdown j hjD m g2
      .exact absurd hw (g2 k hk)
 .refine fin (S i) (S (i+1)) (hs i hi) (λ_ _=>rfl) λk hk=>?_;rw[XW D k i n o5 (λj h1 h2 hw hjD=>by
   by_cases e:j=i
   .subst e;exact hD hjD
   .exact hx ⟨j,h2,o5,hjD,k,hk,hw⟩)]
  exact Qc hs D k i o5 (before k (.inl hk))
def uZ(e:Edge):Prop:=match e.ground with| .textOnly _=>False| .gcOnly _=>False|_=>True
theorem uZ.binds{e:Edge}(h:uZ e)(md:Region.Mode):Region.binds md e=true:=by unfold uZ at h;unfold Region.binds;split<;>simp_all
theorem a9N{e:Edge}(h:Region.binds .any e=true):uZ e:=by unfold Region.binds at h;unfold uZ;split<;>simp_all
theorem JG{M:Nat->Nat}{n k:Nat}(hk:k<n):(((List.range n).map M).reverse).getD (n -1 -k) 0=M k:=by rw[zM,List.getElem?_reverse aH];simp only[H9,ik,S9];rw[show n -1 -(n -1 -k)=k by omega];simp[hk]
theorem RS{M:Nat->Nat}{n:Nat} :∀(es:List Edge) {m m' :Nat},QU ((List.range n).map M).reverse n es m=some m' ->
  (∀e∈es,uZ e->e.on<n)/\∀j,Nat.testBit m' j=true->Nat.testBit m j=true\/∃e∈es,uZ e/\(j=e.on\/Nat.testBit (M e.on) j=true)
 |[],m,m',h=>by simp[QU]at h;subst h;exact⟨λ_ h=>absurd h A7,λj hj=> .inl hj⟩|e::es,m,m',h=>by
  have plain:(bif Nat.blt e.on n then QU ((List.range n).map M).reverse n es (m ||| 2^e.on ||| (((List.range n).map M).reverse).getD (n -1 -e.on) 0)else none)=some m' ->uZ e->
    (∀e' ∈e::es,uZ e' ->e'.on<n)/\∀j,Nat.testBit m' j=true->Nat.testBit m j=true\/∃e' ∈e::es,uZ e' /\(j=e'.on\/Nat.testBit (M e'.on) j=true):=λh hp=>by
   cases hb:Nat.blt e.on n
   .simp[hb]at h
   .simp only[hb,cond_true]at h;have hlt:=Lm hb;rw[JG hlt]at h;obtain⟨h1,h2⟩:=RS es h;refine⟨λe' he' hp' =>?_,λj hj=>?_⟩
    .rcases D6.1 he' with rfl|he'
     .exact hlt
     .exact h1 e' he' hp'
    .rcases h2 j hj with h3|⟨e',he',hp',h3⟩
     .rw[Nat.testBit_or,Nat.testBit_or,pM,pM]at h3;rcases h3 with(h3|h3)|h3
      .exact .inl h3
      .rw[Nat.testBit_two_pow]at h3;exact .inr ⟨e,A7,hp,.inl (of_decide_eq_true h3).symm⟩
      .exact .inr ⟨e,A7,hp,.inr h3⟩
     .exact .inr ⟨e',by simp[he'],hp',h3⟩
  have skip:QU ((List.range n).map M).reverse n es m=some m' ->¬uZ e->
    (∀e' ∈e::es,uZ e' ->e'.on<n)/\∀j,Nat.testBit m' j=true->Nat.testBit m j=true\/∃e' ∈e::es,uZ e' /\(j=e'.on\/Nat.testBit (M e'.on) j=true):=λh hp=>by
   obtain⟨h1,h2⟩:=RS es h;refine⟨λe' he' hp' =>?_,λj hj=>?_⟩
   .rcases D6.1 he' with rfl|he'
    .exact absurd hp' hp
    .exact h1 e' he' hp'
   .rcases h2 j hj with h3|⟨e',he',hp',h3⟩
    .exact .inl h3
    .exact .inr ⟨e',by simp[he'],hp',h3⟩
  unfold QU at h;cases hg:e.ground<;>simp only[hg]at h
  case textOnly=>exact skip h (by simp[uZ,hg])
  case gcOnly=>exact skip h (by simp[uZ,hg])
  all_goals exact plain h (by simp[uZ,hg])
theorem Qy:∀(l:List Oper) {n:Nat} {M:Nat->Nat} {ms:d4K},a2i l n ((List.range n).map M).reverse=some ms->
  ∃M' :Nat->Nat,ms=((List.range (n+l.length)).map M').reverse/\(∀k,k<n->M' k=M k)/\
   ∀i o,l[i]? =some o->(∀e∈o.after.toList,uZ e->e.on<n+i)/\∀j,Nat.testBit (M' (n+i)) j=true->∃e∈o.after.toList,uZ e/\(j=e.on\/Nat.testBit (M' e.on) j=true)
 |[],n,M,ms,h=>by simp only[a2i,H7]at h;subst h;exact⟨M,rfl,λ_ _=>rfl,λi o hi=>by simp at hi⟩|o::l,n,M,ms,h=>by
  unfold a2i at h;cases he:QU ((List.range n).map M).reverse n o.after.toList 0 with
  |none=>simp[he]at h|some m=>
   simp only[he]at h;obtain⟨h1,h2⟩:=RS _ he;have hM:m::((List.range n).map M).reverse=((List.range (n+1)).map (λk=>if k=n then m else M k)).reverse:=by rw[uI];simp only[if_true];congr 2;apply aT;intro k hk;rw[if_neg];have:=X7.1 hk;omega
   rw[hM]at h;obtain⟨M',e1,e2,e3⟩:=Qy l h;have hMn:M' n=m:=by rw[e2 n o5];simp
   have hMk:∀k,k<n->M' k=M k:=λk hk=>by rw[e2 k o5,if_neg o5]
   refine⟨M',by rw[e1];congr 3;simp;omega,hMk,λi o' hi=>?_⟩;cases i with
   |zero=>
    simp at hi;subst hi;refine⟨h1,λj hj=>?_⟩;rw[dL,hMn]at hj;rcases h2 j hj with h3|⟨e,hem,hp,h3⟩
    .simp at h3
    .exact⟨e,hem,hp,by rwa[hMk _ (h1 e hem hp)]⟩
   |succ i=>have:=e3 i o' (by simpa using hi);rwa[show n+1+i=n+(i+1) by omega]at this
theorem Zx:∀(n:Nat) {D:d4K},D.Nodup->(∀x∈D,x<n)->D.length<=n
 |0,D,_,h=>by
  cases D with
  |nil=>simp|cons x D=>have:=h x A7;omega
 |n+1,D,hD,h=>by
  by_cases hn:n∈D
  .have h1:=Zx n (D:=D.erase n) (hD.erase n) (λx hx=>by
    have:=(hD.mem_erase_iff).1 hx;have:=h x this.2;omega)
   rw[List.length_erase_of_mem hn]at h1;omega
  .have h1:=Zx n hD (λx hx=>by
    have:=h x hx;have:x≠n:=λe=>hn (e▸hx);omega)
   omega
theorem b0x{D:d4K}(hD:D.Nodup)(h:∀x∈D,x<n)(hl:n<=D.length):∀i,i<n->i∈D:=λi hi=>by
 refine iO λhn=>?_;have:=Zx n (D:=i::D) (az.2 ⟨hn,hD⟩) (λx hx=>by
  rcases D6.1 hx with rfl|hx
  .exact hi
  .exact h x hx)
 simp at this;omega
def RI(md:Region.Mode)(ops:Array Oper):Prop:=∃rk:Nat->Nat,∀i o,ops[i]? =some o->∀e∈o.after.toList,Region.binds md e=true->e.on<ops.size/\rk e.on<rk i
theorem WP:∀{es:List Edge},VI es=true->∀e∈es,uZ e
 |[],_,e,he=>by cases he|e::es,h,e',he' =>by
  unfold VI at h;have hp:uZ e:=by cases hg:e.ground<;>simp[hg]at h<;>simp[uZ,hg]
  have hr:VI es=true:=by cases hg:e.ground<;>simp[hg]at h<;>exact h
  rcases D6.1 he' with rfl|he'
  .exact hp
  .exact WP hr e' he'
theorem Ri:∀{l:List Oper},Ii l=true->∀o∈l,∀e∈o.after.toList,uZ e
 |[],_,o,ho=>by cases ho|o::l,h,o',ho' =>by
  unfold Ii at h;cases hp:VI o.after.toList
  .simp[hp]at h
  .simp only[hp,cond_true]at h;rcases D6.1 ho' with rfl|ho'
   .exact WP hp
   .exact Ri h o' ho'
theorem WR{md:Region.Mode}{done:d4K} :∀{es:List Edge},SH md done es=true->∀e∈es,Region.binds md e=true->e.on∈done
 |[],_,e,he,_=>by cases he|e::es,h,e',he',hb=>by
  unfold SH at h;cases hc:(!Region.binds md e || Ia e.on done)
  .simp[hc]at h
  .simp only[hc,cond_true]at h;rcases D6.1 he' with rfl|he'
   .rw[hb]at hc;simp at hc;exact Zn hc
   .exact WR h e' he' hb
theorem Nw{md:Region.Mode}{done:d4K} :∀{l:List Oper} {n i:Nat},yl md done l n=some i->∃o,l[i -n]? =some o/\n<=i/\i<n+l.length/\SH md done o.after.toList=true
 |[],n,i,h=>by simp[yl]at h|o::l,n,i,h=>by
  unfold yl at h;have rec' :yl md done l (n+1)=some i->∃o',(o::l)[i -n]? =some o' /\n<=i/\i<n+(o::l).length/\SH md done o'.after.toList=true:=λh=>by obtain⟨o',h1,h2,h3,h4⟩:=Nw h;refine⟨o',?_,o5,by simp;omega,h4⟩;rw[show i -n=(i -(n+1))+1 by omega];simpa using h1
  cases hm:Ia n done
  .simp only[hm,cond_false]at h;cases hr:SH md done o.after.toList
   .simp only[hr,cond_false]at h;exact rec' h
   .simp only[hr,cond_true,H7]at h;subst h;exact⟨o,A7,E8 _,A7,hr⟩
  .simp only[hm,cond_true]at h;exact rec' h
theorem XZ:∀{n:Nat} {d:d4K},a8m n d=true->∀i,i<n->i∈d
 |0,d,_,i,hi=>by omega|n+1,d,h,i,hi=>by
  unfold a8m at h;simp only[D5]at h;by_cases e:i=n
  .subst e;exact Zn h.1
  .exact XZ h.2 i o5
theorem Jv{md:Region.Mode}{ops:Array Oper} :∀(k:Nat) {done:d4K} {rk:Nat->Nat},a2S md ops.toList k done=true->
  (∀x∈done,rk x<done.length)->(∀i∈done,∀o,ops[i]? =some o->∀e∈o.after.toList,Region.binds md e=true->e.on∈done/\e.on<ops.size/\rk e.on<rk i)->(∀x∈done,x<ops.size)->RI md ops
 |0,done,rk,h,h1,h2,h3=>by have hall:=XZ h;simp only[bT]at hall;exact⟨rk,λi o hi e he hb=>(h2 i (hall i (J6.1 hi).1) o hi e he hb).2⟩|k+1,done,rk,h,h1,h2,h3=>by
  unfold a2S at h;cases hf:yl md done ops.toList 0 with
  |none=>simp[hf]at h|some n=>
   simp only[hf]at h;obtain⟨o,e1,_,e2,e3⟩:=Nw hf;simp only[Nat.sub_zero,aP,iq,bT]at e1 e2;by_cases hn:n∈done
   .refine Jv k (rk:=rk) h (λx hx=>?_) (λi hi o' ho' e he hb=>?_) (λx hx=>?_)
    .rcases D6.1 hx with rfl|hx
     .have:=h1 x hn;simp;omega
     .have:=h1 x hx;simp;omega
    .have hi' :i∈done:=by rcases D6.1 hi with rfl|hi;exact hn;exact hi
     obtain⟨g1,g2,g3⟩:=h2 i hi' o' ho' e he hb;exact⟨by simp[g1],g2,g3⟩
    .rcases D6.1 hx with rfl|hx
     .exact e2
     .exact h3 x hx
   .refine Jv k (rk:=λx=>if x=n then done.length else rk x) h (λx hx=>?_) (λi hi o' ho' e he hb=>?_) (λx hx=>?_)
    .show(if x=n then done.length else rk x)<_;rcases D6.1 hx with rfl|hx
     .simp
     .have:=h1 x hx;rw[if_neg (show ¬x=n from λe=>hn (by rw[←e];exact hx))];simp;omega
    .show _/\_/\(if e.on=n then done.length else rk e.on)<(if i=n then done.length else rk i);rcases D6.1 hi with rfl|hi
     .rw[e1]at ho';cases ho';have hd:=WR e3 e he hb;refine⟨by simp[hd],h3 _ hd,?_⟩;rw[if_neg (show ¬e.on=i from λe' =>hn (by rw[←e'];exact hd)),if_pos rfl];exact h1 _ hd
     .obtain⟨g1,g2,g3⟩:=h2 i hi o' ho' e he hb;refine⟨by simp[g1],g2,?_⟩;rw[if_neg (show ¬e.on=n from λe' =>hn (by rw[←e'];exact g1)),if_neg (show ¬i=n from λe' =>hn (by rw[←e'];exact hi))];exact g3
    .rcases D6.1 hx with rfl|hx
     .exact e2
     .exact h3 x hx
end Go.GP
namespace Go.GP
section
variable {X:Fx} {q:Nat} {ops:Array Oper} {S:Nat->Sm} {T:Nat->Tr} {m0:Mp} {ok0:Nat->Ty->Prop} {Q:Exit->Act->World->Prop}
theorem Yr(H:FxOk X){i:Nat}{o:Oper}(hi:ops[i]? =some o){S1 S2:Sm}{t:Tr}(he:(ql X.E q ops.toList o).eval S1 ([],[])=some ((),S2,t)){m:Mp}{ok:Nat->Ty->Prop}{a:Act}{w:World}
  (R:Rel X (CB*q) (CB*q+CB) S1 m ok a w) {next:Act->World->Prop}
  (hn:∀m' ok' a' w',Rel X (CB*q) (CB*q+CB) S2 m' ok' a' w' ->(∀k l,m k=some l->m' k=some l)->(∀b t,ok b t->ok' b t)->next a' w'):wpOp X.P ops Q i next a w:=
 vP (b1b H R hi) he next Q hn
theorem Xl(H:FxOk X)(hc:Wp X.E q ops.toList ops.toList S T)
  (hQ:∀m' ok' a' w',Rel X (CB*q) (CB*q+CB) (S ops.size) m' ok' a' w' ->(∀k l,m0 k=some l->m' k=some l)->(∀b t,ok0 b t->ok' b t)->Q .normal a' w'):
  ∀(n k:Nat) {m:Mp} {ok:Nat->Ty->Prop} {a:Act} {w:World},k+n=ops.size->Rel X (CB*q) (CB*q+CB) (S k) m ok a w->(∀k l,m0 k=some l->m k=some l)->(∀b t,ok0 b t->ok b t)->wpOps X.P ops Q (List.range' k n) a w
 |0,k,m,ok,a,w,hk,R,hm,hok=>by have:k=ops.size:=o5;subst this;exact hQ m ok a w R hm hok
 |n+1,k,m,ok,a,w,hk,R,hm,hok=>by rw[nR,wpOps_cons];have hi:ops[k]? =some (ops[k]'o5):=V8 _;refine Yr H hi (hc k _ (by rw[aP];exact hi)) R λm' ok' a' w' R' k1 k2=>?_;exact Xl H hc hQ n (k+1) o5 R' (λk l h=>k1 k l (hm k l h)) (λb t h=>k2 b t (hok b t h))
theorem a9J(H:FxOk X){md:Region.Mode}(hc:Wp X.E q ops.toList ops.toList S T){M:Nat->Nat}
  {ex:Nat->Nat->Prop} (hpair:∀i j,i<j->j<ops.size->a8i (λi j=>Nat.testBit (M j) i=true) ex T i j)
  (hex:∀i j,i<j->j<ops.size->ex i j->∃S',(ql X.E q ops.toList (ops.getD i default)).eval (S (j+1)) ([],[])=some ((),S',T i)/\∀k∈(T i).2,S' k=S (i+1) k)
  (hM:∀i o,ops[i]? =some o->∀j,Nat.testBit (M i) j=true->∃e∈o.after.toList,uZ e/\(j=e.on\/Nat.testBit (M e.on) j=true)) (hrk:RI md ops)
  (hQ:∀m' ok' a' w',Rel X (CB*q) (CB*q+CB) (S ops.size) m' ok' a' w' ->(∀k l,m0 k=some l->m' k=some l)->(∀b t,ok0 b t->ok' b t)->Q .normal a' w'):
  ∀(lH:Nat) {D:d4K} {CP:Array Bool} {m:Mp} {ok:Nat->Ty->Prop} {a:Act} {w:World},lH+D.length=ops.size->D.Nodup->(∀j∈D,j<ops.size)->CP.size=ops.size->(∀i,i<ops.size->(CP.getD i false=true↔i∈D))->
   (∀j∈D,∀k,Nat.testBit (M j) k=true->k∈D)->Rel X (CB*q) (CB*q+CB) (SD S T D ops.size) m ok a w->(∀k l,m0 k=some l->m k=some l)->(∀b t,ok0 b t->ok b t)->
   wpAny X.P md ops Q lH CP a w:=by
 have hs:∀i,i<ops.size->(ql X.E q ops.toList (ops.getD i default)).eval (S i) ([],[])=some ((),S (i+1),T i):=λi hi=>by refine hc i _ ?_;simp[Array.getD,hi]
 obtain⟨rk,hrk⟩:=hrk;intro lH;induction lH with
 |zero=>
  intro D CP m ok a w hf hD hlt hsz hl hdown R hm hok;have hall:=b0x hD hlt o5;refine⟨?_,?_⟩
  .cases hr:Region.ready md ops CP with
   |nil=>rfl|cons x xs=>
    have hx:x∈Region.ready md ops CP:=by rw[hr];simp
    obtain⟨h1,o,ho,_⟩:=mem_ready.1 hx;have hxl:=(J6.1 ho).1;have:=(hl x hxl).2 (hall x hxl);rw[aC]at h1 this;cases hg:CP[x]? with
    |none=>rw[hg]at this;cases this|some y=>rw[hg]at h1 this;simp only[fD]at h1 this;rw[h1]at this;cases this
  .refine hQ m ok a w ?_ hm hok;rwa[b1w (c:=λi=>ql X.E q ops.toList (ops.getD i default)) hs hall]at R
 |succ lH ih=>
  intro D CP m ok a w hf hD hlt hsz hl hdown R hm hok;refine⟨λhr=>?_,λi hi=>?_⟩
  .have hall:∀n i,rk i<n->i<ops.size->i∈D:=by
    intro n;induction n with
    |zero=>intro i hi _;omega|succ n ihn=>
     intro i hi hil;refine iO λhni=>?_;have hin:i∈Region.ready md ops CP:=by
      refine mem_ready.2 ⟨?_,ops[i],V8 hil,λe he hb=>?_⟩
      .have h1:¬CP.getD i false=true:=λh=>hni ((hl i hil).1 h);rw[aC]at h1 ⊢;rw[V8 o5]at h1 ⊢;simpa using h1
      .obtain⟨g1,g2⟩:=hrk i _ (V8 hil) e (by simpa using he) hb;exact(hl e.on g1).2 (ihn e.on o5 g1)
     rw[hr]at hin;cases hin
   refine hQ m ok a w ?_ hm hok;rwa[b1w (c:=λi=>ql X.E q ops.toList (ops.getD i default)) hs (λi hi=>hall _ i (Nat.lt_succ_self _) hi)]at R
  .obtain⟨h1,o,ho,h2⟩:=mem_ready.1 hi;have hil:=(J6.1 ho).1;have hnD:i∉D:=λh=>by
    have:=(hl i hil).2 h;rw[aC]at h1 this;rw[V8 o5]at h1 this;simp only[fD]at h1 this;rw[h1]at this;cases this
   have hp:∀j,Nat.testBit (M i) j=true->j∈D:=λj hj=>by
    obtain⟨e,he,hpl,h3⟩:=hM i o ho j hj;have hlst:=h2 e (by simpa using he) (hpl.binds md);have hon:e.on<ops.size:=(hrk i o ho e he (hpl.binds md)).1;have honD:=(hl e.on hon).1 hlst;rcases h3 with rfl|h3
    .exact honD
    .exact hdown e.on honD j h3
   have hgd:ops.getD i default=o:=by rw[aC,ho];rfl
   have hstep:=b1x (c:=λi=>ql X.E q ops.toList (ops.getD i default)) (S:=S) (T:=T) (n:=ops.size) hs (ord:=λi j=>Nat.testBit (M j) i=true) (ex:=ex)
    hpair hex hil hnD hlt hp hdown
   simp only[hgd]at hstep;refine Yr H ho hstep R λm' ok' a' w' R' k1 k2=>?_;refine ih (D:=i::D) aH (az.2 ⟨hnD,hD⟩) (λj hj=>?_) (by simp[hsz]) (λj hj=>?_) (λj hj k hk=>?_) R' (λk l h=>k1 k l (hm k l h)) (λb t h=>k2 b t (hok b t h))
   .rcases D6.1 hj with rfl|hj
    .exact hil
    .exact hlt j hj
   .by_cases e:i=j
    .subst e;simp[Array.getD,hsz,hil]
    .rw[getD_set_ne false e,hl j hj];simp[Ne.symm e]
   .rcases D6.1 hj with rfl|hj
    .exact X9 _ (hp k hk)
    .exact X9 _ (hdown j hj k hk)
theorem WX(H:FxOk X){s s' :St}(h0:S 0=gI s)(h1:S ops.size=gI s')(hc:Wp X.E q ops.toList ops.toList S T){draw:Bool}{ex:Nat->Nat->Prop}
  (hex:∀i j,i<j->j<ops.size->ex i j->∃S',(ql X.E q ops.toList (ops.getD i default)).eval (S (j+1)) ([],[])=some ((),S',T i)/\∀k∈(T i).2,S' k=S (i+1) k)
  (hdraw:draw=true->∃M:Nat->Nat,a2i ops.toList 0 []=some ((List.range ops.size).map M).reverse/\(∀i j,i<j->j<ops.size->a8i (λi j=>Nat.testBit (M j) i=true) ex T i j)/\
   (bif Ii ops.toList then true else a2S .text ops.toList ops.toList.length []&&a2S .gc ops.toList ops.toList.length [])=true):
  (∀k,(∀x∈((List.range ops.size).map T).reverse,k∉x.2)->gI s' k=gI s k)/\
   ∀{m:Mp} {ok:Nat->Ty->Prop} {a:Act} {w:World} {id:Nat} {Q:Exit->Act->World->Prop},Rel X (CB*q) (CB*q+CB) (gI s) m ok a w->
    (∀m' ok' a' w',Rel X (CB*q) (CB*q+CB) (gI s') m' ok' a' w' ->(∀k l,m k=some l->m' k=some l)->(∀b t,ok b t->ok' b t)->Q .normal a' w')->(Code.region id ops draw).wp X.P Q a w:=by
 have hfr:∀k,(∀x∈((List.range ops.size).map T).reverse,k∉x.2)->gI s' k=gI s k:=λk hk=>by
  have:∀n,n<=ops.size->S n k=S 0 k:=by
   intro n;induction n with
   |zero=>intro _;rfl|succ n ih=>intro hn;have hi:ops[n]? =some (ops[n]'o5):=V8 _;rw[LG (hc n (ops[n]'o5) (by rw[aP];exact hi)) k (hk (T n) (by simp;exact⟨n,o5,rfl⟩)),ih o5]
  rw[←h1,←h0];exact this ops.size (E8 _)
 cases draw with
 |false=>refine⟨hfr,λ{m ok a w id Q} R hQ=>wp_region ?_⟩;rw[List.range_eq_range'];rw[←h0]at R;refine Xl H hc (m0:=m) (ok0:=ok) (by rw[h1];exact hQ) ops.size 0 o5 R (λ_ _ h=>h) (λ_ _ h=>h)|true=>
  obtain⟨M0,hp,hpair,hd⟩:=hdraw rfl;obtain⟨M,hMM,_,hM⟩:=Qy (M:=λ_=>0) ops.toList (n:=0) hp;simp only[iq,bT]at hd hM hMM;have hMM:∀k,k<ops.size->M0 k=M k:=λk hk=>by have e1:=JG (M:=M0) hk;rw[hMM,JG hk]at e1;exact e1.symm
  have hM:∀i o,ops[i]? =some o->(∀e∈o.after.toList,uZ e->e.on<i)/\∀j,Nat.testBit (M0 i) j=true->∃e∈o.after.toList,uZ e/\(j=e.on\/Nat.testBit (M0 e.on) j=true):=λi o ho=>by have hil:=(J6.1 ho).1;obtain⟨g1,g2⟩:=hM i o (by simpa using ho);refine⟨g1,λj hj=>?_⟩;rw[hMM i hil]at hj;obtain⟨e,he,hpl,h3⟩:=g2 j hj;exact⟨e,he,hpl,by rw[hMM e.on (by have:=g1 e he hpl;omega)];exact h3⟩
  have hidr:∀md,(∀(i:Nat) (o:Oper),ops[i]? =some o->∀e∈o.after.toList,Region.binds md e=true->uZ e)->RI md ops:=λmd hpl=>by refine⟨λi=>i,λi o ho e he hb=>?_⟩;have hil:=(J6.1 ho).1;have:=(hM i o ho).1 e he (hpl i o ho e he hb);exact⟨o5,this⟩
  have hany:RI .any ops:=hidr .any λi o ho e he hb=>a9N hb;have hboth:RI .text ops/\RI .gc ops:=by
   cases hpo:Ii ops.toList
   .simp only[hpo,cond_false,D5]at hd;exact⟨Jv (rk:=λ_=>0) _ hd.1 A7 A7 A7,Jv (rk:=λ_=>0) _ hd.2 A7 A7 A7⟩
   .have hpl:∀(i:Nat) (o:Oper),ops[i]? =some o->∀e∈o.after.toList,uZ e:=λi o ho e he=>Ri hpo o (by simpa using Array.mem_of_getElem? ho) e he;exact⟨hidr _ λi o ho e he _=>hpl i o ho e he,hidr _ λi o ho e he _=>hpl i o ho e he⟩
  refine⟨hfr,λ{m ok a w id Q} R hQ=>wp_region_draw λt=>?_⟩;have R' :Rel X (CB*q) (CB*q+CB) (SD S T [] ops.size) m ok a { w with drawn:=w.drawn+1 }:=by rw[b9d,h0];exact R.same rfl rfl rfl rfl
  have main:∀md,RI md ops->∀t,wpOps X.P ops Q (Region.linearise md ops t) a { w with drawn:=w.drawn+1 }:=λmd hr t=>by unfold Region.linearise;refine wpAny_sound ops.size t _ a _ ?_;refine a9J H hc hpair hex (λi o ho=>(hM i o ho).2) hr (m0:=m) (ok0:=ok) (by rw[h1];exact hQ) ops.size (D:=[]) A7 fJ A7 A7 (λi hi=>?_) A7 R' (λ_ _ h=>h) (λ_ _ h=>h);simp[Array.getD,hi]
  unfold Region.schedule;split
  .exact main _ hany t
  .split
   .exact main _ hboth.1 _
   .exact main _ hboth.2 _
theorem a2o(H:FxOk X){R:Type}{s:St}{wr:Rgs}{K:St->Rgs->Option R}{r:R}{draw:Bool}(h:a2n X.E q ops draw s wr K=some r):
  ∃s' w',K s' w' =some r/\(∃t:Trs,w' =Fq t wr/\∀k,(∀x∈t,k∉x.2)->gI s' k=gI s k)/\
   ∀{m:Mp} {ok:Nat->Ty->Prop} {a:Act} {w:World} {id:Nat} {Q:Exit->Act->World->Prop},Rel X (CB*q) (CB*q+CB) (gI s) m ok a w->
    (∀m' ok' a' w',Rel X (CB*q) (CB*q+CB) (gI s') m' ok' a' w' ->(∀k l,m k=some l->m' k=some l)->(∀b t,ok b t->ok' b t)->Q .normal a' w')->(Code.region id ops draw).wp X.P Q a w:=by
 unfold a2n at h;have pick:∀(dr:Bool) (s' :St) (T:Nat->Tr),(bif draw then(bif dr then K s' (Fq ((List.range ops.size).map T).reverse wr)else none)else K s' (Fq ((List.range ops.size).map T).reverse wr))=some r->
   K s' (Fq ((List.range ops.size).map T).reverse wr)=some r/\(draw=true->dr=true):=λdr s' T h=>by
  cases draw
  .exact⟨h,λh=>by cases h⟩
  .cases dr
   .cases h
   .exact⟨h,λ_=>rfl⟩
 split at h
 .obtain⟨s',S,T,h0,h1,hc,hk⟩:=Xd _ h;simp only[bT,G7]at h1 hk;obtain⟨hk,hd⟩:=pick _ s' T hk;obtain⟨hfr,hwp⟩:=WX H h0 h1 hc (draw:=draw) (ex:=λ_ _=>False) (λ_ _ _ _ h=>h.elim) λhdr=>by
   have hd:=hd hdr;unfold b1X at hd;cases hp:a2i ops.toList 0 []with
   |none=>simp[hp]at hd|some ms=>
   simp only[hp]at hd;obtain⟨M,hms,_,_⟩:=Qy (M:=λ_=>0) ops.toList (n:=0) hp;simp only[iq,bT]at hms;subst hms;cases hod:Zy ((List.range ops.size).map M).reverse ((List.range ops.size).map T).reverse
   .simp[hod]at hd
   simp only[hod,cond_true]at hd;exact⟨M,rfl,λi j hi hj=>(WM _ hod i j hi hj).imp id λh=>⟨h.1,.inl h.2⟩,hd⟩
  exact⟨s',_,hk,⟨_,rfl,hfr⟩,hwp⟩
 .obtain⟨s',S,T,h0,h1,hc,hk,_,h5⟩:=UG _ h;simp only[bT,G7]at h1 hk;obtain⟨hk,hd⟩:=pick _ s' T hk;obtain⟨hfr,hwp⟩:=WX H h0 h1 hc (draw:=draw) (ex:=λi j=>a1y ops.toList j=true/\b2b X.E ops.toList i=true) (λi j hij hj ⟨e1,e2⟩=>by
   have hi:ops[i]? =some (ops[i]'o5):=V8 _;have hj' :ops[j]? =some (ops[j]'o5):=V8 _;unfold a1y at e1;unfold b2b at e2;rw[aP,hj']at e1;rw[aP,hi]at e2;obtain⟨d,hd,d',S',g1,g2,g3,g4⟩:=h5 i j _ _ hij (by rw[aP];exact hi) (by rw[aP];exact hj') e2 e1;rw[hd]at g1;cases g1;have hgd:ops.getD i default=ops[i]'o5:=by rw[aC,hi];rfl
   refine⟨S',by rw[hgd];exact g3,λk hk=>?_⟩;rw[g2]at hk;simp only[D6,sS,or_false]at hk;subst hk;exact g4) λhdr=>by
   have hd:=hd hdr;unfold a8D at hd;cases hp:a2i ops.toList 0 []with
   |none=>simp[hp]at hd|some ms=>
   simp only[hp]at hd;obtain⟨M,hms,_,_⟩:=Qy (M:=λ_=>0) ops.toList (n:=0) hp;simp only[iq,bT]at hms;subst hms;cases hod:Ug X.E ops.toList ((List.range ops.size).map M).reverse ((List.range ops.size).map T).reverse
   .simp[hod]at hd
   simp only[hod,cond_true]at hd;exact⟨M,rfl,Uh _ hod,hd⟩
  exact⟨s',_,hk,⟨_,rfl,hfr⟩,hwp⟩
end
end Go.GP
namespace Go.GP
def Wr(w:Rgs)(k:Nat):Prop:=∃p∈w,p.1<=k/\k<p.2
theorem a5N{k:Nat} :¬Wr [] k:=λ⟨p,h,_⟩=>by cases h
theorem Qd{p:Nat×Nat}{w:Rgs}{k:Nat} :Wr (p::w) k↔(p.1<=k/\k<p.2)\/Wr w k:=by
 constructor
 .rintro⟨x,h,h1⟩;rcases D6.1 h with rfl|h
  .exact .inl h1
  .exact .inr ⟨x,h,h1⟩
 .rintro(h|⟨x,h,h1⟩)
  .exact⟨p,A7,h⟩
  .exact⟨x,by simp[h],h1⟩
theorem Oa{w:Rgs}{k:Nat} :∀{ks:d4K},Wr (TP ks w) k↔k∈ks\/Wr w k
 |[]=>by simp[TP]|x::ks=>by
  unfold TP;rw[Qd,Oa];simp only[D6];constructor
  .rintro(⟨h1,h2⟩|h|h)
   .exact .inl (.inl o5)
   .exact .inl (.inr h)
   .exact .inr h
  .rintro((rfl|h)|h)
   .simp
   .exact .inr (.inl h)
   .exact .inr (.inr h)
theorem a1w{b:Rgs}{k:Nat} :∀{a:Rgs},Wr (Yc a b) k↔Wr a k\/Wr b k
 |[]=>by simp[Yc,a5N]|x::a=>by unfold Yc;rw[Qd,Qd,a1w,or_assoc]
theorem UY{w:Rgs}{k:Nat} :∀{t:Trs},Wr (Fq t w) k↔(∃x∈t,k∈x.2)\/Wr w k
 |[]=>by simp[Fq]|x::t=>by unfold Fq;rw[Oa,UY,←or_assoc];simp
theorem a0J{lo hi:Nat} :∀{rs:Rgs},b0i lo hi rs=true->∃p∈rs,p.1<=lo/\hi<=p.2
 |[],h=>by simp[b0i]at h|(a,b)::r,h=>by
  unfold b0i at h;cases hb:(Nat.ble a lo&&Nat.ble hi b)
  .simp only[hb,cond_false]at h;obtain⟨p,h1,h2⟩:=a0J h;exact⟨p,by simp[h1],h2⟩
  .simp only[D5]at hb;exact⟨(a,b),A7,Y9 hb.1,Y9 hb.2⟩
theorem Wu{lim:Nat}{rs:Rgs} :∀{w:Rgs},Yx lim rs w=true->∀k,Wr w k->lim<=k\/Wr rs k
 |[],_,k,h=>absurd h a5N|(a,b)::w,h,k,hk=>by
  unfold Yx at h;cases hc:(Nat.ble lim a || b0i a b rs)
  .simp[hc]at h
  .simp only[hc,cond_true]at h;rcases Qd.1 hk with⟨h1,h2⟩|hk
   .simp only[pM]at hc;rcases hc with hc|hc
    .have:=Y9 hc;exact .inl (by simp only at h1;omega)
    .obtain⟨p,h3,h4,h5⟩:=a0J hc;exact .inr ⟨p,h3,by simp only at h1;omega,by simp only at h2;omega⟩
   .exact Wu h k hk
theorem VA{s:St}{k:Nat} :∀{rs:Rgs},¬Wr rs k->gI (HY rs s) k=gI s k
 |[],_=>rfl|(a,b)::r,h=>by
  rw[Qd,not_or]at h;show(bif Nat.ble a k&&Nat.blt k b then V.undef else gI (HY r s) k)=gI s k;cases hb:(Nat.ble a k&&Nat.blt k b)
  .simp only[cond_false];exact VA h.2
  .simp only[D5]at hb;exact absurd ⟨Y9 hb.1,Lm hb.2⟩ h.1
theorem a4m{s:St}{k:Nat} :∀{rs:Rgs},Wr rs k->gI (HY rs s) k= .undef
 |[],h=>absurd h a5N|(a,b)::r,h=>by
  show(bif Nat.ble a k&&Nat.blt k b then V.undef else gI (HY r s) k)=V.undef;cases hb:(Nat.ble a k&&Nat.blt k b)
  .simp only[cond_false];rcases Qd.1 h with⟨h1,h2⟩|h
   .simp only at h1 h2;have e1:Nat.ble a k=true:=Nat.ble_eq_true_of_le h1;have e2:Nat.blt k b=true:=by rw[gq];exact h2
    simp[e1,e2]at hb
   .exact a4m h
  .simp
variable {h0:Array Obj}{h1:Array Obj}{ok0:Nat->Ty->Prop}{ok1:Nat->Ty->Prop}{m:Mp}{m1:Mp}{m2:Mp}
theorem ZR(hm:∀k l,m k=some l->m2 k=m1 k):∀{c:V} {v0 v1:Value} (a:xR ⟨h0,ok0,m⟩ c v0) (b:xR ⟨h1,ok1,m1⟩ c v1),xR ⟨h1,ok1,m2⟩ c v1:=by
 intro c;induction c using V.rec (motive_2:=λ_=>True)<;>try trivial
 all_goals
  intro v0 v1 a b;simp only[xR]at a b ⊢
  try exact b
 case own bx vw=>obtain⟨l0,e0,_⟩:=a;obtain⟨l,e,hv⟩:=b;exact⟨l,by rw[hm _ _ e0];exact e,hv⟩
 case ptr bx o=>obtain⟨l0,e0,_⟩:=a;obtain⟨l,e,hv⟩:=b;exact⟨l,by rw[hm _ _ e0];exact e,hv⟩
 case ep bx ix o=>obtain⟨_,_,_,_,_,e0,_⟩:=a;obtain⟨x1,x2,x3,x4,x5,e,hv⟩:=b;exact⟨x1,x2,x3,x4,x5,by rw[hm _ _ e0];exact e,hv⟩
 case ifc t c ih=>obtain⟨u0,_,_,a⟩:=a;obtain⟨u,e,h,b⟩:=b;exact⟨u,e,h,ih a b⟩
theorem ZU{h0 h1:Array Obj}{ok0 ok1:Nat->Ty->Prop}{m m1 m2:Mp}(hm:∀k l,m k=some l->m2 k=m1 k):∀{cs:List V} {v0 v1:d4J},iJ ⟨h0,ok0,m⟩ cs v0->iJ ⟨h1,ok1,m1⟩ cs v1->iJ ⟨h1,ok1,m2⟩ cs v1
 |[],_,_,_,b=>b|_::_,_,_,⟨_,_,_,a1,_,a3⟩,⟨v,r,e,b1,b2,b3⟩=>⟨v,r,e,ZR hm a1 b1,b2,ZU hm a3 b3⟩
variable {c:V}
theorem a4Q(hm:∀k l,m k=some l->m2 k=m1 k){v0 v1:Value}(a:a2p ⟨h0,ok0,m⟩ c v0)(b:a2p ⟨h1,ok1,m1⟩ c v1):a2p ⟨h1,ok1,m2⟩ c v1:=by
 cases c<;>simp only[a2p]at a b ⊢<;>try exact ZR hm a b
 case agg cs=>obtain⟨_,_,a⟩:=a;obtain⟨arr,e,b⟩:=b;exact⟨arr,e,ZU hm a b⟩
theorem a4S{h0 h1:Array Obj}{ok0 ok1:Nat->Ty->Prop}{m m1 m2:Mp}(hm:∀k l,m k=some l->m2 k=m1 k):∀{cs:List V} {v0 v1:d4J},a2s ⟨h0,ok0,m⟩ cs v0->a2s ⟨h1,ok1,m1⟩ cs v1->a2s ⟨h1,ok1,m2⟩ cs v1
 |[],_,_,_,b=>b|_::_,_,_,⟨_,_,_,a1,a3⟩,⟨v,r,e,b1,b3⟩=>⟨v,r,e,a4Q hm a1 b1,a4S hm a3 b3⟩
theorem b4e(hm:∀k l,m k=some l->m2 k=m1 k){v0 v1:Value}(a:nI ⟨h0,ok0,m⟩ c v0)(b:nI ⟨h1,ok1,m1⟩ c v1):nI ⟨h1,ok1,m2⟩ c v1:=by
 cases c<;>simp only[nI]at a b ⊢<;>try exact a4Q hm a b
 case tup cs=>obtain⟨_,_,a⟩:=a;obtain⟨arr,e,b⟩:=b;exact⟨arr,e,a4S hm a b⟩
theorem a6C(hm:∀k l,m k=some l->m2 k=m1 k){sz:Nat}{l0 l1:Loc}{hole:Option (Nat×Nat×Option Nat)}(a:YV ⟨h0,ok0,m⟩ sz l0 hole)(b:YV ⟨h1,ok1,m1⟩ sz l1 hole):YV ⟨h1,ok1,m2⟩ sz l1 hole:=by
 obtain _|⟨i,o,_|n⟩:=hole
 .trivial
 .trivial
 .obtain⟨_,_,_,_,_,l',_,_,e,_⟩:=a;obtain⟨b1,b2,b3,b4,b5,l2,c1,c2,c3,c4⟩:=b;exact⟨b1,b2,b3,b4,b5,l2,c1,c2,by rw[hm _ _ e];exact c3,c4⟩
theorem b4d(hm:∀k l,m k=some l->m2 k=m1 k)(hk:m2.kid=m1.kid)(km:∀k l,m k=some l->m1 k=some l){n:Nat}(a:Gm ⟨h0,ok0,m⟩ n c)(b:∀l,m n=some l->Gm ⟨h1,ok1,m1⟩ n c):Gm ⟨h1,ok1,m2⟩ n c:=by
 cases c<;>simp only[Gm]at a b ⊢
 case bcells cs=>obtain⟨_,_,_,e0,_,a⟩:=a;obtain⟨blk,arr,T,e,hh,b⟩:=b _ e0;exact⟨blk,arr,T,by rw[hm _ _ e0];exact e,hh,ZU hm a b⟩
 case barr t xs=>obtain⟨_,e0,_⟩:=a;obtain⟨l,e,b⟩:=b _ e0;exact⟨l,by rw[hm _ _ e0];exact e,qw (λ_ _ h=>h) (λ_ _ _=>rfl) (λ_ _=>rfl) b⟩
 case bfrz t xs=>obtain⟨_,e0,_⟩:=a;obtain⟨l,e,b,hb⟩:=b _ e0;exact⟨l,by rw[hm _ _ e0];exact e,qw (λ_ _ h=>h) (λ_ _ _=>rfl) (λ_ _=>rfl) b,hb⟩
 case barrs md xs hole=>obtain⟨he,_,_,e0,⟨_,ha⟩,_⟩:=a;obtain⟨_,l,Os,e,⟨b,hl⟩,hb⟩:=b _ e0;exact⟨he,l,Os,by rw[hm _ _ e0];exact e,⟨b,a6C hm ha hl⟩,by rw[hk];exact hb⟩
 case bfc t x=>obtain⟨_,_,e0,_⟩:=a;obtain⟨blk,es,e,b⟩:=b _ e0;exact⟨blk,es,by rw[hm _ _ e0];exact e,b⟩
 case gone t=>obtain⟨_,e0,_⟩:=a;obtain⟨l,e,b⟩:=b _ e0;exact⟨l,by rw[hm _ _ e0];exact e,b⟩
 case biter l p=>obtain⟨_,_,_,e0,_⟩:=a;obtain⟨blk,s,q,e,hh,b⟩:=b _ e0;exact⟨blk,s,q,by rw[hm _ _ e0];exact e,hh,b⟩
 case bsb tb c=>obtain⟨_,_,_,e0,_,_,a⟩:=a;obtain⟨blk,a1,v1,e,hh,hs,b⟩:=b _ e0;exact⟨blk,a1,v1,by rw[hm _ _ e0];exact e,hh,hs,ZR hm a b⟩
 case brow te xs=>obtain⟨_,e0,_⟩:=a;obtain⟨l,e,b⟩:=b _ e0;exact⟨l,by rw[hm _ _ e0];exact e,b⟩
 case blen ln sz=>obtain⟨k,l,e,e0,h⟩:=a;exact⟨k,l,e,by rw[hm _ _ e0];exact km _ _ e0,h⟩
def cut(m:Mp)(N:Nat):Mp:=⟨λn=>if n<N then m n else none,m.kid⟩
section
variable {X:Fx} {cl ch N:Nat} {S S1 S2:Sm} {m m1:Mp} {ok ok1:Nat->Ty->Prop} {a a1:Act} {w w1:World}
theorem Rel.climb(R:Rel X cl ch S m ok a w){cl' :Nat}(h:cl<=cl'):Rel X cl' ch S m ok a w:={ R with fresh:=λn h1 h2=>R.fresh n o5 h2 }
theorem Rel.rebase(R0:Rel X cl N S m ok a w){cl1 ch1:Nat}(R1:Rel X cl1 ch1 S1 m1 ok1 a1 w1)(km:∀k l,m k=some l->m1 k=some l)
  (hS:∀k,S2 k= .undef\/(S2 k=S k/\(k<aS+N->S1 k=S k))):
  Rel X N N S2 (cut m1 N) ok1 a1 w1/\(∀T,Tk X S1 m1 ok1 w1 T->Tk X S2 (cut m1 N) ok1 w1 T)/\(∀k l,m k=some l->cut m1 N k=some l):=by
 have hdom:∀k l,m k=some l->k<N:=λk l h=>by
  rcases Nat.lt_or_ge k N with h1|h1
  .exact h1
  .rw[R0.strict k h1]at h;cases h
 have hagree:∀k l,m k=some l->cut m1 N k=m1 k:=λk l h=>by simp[cut,hdom k l h]
 have hown:∀n,Y1 (cut m1 N) n (S2 (aS+n))=Y1 m1 n (S1 (aS+n))\/Y1 (cut m1 N) n (S2 (aS+n))=[]:=λn=>by
  rcases hS (aS+n)with h1|⟨h1,h2⟩
  .right;rw[h1];rfl
  .rcases Nat.lt_or_ge n N with hn|hn
   .left;rw[h2 o5,←h1];exact LU (by simp[cut,hn]) rfl
   .right;have hc:m n=none:=R0.strict n hn;have hb:=R0.box n;rw[h1];cases hv:S (aS+n)<;>rw[hv]at hb<;>try rfl
    case bcells=>obtain⟨_,_,_,e,_⟩:=hb;simp only at e;rw[hc]at e;cases e
    case barr=>obtain⟨_,e,_⟩:=hb;simp only at e;rw[hc]at e;cases e
    case barrs=>obtain⟨_,_,_,e,_⟩:=hb;simp only at e;rw[hc]at e;cases e
    case biter=>obtain⟨_,_,_,e,_⟩:=hb;simp only at e;rw[hc]at e;cases e
    case bsb=>obtain⟨_,_,_,e,_⟩:=hb;simp only at e;rw[hc]at e;cases e
    case brow=>obtain⟨_,e,_⟩:=hb;simp only at e;rw[hc]at e;cases e
 have hownM:∀n b,b∈Y1 (cut m1 N) n (S2 (aS+n))->b∈Y1 m1 n (S1 (aS+n)):=λn b h=>by
  rcases hown n with e|e
  .rw[←e];exact h
  .rw[e]at h;cases h
 refine⟨{ kept:=R1.kept,size:=R1.size,nodef:=R1.nodef,okLt:=R1.okLt,okIn:=R1.okIn,okOut:=R1.okOut,frame:=R1.frame,gl:=R1.gl,slot:=λn hn=>?_,box:=λn=>?_,inj:=λn n' b h h' =>R1.inj n n' b (hownM n b h) (hownM n' b h'),nd:=λn=>(hown n).elim (λe=>by rw[e];exact R1.nd n) (λe=>by rw[e];exact fJ),sep:=λn b h=>R1.sep n b (hownM n b h),fresh:=λn h1 _=>?_,strict:=λn h=>?_ },λT hT=>⟨hT.nodup,λb hb=>?_⟩,λk l h=>by rw[hagree k l h];exact km k l h⟩
 .rcases hS n with h1|⟨h1,h2⟩
  .rw[h1];trivial
  .rw[h1];refine b4e hagree (R0.slot n hn) ?_;rw[←h2 o5];exact R1.slot n hn
 .rcases hS (aS+n)with h1|⟨h1,h2⟩
  .rw[h1];trivial
  .rw[h1];refine b4d hagree rfl km (R0.box n) λl hl=>?_;rw[←h2 (by have:=hdom n l hl;omega)];exact R1.box n
 .simp[cut];omega
 .simp[cut];omega
 .obtain⟨f1,f2,f3,f4⟩:=hT.free b hb;exact⟨f1,f2,f3,λn e=>f4 n (hownM n b e)⟩
theorem kT{R:Type}{q:Nat}{sg:Sig}{rs:Rgs}{s:St}{wr:Rgs}{K:sD sg->Option R}{r:R}(h:QY q sg rs s wr K=some r):
  ∃x,K x=some r/\∀{s0:St} {cl cl1 ch1:Nat} {m m1:Mp} {ok ok1:Nat->Ty->Prop} {a a1:Act} {w w1:World},Rel X cl (CB*q) (gI s0) m ok a w->Rel X cl1 ch1 (gI s) m1 ok1 a1 w1->(∀k l,m k=some l->m1 k=some l)->
   (∀k,¬Wr wr k->gI s k=gI s0 k)->∃m2 ok2 O,Rel X (CB*q) (CB*q) (gI (HY rs s0)) m2 ok2 a1 w1/\Tk X (gI (HY rs s0)) m2 ok2 w1 O/\
    a5M w1.heap ok2 sg x a1.tmps O/\(∀k l,m k=some l->m2 k=some l):=by
 unfold QY at h;obtain⟨x,s1,tr,he,hk⟩:=ru h;cases hc:Yx (aS+CB*q) rs (TP tr.2 wr)
 .simp[hc]at hk
 simp only[hc,cond_true]at hk;refine⟨x,hk,λ{s0 cl cl1 ch1 m m1 ok ok1 a a1 w w1} R0 R1 km hun=>?_⟩;have key:=vP (a6s R1 (Q:=λy S' =>∃ok' O,Rel X cl1 ch1 S' m1 ok' a1 w1/\Tk X S' m1 ok' w1 O/\a5M w1.heap ok' sg y a1.tmps O)
  λS' ok' y O R' T' _ _ hr=>⟨ok',O,R',T',hr⟩) he
 obtain⟨ok',O,R',T',hr⟩:=key;have hcov:=Wu hc;obtain⟨R2,hT2,hm2⟩:=R0.rebase (S2:=gI (HY rs s0)) R' km (λk=>by
  by_cases hw:Wr rs k
  .exact .inl (a4m hw)
  .refine .inr ⟨VA hw,λhlt=>?_⟩;have hnw:¬Wr (TP tr.2 wr) k:=λh=>by
    rcases hcov k h with h1|h1
    .omega
    .exact hw h1
   rw[Oa,not_or]at hnw;rw[LG he k hnw.1];exact hun k hnw.2)
 exact⟨_,ok',O,R2,hT2 O T',hr,hm2⟩
theorem tZ{R:Type}{q:Nat}{sg:Sig}{rs:Rgs}{s:St}{x:sD sg}{K:St->Rgs->Option R}{r:R}(h:enter q sg rs s x K=some r):
  ∃s' w',K s' w' =some r/\(∀k,Wr rs k->Wr w' k)/\(∀k,¬Wr w' k->gI s' k=gI s k)/\
   ∀{N:Nat} {m:Mp} {ok:Nat->Ty->Prop} {a:Act} {w:World} {O:d4K},N<=CB*q->Rel X N N (gI (HY rs s)) m ok a w->Tk X (gI (HY rs s)) m ok w O->
    a5M w.heap ok sg x a.tmps O->
    ∃m',Rel X (CB*(q+1)) (CB*(q+1)) (gI s') m' ok a w/\(∀k l,m k=some l->m' k=some l):=by
 unfold enter at h;obtain⟨u,s',tr,he,hk⟩:=ru h;refine⟨s',_,hk,λk hk=>Oa.2 (.inr hk),λk hk=>?_,λ{N m ok a w O} hN R1 T1 hr=>?_⟩
 .rw[Oa,not_or]at hk;rw[LG he k hk.1,VA hk.2]
 .have key:=vP (a6o (x:=x) (nb:=CB*q) (lim:=CB*q+CB) (Q:=λ_ S' =>∃m',Rel X N (max N (CB*q+CB)) S' m' ok a w/\(∀k l,m k=some l->m' k=some l)) R1 hN T1 hr
   λS' m' R' k=>⟨m',R',k⟩) he
  obtain⟨m',R',k⟩:=key;have e:CB*(q+1)=CB*q+CB:=by rw[Nat.mul_add,bY]
  rw[e];generalize CB*q=Z at*;exact⟨m',(R'.climb o5).chmono o5,k⟩
end
end Go.GP
namespace Go.GP
variable {q:Nat}{m:Mp}{a:Act}{w:World}{s:St}{wr:Rgs}{q':Nat}{n:Nat}
section
variable {X:Fx} {rt:Ret} {mE:Mp} {RetP:rt.den->Act->World->Prop}
def Tm(X:Fx)(q:Nat)(m:Mp)(s:St)(wr:Rgs)(s' :St)(w' :Rgs)(a:Act)(w:World):Prop:=
 ∃m' ok',Rel X (CB*q) (CB*q) (gI s') m' ok' a w/\(∀k l,m k=some l->m' k=some l)/\(∀k,Wr wr k->Wr w' k)/\(∀k,¬Wr w' k->gI s' k=gI s k)
def a5J(X:Fx)(RetP:rt.den->Act->World->Prop)(q:Nat)(m:Mp)(s:St)(wr:Rgs)(fl:Flow rt.den)(s' :St)(w' :Rgs)(e:Exit)(a:Act)(w:World):Prop:=
 match fl with
 | .nm=>e= .normal/\Tm X q m s wr s' w' a w| .ex id=>e= .exit id/\Tm X q m s wr s' w' a w| .rt x=>e= .ret/\RetP x a w
def a8h(X:Fx)(RetP:rt.den->Act->World->Prop)(q:Nat)(m:Mp)(s:St)(wr:Rgs){R:Type}(K:Flow rt.den->St->Rgs->Option R)(r:R)(e:Exit)(a:Act)(w:World):Prop:=
 ∃fl s' w',K fl s' w' =some r/\a5J X RetP q m s wr fl s' w' e a w
structure DOk (X:Fx) (mE:Mp) (RetP:rt.den->Act->World->Prop) (D:Den rt.den) (c:Code) (n:Nat):Prop where
 run:∀{q:Nat} {an:Ann} {s:St} {wr:Rgs} {R:Type} {K:Flow rt.den->St->Rgs->Option R} {r:R},D q an s wr R K=some r->
  ∀{m:Mp} {ok:Nat->Ty->Prop} {a:Act} {w:World},Rel X (CB*q) (CB*q) (gI s) m ok a w->(∀k l,mE k=some l->m k=some l)->
   c.wp X.P (a8h X RetP (q+n) m s wr K r) a w
def b1v(X:Fx)(rt:Ret)(mE:Mp)(RetP:rt.den->Act->World->Prop):Prop:=
 ∀{s:St} {R:Type} {K:rt.den->Option R} {r:R},(b7G X.E rt).runK s ([],[]) (λx _ _=>K x)=some r->
  ∃x,K x=some r/\∀{cl ch:Nat} {m:Mp} {ok:Nat->Ty->Prop} {a:Act} {w:World},Rel X cl ch (gI s) m ok a w->(∀k l,mE k=some l->m k=some l)->RetP x a w
theorem a8A{p q:Nat}(h:p<=q):CB*p<=CB*q:=Nat.mul_le_mul_left _ h
theorem Rel.upq{p q:Nat}{S:Sm}{ok:Nat->Ty->Prop}(R:Rel X (CB*p) (CB*p) S m ok a w)(h:p<=q):Rel X (CB*q) (CB*q) S m ok a w:=
 (R.climb (a8A h)).chmono (a8A h)
theorem Tm.here{ok:Nat->Ty->Prop}(R:Rel X (CB*q) (CB*q) (gI s) m ok a w)(h:q<=q'):Tm X q' m s wr s wr a w:=
 ⟨m,ok,R.upq h,λ_ _ h=>h,λ_ h=>h,λ_ _=>rfl⟩
theorem Tm.up{s s' :St}{wr w' :Rgs}(h:Tm X q m s wr s' w' a w)(hq:q<=q'):Tm X q' m s wr s' w' a w:=by obtain⟨m',ok',R,h1,h2,h3⟩:=h;exact⟨m',ok',R.upq hq,h1,h2,h3⟩
theorem Tm.trans{m m1:Mp}{s s1 s2:St}{wr w1 w2:Rgs}(k1:∀k l,m k=some l->m1 k=some l)(k2:∀k,Wr wr k->Wr w1 k)(k3:∀k,¬Wr w1 k->gI s1 k=gI s k)
  (h:Tm X q m1 s1 w1 s2 w2 a w) (hq:q<=q'):Tm X q' m s wr s2 w2 a w:=by
 obtain⟨m',ok',R,h1,h2,h3⟩:=h;exact⟨m',ok',R.upq hq,λk l h=>h1 k l (k1 k l h),λk h=>h2 k (k2 k h),λk h=>(h3 k h).trans (k3 k λh' =>h (h2 k h'))⟩
theorem a5J.up{s s' :St}{wr w' :Rgs}{fl:Flow rt.den}{e:Exit}(h:a5J X RetP q m s wr fl s' w' e a w)(hq:q<=q'):a5J X RetP q' m s wr fl s' w' e a w:=by
 cases fl with
 |nm=>exact⟨h.1,h.2.up hq⟩|ex id=>exact⟨h.1,h.2.up hq⟩|rt x=>exact h
theorem a5J.trans{m m1:Mp}{s s1 s2:St}{wr w1 w2:Rgs}{fl:Flow rt.den}{e:Exit}(k1:∀k l,m k=some l->m1 k=some l)(k2:∀k,Wr wr k->Wr w1 k)(k3:∀k,¬Wr w1 k->gI s1 k=gI s k)
  (h:a5J X RetP q m1 s1 w1 fl s2 w2 e a w) (hq:q<=q'):a5J X RetP q' m s wr fl s2 w2 e a w:=by
 cases fl with
 |nm=>exact⟨h.1,h.2.trans k1 k2 k3 hq⟩|ex id=>exact⟨h.1,h.2.trans k1 k2 k3 hq⟩|rt x=>exact h
theorem Qh(hq:q+1<=n){s s3:St}{wr w3:Rgs}{m m2:Mp}{ok2:Nat->Ty->Prop}
  (km:∀k l,m k=some l->m2 k=some l) (hout:∀k,¬Wr w3 k->gI s3 k=gI s k)
  (hR:∃m',Rel X (CB*(q+1)) (CB*(q+1)) (gI s3) m' ok2 a w/\(∀k l,m2 k=some l->m' k=some l)):Tm X n m s wr s3 (Yc w3 wr) a w:=by
 obtain⟨m',R,k⟩:=hR;exact⟨m',ok2,R.upq hq,λk' l h=>k _ _ (km _ _ h),λk h=>a1w.2 (.inr h),λk h=>hout k λh' =>h (a1w.2 (.inl h'))⟩
theorem wR{core:Den rt.den}{c:Code}(hc:DOk X mE RetP core c n):DOk X mE RetP (NS core) c (n+1):=by
 refine⟨?_⟩;intro q an s wr R K r h m ok a w Rl hE;have plain:core (q+1) an s wr R K=some r->c.wp X.P (a8h X RetP (q+(n+1)) m s wr K r) a w:=λh=>by have:=hc.run h (Rl.upq (Nat.le_succ q)) hE;rwa[show q+1+n=q+(n+1) by omega]at this
 cases an
 case join rs nm an=>
  unfold NS at h;simp only at h;obtain⟨x,h1,h2⟩:=Ie h;obtain⟨s3,w3,hk3,hrs,hout,hR⟩:=tZ (X:=X) h2;refine wp_mono (hc.run h1 (Rl.upq (Nat.le_succ q)) hE) ?_;rintro e a' w' ⟨fl,s',wr',hk,hfl⟩;cases fl with
  |ex id=>cases hk|rt x=>cases hk|nm=>obtain⟨rfl,m',ok',R1,k1,k2,k3⟩:=hfl;obtain⟨x',hx,hL⟩:=kT (X:=X) hk;cases hx;obtain⟨m2,ok2,O,R2,T2,hr,km⟩:=hL Rl R1 k1 k3;exact⟨.nm,s3,_,hk3,rfl,Qh (q:=q) o5 km hout (hR (E8 _) R2 T2 hr)⟩
 case joinR rs nm an=>
  unfold NS at h;simp only at h;obtain⟨o,h1,h2⟩:=Ie h;refine wp_mono (hc.run h1 (Rl.upq (Nat.le_succ q)) hE) ?_;rintro e a' w' ⟨fl,s',wr',hk,hfl⟩;cases fl with
  |ex id=>cases hk|rt x=>cases hk;exact⟨.rt x,_,_,h2,hfl⟩|nm=>obtain⟨rfl,m',ok',R1,k1,k2,k3⟩:=hfl;obtain⟨x',hx,hL⟩:=kT (X:=X) hk;cases hx;obtain⟨s3,w3,hk3,hrs,hout,hR⟩:=tZ (X:=X) (show enter q nm rs s x' (λs' w' =>K .nm s' (Yc w' wr))=some r from h2);obtain⟨m2,ok2,O,R2,T2,hr,km⟩:=hL Rl R1 k1 k3;exact⟨.nm,s3,_,hk3,rfl,Qh (q:=q) o5 km hout (hR (E8 _) R2 T2 hr)⟩
 all_goals exact plain h
theorem a6G{core:Den rt.den}{c:Code}(hc:DOk X mE RetP core c n):DOk X mE RetP (a4i core) (.loop c) (2+n):=by
 refine⟨?_⟩;intro q an s wr R K r h m ok a w Rl hE;cases an
 case loop rs hd xid xs an=>
  unfold a4i at h;simp only at h;obtain⟨x0,hk0,hL0⟩:=kT (X:=X) h;obtain⟨m2,ok2,O,R2,T2,hr,km⟩:=hL0 Rl Rl (λ_ _ h=>h) (λ_ _=>rfl);obtain⟨y,hl,hen⟩:=Ie hk0;clear hk0 h hL0;obtain⟨s3,w3,hk3,hrs,hout,hR⟩:=tZ (X:=X) hen;refine wp_loop_rounds lH ?_;unfold aX at hl;have key:∀(f:Nat) {x:sD hd} {m2:Mp} {ok2:Nat->Ty->Prop} {O:d4K} {a:Act} {w:World},
    sZ (λx=>b4j core q rs hd xid xs an s x) f x=some y->
    Rel X (CB*q) (CB*q) (gI (HY rs s)) m2 ok2 a w->Tk X (gI (HY rs s)) m2 ok2 w O->a5M w.heap ok2 hd x a.tmps O->(∀k l,m k=some l->m2 k=some l)->
    Code.rounds X.P c (a8h X RetP (q+(2+n)) m s wr K r) f a w:=by
   intro f;induction f with
   |zero=>intro x m2 ok2 O a w h;simp[sZ]at h|succ f ih=>
    intro x m2 ok2 O a w h R2 T2 hr km;rw[rounds_succ];unfold sZ at h;split at h
    .rename_i x' hf;obtain⟨s1,w1,hcore,_,hout1,hR1⟩:=tZ (X:=X) (show enter q hd rs s x _=some _ from hf);obtain⟨m1,R1,km1⟩:=hR1 (E8 _) R2 T2 hr;refine wp_mono (hc.run hcore (R1.upq o5) (λk l h=>km1 _ _ (km _ _ (hE _ _ h)))) ?_;rintro e a' w' ⟨fl,s',wr',hk,hfl⟩;cases fl with
     |rt x=>cases hk|ex id=>
      simp only at hk;cases hb:Nat.beq id xid
      .simp[hb]at hk
      .simp only[hb,cond_true]at hk;obtain⟨y',hx,_⟩:=kT (X:=X) hk;cases hx
     |nm=>obtain⟨rfl,m',ok',R1',k1,k2,k3⟩:=hfl;obtain⟨y',hx,hL⟩:=kT (X:=X) hk;cases hx;obtain⟨m4,ok4,O4,R4,T4,hr4,km4⟩:=hL Rl R1' (λk l h=>k1 _ _ (km1 _ _ (km _ _ h))) (λk h=>(k3 k h).trans (hout1 k λh' =>h (k2 k h')));exact ih h R4 T4 hr4 km4
    .rename_i y' hf;cases h;obtain⟨s1,w1,hcore,_,hout1,hR1⟩:=tZ (X:=X) (show enter q hd rs s x _=some _ from hf);obtain⟨m1,R1,km1⟩:=hR1 (E8 _) R2 T2 hr;refine wp_mono (hc.run hcore (R1.upq o5) (λk l h=>km1 _ _ (km _ _ (hE _ _ h)))) ?_;rintro e a' w' ⟨fl,s',wr',hk,hfl⟩;cases fl with
     |rt x=>cases hk|nm=>simp only at hk;obtain⟨y',hx,_⟩:=kT (X:=X) hk;cases hx
     |ex id=>
      simp only at hk;cases hb:Nat.beq id xid
      .simp[hb]at hk
      .simp only[hb,cond_true]at hk;have hid:=iI hb;subst hid;obtain⟨rfl,m',ok',R1',k1,k2,k3⟩:=hfl;obtain⟨y',hx,hL⟩:=kT (X:=X) hk;cases hx;obtain⟨m4,ok4,O4,R4,T4,hr4,km4⟩:=hL Rl R1' (λk l h=>k1 _ _ (km1 _ _ (km _ _ h))) (λk h=>(k3 k h).trans (hout1 k λh' =>h (k2 k h')));exact⟨.ex id,s3,_,hk3,rfl,Qh (q:=q+1) o5 km4 hout (hR (a8A (Nat.le_succ q)) R4 T4 hr4)⟩
    .cases h
  exact key lH (x:=x0) hl R2 T2 hr km
 case loopR rs hd xid xs an=>
  unfold a4i at h;simp only at h;obtain⟨x0,hk0,hL0⟩:=kT (X:=X) h;obtain⟨m2,ok2,O,R2,T2,hr,km⟩:=hL0 Rl Rl (λ_ _ h=>h) (λ_ _=>rfl);obtain⟨y,hl,hen⟩:=Ie hk0;clear hk0 h hL0;refine wp_loop_rounds lH ?_;unfold U3 at hl;have key:∀(f:Nat) {x:sD hd} {m2:Mp} {ok2:Nat->Ty->Prop} {O:d4K} {a:Act} {w:World},
    rX (λx=>b4k core q rs hd xid xs an s x) f x=some y->
    Rel X (CB*q) (CB*q) (gI (HY rs s)) m2 ok2 a w->Tk X (gI (HY rs s)) m2 ok2 w O->a5M w.heap ok2 hd x a.tmps O->(∀k l,m k=some l->m2 k=some l)->
    Code.rounds X.P c (a8h X RetP (q+(2+n)) m s wr K r) f a w:=by
   intro f;induction f with
   |zero=>intro x m2 ok2 O a w h;simp[rX]at h|succ f ih=>
    intro x m2 ok2 O a w h R2 T2 hr km;rw[rounds_succ];unfold rX at h;split at h
    .rename_i x' hf;obtain⟨s1,w1,hcore,_,hout1,hR1⟩:=tZ (X:=X) (show enter q hd rs s x _=some _ from hf);obtain⟨m1,R1,km1⟩:=hR1 (E8 _) R2 T2 hr;refine wp_mono (hc.run hcore (R1.upq o5) (λk l h=>km1 _ _ (km _ _ (hE _ _ h)))) ?_;rintro e a' w' ⟨fl,s',wr',hk,hfl⟩;cases fl with
     |rt x=>cases hk|ex id=>
      simp only at hk;cases hb:Nat.beq id xid
      .simp[hb]at hk
      .simp only[hb,cond_true]at hk;obtain⟨y',hx,_⟩:=kT (X:=X) hk;cases hx
     |nm=>obtain⟨rfl,m',ok',R1',k1,k2,k3⟩:=hfl;obtain⟨y',hx,hL⟩:=kT (X:=X) hk;cases hx;obtain⟨m4,ok4,O4,R4,T4,hr4,km4⟩:=hL Rl R1' (λk l h=>k1 _ _ (km1 _ _ (km _ _ h))) (λk h=>(k3 k h).trans (hout1 k λh' =>h (k2 k h')));exact ih h R4 T4 hr4 km4
    .rename_i y' hf;cases h;obtain⟨s3,w3,hk3,hrs,hout,hR⟩:=tZ (X:=X) (show enter (q+1) xs rs s y' (λs' w' =>K (.ex xid) s' (Yc w' wr))=some r from hen);obtain⟨s1,w1,hcore,_,hout1,hR1⟩:=tZ (X:=X) (show enter q hd rs s x _=some _ from hf);obtain⟨m1,R1,km1⟩:=hR1 (E8 _) R2 T2 hr;refine wp_mono (hc.run hcore (R1.upq o5) (λk l h=>km1 _ _ (km _ _ (hE _ _ h)))) ?_;rintro e a' w' ⟨fl,s',wr',hk,hfl⟩;cases fl with
     |rt x=>cases hk|nm=>simp only at hk;obtain⟨y',hx,_⟩:=kT (X:=X) hk;cases hx
     |ex id=>
      simp only at hk;cases hb:Nat.beq id xid
      .simp[hb]at hk
      .simp only[hb,cond_true]at hk;have hid:=iI hb;subst hid;obtain⟨rfl,m',ok',R1',k1,k2,k3⟩:=hfl;obtain⟨y',hx,hL⟩:=kT (X:=X) hk;cases hx;obtain⟨m4,ok4,O4,R4,T4,hr4,km4⟩:=hL Rl R1' (λk l h=>k1 _ _ (km1 _ _ (km _ _ h))) (λk h=>(k3 k h).trans (hout1 k λh' =>h (k2 k h')));exact⟨.ex id,s3,_,hk3,rfl,Qh (q:=q+1) o5 km4 hout (hR (a8A (Nat.le_succ q)) R4 T4 hr4)⟩
    .rename_i r' hf;cases h;obtain⟨s1,w1,hcore,_,hout1,hR1⟩:=tZ (X:=X) (show enter q hd rs s x _=some _ from hf);obtain⟨m1,R1,km1⟩:=hR1 (E8 _) R2 T2 hr;refine wp_mono (hc.run hcore (R1.upq o5) (λk l h=>km1 _ _ (km _ _ (hE _ _ h)))) ?_;rintro e a' w' ⟨fl,s',wr',hk,hfl⟩;cases fl with
     |rt x=>cases hk;obtain⟨rfl,hp⟩:=hfl;exact⟨.rt r',[],[],hen,rfl,hp⟩
     |nm=>simp only at hk;obtain⟨y',hx,_⟩:=kT (X:=X) hk;cases hx
     |ex id=>
      simp only at hk;cases hb:Nat.beq id xid
      .simp[hb]at hk
      .simp only[hb,cond_true]at hk;obtain⟨y',hx,_⟩:=kT (X:=X) hk;cases hx
    .cases h
  exact key lH (x:=x0) hl R2 T2 hr km
 all_goals (unfold a4i at h;cases h)
theorem DI(H:FxOk X)(hret:b1v X rt mE RetP):∀c:Code,DOk X mE RetP (den X.E rt c) c (AX c)
 | .skip=>wR (n:=0) ⟨λ{q an s wr R K r} h {m ok a w} Rl hE=>wp_skip ⟨.nm,s,wr,h,rfl,Tm.here Rl o5⟩⟩| .label l=>wR (n:=0) ⟨λ{q an s wr R K r} h {m ok a w} Rl hE=>wp_label ⟨.nm,s,wr,h,rfl,Tm.here Rl o5⟩⟩| .exit id=>wR (n:=0) ⟨λ{q an s wr R K r} h {m ok a w} Rl hE=>wp_exit ⟨.ex id,s,wr,h,rfl,Tm.here Rl o5⟩⟩| .ret=>wR (n:=0) ⟨λ{q an s wr R K r} h {m ok a w} Rl hE=>by obtain⟨x,hk,hp⟩:=hret (K:=λx=>K (.rt x) [] []) h;exact wp_ret ⟨.rt x,[],[],hk,rfl,hp Rl hE⟩⟩
 | .region id ops draw=>wR (n:=1) ⟨λ{q an s wr R K r} h {m ok a w} Rl hE=>by
  obtain⟨s',w',hk,⟨t,rfl,hfr⟩,hR⟩:=a2o H h;refine hR (Rl.chmono (jv _ _)) λm' ok' a' w2 R' k1 k2=>⟨.nm,s',_,hk,rfl,m',ok',?_,k1,λk h=>UY.2 (.inr h),λk h=>hfr k λx hx hkx=>h (UY.2 (.inl ⟨x,hx,hkx⟩))⟩;have e:CB*(q+1)=CB*q+CB:=by rw[Nat.mul_add,bY]
  rw[e];exact R'.climb (jv _ _)⟩
 | .seq x y=>by
  have hx:=DI H hret x;have hy:=DI H hret y;have:=wR (X:=X) (mE:=mE) (RetP:=RetP) (c:=.seq x y) (n:=AX x+AX y) (core:=λq a s w R K=>den X.E rt x q a.l s w R λfl s' w' =>match fl with
   | .nm=>den X.E rt y (q+AX x) a.r s' w' R K| .ex id=>K (.ex id) s' w'
   | .rt r=>K (.rt r) s' w') (DOk.mk λ{q an s wr R K r} h {m ok a w} Rl hE=>by
    refine wp_seq (wp_mono (hx.run h Rl hE) ?_);rintro e a' w' ⟨fl,s',wr',hk,hfl⟩;cases fl with
    |nm=>obtain⟨rfl,m',ok',R1,k1,k2,k3⟩:=hfl;refine wp_mono (hy.run hk R1 (λk l h=>k1 _ _ (hE _ _ h))) ?_;rintro e a2 w2 ⟨fl,s2,wr2,hk2,hfl2⟩;exact⟨fl,s2,wr2,hk2,hfl2.trans k1 k2 k3 o5⟩
    |ex id=>obtain⟨rfl,hs⟩:=hfl;exact⟨.ex id,s',wr',hk,rfl,hs.up o5⟩
    |rt x=>obtain⟨rfl,hs⟩:=hfl;exact⟨.rt x,s',wr',hk,rfl,hs⟩)
  rw[show AX (.seq x y)=AX x+AX y+1 by simp only[AX];omega];exact this
 | .block id x=>by
  have hx:=DI H hret x;have:=wR (X:=X) (mE:=mE) (RetP:=RetP) (c:=.block id x) (n:=AX x) (core:=λq a s w R K=>den X.E rt x q a.l s w R λfl s' w' =>match fl with
   | .nm=>K .nm s' w'| .ex j=>bif Nat.beq j id then K .nm s' w' else K (.ex j) s' w'
   | .rt r=>K (.rt r) s' w') (DOk.mk λ{q an s wr R K r} h {m ok a w} Rl hE=>by
    refine wp_block (wp_mono (hx.run h Rl hE) ?_);rintro e a' w' ⟨fl,s',wr',hk,hfl⟩;cases fl with
    |nm=>obtain⟨rfl,hs⟩:=hfl;exact⟨.nm,s',wr',hk,rfl,hs⟩
    |ex j=>
     obtain⟨rfl,hs⟩:=hfl;simp only at hk;cases hb:Nat.beq j id
     .simp only[hb,cond_false]at hk;have hne:j≠id:=λe=>by subst e;simp at hb
      simp only[Exit.inBlock,hne,if_false];exact⟨.ex j,s',wr',hk,rfl,hs⟩
     .simp only[hb,cond_true]at hk;have:=iI hb;subst this;simp only[Exit.inBlock,if_true];exact⟨.nm,s',wr',hk,rfl,hs⟩
    |rt x=>obtain⟨rfl,hs⟩:=hfl;exact⟨.rt x,s',wr',hk,rfl,hs⟩)
  rw[show AX (.block id x)=AX x+1 by simp only[AX];omega];exact this
 | .cond c x y=>by
  have hx:=DI H hret x;have hy:=DI H hret y;have:=wR (X:=X) (mE:=mE) (RetP:=RetP) (c:=.cond c x y) (n:=AX x+AX y) (core:=λq a s w R K=>(wI c λv=>Cmd.ret v:Cmd V).runK s ([],[]) λv s' _=>match v with
   | .b t=>l7 t (den X.E rt x q a.l s' w R K) (den X.E rt y (q+AX x) a.r s' w R K)
   |_=>none) (DOk.mk λ{q an s wr R K r} h {m ok a w} Rl hE=>by
    obtain⟨v,s',tr,he,hk⟩:=ru h;obtain⟨hv,hs⟩:=vP (cu Rl (K:=λv=>Cmd.ret v) (x:=c) (Q:=λv S' =>nI ⟨w.heap,ok,m⟩ v (a.eval c)/\S' =gI s) λv hv=>⟨hv,rfl⟩) he;cases v<;>try (simp at hk;done)
    case b t=>
     have R1:Rel X (CB*q) (CB*q) (gI s') m ok a w:=by rw[hs];exact Rl
     refine wp_cond_split (VM hv) (λht=>?_) (λht=>?_)
     .subst ht;refine wp_mono (hx.run (show den X.E rt x q an.l s' wr R K=some r from hk) R1 hE) ?_;rintro e a2 w2 ⟨fl,s2,wr2,hk2,hfl2⟩;exact⟨fl,s2,wr2,hk2,hfl2.trans (λ_ _ h=>h) (λ_ h=>h) (λk _=>by rw[hs]) o5⟩
     .subst ht;refine wp_mono (hy.run (show den X.E rt y (q+AX x) an.r s' wr R K=some r from hk) (R1.upq o5) hE) ?_;rintro e a2 w2 ⟨fl,s2,wr2,hk2,hfl2⟩;exact⟨fl,s2,wr2,hk2,hfl2.trans (λ_ _ h=>h) (λ_ h=>h) (λk _=>by rw[hs]) o5⟩)
  rw[show AX (.cond c x y)=AX x+AX y+1 by simp only[AX];omega];exact this
 | .loop x=>by have hx:=DI H hret x;have:=wR (a6G hx);rw[show AX (.loop x)=2+AX x+1 by simp only[AX];omega];exact this| .goto l=>⟨λh=>by simp[den]at h⟩| .scope x=>⟨λh=>by simp[den]at h⟩| .rangeFunc ..=>⟨λh=>by simp[den]at h⟩| .refuse ..=>⟨λh=>by simp[den]at h⟩
end
end Go.GP
namespace Go.GP
structure EnvOk (P:Program) (E:Env):Prop where
 nt:64*E.nt<=999936
 tt:∀t i,fP E.tt t=some i->TiOk P t i
 fs:∀p∈E.fs,dH P E.gl p.1 p.2
 eqs:∀t sh,fP E.eqs t=some sh->PZ P t sh
 ms:∀p∈E.ms,GV P p.1.1 p.1.2 p.2.1 p.2.2
 fn:∀p∈E.fs,∃fn,P.funcs[p.1]? =some fn/\fn.body.isSome=true/\(fn.name== "runtime.NumGoroutine")=false
 pl:∀p∈E.pl,PlP P p.1 p.2.1 p.2.2
theorem UC{C:Cx} :∀{a:List V} {xs:d4J},jb C a xs->a.length=xs.length
 |[],_,h=>by simp only[jb]at h;simp[h]|c::a,_,⟨v,r,e,h1,h2⟩=>by subst e;simp[UC h2]
def VP(tmps:Array Value):ResultVar->Sem Value
 | .tmp t=>pure (tmps.getD t undef)| .cell a t=>do loadVar t (←asAddr (tmps.getD a undef))
def b1s(h:Array Obj)(tm:Nat->Value):d4K->d4J->d4K->Prop
 |[],os,B=>os=[]/\B=[]|n::ns,os,B=>(∃b arr T os' B',tm n= .pointer (some ⟨b,0,none⟩)/\h[b]? =some (.cells arr T (0,0))/\os= .agg arr::os' /\B=b::B' /\b1s h tm ns os' B')\/
  (∃t b arr T os' B',tm n= .iface t (.pointer (some ⟨b,0,none⟩))/\h[b]? =some (.cells arr T (0,0))/\os= .agg arr::os' /\B=b::B' /\b1s h tm ns os' B')\/
  (∃l os',Loc.view l none (tm n)/\os=tm n::os' /\b1s h tm ns os' B)
def a1s(h:Array Obj)(ok:Nat->Ty->Prop):List MG->d4J->Prop
 |[],vs=>vs=[]|m::ms,vs=>∃v r cs x O,vs=v::r/\a2r m.1 v cs/\qY h ok m.2 none x cs O/\a1s h ok ms r
theorem a0j{h:Array Obj}{ok:Nat->Ty->Prop} :∀{ms:List MG} {x:ay ms} {vs:d4J} {O:d4K},vU h ok ms x vs O->a1s h ok ms vs
 |[],_,_,_,e=>e.1|[m],x,_,_,⟨v,cs,e,hg,hr⟩=>⟨v,[],cs,x,_,e,hg,hr,rfl⟩|m::m' ::r,x,_,_,⟨v,cs,vs',O1,O2,e,eo,hg,h1,h2⟩=>⟨v,vs',cs,x.1,O1,e,hg,h1,a0j h2⟩
section
variable {X:Fx} {cl ch:Nat} {m:Mp} {a:Act} {w:World}
theorem PG{α:Type}{Q:α->Sm->Prop}(H:FxOk X){S:Sm}{ok:Nat->Ty->Prop}(R:Rel X cl ch S m ok a w):∀(l:List ResultVar) {K:List V->Cmd α}
  (hK:∀vs rvs,jb ⟨w.heap,ok,m⟩ vs rvs->rvs.length=l.length->(l.mapM (VP a.tmps)).run X.P w= .ok rvs w->(K vs).post S Q),(VO X.E l K).post S Q
 |[],K,hK=>hK [] [] rfl rfl A7
 | .tmp t::l,K,hK=>by unfold VO;refine dJ λhb=>di ?_;refine PG H R l λvs rvs hr hl hrun=>?_;refine hK _ (a.tmps.getD t undef::rvs) ⟨_,_,rfl,R.slot t (Lm hb),hr⟩ (by simp[hl]) ?_;simp only[List.mapM_cons,I4,VP,au,J5,hrun]
 | .cell p t::l,K,hK=>by unfold VO;refine dJ λhb=>di ?_;refine LP H R (R.slot p (Lm hb)) λv u ad hv hx hload=>?_;refine PG H R l λvs rvs hr hl hrun=>?_;refine hK _ (u::rvs) ⟨_,_,rfl,hv,hr⟩ (by simp[hl]) ?_;simp only[List.mapM_cons,I4,VP,hx,asAddr,au,J5,hload,hrun]
theorem Jh{α:Type}{Q:α->Sm->Prop} :∀(ns:d4K) {S:Sm} {ok:Nat->Ty->Prop} {T:d4K} {K:List V->Cmd α} (R:Rel X cl ch S m ok a w) (hT:Tk X S m ok w T)
  (hK:∀S' ws os B,Rel X cl ch S' m ok a w->Tk X S' m ok w (T++B)->b1s w.heap (λn=>a.tmps.getD n Go.undef) ns os B->jb ⟨w.heap,ok,m⟩ ws os->(K ws).post S' Q),(VH ns K).post S Q
 |[],S,ok,T,K,R,hT,hK=>hK S [] [] [] R (by simpa using hT) ⟨rfl,rfl⟩ rfl|n::ns,S,ok,T,K,R,hT,hK=>by
  unfold VH;refine ed λhb=>di ?_;have hsl:=R.slot n (by rw[gq]at hb;exact hb);split<;>try trivial
  .rename_i bx hSn;rw[hSn]at hsl;obtain⟨blk,hm,hv⟩:=hsl;refine di ?_;split<;>try trivial
   rename_i cs hS;obtain⟨blk',arr,Ty,hm',hh,hl⟩:=R.own_cells hS;simp only at hm;rw[hm]at hm';cases hm';refine jC ?_;have hT1:Tk X (upd S (aS+bx) .dead) m ok w (T++[blk]):=hT.kill R bx (λb hb=>by simp at hb;subst hb;simp[Y1,hS,hm]) A7;refine Jh ns (R.kill bx) hT1 λS' ws os B R' T' ho hw=>?_;exact hK S' _ (.agg arr::os) (blk::B) R' (by simpa using T') (.inl ⟨blk,arr,Ty,os,B,hv,hh,rfl,rfl,ho⟩) ⟨_,_,rfl,⟨arr,rfl,hl⟩,hw⟩
  .rename_i t u hSn;rw[hSn]at hsl;obtain⟨z,hz,_,hsl⟩:=hsl;split<;>try trivial
   rename_i bx;obtain⟨blk,hm,hv⟩:=hsl;refine di ?_;split<;>try trivial
   rename_i cs hS;obtain⟨blk',arr,Ty,hm',hh,hl⟩:=R.own_cells hS;simp only at hm;rw[hm]at hm';cases hm';refine jC ?_;have hT1:Tk X (upd S (aS+bx) .dead) m ok w (T++[blk]):=hT.kill R bx (λb hb=>by simp at hb;subst hb;simp[Y1,hS,hm]) A7;refine Jh ns (R.kill bx) hT1 λS' ws os B R' T' ho hw=>?_;exact hK S' _ (.agg arr::os) (blk::B) R' (by simpa using T') (.inr (.inl ⟨t,blk,arr,Ty,os,B,hv▸hz,hh,rfl,rfl,ho⟩)) ⟨_,_,rfl,⟨arr,rfl,hl⟩,hw⟩
  .rename_i bx hSn;rw[hSn]at hsl;obtain⟨l,hm,hv⟩:=hsl;refine Jh ns R hT λS' ws os B R' T' ho hw=>?_;exact hK S' _ (a.tmps.getD n Go.undef::os) B R' T' (.inr (.inr ⟨l,os,hv,rfl,ho⟩)) ⟨_,_,rfl,⟨l,hm,hv⟩,hw⟩
end
theorem Tf{l:Loc}{v:Value}(h:l.view none v):(∃a n c,v= .slice a n c)\/∃b,v= .map (some b):=by
 cases l with
 |nil=>exact .inl ⟨_,_,_,h⟩|st b=>cases h|mp b=>exact .inr ⟨_,h⟩|arr blk off len cap sz=>exact .inl ⟨_,_,_,h⟩
theorem b0F{h h0:Array Obj}{ok0:Nat->Ty->Prop}{tm:Nat->Value} :∀(ms:List MG) (k:Nat) {vals:d4J} {os:d4J} {B:d4K},b7k ms=true->
  a1s h0 ok0 ms vals->(∀i v,k+i∈mQ ms k->vals[i]? =some v->tm (k+i)=v)->b1s h tm (mQ ms k) os B->zx h ms vals os B:=by
 have tail:∀{m:List MG} {k:Nat} {v:Value} {r:d4J},(∀i u,k+i∈mQ m (k+1)->(v::r)[i]? =some u->tm (k+i)=u)->∀i u,(k+1)+i∈mQ m (k+1)->r[i]? =some u->tm ((k+1)+i)=u:=by intro m k v r h i u hi hu;have e:k+(i+1)=k+1+i:=o5;have:=h (i+1) u (by rw[e];exact hi) (by simpa using hu);rwa[e]at this
 have tail2:∀{m:List MG} {k:Nat} {v:Value} {r:d4J},(∀i u,k+i∈k::mQ m (k+1)->(v::r)[i]? =some u->tm (k+i)=u)->(tm k=v)/\∀i u,(k+1)+i∈mQ m (k+1)->r[i]? =some u->tm ((k+1)+i)=u:=λh=>
  ⟨by have:=h 0 _ A7 rfl;simpa using this,tail (λi u hi hu=>h i u (X9 _ hi) hu)⟩
 intro ms;induction ms with
 |nil=>intro k vals os B hsb hs ht ho;simp only[a1s]at hs;subst hs;exact ho|cons m ms ih=>
  intro k vals os B hsb hs ht ho;obtain⟨v,r,cs,x,O,rfl,hg,hr,hs⟩:=hs;obtain⟨g,m⟩:=m;cases m
  case box md=>
   unfold mQ at ht ho;obtain⟨htv,ht⟩:=tail2 ht;obtain⟨blk,arr,T,O',hc,_⟩:=hr;have hv:v= .pointer (some ⟨blk,0,none⟩)\/∃ar,v= .agg ar:=by
    cases g
    .left;have hg:cs=[v]:=hg;rw[hg]at hc;simpa using hc
    .right;obtain⟨ar,e,_⟩:=hg;exact⟨ar,e⟩
   rcases ho with⟨b,arr,T,os',B',e,hh,e1,e2,ho'⟩|⟨t,b,arr,T,os',B',e,_⟩|⟨l,os',e,_⟩
   .exact⟨b,arr,T,os',B',htv.symm.trans e,hh,e1,e2,ih (k+1) hsb hs ht ho'⟩
   .rw[htv]at e;rcases hv with rfl|⟨_,rfl⟩<;>cases e
   .rcases Tf e with⟨_,_,_,e⟩|⟨_,e⟩<;>rw[htv]at e<;>rcases hv with rfl|⟨_,rfl⟩<;>cases e
  case ownb u=>
   unfold mQ at ht ho;obtain⟨htv,ht⟩:=tail2 ht;obtain⟨l,v',hc,hvv,_⟩:=hr;have hv:((∃a n c,v= .slice a n c)\/∃b,v= .map (some b))\/∃ar,v= .agg ar:=by
    cases g
    .left;have hg:cs=[v]:=hg;rw[hg]at hc;simp only[H6,and_true]at hc;subst hc;exact Tf hvv
    .right;obtain⟨ar,e,_⟩:=hg;exact⟨ar,e⟩
   rcases ho with⟨b,arr,T,os',B',e,_⟩|⟨t,b,arr,T,os',B',e,_⟩|⟨l,os',e,rfl,ho'⟩
   .rw[htv]at e;rcases hv with(⟨_,_,_,rfl⟩|⟨_,rfl⟩)|⟨_,rfl⟩<;>cases e
   .rw[htv]at e;rcases hv with(⟨_,_,_,rfl⟩|⟨_,rfl⟩)|⟨_,rfl⟩<;>cases e
   .rw[htv];exact⟨os',rfl,ih (k+1) hsb hs ht ho'⟩
  case ifc t md=>
   cases md
   case box md=>
    unfold mQ at ht ho;obtain⟨htv,ht⟩:=tail2 ht;obtain⟨u,hc,blk,arr,T,O',hu,_⟩:=hr;have hv:v= .iface t u\/∃ar,v= .agg ar:=by
     cases g
     .left;have hg:cs=[v]:=hg;rw[hg]at hc;simpa using hc
     .right;obtain⟨ar,e,_⟩:=hg;exact⟨ar,e⟩
    rcases ho with⟨b,arr,T,os',B',e,_⟩|⟨t,b,arr,T,os',B',e,hh,e1,e2,ho'⟩|⟨l,os',e,_⟩
    .rw[htv]at e;rcases hv with rfl|⟨_,rfl⟩<;>cases e
    .exact⟨t,b,arr,T,os',B',htv.symm.trans e,hh,e1,e2,ih (k+1) hsb hs ht ho'⟩
    .rcases Tf e with⟨_,_,_,e⟩|⟨_,e⟩<;>rw[htv]at e<;>rcases hv with rfl|⟨_,rfl⟩<;>cases e
   all_goals
    unfold mQ at ht ho;exact ih (k+1) hsb hs (tail ht) ho
  case sbx=>cases hsb
  case sit=>cases hsb
  all_goals
   unfold mQ at ht ho;exact ih (k+1) hsb hs (tail ht) ho
theorem a5w:∀{a b:d4K},b6q a b=true->∀n∈a,n∈b
 |[],_,_,_,h=>by cases h|a::r,b,h,n,hn=>by
  unfold b6q at h;cases hb:Ia a b<;>rw[hb]at h
  .cases h
  .rcases D6.1 hn with rfl|hn
   .exact a0Q hb
   .exact a5w h n hn
theorem WN:∀{ms:List MG} {k n:Nat},n∈mQ ms k->k<=n/\n<k+ms.length
 |[],k,n,h=>by cases h|(g,m)::ms,k,n,h=>by
  have key:n∈k::mQ ms (k+1)->k<=n/\n<k+(ms.length+1):=λh=>by
   rcases D6.1 h with rfl|h
   .omega
   .have:=WN h;omega
  cases m
  case box md=>exact key h
  case ownb u=>exact key h
  case ifc t md=>
   cases md
   case box md=>exact key h
   all_goals exact key (X9 _ h)
  all_goals exact key (X9 _ h)
variable {P:Program}
theorem a4Y{w:World}{fn:Func}{tmps:Array Value}{rvs:d4J}(h:(fn.results.toList.mapM (VP tmps)).run P w= .ok rvs w):
  ∃v,(results fn tmps).run P w= .ok v w/\a5K rvs.length v rvs:=by
 have hm:(fn.results.mapM (VP tmps)).run P w= .ok rvs.toArray w:=by rw[Array.mapM_eq_mapM_toList];simp[h]
 have e:results fn tmps=(do let vs ←fn.results.mapM (VP tmps);pure (if h:vs.size=1 then vs[0]else .tuple vs):Sem Value):=by unfold results;congr 1
 rw[e,I4,hm];clear h hm e;rcases rvs with _|⟨x,_|⟨y,r⟩⟩
 .exact⟨.tuple #[],rfl,rfl,rfl⟩
 .exact⟨x,rfl,rfl,rfl⟩
 .exact⟨.tuple (x::y::r).toArray,A7,rfl,rfl⟩
section
variable {X:Fx} {cl ch:Nat} {m:Mp} {ok:Nat->Ty->Prop} {a:Act} {w:World}
theorem a9W{Q:Unit->Sm->Prop}{xall:d4J}(hall:∀k p,xall[k]? =some p->a.tmps.getD k Go.undef=p):∀(ms:List MG) (n:Nat) {xs:d4J} {S:Sm} {K:Cmd Unit}
  (R:Rel X cl ch S m ok a w) (hxs:∀i v,xs[i]? =some v->a.tmps.getD (n+i) Go.undef=v) (hl:ms.length=xs.length) (hd:a9F w.heap xall ms xs)
  (hK:∀S',Rel X cl ch S' m ok a w->K.post S' Q),(a6k ms n K).post S Q:=by
 intro ms;induction ms with
 |nil=>intro n xs S K R hxs hl hd hK;exact hK S R|cons md ms ih=>
  intro n xs S K R hxs hl hd hK;obtain⟨g,md⟩:=md;cases xs with
  |nil=>cases hl|cons x xs=>
   have hxs' :∀i v,xs[i]? =some v->a.tmps.getD (n+1+i) Go.undef=v:=λi v h=>by have:=hxs (i+1) v (by simpa using h);rwa[show n+(i+1)=n+1+i by omega]at this
   have hl' :ms.length=xs.length:=by simpa using hl
   cases md
   case dv k off sz fo=>obtain⟨⟨p,hp,hpa⟩,hd⟩:=hd;unfold a6k;refine ed λhb=>di ?_;simp only[D5]at hb;have hk:=Lm hb.1;have hn:=Lm hb.2;have hsl:=R.slot k hk;rw[hall k p hp]at hsl;refine SE R hsl λr y hr hy=>jC ?_;have hx:=hxs 0 x rfl;rw[dL]at hx;have:y=x:=hy.det hpa;subst this;exact ih (n+1) (R.slotV hn (by rw[hx];exact hr)) hxs' hl' hd hK
   all_goals
    unfold a6k;exact ih (n+1) R hxs' hl' hd hK
end
theorem RQ{E:Env}{f:FuncId}{fn:Func}{c:Code}{ps:List MG}{rt:Ret}{an:Ann}{F:ay ps->Option rt.den}(hf:P.funcs[f]? =some fn)(hb:fn.body=some c)(hnt:fn.ntmps=E.nt)
  (hres:fn.results.toList=rt.rs.map (·.1)) (hE:EnvOk P E) (hF:∀x r,F x=some r->a9V E ps rt c an x=some r):
  dH P E.gl f ⟨ps,rt.rs.map (·.2),rt.outs.map (·.2),F⟩:=by
 intro w ok O vals x r hlt hnd hO hgl hrel hdv hfn;have hden:=hF x r hfn;clear hfn hF;let X:Fx:=⟨P,E,w,O,ok,vals.toArray++Array.replicate (E.nt -vals.length) undef⟩;have H:FxOk X:=⟨hE.nt,hE.tt,hE.fs,hE.eqs,hE.ms,hE.fn,hE.pl⟩;refine calls_of_wp_defers hf hb ?_;simp only[bC];rw[hnt];generalize hact:({ tmps:=vals.toArray++Array.replicate (E.nt -vals.length) undef,defers:=[] } :Act)=act;have hvl:vals.length=ps.length:=Rx hrel;unfold a9V at hden;cases hle00:(Nat.ble ps.length E.nt&&PL (rt.outs.map (·.1)) (mQ ps 0)&&b6q (rt.outs.map (·.1)) E.kp&&b7k ps)
 .simp only[hle00,cond_false]at hden;cases hden
 simp only[hle00,cond_true]at hden;simp only[D5]at hle00;obtain⟨⟨⟨hle0,hsame⟩,hsub⟩,hnosb⟩:=hle00;have hsame:=PM hsame;have hsub:=a5w hsub;have hle1:=Y9 hle0;obtain⟨u,s,tr,he,hk⟩:=ru hden;have hsize:act.tmps.size=E.nt:=by subst hact;simp;omega
 have hslots:∀n,n<vals.length->act.tmps.getD n undef=vals.getD n undef:=λn hn=>by subst hact;simp only[aC];rw[jJ (by simpa using hn)];simp[zM]
 have R0:Rel X 0 0 (gI []) nom ok act w:={ size:=hsize,nodef:=(by subst hact;intro d hd;cases hd),slot:=λn _=>trivial,box:=λn=>trivial,inj:=λn n' b h=>(by simp[gI,Y1]at h),nd:=λn=>(by simp[gI,Y1]),sep:=λn b h=>(by simp[gI,Y1]at h),okLt:=hlt,okIn:=λb t h=>h,okOut:=λb t h=> .inl h,frame:=Frame'.refl w O,fresh:=λ_ _ _=>rfl,strict:=λ_ _=>rfl,gl:=hgl,kept:=λn _=>by subst hact;rfl };have T0:Tk X (gI []) nom ok w (O++[]):=⟨by simpa using hnd,λb hb=>by simp only[G7]at hb;obtain⟨h1,h2⟩:=hO b hb;exact⟨h1,h2,.inr hb,λn e=>by simp[gI,Y1]at e⟩⟩
 have key:=vP (Lu (T:=[]) ps (Q:=λ_ S' =>∃m' vs,Rel X 0 CB S' m' ok act w/\jb ⟨w.heap,ok,m'⟩ vs vals) R0 (E8 0) T0 hrel
  (K:=λvs n=>bif Nat.ble n CB then QI (List.range vs.length) vs (a6k ps 0 (.ret ()))else .fail) λS1 m1 vs n1 ch1 R1 c1 T1 k1 s1 l1 e1=>dJ λhb=>by
   have hn1:=Y9 hb;have hvs:=UC l1;have hr:vals=(List.range vs.length).map λn=>act.tmps.getD n Go.undef:=by
    apply nP
    .simp[hvs]
    .intro i h1 h2;simp only[List.getElem_map,List.getElem_range];rw[hslots i h1,zM,fO h1];rfl
   have hall:∀k p,vals[k]? =some p->act.tmps.getD k Go.undef=p:=λk p hk=>by rw[hslots k (aO.1 hk).1,zM,hk];rfl
   refine MQ _ (R1.chmono (ch' :=CB) o5) (by rw[←hr];exact l1) λS' R' =>?_;refine a9W hall ps 0 R' (λi v hi=>by rw[iq];exact hall i v hi) hvl.symm hdv λS2 R2=>⟨m1,vs,R2,l1⟩) he
 obtain⟨mE,vs,RE,hvs⟩:=key;have Rq:Rel X (CB*1) (CB*1) (gI s) mE ok act w:=(RE.climb (gX _)).chmono (by rw[bY];exact E8 _);let RetP:rt.den->Act->World->Prop:=λr a' w' =>(∀d∈a'.defers,a2Z P d)/\∃v,(results fn a'.tmps).run P w' = .ok v w' /\
  ∃v' ok' O' rs os B,(Ending.returned v)= .returned v' /\Frame' w w' O/\(∀b t,ok b t->ok' b t)/\(∀b t,ok' b t->b<w'.heap.size/\(ok b t\/w.heap.size<=b\/b∈O))/\
   (O' ++B).Nodup/\(∀b∈O' ++B,(∀t,¬ok' b t)/\b<w'.heap.size/\(w.heap.size<=b\/b∈O))/\
   a5K (rt.rs.map (·.2)).length v' rs/\zx w'.heap ps vals os B/\vU w'.heap ok' (rt.rs.map (·.2)++rt.outs.map (·.2)) r (rs++os) O'
 have hret:b1v X rt mE RetP:=by
  intro s R K r h;obtain⟨x,s',tr,he,hk⟩:=ru h;refine⟨x,hk,λ{cl ch m ok1 a1 w1} R1 km=>?_⟩;refine vP (Q:=λx _=>RetP x a1 w1) ?_ he;unfold b7G;refine PG H R1 _ λvs1 rvs hv1 hl1 hrun=>Jh (T:=[]) _ R1 Tk.nil λS2 ws os B R2 T2 hout hws=>?_;refine Bf _ R2 T2 λS2 m2 R2 T2 km2=>?_;refine a3H _ R2 T2 (a9n km2 (MH hv1 hws)) λS3 ok3 y O3 R3 T3 k3 s3 hy=>?_;simp only[J9]at T3;have hp:(B++O3).Perm (O3++B):=jQ;rw[←hres]at hrun;obtain⟨v,hv,hrv⟩:=a4Y hrun;refine⟨R3.nodef,v,hv,v,ok3,O3,rvs,os,B,rfl,R3.frame,R3.okIn,λb t hb=>⟨R3.okLt b t hb,R3.okOut b t hb⟩,hp.nodup_iff.1 T3.nodup,λb hb=>?_,?_,b0F ps 0 hnosb (a0j hrel) (λi v hi hv=>?_) (by rw[hsame]at hout;exact hout),hy⟩
  .obtain⟨f1,f2,f3,_⟩:=T3.free b (hp.mem_iff.2 hb);exact⟨f1,f2,f3⟩
  .refine⟨by rw[hl1];simp,hrv.2⟩
  .have h1:=R1.kept (0+i) (hsub _ (by rw[hsame];exact hi));have hlt:=(WN hi).2;rw[h1];have h2:=hslots (0+i) (by rw[hvl];omega);rw[←hact]at h2;refine h2.trans ?_;rw[zM,iq,hv];rfl
 have hwp:=(DI H hret c).run hk Rq (λ_ _ h=>h);refine wp_mono hwp ?_;rintro e a' w' ⟨fl,s',wr',hk2,hfl⟩;cases fl with
 |ex id=>cases hk2|rt y=>cases hk2;obtain⟨rfl,h1,v,h2,h3⟩:=hfl;exact OO ⟨v,h2,h3⟩ _ h1
 |nm=>obtain⟨rfl,m',ok',R',k1,_,_⟩:=hfl;obtain⟨y,hy,hp⟩:=hret (K:=some) hk2;cases hy;obtain⟨h1,v,h2,h3⟩:=hp R' k1;exact OO ⟨v,h2,h3⟩ _ h1
def zV:V->Value->Bool
 | .undef,v=>v.oneCell'| .b x,.bool y=>x==y| .i k n,.int k' n' =>decide (k=k')&&decide (n=n')| .s l,.string s=>decide (l=s.data.toList)| .nl,.slice none 0 0=>true| .sl t xs,.map none=>t.isEnt&&xs.isEmpty| .npt,.pointer none=>true|_,_=>false
def zL:List V->d4J->Bool
 |[],[]=>true|c::cs,v::vs=>zV c v&&zL cs vs|_,_=>false
theorem b8s{C:Cx}{c:V}{v:Value}(h:zV c v=true):xR C c v/\v.oneCell' =true:=by
 unfold zV at h;split at h
 .exact⟨trivial,h⟩
 .simp at h;subst h;exact⟨rfl,rfl⟩
 .simp at h;obtain⟨rfl,rfl⟩:=h;exact⟨rfl,rfl⟩
 .rename_i l s;have:=of_decide_eq_true h;subst this;exact⟨rfl,rfl⟩
 .exact⟨rfl,rfl⟩
 .rename_i t xs;simp only[D5,List.isEmpty_iff]at h;obtain⟨h1,rfl⟩:=h;exact⟨(b4g h1).2 ⟨none,rfl,λ_=>rfl,λ_ h=>nomatch h⟩,rfl⟩
 .exact⟨rfl,rfl⟩
 .cases h
theorem a9A{C:Cx} :∀{cs:List V} {vs:d4J},zL cs vs=true->iJ C cs vs
 |[],[],_=>rfl|[],_::_,h=>by simp[zL]at h|_::_,[],h=>by simp[zL]at h|c::cs,v::vs,h=>by unfold zL at h;simp only[D5]at h;obtain⟨h1,h2⟩:=b8s (C:=C) h.1;exact⟨v,vs,rfl,h1,h2,a9A h.2⟩
def UD:(t:Ty)->d4J->Option d4J
 | .bool,.bool b::r=>bif b then none else some r| .int k,.int k' n::r=>bif decide (k=k')&&decide (n=0)then some r else none| .str,.string s::r=>bif decide (s.data.toList=[])then some r else none| .sl t,.slice none 0 0::r=>bif t.isEnt then none else some r| .sl t,.map none::r=>bif t.isEnt then some r else none
 | .prod a b,vs=>match UD a vs with|some r=>UD b r|none=>none
 | .unit,vs=>some vs|_,_=>none
theorem VN:∀{t:Ty} {vs r:d4J},UD t vs=some r->∃cs,vs=cs++r/\rep #[] (λ_ _=>False) t t.zero cs
 | .bool,vs,r,h=>by
  cases vs with
  |nil=>cases h|cons v vs=>
   cases v<;>try (cases h;done)
   case bool b=>
    cases b
    .simp only[UD,cond_false,H7]at h;subst h;exact⟨[.bool false],rfl,rfl⟩
    .simp[UD]at h
 | .int k,vs,r,h=>by
  cases vs with
  |nil=>cases h|cons v vs=>
   cases v<;>try (cases h;done)
   case int k' n=>
    unfold UD at h;cases hc:(decide (k=k')&&decide (n=0))
    .simp[hc]at h
    .simp only[hc,cond_true,H7]at h;simp only[D5,decide_eq_true_eq]at hc;obtain⟨rfl,rfl⟩:=hc;subst h;exact⟨[.int k 0],rfl,rfl⟩
 | .str,vs,r,h=>by
  cases vs with
  |nil=>cases h|cons v vs=>
   cases v<;>try (cases h;done)
   case string s=>
    unfold UD at h;cases hc:decide (s.data.toList=[])
    .simp only[hc,cond_false]at h;cases h
    .simp only[hc,cond_true,H7]at h;subst h;have he:=of_decide_eq_true hc;refine⟨[.string s],rfl,?_⟩;show[Value.string s]=[Value.string ⟨(Ty.zero .str).toArray⟩];congr 2;obtain⟨⟨l⟩⟩:=s;simp only at he;subst he;rfl
 | .sl t,vs,r,h=>by
  cases vs with
  |nil=>cases h|cons v vs=>
   cases v<;>try (cases h;done)
   case slice a n c=>
    cases a<;>try (cases h;done)
    cases n<;>try (cases h;done)
    cases c<;>try (cases h;done)
    cases ht:t.isEnt<;>simp only[UD,ht,cond_true,cond_false,H7]at h
    .subst h;exact⟨[.slice none 0 0],rfl,.inl ⟨ht,none,0,rfl,E8 _,λi x hi=>by simp[Ty.zero]at hi⟩⟩
    .cases h
   case map mv=>
    cases mv<;>try (cases h;done)
    cases ht:t.isEnt<;>simp only[UD,ht,cond_true,cond_false,H7]at h
    .cases h
    .subst h;exact⟨[.map none],rfl,.inr ⟨ht,none,rfl,λ_=>rfl,λ_ h=>nomatch h⟩⟩
 | .ent ..,vs,r,h=>by
  cases vs with
  |nil=>cases h|cons v vs=>cases v<;>cases h
 | .unit,vs,r,h=>by
  have:vs=r:=by cases vs<;>(simp only[UD,H7]at h;exact h)
  subst this;exact⟨[],rfl,rfl⟩
 | .prod a b,vs,r,h=>by
  have h' :(match UD a vs with|some r=>UD b r|none=>none)=some r:=by cases vs<;>exact h
  cases ha:UD a vs with
  |none=>simp[ha]at h'|some r1=>simp only[ha]at h';obtain⟨c,rfl,h1⟩:=VN ha;obtain⟨d,rfl,h2⟩:=VN h';exact⟨c++d,A7,c,d,rfl,h1,h2⟩
def a9X:List (Nat×Nat)->List Field->Bool
 |[],[]=>true|(t,o)::r,f::fs=>Nat.beq f.type t&&Nat.beq f.offset o&&a9X r fs|_,_=>false
theorem a0w:∀{a:List (Nat×Nat)} {b:List Field},a9X a b=true->b.map (λf=>(f.type,f.offset))=a
 |[],[],_=>rfl|[],_::_,h=>by simp[a9X]at h|_::_,[],h=>by simp[a9X]at h|(t,o)::r,f::fs,h=>by unfold a9X at h;simp only[D5]at h;have h1:=iI h.1.1;have h2:=iI h.1.2;simp[a0w h.2,←h1,←h2]
def b6v(P:Program)(t:TypeId)(td:TD):Bool:=
 match P.underlying t with
 |none=>false
 |some d=>match td,d with
  | .bool,.bool=>true| .int k,.int k' =>decide (k=k')| .str,.string=>true| .sl e,.slice e' =>Nat.beq e e'| .ptr e,.pointer e' =>Nat.beq e e'| .struct fs,.struct fields=>a9X fs fields.toList| .arr n e,.array n' e' =>Nat.beq n n' &&Nat.beq e e'| .map k e,.map k' e' =>Nat.beq k k' &&Nat.beq e e'| .other,.struct _=>false| .other,.array _ _=>false| .other,_=>true|_,_=>false
theorem a7Y{t:TypeId}{td:TD}(h:b6v P t td=true):b6w P t td:=by
 unfold b6v at h;split at h
 .cases h
 .rename_i d hd;split at h<;>try (cases h;done)
  .exact hd
  .have:=of_decide_eq_true h;subst this;exact hd
  .exact hd
  .have:=iI h;subst this;exact hd
  .have:=iI h;subst this;exact hd
  .rename_i fs fields;exact⟨fields,hd,a0w h⟩
  .simp only[D5]at h;have h1:=iI h.1;have h2:=iI h.2;subst h1;subst h2;exact hd
  .simp only[D5]at h;have h1:=iI h.1;have h2:=iI h.2;subst h1;subst h2;exact hd
  .rename_i h1 h2;refine⟨d,hd,?_⟩;cases d<;>first|trivial|exact absurd rfl (h1 _)|exact absurd rfl (h2 _ _)
def a9B(inf:TypeInfo)(i:TI):Bool:=
 bif Nat.beq i.zero.length i.size then(match inf.zero with|some z=>zL i.zero z.cells.toList|none=>false)else true
def b9a(inf:TypeInfo)(i:TI):Bool:=
 match i.ty with
 |none=>true|some u=>Nat.beq u.size i.size&&(match inf.zero with|some z=>(match UD u z.cells.toList with|some []=>true|_=>false)|none=>false)
def b8x(inf:TypeInfo)(i:TI):Bool:=
 match inf.zero with
 |none=>true|some z=>bif kw i.td then(match z with| .agg _=>true|_=>false)else z.oneCell'
def b6z(P:Program)(t:TypeId)(i:TI):Bool:=
 match P.info? t with
 |none=>false|some inf=>Nat.beq inf.size i.size&&Nat.beq inf.bytes i.bytes&&a9B inf i&&b9a inf i&&b6v P t i.td&&(kw i.td || Nat.beq i.size 1)&&b8x inf i
theorem a7Z{t:TypeId}{i:TI}(h:b6z P t i=true):TiOk P t i:=by
 unfold b6z at h;split at h
 .cases h
 .rename_i inf hi;simp only[D5,pM]at h;obtain⟨⟨⟨⟨⟨⟨h1,h2⟩,h3⟩,h4⟩,h5⟩,h6⟩,h8⟩:=h;refine⟨⟨inf,hi,iI h1,iI h2,λhl=>?_,λu hu=>?_⟩,a7Y h5,λha=>?_,λinf' z hinf hz=>?_⟩
  .unfold a9B at h3;rw[hl,show Nat.beq i.size i.size=true from Nat.beq_refl _]at h3;simp only[cond_true]at h3;split at h3
   .rename_i z hz;exact⟨z,hz,a9A h3⟩
   .cases h3
  .unfold b9a at h4;simp only[hu,D5]at h4;refine⟨iI h4.1,?_⟩;have h7:=h4.2;split at h7
   .rename_i z hz;split at h7
    .rename_i hr;obtain⟨cs,e,hrep⟩:=VN hr;rw[G7]at e;exact⟨z,hz,by rw[e];exact hrep⟩
    .cases h7
   .cases h7
  .rcases h6 with h6|h6
   .rw[ha]at h6;cases h6
   .exact iI h6
  .rw[hi]at hinf;cases hinf;unfold b8x at h8;rw[hz]at h8;refine⟨λha=>?_,λha=>?_⟩<;>simp only[ha,cond_true,cond_false]at h8
   .split at h8
    .exact⟨_,rfl⟩
    .cases h8
   .exact h8
def a5D(P:Program):List (Nat×TI)->Bool
 |[]=>true|(t,i)::r=>b6z P t i&&a5D P r
theorem x_{P:Program} :∀{tt:List (Nat×TI)},a5D P tt=true->∀t i,fP tt t=some i->TiOk P t i
 |[],_,t,i,h=>by simp[fP]at h|(k,v)::r,hc,t,i,h=>by
  unfold a5D at hc;simp only[D5]at hc;unfold fP at h;cases hb:Nat.beq k t
  .simp only[hb,cond_false]at h;exact x_ hc.2 t i h
  .simp only[hb,cond_true,H7]at h;have:=iI hb;subst this;subst h;exact a7Z hc.1
def a0E(P:Program):List (Nat×FSpec)->Bool
 |[]=>true|(f,_)::r=>(match P.funcs[f]? with|some fn=>fn.body.isSome&&!(fn.name== "runtime.NumGoroutine")|none=>false)&&a0E P r
theorem YR{P:Program} :∀{l:List (Nat×FSpec)},a0E P l=true->∀p∈l,∃fn,P.funcs[p.1]? =some fn/\fn.body.isSome=true/\(fn.name== "runtime.NumGoroutine")=false
 |[],_,p,h=>by cases h|(k,v)::r,hc,p,h=>by
  unfold a0E at hc;simp only[D5]at hc;rcases D6.1 h with rfl|h
  .have h1:=hc.1;split at h1
   .rename_i fn hf;simp only[D5,dW]at h1;exact⟨fn,hf,h1.1,h1.2⟩
   .cases h1
  .exact YR hc.2 p h
end Go.GP
namespace Go.GP
def b1m(P:Program)(gl:List (Nat×(t:Ty)×List t.den)):List (Nat×FSpec)->Prop
 |[]=>True|(f,s)::r=>dH P gl f s/\b1m P gl r
theorem a0h{P:Program}{gl:List (Nat×(t:Ty)×List t.den)} :∀{l:List (Nat×FSpec)},b1m P gl l->∀p∈l,dH P gl p.1 p.2
 |[],_,p,h=>by cases h|(k,v)::r,hc,p,h=>by
  rcases D6.1 h with rfl|h
  .exact hc.1
  .exact a0h hc.2 p h
def a2W(P:Program):List ((Nat×String)×Nat×Option Nat)->Prop
 |[]=>True|(k,r)::l=>GV P k.1 k.2 r.1 r.2/\a2W P l
theorem XO{P:Program} :∀{l:List ((Nat×String)×Nat×Option Nat)},a2W P l->∀p∈l,GV P p.1.1 p.1.2 p.2.1 p.2.2
 |[],_,p,h=>by cases h|(k,v)::r,hc,p,h=>by
  rcases D6.1 h with rfl|h
  .exact hc.1
  .exact XO hc.2 p h
def a2X(P:Program):List (Nat×Nat×Nat)->Prop
 |[]=>True|(f,off,sz)::l=>PlP P f off sz/\a2X P l
theorem XP{P:Program} :∀{l:List (Nat×Nat×Nat)},a2X P l->∀p∈l,PlP P p.1 p.2.1 p.2.2
 |[],_,p,h=>by cases h|(f,off,sz)::l,hc,p,h=>by
  rcases D6.1 h with rfl|h
  .exact hc.1
  .exact XP hc.2 p h
theorem OA{P:Program}{E:Env}(hnt:Nat.ble (64*E.nt) 999936=true)(htt:a5D P E.tt=true)(heq:∀t sh,fP E.eqs t=some sh->PZ P t sh)(hfn:a0E P E.fs=true)(hms:a2W P E.ms)(hfs:b1m P E.gl E.fs)(hpl:a2X P E.pl):EnvOk P E:=
 ⟨Y9 hnt,x_ htt,a0h hfs,heq,XO hms,YR hfn,XP hpl⟩
end Go.GP
namespace Go.GP
def LC(rec:TypeId->List Ty->Bool)(cells:TypeId->Nat):Nat->List Field->List Ty->Bool
 |_,[],sh=>sh.isEmpty|off,f::r,sh=>(f.name != "_")&&Nat.beq f.offset off&&Nat.ble (cells f.type) sh.length&&rec f.type (sh.take (cells f.type))&&LC rec cells (off+cells f.type) r (sh.drop (cells f.type))
def Ad(P:Program):Nat->TypeId->List Ty->Bool
 |0,_,_=>false
 |n+1,t,sh=>match P.underlying t with
  |some .bool=>(match sh with|[.bool]=>true|_=>false)|some (.int k)=>(match sh with|[.int k']=>decide (k=k')|_=>false)|some .string=>(match sh with|[.str]=>true|_=>false)|some (.struct fs)=> !P.stoodInHeld t&&(P.info? t).isSome&&Nat.beq (P.cellsOf t) sh.length&&LC (Ad P n) P.cellsOf 0 fs.toList sh|_=>false
theorem lY.length:∀{sh:List Ty} {vs:d4J},lY sh vs->vs.length=sh.length
 |[],_,h=>by simp only[lY]at h;subst h;rfl| .bool::ts,_,⟨_,_,rfl,h⟩=>by simp[lY.length h]| .int _::ts,_,⟨_,_,rfl,h⟩=>by simp[lY.length h]| .str::ts,_,⟨_,_,rfl,h⟩=>by simp[lY.length h]| .sl _::_,_,h=>h.elim| .prod _ _::_,_,h=>h.elim| .unit::_,_,h=>h.elim
theorem lY.take_drop:∀{sh:List Ty} {vs:d4J} (n:Nat),lY sh vs->lY (sh.take n) (vs.take n)/\lY (sh.drop n) (vs.drop n)
 |sh,vs,0,h=>⟨by simp[lY],h⟩|[],_,n+1,h=>by simp only[lY]at h;subst h;exact⟨rfl,rfl⟩| .bool::ts,_,n+1,⟨b,r,rfl,h⟩=>by have:=lY.take_drop n h;exact⟨⟨b,_,rfl,this.1⟩,this.2⟩| .int _::ts,_,n+1,⟨b,r,rfl,h⟩=>by have:=lY.take_drop n h;exact⟨⟨b,_,rfl,this.1⟩,this.2⟩| .str::ts,_,n+1,⟨b,r,rfl,h⟩=>by have:=lY.take_drop n h;exact⟨⟨b,_,rfl,this.1⟩,this.2⟩| .sl _::_,_,_+1,h=>h.elim| .prod _ _::_,_,_+1,h=>h.elim| .unit::_,_,_+1,h=>h.elim
theorem KW{C:Cx} :∀{sh:List Ty} {cs:List V} {vs:d4J},Di sh cs=true->iJ C cs vs->lY sh vs
 |[],[],vs,_,h=>h|[],_::_,_,h,_=>by simp[Di]at h|t::ts,[],_,h,_=>by cases t<;>simp[Di]at h|t::ts,c::cs,_,h,⟨v,r,rfl,h1,_,h3⟩=>by
  cases t<;>cases c<;>simp only[Di,D5,decide_eq_true_eq]at h<;>try (cases h;done)
  case bool.b x=>have h1:v= .bool x:=h1;subst h1;exact⟨_,_,rfl,KW h h3⟩
  case int.i k k' n=>have h1:v= .int k' n:=h1;obtain⟨rfl,h⟩:=h;subst h1;exact⟨_,_,rfl,KW h h3⟩
  case str.s l=>have h1:v= .string ⟨l.toArray⟩:=h1;subst h1;exact⟨_,_,rfl,KW h h3⟩
theorem a1H{a b:V}{r q:List V}{e:Bool}(h:BX (a::r) (b::q)=some e):∃e1 e2,eq1 a b=some e1/\BX r q=some e2/\e=(e1&&e2):=by
 unfold BX at h;split at h
 .cases h
 .rename_i e1 h1;split at h
  .cases h;exact⟨_,true,h1,rfl,A7⟩
  .split at h
   .rename_i e2 h2;cases h;exact⟨_,_,h1,h2,rfl⟩
   .cases h
theorem TG{C:Cx} :∀{cs ds:List V} {xs ys:d4J} {e:Bool},iJ C cs xs->iJ C ds ys->BX cs ds=some e->(e=true↔xs=ys)
 |[],[],xs,ys,e,h1,h2,h=>by
  simp only[iJ]at h1 h2;subst h1;subst h2;have:e=true:=by simpa[BX]using h.symm
  simp[this]
 |[],_::_,_,_,_,_,_,h=>by simp[BX]at h|_::_,[],_,_,_,_,_,h=>by simp[BX]at h|a::r,b::q,xs,ys,e,hx,hy,h=>by
  obtain⟨v,vs,rfl,hv,_,hvs⟩:=hx;obtain⟨u,us,rfl,hu,_,hus⟩:=hy;obtain⟨e1,e2,k1,k2,rfl⟩:=a1H h;have ih:=TG hvs hus k2;have hd:e1=true↔v=u:=by
   cases a<;>cases b<;>simp only[eq1]at k1<;>try (cases k1;done)
   case b.b x y=>have hv:v= .bool x:=hv;have hu:u= .bool y:=hu;subst hv;subst hu;cases k1;simp[jY]
   case i.i j x k y=>
    have hv:v= .int j x:=hv;have hu:u= .int k y:=hu;subst hv;subst hu;by_cases hk:j=k
    .subst hk;simp only[decide_true,cond_true,H7]at k1;subst k1;simp[o9]
    .simp[hk]at k1
   case s.s x y=>have hv:v= .string ⟨x.toArray⟩:=hv;have hu:u= .string ⟨y.toArray⟩:=hu;subst hv;subst hu;cases k1;simp[seq]
  simp only[D5,H6,hd,ih]
def VOf(P:Program)(t:TypeId)(xs:d4J)(v:Value):Prop:=match P.underlying t with
 |some (.struct _)=>v= .agg xs.toArray|_=>xs=[v]
variable {P:Program}{t:TypeId}
theorem a6a{i:TypeInfo}(h:P.info? t=some i):P.cellsOf t=i.size:=by simp[Program.cellsOf,h]
variable {n:Nat}{sh:List Ty}
theorem ZE(hc:Ad P n t sh=true)(hcs:P.cellsOf t=sh.length){cs:Array Value}{off:Nat}(hl:off+sh.length<=cs.size)(w:World):
  ∃v,(part t cs off).run P w= .ok v w/\VOf P t ((cs.toList.drop off).take sh.length) v:=by
 cases n with
 |zero=>cases hc|succ n=>
  unfold Ad at hc;split at hc
  all_goals try (cases hc;done)
  .rename_i ht;split at hc<;>try (cases hc;done)
   simp only[H8,fQ]at hl ⊢;refine⟨cs[off]'o5,?_,?_⟩
   .have h1:=GN (P:=P) (t:=t) (d:=.bool) ht w;simp only[part,I4,h1,J5,kw,gJ,if_false,V8 (show off<cs.size by omega),au]
   .simp only[VOf,ht];apply nP
    .simp;omega
    .intro i h1 h2;simp at h1 h2;simp[show i=0 by omega]
  .rename_i k ht;split at hc<;>try (cases hc;done)
   simp only[H8,fQ]at hl ⊢;refine⟨cs[off]'o5,?_,?_⟩
   .have h1:=GN (P:=P) (t:=t) (d:=.int k) ht w;simp only[part,I4,h1,J5,kw,gJ,if_false,V8 (show off<cs.size by omega),au]
   .simp only[VOf,ht];apply nP
    .simp;omega
    .intro i h1 h2;simp at h1 h2;simp[show i=0 by omega]
  .rename_i ht;split at hc<;>try (cases hc;done)
   simp only[H8,fQ]at hl ⊢;refine⟨cs[off]'o5,?_,?_⟩
   .have h1:=GN (P:=P) (t:=t) (d:=.str) ht w;simp only[part,I4,h1,J5,kw,gJ,if_false,V8 (show off<cs.size by omega),au]
   .simp only[VOf,ht];apply nP
    .simp;omega
    .intro i h1 h2;simp at h1 h2;simp[show i=0 by omega]
  .rename_i fs ht;simp only[D5]at hc;obtain⟨⟨⟨_,h2⟩,_⟩,_⟩:=hc;obtain⟨inf,hinf⟩:=pR.1 h2;have hsz:=a6a hinf;refine⟨.agg (cs.extract off (off+inf.size)),?_,?_⟩
   .have h1:=GN (P:=P) (t:=t) (d:=.struct (fs.toList.map λf=>(f.type,f.offset))) ⟨fs,ht,rfl⟩ w;have h3:(sizeOf t).run P w= .ok inf.size w:=by
     simp[sizeOf,typeInfo,hinf]
    simp only[part,I4,h1,J5,kw,if_true,h3,au]
   .simp only[VOf,ht];congr 1;apply lu;rw[←hsz,hcs];simp[oh,Array.toList_extract]
theorem Vp{P:Program} :∀(n:Nat) (t:TypeId) (sh:List Ty),Ad P n t sh=true->∀(d:Nat),n<=d->∀(xs ys:d4J) (v u:Value),lY sh xs->lY sh ys->VOf P t xs v->VOf P t ys u->∀w:World,
  ∃r,(Op.equalIn d t v u).run P w= .ok r w/\(r=true↔xs=ys)
 |0,_,_,h,_,_,_,_,_,_,_,_,_,_,_=>by cases h|n+1,t,sh,h,d,hd,xs,ys,v,u,hx,hy,hv,hu,w=>by
  obtain⟨d,rfl⟩:∃k,d=k+1:=⟨d -1,o5⟩;unfold Ad at h;split at h
  all_goals try (cases h;done)
  .rename_i ht;split at h<;>try (cases h;done)
   obtain⟨a,r1,rfl,h1⟩:=hx;obtain⟨b,r2,rfl,h2⟩:=hy;simp only[lY]at h1 h2;subst h1;subst h2;simp only[VOf,ht]at hv hu;obtain rfl:=(X4 hv).1;obtain rfl:=(X4 hu).1;exact⟨a==b,run_equalIn_bool w d t a b ht,A7⟩
  .rename_i k ht;split at h<;>try (cases h;done)
   have:=of_decide_eq_true h;subst this;obtain⟨a,r1,rfl,h1⟩:=hx;obtain⟨b,r2,rfl,h2⟩:=hy;simp only[lY]at h1 h2;subst h1;subst h2;simp only[VOf,ht]at hv hu;obtain rfl:=(X4 hv).1;obtain rfl:=(X4 hu).1;exact⟨a==b,run_equalIn_int w d t k k a b ht,A7⟩
  .rename_i ht;split at h<;>try (cases h;done)
   obtain⟨a,r1,rfl,h1⟩:=hx;obtain⟨b,r2,rfl,h2⟩:=hy;simp only[lY]at h1 h2;subst h1;subst h2;simp only[VOf,ht]at hv hu;obtain rfl:=(X4 hv).1;obtain rfl:=(X4 hu).1;refine⟨a.toList==b.toList,run_equalIn_string w d t a b ht,?_⟩;constructor
   .intro h;have h:=eq_of_beq h;rw[ByteArray.toList_eq,ByteArray.toList_eq]at h;obtain⟨⟨x⟩⟩:=a;obtain⟨⟨y⟩⟩:=b;simp only at h;rw[h]
   .intro h;injection h with h;injection h with h;rw[h];simp
  .rename_i fs ht;simp only[D5,dW]at h;obtain⟨⟨⟨h1,h2⟩,h3⟩,h4⟩:=h;have hlen:=iI h3;simp only[VOf,ht]at hv hu;subst hv;subst hu;have hfo:P.fieldsOf t=fs:=by simp[Program.fieldsOf,ht]
   rw[run_equalIn_struct w d t _ _ (by rw[hfo];exact ht) h1,hfo];have hxl:=hx.length;have hyl:=hy.length;have key:∀(l:List Field) (off:Nat) (s:List Ty),LC (Ad P n) P.cellsOf off l s=true->s=sh.drop off->off<=sh.length->∃r,(Op.eqFields d xs.toArray ys.toArray l).run P w= .ok r w/\(r=true↔xs.drop off=ys.drop off):=by
    intro l;induction l with
    |nil=>
     intro off s hs he ho;unfold LC at hs;have:s=[]:=by simpa using hs
     have hoff:off=sh.length:=by have:=congrArg List.length (he.symm.trans this);simp at this;omega
     refine⟨true,rfl,?_⟩;rw[iD o5,iD o5];simp
    |cons f r ih=>
     intro off s hs he ho;unfold LC at hs;simp only[D5]at hs;obtain⟨⟨⟨⟨g1,g2⟩,g3⟩,g4⟩,g5⟩:=hs;have g2:=iI g2;have g3:=Y9 g3;subst he;simp only[kX]at g3;have hsl:((sh.drop off).take (P.cellsOf f.type)).length=P.cellsOf f.type:=by simp;omega
     obtain⟨v1,e1,o1⟩:=ZE g4 hsl.symm (cs:=xs.toArray) (off:=off) (by rw[hsl];simp;omega) w;obtain⟨u1,e2,o2⟩:=ZE g4 hsl.symm (cs:=ys.toArray) (off:=off) (by rw[hsl];simp;omega) w;rw[hsl]at o1 o2;obtain⟨b1,e3,q1⟩:=Vp n f.type _ g4 d o5 _ _ v1 u1 (((hx.take_drop off).2).take_drop _).1 (((hy.take_drop off).2).take_drop _).1 o1 o2 w;obtain⟨b2,e4,q2⟩:=ih (off+P.cellsOf f.type) _ g5 (by rw[aN]) o5;have hne:f.name≠ "_":=by simpa using g1
     have split:(xs.drop off=ys.drop off)↔((xs.drop off).take (P.cellsOf f.type)=(ys.drop off).take (P.cellsOf f.type)/\xs.drop (off+P.cellsOf f.type)=ys.drop (off+P.cellsOf f.type)):=by
      constructor
      .intro h;rw[h];exact⟨rfl,by rw[←aN,←aN,h]⟩
      .rintro⟨p1,p2⟩;rw[←iT (P.cellsOf f.type) (xs.drop off),←iT (P.cellsOf f.type) (ys.drop off),p1,aN,aN,p2]
     simp only[Op.eqFields,if_pos hne,I4,g2,e1,e2,e3,J5];cases b1 with
     |false=>
      refine⟨false,A7,?_⟩;have:¬((xs.drop off).take (P.cellsOf f.type)=(ys.drop off).take (P.cellsOf f.type)):=λh=>by have:=q1.2 h;cases this
      simp only[gJ,false_iff];intro h;exact this (split.1 h).1
     |true=>refine⟨b2,by simpa using e4,?_⟩;rw[q2,split];exact⟨λh=>⟨q1.1 rfl,h⟩,λh=>h.2⟩
   have:=key fs.toList 0 sh h4 A7 o5;simpa using this
theorem a0v{P:Program}(em:Bool):∀(n:Nat) (t:TypeId) (sh:List Ty),Ad P n t sh=true->∀(d:Nat),n<=d->∀(xs:d4J) (v:Value),lY sh xs->VOf P t xs v->∀w:World,
  (Instr.checkKey em d t v).run P w= .ok () w
 |0,_,_,h,_,_,_,_,_,_,_=>by cases h|n+1,t,sh,h,d,hd,xs,v,hx,hv,w=>by
  obtain⟨d,rfl⟩:∃k,d=k+1:=⟨d -1,o5⟩;unfold Ad at h;split at h
  all_goals try (cases h;done)
  .rename_i ht;split at h<;>try (cases h;done)
   obtain⟨a,r1,rfl,h1⟩:=hx;simp only[lY]at h1;subst h1;simp only[VOf,ht]at hv;obtain rfl:=(X4 hv).1;simp[Instr.checkKey,run_underlying ht]
  .rename_i k ht;split at h<;>try (cases h;done)
   have:=of_decide_eq_true h;subst this;obtain⟨a,r1,rfl,h1⟩:=hx;simp only[lY]at h1;subst h1;simp only[VOf,ht]at hv;obtain rfl:=(X4 hv).1;simp[Instr.checkKey,run_underlying ht]
  .rename_i ht;split at h<;>try (cases h;done)
   obtain⟨a,r1,rfl,h1⟩:=hx;simp only[lY]at h1;subst h1;simp only[VOf,ht]at hv;obtain rfl:=(X4 hv).1;simp[Instr.checkKey,run_underlying ht]
  .rename_i fs ht;simp only[D5,dW]at h;obtain⟨⟨⟨h1,h2⟩,h3⟩,h4⟩:=h;have hlen:=iI h3;simp only[VOf,ht]at hv;subst hv;have hxl:=hx.length;have key:∀(l:List Field) (off:Nat) (s:List Ty),LC (Ad P n) P.cellsOf off l s=true->s=sh.drop off->off<=sh.length->
     (forIn l PUnit.unit (λ(f:Field) (_:PUnit)=>(do
      if f.name≠ "_" then Instr.checkKey em d f.type (←part f.type xs.toArray f.offset)
      pure (ForInStep.yield PUnit.unit):Sem (ForInStep PUnit)))).run P w= .ok PUnit.unit w:=by
    intro l;induction l with
    |nil=>intro off s hs he ho;rfl|cons f r ih=>
     intro off s hs he ho;unfold LC at hs;simp only[D5]at hs;obtain⟨⟨⟨⟨g1,g2⟩,g3⟩,g4⟩,g5⟩:=hs;have g2:=iI g2;have g3:=Y9 g3;subst he;simp only[kX]at g3;have hsl:((sh.drop off).take (P.cellsOf f.type)).length=P.cellsOf f.type:=by simp;omega
     obtain⟨v1,e1,o1⟩:=ZE g4 hsl.symm (cs:=xs.toArray) (off:=off) (by rw[hsl];simp;omega) w;rw[hsl]at o1;have e3:=a0v em n f.type _ g4 d o5 _ v1 (((hx.take_drop off).2).take_drop _).1 o1 w;have e4:=ih (off+P.cellsOf f.type) _ g5 (by rw[aN]) o5;have hne:f.name≠ "_":=by simpa using g1
     simp only[List.forIn_cons,I4,hne,ne_eq,not_false_eq_true,if_true,g2,e1,e3,J5,au];exact e4
   have:=key fs.toList 0 sh h4 A7 o5;simp only[Instr.checkKey,I4,run_underlying ht,J5];simp at this;simp[this]
theorem a3Y(hn:n<=10000)(h:Ad P n t sh=true)(hs:(match P.underlying t with|some (.struct _)=>true|_=>false)=true):a3a P t sh:=by
 have hv:∀zs:Array Value,VOf P t zs.toList (.agg zs):=λzs=>by
  unfold VOf;split
  .simp
  .rename_i hh;exfalso;split at hs
   .rename_i fs hf;exact hh fs hf
   .cases hs
 refine⟨?_,λw xs hx=>⟨λem=>a0v em n t sh h 10000 hn _ _ hx (hv xs) w,λys hy=>Vp n t sh h 10000 hn _ _ _ _ hx hy (hv xs) (hv ys) w⟩⟩;split at hs
 .rename_i fs hf;exact⟨fs,hf⟩
 .cases hs
theorem a6p(hn:n<=10000)(h:Ad P n t sh=true)(hs:(match P.underlying t with|some (.struct _)=>true|_=>false)=true)(hg:P.eqGuardType P.depth t=false):PZ P t sh:=by
 refine⟨?_,a3Y hn h hs⟩;intro w C cs ds xs ys e op x y s1 s2 h1 h2 he hop;have hv:∀zs:Array Value,VOf P t zs.toList (.agg zs):=λzs=>by
  unfold VOf;split
  .simp
  .rename_i hh;exfalso;split at hs
   .rename_i fs hf;exact hh fs hf
   .cases hs
 obtain⟨r,hr,hq⟩:=Vp n t sh h 10000 hn _ _ _ _ (KW s1 h1) (KW s2 h2) (hv xs) (hv ys) w;have hre:r=e:=by have:=TG h1 h2 he;cases r<;>cases e<;>simp_all
 subst hre;rcases hop with rfl|rfl
 .rw[I4,run_eqGuard_agg w .eql t x y xs ys hg];simp only[J5,run_eql_struct,hr,if_pos]
 .rw[I4,run_eqGuard_agg w .neq t x y xs ys hg];simp[run_neq_struct,hr]
def a6q(P:Program):List (Nat×List Ty)->Bool
 |[]=>true|(t,sh)::r=>Ad P 20 t sh&&(match P.underlying t with|some (.struct _)=>true|_=>false)&&!P.eqGuardType P.depth t&&a6q P r
theorem a3D{P:Program} :∀{l:List (Nat×List Ty)},a6q P l=true->∀t sh,fP l t=some sh->PZ P t sh
 |[],_,t,sh,h=>by simp[fP]at h|(k,v)::r,hc,t,sh,h=>by
  unfold a6q at hc;simp only[D5,dW]at hc;unfold fP at h;cases hb:Nat.beq k t
  .simp only[hb,cond_false]at h;exact a3D hc.2 t sh h
  .simp only[hb,cond_true,H7]at h;have:=iI hb;subst this;subst h;exact a6p o5 hc.1.1.1 hc.1.1.2 hc.1.2
end Go.GP
namespace Go.GP
open Go.ChangeShapes Go.WideShapes Go.RowKit
def wf:(t:Ty)->t.den->Prop
 | .bool,_=>True| .int k,n=>(Lit.int k n).wf=true| .str,l=>l.length<=reachBytes| .sl t,xs=>xs.length<=reachBytes/\∀x∈xs,wf t x| .prod a b,x=>wf a x.1/\wf b x.2| .unit,_=>True| .any _,_=>True| .ent _ _ a b,x=>wf a x.1/\wf b x.2
def GI(rec:TypeId->Ty->Bool)(cells:TypeId->Nat):Nat->List Field->Ty->Bool
 |off,fs,u=>match fs with
  |[]=>false
  |f::r=>match r with
   |[]=>Nat.beq f.offset off&&rec f.type u&&Nat.beq (cells f.type) u.size
   |g::r' =>match u with
    | .prod a b=>Nat.beq f.offset off&&rec f.type a&&Nat.beq (cells f.type) a.size&&GI rec cells (off+a.size) (g::r') b|_=>false
termination_by _ fs _=>fs.length
def a2T(P:Program):Nat->TypeId->Ty->Bool
 |0,_,_=>false
 |n+1,t,u=>match P.underlying t with
  |some .bool=>(match u with| .bool=>true|_=>false)|some (.int k)=>(match u with| .int k' =>decide (k=k')|_=>false)|some .string=>(match u with| .str=>true|_=>false)|some (.slice e)=>(match u with| .sl v=>a2T P n e v&&Nat.beq (P.cellsOf e) v.size&&Nat.blt 0 v.size&&Nat.blt 0 (P.bytesOf e)&&!v.isEnt|_=>false)|some (.struct fs)=>GI (a2T P n) P.cellsOf 0 fs.toList u&&Nat.beq (P.cellsOf t) u.size|_=>false
theorem TT{α:Type}{Q:Nat->α->Prop} :∀(n:Nat),(∀i,i<n->∃x,Q i x)->∃xs:List α,xs.length=n/\∀i x,xs[i]? =some x->Q i x
 |0,_=>⟨[],rfl,λi x h=>by simp at h⟩|n+1,h=>by
  obtain⟨xs,hl,hx⟩:=TT n λi hi=>h i o5;obtain⟨y,hy⟩:=h n o5;refine⟨xs++[y],by simp[hl],λi x hi=>?_⟩;by_cases hin:i<n
  .rw[N8 o5]at hi;exact hx i x hi
  .rw[H5 o5]at hi;have:i -xs.length=0:=by
    rcases Nat.lt_or_ge (i -xs.length) 1 with h1|h1
    .omega
    .rw[U5 (by simpa using h1)]at hi;cases hi
   rw[this]at hi;simp at hi;subst hi;have e:i=n:=o5;subst e;exact hy
variable {n:Nat}
theorem Yq{w:World}{a:Addr}{es:d4J}(hn:0<n)(h:w.cells? 0 a n=some es):
  a.spot=none/\a.block<w.heap.size/\fH w.heap a.block a.off n=some es:=by
 obtain⟨blk,off,spot⟩:=a;simp only[World.cells?,gX,if_true]at h;have hlen:es.length=n:=by simpa using Lib.mapM_length h
 have hat:∀i,i<n->∃b,es[i]? =some b/\w.cell? (Addr.add ⟨blk,off,spot⟩ i)=some b:=λi hi=>Lib.mapM_at h i i (by simp[hi]);obtain⟨b0,_,h0⟩:=hat 0 hn;simp only[Addr.add,if_true,World.cell?]at h0;cases hb:w.heap[blk]? with
 |none=>simp[hb]at h0|some o=>
  cases o<;>simp only[hb]at h0<;>try (cases h0;done)
  rename_i c T f;have hs:spot=none:=by
   cases spot with
   |none=>rfl|some _=>simp at h0
  subst hs;have hat' :∀i,i<n->es[i]? =c[off+i]?/\off+i<c.size:=λi hi=>by
   obtain⟨b,h1,h2⟩:=hat i hi;have h3:c[off+i]? =some b:=by
    by_cases hi0:i=0
    .subst hi0;simpa[Addr.add,World.cell?,hb]using h2
    .simpa[Addr.add,World.cell?,hb,hi0]using h2
   exact⟨h1.trans h3.symm,(J6.1 h3).1⟩
  refine⟨rfl,(J6.1 hb).1,?_⟩;have hle:off+n<=c.size:=by have:=(hat' (n -1) o5).2;omega
  rw[jM hb _ _ hle];congr 1;apply ai;intro i;by_cases hi:i<n
  .rw[(hat' i hi).1,eG hi,P9];simp
  .rw[U5 aH,U5 o5]
section
variable {H:Type} {enc:TypeId×Value->H} {P:Program} {w:World} {sp:Nat->Bool} {held:Bool} {ok:Nat->Ty->Prop}
theorem PU{e:TypeId} :∀{l:List (DataW H)} {d:DataW H},d∈l->∀b∈d.weights P e,b∈DataW.weightsAll P e l
 |x::l,d,h,b,hb=>by
  simp only[DataW.weightsAll,E9];rcases D6.1 h with rfl|h
  .exact .inl hb
  .exact .inr (PU h b hb)
theorem YN{n:Nat}(IH:∀t u,a2T P n t u=true->∀lH cs d ps,DataW.trod enc P w 0 sp held lH t cs=some (d,ps)->(∀b∈d.weights P t,b<=reachBytes)->∃x,rep w.heap ok u x cs/\wf u x){cs:d4J}{m:Nat} :
  ∀(fs:List Field) (off:Nat) (u:Ty),GI (a2T P n) P.cellsOf off fs u=true->∀(xs:List (DataW H×List MemPlace)),xs.length=fs.length->
   (∀(i:Nat) (f:Field),fs[i]? =some f->DataW.trod enc P w 0 sp held m f.type ((cs.drop f.offset).take (P.cellsOf f.type))=xs[i]?)->(∀b∈DataW.weightsEach P (fs.map (·.type)) (xs.map (·.1)),b<=reachBytes)->
   ∃x,rep w.heap ok u x ((cs.drop off).take u.size)/\wf u x
 |[],off,u,h,_,_,_,_=>by unfold GI at h;cases h|[f],off,u,h,xs,hl,hx,hw=>by
  unfold GI at h;simp only[D5]at h;have h1:=iI h.1.1;have h3:=iI h.2;match xs,hl with
  |[y],_=>have h4:=hx 0 f rfl;rw[h1,h3]at h4;refine IH _ _ h.1.2 _ _ y.1 y.2 (by simpa using h4) λb hb=>hw b ?_;simp[DataW.weightsEach,hb]
 |f::g::r,off,u,h,xs,hl,hx,hw=>by
  unfold GI at h;cases u<;>try (cases h;done)
  rename_i a b;simp only[D5]at h;obtain⟨⟨⟨h1,h2⟩,h3⟩,h4⟩:=h;have h1:=iI h1;have h3:=iI h3;match xs,hl with
  |y::ys,hl=>
   have h5:=hx 0 f rfl;rw[h1,h3]at h5;obtain⟨p,hp,wp⟩:=IH _ _ h2 _ _ y.1 y.2 (by simpa using h5) λc hc=>hw c (by simp[DataW.weightsEach,hc]);obtain⟨q,hq,wq⟩:=YN IH (g::r) (off+a.size) b h4 ys (by simpa using hl) (λi f' hf=>by have:=hx (i+1) f' (by simpa using hf);simpa using this) λc hc=>hw c (by simp only[bW,DataW.weightsEach,E9];simp only[bW]at hc;exact .inr hc)
   refine⟨(p,q),⟨_,_,?_,hp,hq⟩,wp,wq⟩;show(cs.drop off).take (a.size+b.size)=_;rw[List.take_add,aN]
theorem PE(hok:∀b t,b<w.heap.size->ok b t):∀(n:Nat) (t:TypeId) (u:Ty),a2T P n t u=true->∀(lH:Nat) (cs:d4J) (d:DataW H) (ps:List MemPlace),DataW.trod enc P w 0 sp held lH t cs=some (d,ps)->
  (∀b∈d.weights P t,b<=reachBytes)->∃x,rep w.heap ok u x cs/\wf u x
 |0,_,_,h,_,_,_,_,_,_=>by cases h|n+1,t,u,h,lH,cs,d,ps,hd,hw=>by
  unfold a2T at h;split at h
  .rename_i ht;cases u<;>try (cases h;done)
   obtain⟨b,rfl,hx⟩:=DataW.trod_bool ht hd;exact⟨b,rfl,trivial⟩
  .rename_i k ht;cases u<;>try (cases h;done)
   rename_i k';have:=of_decide_eq_true h;subst this;obtain⟨b,rfl,hx,hwf⟩:=DataW.trod_int ht hd;exact⟨b,rfl,hwf⟩
  .rename_i ht;cases u<;>try (cases h;done)
   obtain⟨s,rfl,hx,hs⟩:=DataW.trod_string ht hd;simp only[lI]at hx;obtain⟨rfl,rfl⟩:=hx;refine⟨s.data.toList,rfl,hw _ ?_⟩;simp[DataW.weights]
  .rename_i e ht;cases u<;>try (cases h;done)
   rename_i v;simp only[D5,dW]at h;obtain⟨⟨⟨⟨h1,h2⟩,h3⟩,h4⟩,hE0⟩:=h;have h2:=iI h2;rw[gq]at h3 h4;rcases DataW.trod_slice ht hd with⟨rfl,hx⟩|⟨a,len,cap,elems,rest,m,rfl,rfl,hx,hb,hl,hm,hlen,hel,_,_⟩
   .exact⟨[],.inl ⟨hE0,none,0,rfl,E8 _,λi x hi=>by simp at hi⟩,A7,λx hx=>by simp at hx⟩
   .simp only[lI]at hx;obtain⟨rfl,rfl⟩:=hx;have hW:DataW.weights P t (.slice (elems.map (·.1)) (rest.map (·.1)):DataW H)=((elems.map (·.1)).length+(rest.map (·.1)).length)*P.bytesOf e::(DataW.weightsAll P e (elems.map (·.1))++DataW.weightsAll P e (rest.map (·.1))):=by
     simp only[DataW.weights,ht]
    rw[hW]at hw;have hsz:=hw _ (jG ..);simp only[H9]at hsz;have hlr:len<=reachBytes:=by have h6:(elems.length+rest.length)*1<=(elems.length+rest.length)*P.bytesOf e:=Nat.mul_le_mul_left _ h4;omega
    have each:∀i,i<len->∃x,wf v x/\a.spot=none/\a.block<w.heap.size/\∃es,fH w.heap a.block (a.off+i*v.size) v.size=some es/\rep w.heap ok v x es:=by
     intro i hi;have h5:=hel i hi;rw[h2]at h5;rw[fO o5]at h5;obtain⟨es,hc,hd2⟩:=Option.bind_eq_some_iff.1 h5;obtain⟨x,hx,wx⟩:=PE hok n e v h1 m es _ _ hd2 λb hb=>hw b (by refine X9 _ (aF _ (PU (d:=(elems[i]'o5).1) (O9.2 ⟨_,O5 o5,rfl⟩) b hb)))
     obtain⟨s1,s2,s3⟩:=Yq h3 hc;by_cases hz:i*v.size=0
     .simp only[Addr.add,hz,if_true]at s1 s2 s3;exact⟨x,wx,s1,s2,es,by simpa[hz]using s3,hx⟩
     .simp only[Addr.add,hz,if_false]at s1 s2 s3;obtain⟨es0,hc0,_⟩:=Option.bind_eq_some_iff.1 (show((w.cells? 0 (a.add (0*P.cellsOf e)) (P.cellsOf e)).bind (DataW.trod enc P w 0 sp held m e))=some (elems[0]'o5) by rw[hel 0 o5,fO o5]);rw[h2]at hc0;have s0:=(Yq h3 hc0).1;simp only[Nat.zero_mul,Addr.add,if_true]at s0;exact⟨x,wx,s0,s2,es,s3,hx⟩
    obtain⟨xs,hxl,hxs⟩:=TT len each;refine⟨xs,.inl ⟨hE0,some a,cap,by simp[hxl],o5,λi x hi=>?_⟩,o5,λx hx=>?_⟩
    .obtain⟨_,s1,s2,es,s3,s4⟩:=hxs i x hi;refine⟨a.block,a.off,es,?_,hok _ _ s2,s3,s4⟩;obtain⟨b,o,s⟩:=a;simp only at s1;subst s1;rfl
    .obtain⟨i,hi,rfl⟩:=List.mem_iff_getElem.1 hx;exact(hxs i _ (fO hi)).1
  .rename_i fs ht;simp only[D5]at h;have h2:=iI h.2;obtain⟨xs,m,rfl,hx,hl,hlen,hf⟩:=DataW.trod_struct ht hd;simp only[lI]at hx;obtain⟨rfl,rfl⟩:=hx;have hW:DataW.weights P t (.agg (xs.map (·.1)):DataW H)=DataW.weightsEach P (fs.toList.map (·.type)) (xs.map (·.1)):=by simp only[DataW.weights,ht]
   rw[hW]at hw;have:=YN (cs:=cs) (m:=m) (λt u hu lH cs d ps hd hw=>PE hok n t u hu lH cs d ps hd hw) fs.toList 0 u h.1 xs (by simpa using hlen) (λi f hi=>hf i f (by simpa using hi)) hw;rwa[mY,Y6 o5]at this
  .cases h
end
def b1y(P:Program)(t:TypeId):Bool:=match P.underlying t with|some (.struct _)=>true|_=>false
variable {P:Program}
theorem b7z{W:World}{base n:Nat}{t:TypeId}{u:Ty}{v:Value}(h:a2T P n t u=true)(hv:Value.okWide P W .any base t v):a2r (b1y P t) v v.cells.toList:=by
 cases n with
 |zero=>cases h|succ n=>
  unfold a2T at h;unfold b1y;split at h
  .rename_i ht;simp only[Value.okWide,ht,Cell.okWide,Cell.ok]at hv ⊢;cases v<;>first|rfl|exact absurd hv A7
  .rename_i ht;simp only[Value.okWide,ht,Cell.okWide,Cell.ok]at hv ⊢;cases v<;>first|rfl|exact absurd hv A7
  .rename_i ht;simp only[Value.okWide,ht,Cell.okWide,Cell.ok]at hv ⊢;cases v<;>first|rfl|exact absurd hv A7
  .rename_i ht;simp only[Value.okWide,ht,Cell.okWide,Cell.ok]at hv ⊢;cases v<;>first|rfl|exact absurd hv A7
  .rename_i ht;simp only[Value.okWide,ht]at hv ⊢;obtain⟨cs,rfl,_,_⟩:=hv;exact⟨cs,rfl,rfl⟩
  .cases h
def qX(P:Program)(n:Nat):List TypeId->List MG->Bool
 |[],[]=>true|t::ts,(g,.dat u)::ms=>a2T P n t u&&(b1y P t==g)&&P.readableRec t&&Nat.blt t P.types.size&&qX P n ts ms|_,_=>false
def wfM:(m:M)->m.den->Prop
 | .dat t,x=>wf t x|_,_=>True
def a5I:(ms:List MG)->ay ms->Prop
 |[],_=>True|[m],x=>wfM m.2 x|m::m' ::r,x=>wfM m.2 x.1/\a5I (m' ::r) x.2
section
variable {H:Type} {enc:TypeId×Value->H} {P:Program} {W:World} {base n:Nat} {ok:Nat->Ty->Prop}
theorem a1g(hok:∀b t,b<W.heap.size->ok b t):∀{ts:List TypeId} {ms:List MG} {vs:d4J} {ds:List (DataW H)} {ps:List MemPlace},qX P n ts ms=true->DataW.TrodAll enc P W 0 (λ_=>true) true ts vs ds ps->
  (∀(j:Nat) t v,ts[j]? =some t->vs[j]? =some v->Value.okWide P W .any base t v)->(∀b∈DataW.weightsEach P ts ds,b<=reachBytes)->∃x,vU W.heap ok ms x vs []/\a5I ms x
 |[],[],vs,ds,ps,h,hd,hv,hw=>by obtain⟨rfl,rfl,rfl⟩:=trodAll_nil hd;exact⟨(),⟨rfl,rfl⟩,trivial⟩
 |[],_::_,_,_,_,h,_,_,_=>by simp[qX]at h|_::_,[],_,_,_,h,_,_,_=>by simp[qX]at h|t::ts,(g,m)::ms,vs,ds,ps,h,hd,hv,hw=>by
  cases m<;>simp only[qX,D5]at h<;>try (cases h;done)
  rename_i u;obtain⟨⟨⟨⟨h1,h2⟩,_⟩,_⟩,h3⟩:=h;have h2:=eq_of_beq h2;subst h2;obtain⟨v,vs',d,ds',p,q,rfl,rfl,rfl,⟨lH,h4⟩,h5⟩:=trodAll_cons hd;have hw' :∀b∈d.weights P t++DataW.weightsEach P ts ds',b<=reachBytes:=by simpa only[DataW.weightsEach]using hw
  obtain⟨x,hx,wx⟩:=PE (ok:=ok) hok n t u h1 _ _ _ _ h4 λb hb=>hw' b (aF _ hb);have hg:=b7z h1 (hv 0 t v rfl rfl);obtain⟨y,hy,wy⟩:=a1g hok h3 h5 (λj t v hj hk=>hv (j+1) t v (by simpa using hj) (by simpa using hk)) λb hb=>hw' b (iQ _ hb);cases ms with
  |nil=>
   cases ts with
   |cons _ _=>simp[qX]at h3|nil=>obtain⟨rfl,rfl,rfl⟩:=trodAll_nil h5;exact⟨x,⟨v,_,rfl,hg,hx,rfl⟩,wx⟩
  |cons m' ms=>exact⟨(x,y),⟨v,_,vs',[],[],rfl,rfl,hg,⟨hx,rfl⟩,hy⟩,wx,wy⟩
theorem RG(hl:laidOutB P=true){W' :World}(hb:Below W.heap.size W W'){sp:Nat->Bool} :∀{ts:List TypeId} {ms:List MG} {vs:d4J} {ds:List (DataW H)} {ps:List MemPlace},qX P n ts ms=true->
  DataW.TrodAll enc P W 0 (λ_=>true) true ts vs ds ps->(∀x∈ps,x.block<W.heap.size)->(∀x∈ps,sp x.block=true)->DataW.TrodAll enc P W' 0 sp true ts vs ds ps
 |[],ms,vs,ds,ps,h,hd,_,_=>by obtain⟨rfl,rfl,rfl⟩:=trodAll_nil hd;rfl
 |_::_,[],_,_,_,h,_,_,_=>by simp[qX]at h|t::ts,(g,m)::ms,vs,ds,ps,h,hd,hlt,hsp=>by
  cases m<;>simp only[qX,D5]at h<;>try (cases h;done)
  obtain⟨⟨⟨⟨h1,h2⟩,h6⟩,h7⟩,h3⟩:=h;rw[gq]at h7;obtain⟨v,vs',d,ds',p,q,rfl,rfl,rfl,h4,h5⟩:=trodAll_cons hd;exact⟨p,q,WideElems.Trod_stays hl h6 h7 h4 (λx hx=>hb.same (hlt x (aF _ hx))) (λx hx=>hsp x (aF _ hx)),
   RG hl hb h3 h5 (λx hx=>hlt x (iQ _ hx)) (λx hx=>hsp x (iQ _ hx)),rfl⟩
end
theorem a3Q{W:World}{name:String}{g:Nat}{k:IntKind}{zs:d4I}(hg:P.globalNamed name=some g)(hz:0<zs.length)(h:Lib.TabIs P W name k zs):
  NY ⟨W.heap,λb _=>b<W.heap.size,nom⟩ g (.int k) zs:=by
 have hc:∀i z,zs[i]? =some z->W.cell? ⟨g,i,none⟩=some (.int k z):=λi z hi=>by have:=World.var?_cell hg h i;rw[this];simp[hi]
 have key:∀i z,zs[i]? =some z->g<W.heap.size/\fH W.heap g i 1=some [.int k z]:=λi z hi=>by
  have h1:=hc i z hi;have h2:W.cells? 0 ⟨g,i,none⟩ 1=some [.int k z]:=by simp[World.cells?,eP,Addr.add,h1]
  obtain⟨_,s2,s3⟩:=Yq o5 h2;exact⟨s2,s3⟩
 refine⟨(key 0 zs[0] (fO hz)).1,?_,λi z hi=>⟨_,?_,rfl⟩⟩
 .unfold Lib.TabIs World.var? at h;simp only[hg,sU]at h;split at h
  .rename_i cs T f hb;simp only[H7]at h;subst h;exact⟨_,T,f,hb,by simp[Ty.size]⟩
  .cases h
 .have:=(key i z hi).2;simpa[Ty.size]using this
theorem a5x{w:World}{ok:Nat->Ty->Prop}{m:Mp}{name:String}{g:Nat}{k:IntKind}{zs:d4I}(hg:P.globalNamed name=some g)(h:NY ⟨w.heap,ok,m⟩ g (.int k) zs):Lib.TabIs P w name k zs:=by
 obtain⟨_,⟨c,T,f,hb,hl⟩,hz⟩:=h;unfold Lib.TabIs World.var?;simp only[hg,sU,hb,H7];simp only[Ty.size,bY]at hl;apply Array.ext
 .simp[hl]
 .intro i h1 h2;have hi:i<zs.length:=by simpa using h2
  obtain⟨es,he,hr⟩:=hz i zs[i] (fO hi);rw[jM hb _ _ (by simp[Ty.size];omega)]at he;simp only[Ty.size,bY,H7]at he;have h3:es=[.int k zs[i]]:=hr;rw[h3]at he;have h4:=congrArg (λl=>l[0]?) he;simp only[eG (show 0<1 by omega),P9,dL,ji]at h4;rw[aP,V8 h1]at h4;simpa using h4
theorem b7v{h:Array Obj}{all:d4J} :∀{ms:List MG} {ts:List TypeId} {vs:d4J},qX P n ts ms=true->a9F h all ms vs:=by
 intro ms;induction ms with
 |nil=>intro ts vs _;trivial|cons md ms ih=>
  intro ts vs hp;obtain⟨g,md⟩:=md;cases ts with
  |nil=>cases hp|cons t ts=>
   cases md<;>simp only[qX,D5]at hp<;>try (cases hp;done)
   cases vs with
   |nil=>trivial|cons v vs=>exact ih hp.2
theorem a1R{H:Type}{enc:TypeId×Value->H}{gl:List (Nat×(t:Ty)×List t.den)}{f:FuncId}{fn:Func}{s:ChangeSpec}{ms:List MG}{F:ay ms->d4L}{tb:TypeId}
  (hlaid:laidOutB P=true) (hF:dH P gl f ⟨ms,[(false,.dat .bool)],[],F⟩) (law:∀x,a5I ms x->F x=some true) (hpars:qX P 30 fn.params.toList ms=true) (hres:fn.resultTypes=#[tb]) (hbool:P.underlying tb=some .bool)
  (hvars:s.vars=[]) (hsfn:∀ds:List (DataW H),ds.length=ms.length->s.fn H ds= { results:=[.lit (.bool true)],args:=ds })
  {W:World} {base:Nat} {args:Array Value} {ds gs:List (DataW H)} {before:List MemPlace} {apart fresh handsOn again:Bool}
  (hgl:∀g u,fP gl g=some u->NY ⟨W.heap,λb _=>b<W.heap.size,nom⟩ g u.1 u.2)
  (hval:∀(j:Nat) t v,fn.params[j]? =some t->args[j]? =some v->Value.okWide P W .any base t v)
  (hW:DataW.Whole enc P fn.params.toList s.vars apart W args.toList ds gs before)
  (hz:(DataW.weightsEach P (fn.params.toList++s.plain.varTypes P) (ds++gs)).all (·<=reachBytes)=true):
  Calls P f args W λe W' =>∃v,e= .returned v/\s.post enc P fn apart fresh handsOn again W args v W' :=by
 have hW' :=hW;obtain⟨p,q,hA,hV,rfl,hfz,hnd⟩:=hW;rw[hvars]at hV;obtain⟨rfl,rfl⟩:=trodVars_none hV;have hlen:ds.length=ms.length:=by
  have:∀{ts:List TypeId} {ms:List MG} {vs:d4J} {ds:List (DataW H)} {ps:List MemPlace},qX P 30 ts ms=true->DataW.TrodAll enc P W 0 (λ_=>true) true ts vs ds ps->ds.length=ms.length:=by
   intro ts;induction ts with
   |nil=>
    intro ms vs ds ps h hd;obtain⟨rfl,rfl,rfl⟩:=trodAll_nil hd;cases ms with
    |nil=>rfl|cons _ _=>simp[qX]at h
   |cons t ts ih=>
    intro ms vs ds ps h hd;obtain⟨v,vs',d,ds',p,q,rfl,rfl,rfl,h4,h5⟩:=trodAll_cons hd;cases ms with
    |nil=>simp[qX]at h|cons m ms=>
     obtain⟨g,m⟩:=m;cases m<;>simp only[qX,D5]at h<;>try (cases h;done)
     simp[ih h.2 h5]
  exact this hpars hA
 have hvt:s.plain.varTypes P=[]:=by simp[ChangeSpec.plain,DataSpec.varTypes,hvars]
 rw[hvt]at hz;simp only[G7,nN,decide_eq_true_eq]at hz;obtain⟨x,hx,wx⟩:=a1g (ok:=λb _=>b<W.heap.size) (λb t hb=>hb) hpars hA (λj t v hj hv=>hval j t v (by simpa using hj) (by simpa using hv)) hz;have hc:=hF W (λb _=>b<W.heap.size) [] args.toList x true (λb t hb=>hb) fJ (λb hb=>by cases hb) hgl hx (b7v hpars) (law x wx);simp only[Array.toArray_toList]at hc;refine hc.mono λe W' ⟨v,ok',O',rs,os,B,he,hfr,_,_,_,_,hrv,hos,hrel⟩=>?_;subst he;have hnoos:os=[]:=by
  have:∀{ms:List MG} {vs:d4J} {ts:List TypeId},qX P 30 ts ms=true->zx W'.heap ms vs os B->os=[]:=by
   intro ms;induction ms with
   |nil=>
    intro vs ts h ho;cases vs with
    |nil=>exact ho.1|cons _ _=>exact absurd ho (by simp[zx])
   |cons m ms ih=>
    intro vs ts h ho;obtain⟨g,m⟩:=m;cases ts with
    |nil=>simp[qX]at h|cons t ts=>
     cases m<;>simp only[qX,D5]at h<;>try (cases h;done)
     cases vs with
     |nil=>exact absurd ho (by simp[zx])|cons v vs=>exact ih h.2 ho
  exact this hpars hos
 subst hnoos;obtain⟨v1,cs,hvs,hg,⟨hrep,_⟩⟩:=hrel;simp only[G7]at hvs;subst hvs;have hv1:v1= .bool true:=by have h1:cs=[v1]:=hg;have h2:cs=[.bool true]:=hrep;rw[h1]at h2;exact(X4 h2).1
 subst hv1;have hv:v= .bool true:=hrv.2;subst hv;have hbel:Below W.heap.size W W' :=⟨hfr.os,hfr.tape,hfr.output,hfr.size,λk hk=>hfr.block k hk A7⟩;simp only[G7]at hW' hfz;have hlt:∀x∈p,x.block<W.heap.size:=λx hx=>by simpa using hW'.lt x hx
 have hres1:∀(b:Nat) (sp:Nat->Bool) (hd:Bool),DataW.TrodAll enc P W' b sp hd fn.resultTypes.toList ((Value.bool true).resultList fn.resultTypes.size) (s.fn H (ds++[])).results []:=λb sp hd=>by rw[G7,hsfn ds hlen,hres];exact trodAll_cons_mk (shut_bool hbool _) trodAll_mk0
 have hargs1:∀sp:Nat->Bool,(∀x∈p,sp x.block=true)->DataW.TrodAll enc P W' 0 sp true fn.params.toList args.toList (s.fn H (ds++[])).args p:=λsp hs=>by rw[G7,hsfn ds hlen];exact RG hlaid hbel hpars hA hlt hs
 have hvars1:∀sp:Nat->Bool,DataW.TrodVars enc P W' sp s.vars (s.fn H (ds++[])).vars []:=λsp=>by rw[G7,hsfn ds hlen,hvars];rfl
 refine⟨_,rfl,ds,[],p,[],p,[],hW',hres1 _ _ _,hargs1 _ (λx hx=>by simpa using hlt x hx),hvars1 _,World.keptBut_mono (λx hx=>⟨hx,.inr (.inl hx)⟩) (hbel.frame (·∈p)),λ_=>⟨ok_one hres rfl (okWide_bool_mk hbool _),_,_,([]++p)++[],⟨[]++p,[],trodAll_append (hargs1 _ (λ_ _=>rfl)) (hres1 _ _ _),hvars1 _,rfl,?_,?_⟩,?_⟩⟩
 .intro b off hp;simp only[J9,G7]at hp;rw[hbel.frozen (hlt _ hp)];exact hfz b off hp
 .intro ha;obtain⟨_,_,_,_,_,_,hn⟩:=hW';simpa using hn ha
 .intro x hx _;simpa using hx
end Go.GP
namespace Go.GP
open Go.RowKit
theorem a5R(w:World)(k:Nat)(os:Array Obj):Below w.heap.size w (Sort.grow (w.drewN k) os):=
 ⟨rfl,rfl,rfl,by simp[Sort.grow,World.drewN],λi hi=>by show((w.drewN k).heap++os)[i]? =_;rw[jJ (by exact hi)];rfl⟩
theorem Hz{P:Program}{w w' :World}(hb:Below w.heap.size w w'){ok:Nat->Ty->Prop}(hlt:∀b t,ok b t->b<w.heap.size){ps:List MG}{vals:d4J}(hps:zx w'.heap ps vals [] []){t:Ty}{x:t.den}{v:Value}(hr:rep w'.heap ok t x [v]):
  ∃v' ok' O' rs os B,(Ending.returned v)= .returned v' /\Frame' w w' []/\(∀b t,ok b t->ok' b t)/\(∀b t,ok' b t->b<w'.heap.size/\(ok b t\/w.heap.size<=b\/b∈([]:d4K)))/\
   (O' ++B).Nodup/\(∀b∈O' ++B,(∀t,¬ok' b t)/\b<w'.heap.size/\(w.heap.size<=b\/b∈([]:d4K)))/\
   a5K 1 v' rs/\zx w'.heap ps vals os B/\vU w'.heap ok' ([(false,.dat t)]++[]) x (rs++os) O' :=
 ⟨v,ok,[],[v],[],[],rfl,⟨hb.os,hb.tape,hb.output,hb.size,λb h _=>hb.block b h⟩,λb t h=>h,λb t h=>⟨gK (hlt b t h) hb.size,.inl h⟩,A7,A7,⟨rfl,rfl⟩,hps,⟨v,[v],rfl,rfl,hr,rfl⟩⟩
def Tj(n:Int):Option d4H:=if -9223372036854775808<=n/\n<=9223372036854775807 then some (Lib.itoa n)else none
def DC(s:d4H)(c:Int):Option d4H:=if 0<=c/\c<=9223372036854775807/\s.length*c.toNat<=140737488355328 then some (Lib.repeatL s c.toNat)else none
variable {P:Program}
theorem a6D{f g:Nat}{gl:List (Nat×(t:Ty)×List t.den)}
  (hC:∀(n:Int) (h0:-9223372036854775808<=n) (h1:n<=9223372036854775807) (w:World) (htab:Lib.TabIs P w "internal/strconv.uint64pow10" .u64 Lib.pow10Tab),
   Calls P f #[.int .i64 n] w λe w' =>e= .returned (.string ⟨(Lib.itoa n).toArray⟩)/\∃k os,w' =Sort.grow (w.drewN k) os)
  (hg:P.globalNamed "internal/strconv.uint64pow10"=some g) (hgl:fP gl g=some ⟨.int .u64,Lib.pow10Tab⟩):
  dH P gl f ⟨[(false,.dat (.int .i64))],[(false,.dat .str)],[],λx=>Tj x⟩:=by
 intro w ok O vals x r hlt _ _ hgls hrel hdv hfn;obtain⟨v,cs,rfl,h1,h2,rfl⟩:=hrel;have h1:cs=[v]:=h1;subst h1;have h2:[v]=[.int .i64 x]:=h2;obtain rfl:=(X4 h2).1;simp only[Tj]at hfn;split at hfn
 .rename_i hx;cases hfn;refine(hC x hx.1 hx.2 w (a5x hg (hgls _ _ hgl))).mono λe w' ⟨he,k,os,hw⟩=>?_;subst he;subst hw;exact Hz (P:=P) (t:=.str) (x:=Lib.itoa x) (ps:=[(false,.dat (.int .i64))]) (vals:=[.int .i64 x]) (a5R w k os) hlt ⟨rfl,rfl⟩ rfl
 .cases hfn
theorem a2w{f:Nat}{gl:List (Nat×(t:Ty)×List t.den)}
  (hC:∀(s:ByteArray) (c:Nat) (w:World) (hc:c<=9223372036854775807) (hlen:s.size*c<=140737488355328),
   Calls P f #[.string s,.int .i64 c] w λe w' =>e= .returned (.string ⟨(Lib.repeatL s.data.toList c).toArray⟩)/\Below w.heap.size w w'):
  dH P gl f ⟨[(false,.dat .str),(false,.dat (.int .i64))],[(false,.dat .str)],[],λx=>DC x.1 x.2⟩:=by
 intro w ok O vals x r hlt _ _ _ hrel hdv hfn;obtain⟨v,cs,vs',O1,O2,rfl,rfl,h1,⟨h2,rfl⟩,v2,cs2,rfl,h3,h4,rfl⟩:=hrel;have h1:cs=[v]:=h1;subst h1;have h3:cs2=[v2]:=h3;subst h3;have h2:[v]=[.string ⟨x.1.toArray⟩]:=h2;have h4:[v2]=[.int .i64 x.2]:=h4;obtain rfl:=(X4 h2).1;obtain rfl:=(X4 h4).1;simp only[DC]at hfn;split at hfn
 .rename_i hx;cases hfn;obtain⟨a,c⟩:=x;simp only at hx ⊢;obtain⟨n,rfl⟩:∃n:Nat,c=n:=⟨c.toNat,(X6 hx.1).symm⟩;have hh:=hC ⟨a.toArray⟩ n w (by have:=hx.2.1;omega) (by have h5:=hx.2.2;rw[Y3]at h5;simpa[ByteArray.size]using h5);refine Calls.mono hh λe w' ⟨he,hb⟩=>?_;subst he;exact Hz (P:=P) (t:=.str) (x:=Lib.repeatL a (n:Int).toNat) (ps:=[(false,.dat .str),(false,.dat (.int .i64))]) (vals:=[.string ⟨a.toArray⟩,.int .i64 n]) hb hlt ⟨rfl,rfl⟩ (by simp[rep])
 .cases hfn
end Go.GP
namespace Go.GP
def b8u(Q:Nat->((t:Ty)×List t.den)->Prop):List (Nat×(t:Ty)×List t.den)->Prop
 |[]=>True|(g,u)::r=>Q g u/\b8u Q r
theorem XR{Q:Nat->((t:Ty)×List t.den)->Prop} :∀{l:List (Nat×(t:Ty)×List t.den)},b8u Q l->∀g u,fP l g=some u->Q g u
 |[],_,g,u,h=>by simp[fP]at h|(k,v)::r,hc,g,u,h=>by
  unfold fP at h;cases hb:Nat.beq k g
  .simp only[hb,cond_false]at h;exact XR hc.2 g u h
  .simp only[hb,cond_true,H7]at h;have:=iI hb;subst this;subst h;exact hc.1
end Go.GP
namespace Go.GP
open Go.RowKit Go.Sort
def a7z(x:Int):d4I->d4I
 |[]=>[x]|y::l=>bif J8 x y then x::y::l else y::a7z x l
def Kv:d4I->d4I
 |[]=>[]|x::l=>a7z x (Kv l)
def ddp(p:Int):d4I->d4I
 |[]=>[]|y::l=>bif o9 y p then ddp p l else y::ddp y l
def dd:d4I->d4I
 |[]=>[]|x::l=>x::ddp x l
theorem VS(x:Int):∀l,(a7z x l).Perm (x::l)
 |[]=> .refl _|y::l=>by
  unfold a7z;cases J8 x y
  .exact(List.Perm.cons y (VS x l)).trans (List.Perm.swap x y l)
  .exact .refl _
theorem Ht:∀l,(Kv l).Perm l
 |[]=> .refl _|x::l=>(VS x (Kv l)).trans ((Ht l).cons x)
theorem Xf(x:Int):∀{l:d4I},l.Pairwise (·<=·)->(a7z x l).Pairwise (·<=·)
 |[],_=>by simp[a7z]|y::l,h=>by
  have h' :=Y4.1 h;unfold a7z;cases hxy:J8 x y
  .have hxy' :y<x:=by simpa[J8]using hxy
   refine Y4.2 ⟨λz hz=>?_,Xf x h'.2⟩;rcases D6.1 ((VS x l).mem_iff.1 hz)with rfl|hz
   .omega
   .exact h'.1 z hz
  .have hxy' :x<=y:=by simpa[J8]using hxy
   refine Y4.2 ⟨λz hz=>?_,h⟩;rcases D6.1 hz with rfl|hz
   .exact hxy'
   .exact Int.le_trans hxy' (h'.1 z hz)
theorem FW:∀l,(Kv l).Pairwise (·<=·)
 |[]=>List.Pairwise.nil|x::l=>Xf x (FW l)
theorem Xr(l:d4I):(l.mergeSort λx y=>decide (x<=y))=Kv l:=by refine List.Perm.eq_of_pairwise (le:=(·<=·)) (λa b _ _ h1 h2=>Int.le_antisymm h1 h2) ?_ (FW l) ((List.mergeSort_perm l _).trans (Ht l).symm);have:=List.pairwise_mergeSort (le:=λx y:Int=>decide (x<=y)) (λa b c h1 h2=>by simp at*;omega) (λa b=>by simp;omega) l;simpa using this
theorem Yy(y:Int):∀(l:d4I) (p:Int),ddp p (l++[y])=ddp p l++(bif o9 y ((p::l).getLast A7)then[]else[y])
 |[],p=>rfl|z::l,p=>by
  have hg:(p::z::l).getLast A7=(z::l).getLast A7:=List.getLast_cons _;rw[hg];simp only[bg,ddp];by_cases h:z=p
  .subst h;simp only[o9,decide_true,cond_true];exact Yy y l z
  .have h' :o9 z p=false:=by simp[o9,h]
   rw[h'];simp only[cond_false];rw[Yy y l z];rfl
theorem Vk(l:d4I)(y:Int)(m:Nat)(hm:m<=l.length):Lib.compactUpTo (l++[y]).toArray m=Lib.compactUpTo l.toArray m:=by
 unfold Lib.compactUpTo;have e:∀j,j<m->(l++[y]).toArray[j]! =l.toArray[j]!:=λj hj=>by rw[getElem!_pos _ j aH,getElem!_pos _ j aH];simp[List.getElem_append_left (show j<l.length by omega)]
 have hf:(List.range m).filter (Lib.keeps (l++[y]).toArray)=(List.range m).filter (Lib.keeps l.toArray):=by apply List.filter_congr;intro j hj;have hj' :=X7.1 hj;unfold Lib.keeps;rw[e j hj',e (j -1) o5]
 rw[hf];apply aT;intro j hj;exact e j (X7.1 (Y8.1 hj).1)
theorem a1D(x y:Int)(l:d4I):Lib.compact (x::l++[y])=Lib.compact (x::l)++(bif o9 y ((x::l).getLast A7)then[]else[y]):=by
 have hlen:(x::l++[y]).length=(x::l).length+1:=A7;have h1:Lib.compact (x::l++[y])=Lib.compactUpTo (x::l++[y]).toArray (x::l).length++(if Lib.keeps (x::l++[y]).toArray (x::l).length=true then[(x::l++[y]).toArray[(x::l).length]!]else[]):=by
  unfold Lib.compact;rw[hlen];unfold Lib.compactUpTo;rw[eP,lT,bJ];congr 1;by_cases hk:Lib.keeps (x::l++[y]).toArray (x::l).length=true
  .simp only[Y7,hk,if_true,List.filter_nil,bW,jy]
  .simp only[Y7,hk,List.filter_nil,jy];simp
 rw[h1,Vk (x::l) y _ (E8 _)];have e1:(x::l++[y]).toArray[(x::l).length]! =y:=by rw[getElem!_pos _ _ A7];simp
 have e2:(x::l++[y]).toArray[(x::l).length -1]! =(x::l).getLast A7:=by rw[getElem!_pos _ _ aH];rw[List.getLast_eq_getElem];simp only[List.getElem_toArray];rw[List.getElem_append_left]
 have hk:Lib.keeps (x::l++[y]).toArray (x::l).length=decide (y≠(x::l).getLast A7):=by unfold Lib.keeps;rw[e1,e2];simp
 rw[hk,e1];unfold Lib.compact;by_cases h:y=(x::l).getLast A7<;>simp[o9,h]
theorem a5s{motive:d4I->Prop}(h0:motive [])(h1:∀l y,motive l->motive (l++[y])):∀n (l:d4I),l.length=n->motive l
 |0,l,h=>by rw[O7.1 h];exact h0|n+1,l,h=>by
  have hne:l≠[]:=by intro e;subst e;cases h
  rw[←List.dropLast_concat_getLast hne];exact h1 _ _ (a5s h0 h1 n _ aH)
theorem a6f(l:d4I):Lib.compact l=dd l:=by
 cases l with
 |nil=>rfl|cons x l=>
  show _=x::ddp x l;refine a5s (motive:=λl=>Lib.compact (x::l)=x::ddp x l) ?_ (λl y ih=>?_) l.length l rfl
  .simp[Lib.compact,Lib.compactUpTo,Lib.keeps,eP,ddp]
  .have:=a1D x y l;rw[bg]at this;rw[this,ih,Yy];rfl
def GU(xs:d4I):Option d4I:=bif Nat.blt xs.length 4611686018427387904 then some (Kv xs)else none
def tX(xs:d4I):Option d4I:=bif Nat.blt xs.length 4611686018427387904 then some (dd xs)else none
def zH(s t:d4H):d4L:=match t with
 |[c]=>some (decide (0<=Lib.indexByte s c))|_=>none
def uY(a b:Int):Option (Int×Int):=if 0<=a/\a<18446744073709551616/\0<=b/\b<18446744073709551616 then some (a*b / 18446744073709551616,a*b % 18446744073709551616)else none
variable {w:World}{ok:Nat->Ty->Prop}
theorem TL{m:Mp}{xs:d4I}{blk off len cap sz:Nat}(h:arrOk ⟨w.heap,ok,m⟩ (.int .i64) xs (.arr blk off len cap sz)):Holds (Value.int .i64) w blk off xs.toArray:=by
 obtain⟨_,rfl,rfl,hc,c,T,f,hb,hz,hs,hx⟩:=h;have hz:f=(0,0):=hz.elim id (λh=>nomatch h.1);subst hz;intro j hj;have hj' :j<xs.length:=by simpa using hj
 obtain⟨es,he,hr⟩:=hx j xs[j] (fO hj');have hr:es=[.int .i64 xs[j]]:=hr;subst hr;have hb' :w.heap[blk]? =some (.cells c T (0,0)):=hb;have he' :fH w.heap blk (off+j*1) 1=some [.int .i64 xs[j]]:=he;rw[bY]at he';refine⟨?_,?_⟩
 .have:=Aa (w:=w) he' (j:=0) (v:=.int .i64 xs[j]) rfl;rw[dL]at this;rw[this,getElem!_pos xs.toArray j hj];simp
 .simp[World.frozen?,hb']
variable {blk:Nat}{off:Nat}{n:Nat}{c:Array Value}{T:TypeId}
theorem b0M{fr:Nat×Nat}(hb:w.heap[blk]? =some (.cells c T fr))(d:Array Int):
  (putRow (Value.int .i64) (Sort.ahead w n) blk off d).heap[blk]? =some (.cells (putCells (Value.int .i64) off d c) T fr):=by
 show(w.heap.modify blk (onCells (putCells (Value.int .i64) off d)))[blk]? =_;rw[rP,if_pos rfl,hb];rfl
theorem a7a{blk off n b:Nat}(h:b≠blk)(d:Array Int):(putRow (Value.int .i64) (Sort.ahead w n) blk off d).heap[b]? =w.heap[b]?:=by show(w.heap.modify blk (onCells (putCells (Value.int .i64) off d)))[b]? =_;rw[rP,if_neg (λe=>h e.symm)]
theorem a8v{h:Array Obj}{m:Mp}{blk off cap:Nat}{d:Array Int}{ys:d4I}(hb:h[blk]? =some (.cells (putCells (Value.int .i64) off d c) T (0,0)))
  (hfit:off+cap<=c.size) (hd:d.size<=cap) (hl:ys.length<=d.size) (hy:∀(i:Nat) (y:Int),ys[i]? =some y->d[i]? =some y):arrOk ⟨h,ok,m⟩ (.int .i64) ys (.arr blk off ys.length cap 1):=by
 refine⟨rfl,rfl,rfl,o5,_,T,_,hb,.inl rfl,by simp[putCells,Ty.size];omega,λi y hi=>⟨[.int .i64 y],?_,rfl⟩⟩;have hi' :=(aO.1 hi).1;have hdi:=hy i y hi;obtain⟨hdi',hdy⟩:=J6.1 hdi;show fH h blk (off+i*1) 1=_;rw[bY,jM hb _ _ (by simp[putCells];omega)];have hk:off+i<c.size:=o5;have:(putCells (Value.int .i64) off d c).toList[off+i]? =some (.int .i64 y):=by unfold putCells;rw[aP,Array.getElem?_mapIdx,V8 hk];simp only[jR];rw[if_pos o5,Nat.add_sub_cancel_left,getElem!_pos d i hdi',hdy]
 obtain⟨h1,h2⟩:=aO.1 this;rw[gm h1,h2];rfl
theorem a9q{P:Program}{d:Array Int}{os:Array Obj}(hlt:∀b t,ok b t->b<w.heap.size)(hfree:(∀t,¬ok blk t)/\blk<w.heap.size)
  (hb:w.heap[blk]? =some (.cells c T (0,0))) {w' :World} (hw:w' =Sort.grow (putRow (Value.int .i64) (Sort.ahead w n) blk off d) os):
  w'.heap[blk]? =some (.cells (putCells (Value.int .i64) off d c) T (0,0))/\Frame' w w' [blk]/\(∀b t,ok b t->b<w'.heap.size/\(ok b t\/w.heap.size<=b\/b∈[blk]))/\blk<w'.heap.size:=by
 subst hw;have hsz:(putRow (Value.int .i64) (Sort.ahead w n) blk off d).heap.size=w.heap.size:=by simp[Sort.ahead]
 have hge:w.heap.size<=(Sort.grow (putRow (Value.int .i64) (Sort.ahead w n) blk off d) os).heap.size:=by simp[Sort.grow,Sort.ahead]
 have hold:∀b,b<w.heap.size->(Sort.grow (putRow (Value.int .i64) (Sort.ahead w n) blk off d) os).heap[b]? =(putRow (Value.int .i64) (Sort.ahead w n) blk off d).heap[b]?:=λb hb=>by show((putRow (Value.int .i64) (Sort.ahead w n) blk off d).heap++os)[b]? =_;rw[jJ (by rw[hsz];exact hb)]
 refine⟨by rw[hold blk hfree.2];exact b0M hb d,⟨rfl,rfl,rfl,hge,λb h1 h2=>?_⟩,λb t h=>⟨gK (hlt b t h) hge,.inl h⟩,gK hfree.2 hge⟩;rw[hold b h1];exact a7a (λe=>h2 (by simp[e])) d
variable {P:Program}{f:Nat}
theorem a7T{gl:List (Nat×(t:Ty)×List t.den)}
  (hC:∀(blk off cap:Nat) (zs:d4I) (w:World) (hH:Holds (Value.int .i64) w blk off zs.toArray) (hblk:blk<w.heap.size) (hsz:zs.length<4611686018427387904),
   Calls P f #[.slice (some ⟨blk,off,none⟩) zs.length cap] w λe w' =>e= .returned (.tuple #[])/\∃n os,w' =Sort.grow (putRow (Value.int .i64) (Sort.ahead w n) blk off (zs.mergeSort λx y=>decide (x<=y)).toArray) os)
  (hN:∀(p:Option Addr) (cap:Nat) (w:World),Calls P f #[.slice p 0 cap] w λe w' =>e= .returned (.tuple #[])/\w' =w):
  dH P gl f ⟨[(false,.ownb (.int .i64))],[],[(false,.own (.int .i64))],λx=>GU x⟩:=by
 intro w ok O vals x r hlt hnd hO _ hrel hdv hfn;obtain⟨v,cs,rfl,h1,l,v',hcs,hv,ha,rfl⟩:=hrel;have h1:cs=[v]:=h1;rw[h1]at hcs;simp only[H6,and_true]at hcs;subst hcs;simp only[GU]at hfn;cases hx0:Nat.blt x.length 4611686018427387904<;>rw[hx0]at hfn
 .cases hfn
 rw[gq]at hx0;have hx:=hx0;rw[←Xr]at hfn;cases hfn;cases l with
 |st b=>cases ha|mp b=>cases ha.1|nil=>
  have ha:x=[]:=ha.1;subst ha;have hv:v= .slice none 0 0:=hv;subst hv;refine(hN none 0 w).mono λe w' ⟨he,hw⟩=>?_;subst he;subst hw;exact⟨_,ok,[],[],[.slice none 0 0],[],rfl,Frame'.refl _ _,λ_ _ h=>h,λb t h=>⟨hlt b t h,.inl h⟩,A7,A7,⟨rfl,rfl⟩,⟨[],rfl,rfl,rfl⟩,
   ⟨_,_,rfl,rfl,yK.2 ⟨.nil,_,rfl,rfl,(by simp[arrOk,Ty.isEnt]),rfl⟩⟩⟩
 |arr blk off len cap sz=>
  have hH:=TL ha;obtain⟨_,rfl,rfl,hc,c,T,f,hb,hz,hs,hx'⟩:=ha;have hz:f=(0,0):=hz.elim id (λh=>nomatch h.1);subst hz;have hv:v= .slice (some ⟨blk,off,none⟩) x.length cap:=hv;subst hv;have hfree:=hO blk (by simp[Loc.blks]);refine(hC blk off cap x w hH hfree.2 hx).mono λe w' ⟨he,n,os,hw⟩=>?_;subst he;obtain⟨g1,g2,g3,g4⟩:=a9q (P:=P) hlt hfree hb hw;have hlen:(x.mergeSort λx y=>decide (x<=y)).length=x.length:=List.length_mergeSort ..;have hfit:off+cap<=c.size:=by simpa[Ty.size]using hs
  have harr:=a8v (ok:=ok) (m:=nom) (cap:=cap) (ys:=x.mergeSort λx y=>decide (x<=y)) g1 hfit (by simp[hlen];exact hc) A7 (λi y hi=>by simpa using hi);rw[hlen]at harr;refine⟨_,ok,[blk],[],[.slice (some ⟨blk,off,none⟩) x.length cap],[],rfl,g2,λ_ _ h=>h,g3,A7,λb hb=>?_,⟨rfl,rfl⟩,⟨[],rfl,rfl,rfl⟩,⟨_,_,rfl,rfl,yK.2 ⟨.arr blk off x.length cap 1,_,rfl,rfl,harr,rfl⟩⟩⟩;have:b=blk:=by simpa using hb
  subst this;exact⟨hfree.1,g4,.inr (by simp[Loc.blks])⟩
theorem a6g(zs:d4I):(Lib.compact zs).length<=zs.length:=by unfold Lib.compact Lib.compactUpTo;rw[H9];exact aU (bz _ _) A7
theorem J_{gl:List (Nat×(t:Ty)×List t.den)}
  (hC:∀(blk off cap:Nat) (zs:d4I) (w:World) (hH:Holds (Value.int .i64) w blk off zs.toArray) (hsz:zs.length<=9223372036854775807) (hcap:zs.length<=cap),
   Calls P f #[.slice (some ⟨blk,off,none⟩) zs.length cap] w λe w' =>e= .returned (.slice (some ⟨blk,off,none⟩) (Lib.compact zs).length cap)/\∃q,w' =putRow (Value.int .i64) (Sort.ahead w q) blk off (Lib.compact zs++List.replicate (zs.length -(Lib.compact zs).length) 0).toArray)
  (hN:∀(a:Option Addr) (cap:Nat) (w:World),Calls P f #[.slice a 0 cap] w λe w' =>e= .returned (.slice a 0 cap)/\w' =w):
  dH P gl f ⟨[(false,.own (.int .i64))],[(false,.own (.int .i64))],[],λx=>tX x⟩:=by
 intro w ok O vals x r hlt hnd hO _ hrel hdv hfn;obtain⟨v,cs,rfl,h1,hrm⟩:=hrel;obtain⟨l,v',hcs,hv,ha,rfl⟩:=yK.1 hrm;have h1:cs=[v]:=h1;rw[h1]at hcs;simp only[H6,and_true]at hcs;subst hcs;simp only[tX]at hfn;cases hx0:Nat.blt x.length 4611686018427387904<;>rw[hx0]at hfn
 .cases hfn
 rw[gq]at hx0;have hx:=hx0;rw[←a6f]at hfn;cases hfn;cases l with
 |st b=>cases ha|mp b=>cases ha.1|nil=>
  have ha:x=[]:=ha.1;subst ha;have hv:v= .slice none 0 0:=hv;subst hv;refine(hN none 0 w).mono λe w' ⟨he,hw⟩=>?_;subst he;subst hw;exact⟨_,ok,[],[.slice none 0 0],[],[],rfl,Frame'.refl _ _,λ_ _ h=>h,λb t h=>⟨hlt b t h,.inl h⟩,A7,A7,⟨rfl,rfl⟩,⟨rfl,rfl⟩,
   ⟨_,_,rfl,rfl,yK.2 ⟨.nil,_,rfl,rfl,⟨rfl,rfl⟩,rfl⟩⟩⟩
 |arr blk off len cap sz=>
  have hH:=TL ha;obtain⟨_,rfl,rfl,hc,c,T,f,hb,hz,hs,hx'⟩:=ha;have hz:f=(0,0):=hz.elim id (λh=>nomatch h.1);subst hz;have hv:v= .slice (some ⟨blk,off,none⟩) x.length cap:=hv;subst hv;have hfree:=hO blk (by simp[Loc.blks]);refine(hC blk off cap x w hH o5 hc).mono λe w' ⟨he,n,hw⟩=>?_;subst he;have hle:=a6g x;obtain⟨g1,g2,g3,g4⟩:=a9q (P:=P) (n:=n) (off:=off) (d:=(Lib.compact x++List.replicate (x.length -(Lib.compact x).length) 0).toArray) (os:=#[]) (w' :=w') hlt hfree hb (by rw[grow_empty];exact hw);have hfit:off+cap<=c.size:=by simpa[Ty.size]using hs
  have harr:=a8v (ok:=ok) (m:=nom) (cap:=cap) (ys:=Lib.compact x) g1 hfit aH A7 (λi y hi=>by have:=(aO.1 hi).1;rw[List.getElem?_toArray,N8 this];exact hi)
  refine⟨_,ok,[blk],[.slice (some ⟨blk,off,none⟩) (Lib.compact x).length cap],[],[],rfl,g2,λ_ _ h=>h,g3,A7,λb hb=>?_,⟨rfl,rfl⟩,⟨rfl,rfl⟩,⟨_,_,rfl,rfl,yK.2 ⟨.arr blk off (Lib.compact x).length cap 1,_,rfl,rfl,harr,rfl⟩⟩⟩;have:b=blk:=by simpa using hb
  subst this;exact⟨hfree.1,g4,.inr (by simp[Loc.blks])⟩
theorem Xn{gl:List (Nat×(t:Ty)×List t.den)}
  (hC:∀(s:ByteArray) (c:UInt8) (w:World),Calls P f #[.string s,.string ⟨#[c]⟩] w λe w' =>e= .returned (.bool (decide (0<=Lib.indexByte s.data.toList c)))/\w' =w):
  dH P gl f ⟨[(false,.dat .str),(false,.dat .str)],[(false,.dat .bool)],[],λx=>zH x.1 x.2⟩:=by
 intro w ok O vals x r hlt _ _ _ hrel hdv hfn;obtain⟨v,cs,vs',O1,O2,rfl,rfl,h1,⟨h2,rfl⟩,v2,cs2,rfl,h3,h4,rfl⟩:=hrel;have h1:cs=[v]:=h1;subst h1;have h3:cs2=[v2]:=h3;subst h3;have h2:[v]=[.string ⟨x.1.toArray⟩]:=h2;have h4:[v2]=[.string ⟨x.2.toArray⟩]:=h4;obtain rfl:=(X4 h2).1;obtain rfl:=(X4 h4).1;simp only[zH]at hfn;split at hfn
 .rename_i c hx;cases hfn;rw[hx];refine(hC ⟨x.1.toArray⟩ c w).mono λe w' ⟨he,hw⟩=>?_;subst he;subst hw;exact Hz (P:=P) (t:=.bool) (x:=decide (0<=Lib.indexByte x.1 c)) (ps:=[(false,.dat .str),(false,.dat .str)]) (vals:=[_,_]) ⟨rfl,rfl,rfl,E8 _,λ_ _=>rfl⟩ hlt ⟨rfl,rfl⟩ rfl
 .cases hfn
theorem a4t{gl:List (Nat×(t:Ty)×List t.den)}
  (hC:∀(x y:Nat) (hx:x<18446744073709551616) (hy:y<18446744073709551616) (w:World),
   Calls P f #[.int .u64 x,.int .u64 y] w λe w' =>e= .returned (.tuple #[.int .u64 ((x*y / 18446744073709551616:Nat):Int),.int .u64 ((x*y % 18446744073709551616:Nat):Int)])/\w' =w):
  dH P gl f ⟨[(false,.dat (.int .u64)),(false,.dat (.int .u64))],[(false,.dat (.int .u64)),(false,.dat (.int .u64))],[],λx=>uY x.1 x.2⟩:=by
 intro w ok O vals x r hlt _ _ _ hrel hdv hfn;obtain⟨v,cs,vs',O1,O2,rfl,rfl,h1,⟨h2,rfl⟩,v2,cs2,rfl,h3,h4,rfl⟩:=hrel;have h1:cs=[v]:=h1;subst h1;have h3:cs2=[v2]:=h3;subst h3;have h2:[v]=[.int .u64 x.1]:=h2;have h4:[v2]=[.int .u64 x.2]:=h4;obtain rfl:=(X4 h2).1;obtain rfl:=(X4 h4).1;simp only[uY]at hfn;split at hfn
 .rename_i hx;cases hfn;obtain⟨a,b⟩:=x;obtain⟨p,rfl⟩:=Int.eq_ofNat_of_zero_le hx.1;obtain⟨q,rfl⟩:=Int.eq_ofNat_of_zero_le hx.2.2.1;refine(hC p q (by have:=hx.2.1;simp only at this;omega) (by have:=hx.2.2.2;simp only at this;omega) w).mono λe w' ⟨he,hw⟩=>?_;subst he;subst hw;refine⟨_,ok,[],[_,_],[],[],rfl,⟨rfl,rfl,rfl,E8 _,λ_ _ _=>rfl⟩,λ_ _ h=>h,λb t h=>⟨hlt b t h,.inl h⟩,A7,A7,⟨rfl,rfl⟩,⟨rfl,rfl⟩,?_⟩;exact⟨_,_,_,[],[],rfl,rfl,rfl,⟨rfl,rfl⟩,_,_,rfl,rfl,rfl,rfl⟩
 .cases hfn
def jd{α:Type}(xs:List α):Option (List α):=dB [] xs
theorem IR{E:Env}{f:FuncId}{fn:Func}{c:Code}{t:Ty}(hf:P.funcs[f]? =some fn)(hb:fn.body=some c)(hnt:fn.ntmps=E.nt)(hres:fn.results.toList=[.tmp 2])(hE:EnvOk P E)
  (h0:∀b,a9V E [(false,.cell (some (some b)))] ⟨[(.tmp 2,(false,.own t))],[]⟩ c .leaf ()=some [])
  (h2:∀xs,a9V E [(false,.dat (.sl t))] ⟨[(.tmp 2,(false,.own t))],[]⟩ c .leaf xs=l7 (o9 (o8 xs) 0) none (l9 (dB [] xs) λz=>some z))
  (ht:t.isEnt=false:=by rfl):
  dH P E.gl f ⟨[(false,.dat (.sl t))],[(false,.own t)],[],λxs=>jd xs⟩:=by
 intro w ok O vals x r hlt hnd hO hgl hrel hdv hfn;obtain⟨v,cs,rfl,h1,hr,rfl⟩:=hrel;have h1:cs=[v]:=h1;subst h1;cases x with
 |nil=>
  obtain⟨a,cap,e,_,_⟩:=(AZ ht).1 hr;have e:v= .slice a 0 cap:=(X4 e).1;have hr:r=[]:=by
   have:some ([]:List t.den)=some r:=by simpa[jd,dB]using hfn
   exact(aQ this).symm
  subst hr;exact RQ (ps:=[(false,.cell (some (some a.isNone)))]) (rt:=⟨[(.tmp 2,(false,.own t))],[]⟩) (F:=λ_=>some []) hf hb hnt hres hE (λx r h=>by cases h;exact h0 a.isNone) w ok [] [v] () [] hlt hnd hO hgl
   ⟨v,[v],rfl,rfl,v,rfl,by subst e;rfl,(λh=>nomatch h),(λb h=>by cases h;exact⟨a,cap,e,rfl⟩),rfl⟩ trivial rfl
 |cons z zs=>
  exact RQ (ps:=[(false,.dat (.sl t))]) (rt:=⟨[(.tmp 2,(false,.own t))],[]⟩) (F:=λxs=>l7 (o9 (o8 xs) 0) none (l9 (dB [] xs) λz=>some z)) hf hb hnt hres hE (λx r h=>(h2 x).trans h) w ok [] [v] (z::zs) r hlt hnd hO hgl
   ⟨v,[v],rfl,rfl,hr,rfl⟩ trivial (by
    have h3:o9 (o8 (z::zs)) 0=false:=by simp only[o9,o8,H8];exact decide_eq_false o5
    have h4:dB [] (z::zs)=some r:=hfn;show l7 (o9 (o8 (z::zs)) 0) none (l9 (dB [] (z::zs)) λz=>some z)=some r;rw[h3,h4];rfl)
theorem a4r{t f e:Nat}{n:String}{inf:TypeInfo}{m:Method}(ht:P.info? t=some inf)(hm:inf.methods.find? (·.name==n)=some m)(hp:m.path.toList=[])
  (hf:m.func=some (f,false)) (hu:P.underlying t=some (.pointer e)):GV P t n f (some e):=by
 intro v w ad h;subst h;have h1:∀d,(method (d+1) t (.pointer (some ad)) n).run P w=((loadVar e ad).run P w).andThen λu w' => .ok (f,u) w' :=by
  intro d;unfold method;have hti:(typeInfo t).run P w= .ok inf w:=by simp[typeInfo,ht]
  rw[I4,hti];simp only[Result.andThen,hm,hp,hf];rw[I4];simp only[follow,au,Result.andThen];have hr:∀wr,(receiverAt t (.val (.pointer (some ad))) false wr).run P w=(loadVar e ad).run P w:=by
   intro wr;unfold receiverAt;rw[I4,run_underlying hu];have hw:∀s,Builtin.ssaWrapNilChk_ #[t] t #[.pointer (some ad),strVal "",strVal s]=pure (.pointer (some ad)):=λs=>rfl;cases wr with
   |none=>simp[Result.andThen,Place.get,asAddr]|some s=>simp[Result.andThen,Place.get,asAddr,hw]
  rw[I4,hr];rfl
 exact h1 _
def a8T(P:Program)(t:Nat)(n:String)(f e:Nat):Bool:=match P.info? t with
 |some inf=>match inf.methods.find? (·.name==n)with
  |some m=>match m.path.toList,m.func,P.underlying t with
   |[],some (f',false),some (.pointer e')=>Nat.beq f' f&&Nat.beq e' e|_,_,_=>false
  |none=>false
 |none=>false
theorem Sv{t f e:Nat}{n:String}(h:a8T P t n f e=true):GV P t n f (some e):=by
 unfold a8T at h;split at h
 .rename_i inf hi;split at h
  .rename_i m hm;split at h
   .rename_i h1 h2 h3;simp only[D5]at h;have e1:=iI h.1;have e2:=iI h.2;subst e1;subst e2;exact a4r hi hm h1 h2 h3
   .cases h
  .cases h
 .cases h
end Go.GP
