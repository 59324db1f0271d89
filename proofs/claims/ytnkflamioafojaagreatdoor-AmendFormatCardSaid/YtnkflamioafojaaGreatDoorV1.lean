import Derived.Test.YtnkflamioafojaaGreatDoorV0
import Derived.Laws.MakeOwn
import Derived.ArgAppend
import Derived.MapKept
import Derived.WideKeyRuns
import Derived.Lib.AppendStr
import Derived.Laws.IdiomStrings
import Derived.Orders
import Derived.LoopN
import Derived.Laws.StructEq
set_option linter.all false
namespace Go.GP
variable {α:Type}{t:TypeId}{q:Nat}{sz:Nat}{f:Nat}{P:Program}{j:TI}{x:Operand}{Q:α->Sm->Prop}
section
variable {X:Fx} {cl ch:Nat} {S:Sm} {m:Mp} {ok:Nat->Ty->Prop} {a:Act} {w:World} {o:Oper}
theorem EU(H:FxOk X){t f off n:Nat}{ag:Bool}(h:Jp X.E t f=some (off,n,ag)):
  ∃fields fld j,X.P.underlying t=some (.struct fields)/\fields[f]? =some fld/\fld.offset=off/\TiOk X.P fld.type j/\j.size=n/\n≠0/\ag=bf j.td:=by
 unfold Jp at h;cases hi:bK X.E.tt t with
 |none=>simp[hi]at h|some i=>
  have Hi:=H.tt t i hi;have htd:=Hi.td;simp only[hi]at h;cases hd:i.td<;>simp only[hd]at h<;>try (simp at h;done)
  rename_i fs;rw[hd]at htd;obtain⟨fields,hu,hf⟩:=htd;cases hfs:fs[f]? with
  |none=>simp[hfs]at h|some x=>
   obtain⟨ft,off'⟩:=x;simp only[hfs]at h;cases hj:bK X.E.tt ft with
   |none=>simp[hj]at h|some j=>
    simp only[hj]at h;cases hb:Nat.beq j.size 0
    .simp only[hb,cond_false,F6,jq]at h;obtain⟨rfl,rfl,rfl⟩:=h;rw[←hf]at hfs;simp only[eP,dm]at hfs;obtain⟨fld,hfl,he⟩:=hfs;simp only[jq]at he;obtain⟨rfl,rfl⟩:=he;refine⟨fields,fld,j,hu,by simpa using hfl,rfl,H.tt _ _ hj,rfl,λe=>?_,rfl⟩;rw[e]at hb;simp at hb
    .simp[hb]at h
theorem JU{t f off:Nat}{fields:Array Field}{fld:Field}(w:World)(hu:P.underlying t=some (.struct fields))(hf:fields[f]? =some fld)(ho:fld.offset=off)
  (hj:TiOk P fld.type j) (hn:j.size≠0) (b p:Nat):(Instr.fieldAt t (.pointer (some ⟨b,p,none⟩)) f).run P w= .ok (.pointer (some ⟨b,p+off,none⟩)) w:=by
 simp[Instr.fieldAt,run_underlying hu,hf,Instr.sureAddr,fieldPlace,oO hj,hn,fJ,ho]
theorem Yl(H:FxOk X)(R:Rel X cl ch S m ok a w)(ho:o.op= .fieldAddr t x f):(aP X.E q o).post S (λ_ S' =>gI X cl ch o a w m ok S'):=by
 unfold aP;simp only[ho];refine Z8 R λp hp=>?_;split<;>try trivial
 rename_i off n ag hfo;obtain⟨fields,fld,j,hu,hf,hoff,hj,hn,hn0,_⟩:=EU H hfo;have hj0:j.size≠0:=o5;cases p<;>try trivial
 case ptr bx o' =>obtain⟨blk,h1,h2⟩:=hp;exact aB H R (v:=.ptr bx (o' +off)) ⟨blk,h1,rfl⟩ (by simp[execOp,ho,h2,JU w hu hf hoff hj hj0])
 case ep bx ix o' =>obtain⟨blk,o2,len,cap,sz,h1,h2,h3⟩:=hp;exact aB H R (v:=.ep bx ix (o' +off)) ⟨blk,o2,len,cap,sz,h1,h2,rfl⟩ (by simp[execOp,ho,h3,JU w hu hf hoff hj hj0,dH])
 case dp u y o' =>obtain⟨blk,o2,es,h1,h2⟩:=hp;exact aB H R (v:=.dp u y (o' +off)) ⟨blk,o2,es,rfl,h2⟩ (by simp[execOp,ho,h1,JU w hu hf hoff hj hj0,dH])
theorem a6d(H:FxOk X)(R:Rel X cl ch S m ok a w)(ho:o.op= .field t x f):(aP X.E q o).post S (λ_ S' =>gI X cl ch o a w m ok S'):=by
 unfold aP;simp only[ho];refine Z8 R λp hp=>?_;split<;>try trivial
 rename_i off n ag hfo;obtain⟨fields,fld,j,hu,hf,hoff,hj,hn,hn0,rfl⟩:=EU H hfo;refine Ad hp λps us hg hl=>xY λhle=>?_;obtain⟨arr,hx,rfl⟩:=hg;have hL:=je hl;have hlen:((arr.toList.drop off).take n).length=n:=by simp at hL ⊢;omega
 refine aB H R (zO (sW n (qV off hl)) (λha=>by rw[hlen,←hn];exact hj.one ha)) ?_;have hpart:(part fld.type arr off).run X.P w= .ok (Pm (bf j.td) ((arr.toList.drop off).take n)) w:=by
  unfold part;rw[G9,BR hj.td];simp only[H7];cases ha:bf j.td
  .have h1:=hj.one ha;have hlt:off<arr.size:=by simp at hL;omega
   simp only[dR,if_false,Pm];rw[show arr[off]? =some arr[off]from by simp[hlt]];have:n=1:=o5;subst this;simp[List.take_one,hlt]
  .simp only[if_true,Pm,G9,oO hj,H7,hn,U6];congr 2;apply jm;simp[kQ]
 simp[execOp,ho,hx,Instr.field,run_underlying hu,hf,asAgg,hoff,hpart]
theorem GI(H:FxOk X){t n sz:Nat}(h:GH X.E t=some (false,n,sz)):∃e j,X.P.underlying t=some (.slice e)/\TiOk X.P e j/\j.size=sz:=by
 unfold GH at h;cases hi:bK X.E.tt t with
 |none=>simp[hi]at h|some i=>
  have htd:=(H.tt t i hi).td;simp only[hi]at h;cases hd:i.td<;>simp only[hd]at h<;>try (simp at h;done)
  .rename_i e;rw[hd]at htd;cases hj:bK X.E.tt e with
   |none=>simp[hj]at h|some j=>simp[hj]at h;exact⟨e,j,htd,H.tt _ _ hj,h.2⟩
  .rename_i l e;cases hj:bK X.E.tt e<;>simp[hj]at h
theorem a0J(H:FxOk X){t n sz:Nat}(h:GH X.E t=some (true,n,sz)):∃e j,X.P.underlying t=some (.array n e)/\TiOk X.P e j/\j.size=sz:=by
 unfold GH at h;cases hi:bK X.E.tt t with
 |none=>simp[hi]at h|some i=>
  have htd:=(H.tt t i hi).td;simp only[hi]at h;cases hd:i.td<;>simp only[hd]at h<;>try (simp at h;done)
  .rename_i e;cases hj:bK X.E.tt e<;>simp[hj]at h
  .rename_i l e;rw[hd]at htd;cases hj:bK X.E.tt e with
   |none=>simp[hj]at h|some j=>simp[hj]at h;obtain⟨rfl,h⟩:=h;exact⟨e,j,htd,H.tt _ _ hj,h⟩
theorem yw{l:List α}{n:Int}{y:α}(h:J4 l n=some y):0<=n/\l[n.toNat]? =some y/\n.toNat<l.length/\n<l.length:=by
 unfold J4 at h;split at h
 .rename_i h0;have:=(aK.1 h).1;exact⟨h0,h,this,o5⟩
 .cases h
theorem uK{t e:TypeId}(w:World)(hu:P.underlying t=some (.slice e))(hj:TiOk P e j){k:IntKind}{n:Int}{b p len cap:Nat}(h0:0<=n)(hlt:n<len):
  (Instr.indexAt t (.slice (some ⟨b,p,none⟩) len cap) (.int k n)).run P w= .ok (.pointer (some ⟨b,p+n.toNat*j.size,none⟩)) w:=by
 simp[Instr.indexAt,asIntOf,run_underlying hu,h0,hlt,oO hj,fJ]
theorem OU{t e:TypeId}(w:World){len:Nat}(hu:P.underlying t=some (.array len e))(hj:TiOk P e j){k:IntKind}{n:Int}{b p:Nat}(h0:0<=n)(hlt:n<len):
  (Instr.indexAt t (.pointer (some ⟨b,p,none⟩)) (.int k n)).run P w= .ok (.pointer (some ⟨b,p+n.toNat*j.size,none⟩)) w:=by
 simp[Instr.indexAt,asIntOf,run_underlying hu,h0,hlt,oO hj,fJ,Instr.sureAddr]
theorem GX{w:World}{r:Nat}{es:Array MapEntry}{ck:Nat}(hb:w.heap[r]? =some (.map es ck)):(getObj r).run P w= .ok (.map es ck) w:=by simp[getObj,Sem.run,hb]
theorem Aq{u:Ty}(h:szB sz u=true):u.isEnt=false/\sz=u.size:=by
 unfold szB at h;cases hu:u.isEnt<;>rw[hu]at h
 .exact⟨rfl,fC h⟩
 .cases h
theorem a4Z{C:Cx}{t:Ty}{xs:List t.den}{l:Loc}{vw:Option (Nat×Nat)}{v:Value}(h0:t.isEnt=false)(ha:arrOk C t xs l)(hv:l.view vw v){i:Nat}{y:t.den}(hy:(iI vw xs)[i]? =some y):
  ∃blk off len cap,l= .arr blk off len cap t.size/\xs[ZP vw+i]? =some y/\∃p c,v= .slice (some ⟨blk,p,none⟩) (iI vw xs).length c/\p+i*t.size=off+(ZP vw+i)*t.size:=by
 cases l with
 |nil=>obtain⟨ha,_⟩:=ha;subst ha;rcases vw with _|⟨lo,hi⟩<;>simp[iI,iM]at hy
 |st b=>cases ha|mp b=>exact absurd ha.1 (by simp[h0])|arr blk off len cap sz=>
  obtain⟨_,rfl,rfl,hc,_⟩:=ha;rcases vw with _|⟨lo,hi⟩
  .simp only[Loc.view]at hv;subst hv;exact⟨blk,off,_,cap,rfl,by simpa[ZP,iI]using hy,off,cap,rfl,by simp[ZP]⟩
  .obtain⟨h1,h2,rfl⟩:=hv;have hl:(iI (some (lo,hi)) xs).length=hi -lo:=by simp[iI,iM];omega
   have hi' :i<hi -lo:=by rw[←hl];exact(aK.1 hy).1
   have hx' :xs[lo+i]? =some y:=by
    simp only[iI,iM,S9,U7]at hy;split at hy
    .exact hy
    .cases hy
   have hne:cap≠lo:=o5;exact⟨blk,off,_,cap,rfl,hx',off+lo*t.size,cap -lo,by rw[hl];simp[hne],by simp[ZP,I9];omega⟩
theorem Ym(H:FxOk X)(R:Rel X cl ch S m ok a w){x ix:Operand}(ho:o.op= .indexAddr t x ix):(aP X.E q o).post S (λ_ S' =>gI X cl ch o a w m ok S'):=by
 unfold aP;simp only[ho];refine Z8 R λu hu=>Z8 R λv hv=>?_;unfold Ux;split<;>try trivial
 ·
  rename_i k n l sz hsz;obtain⟨e,j,hut,hj,hjs⟩:=GI H hsz;have hix:=qX hv;cases u<;>try trivial
  case sl u xs=>refine bi λhb=>dI λy hy=>?_;obtain⟨hE0,hb'⟩:=Aq hb;obtain⟨h0,hget,hlt,hlt'⟩:=yw hy;obtain⟨ad,cap,hx,hc,hel⟩:=(xx hE0).1 hu;simp only[G7,and_true]at hx;obtain⟨blk,off,es,rfl,hok,he,hr⟩:=hel _ y hget;refine aB H R (v:=.dp u y 0) (x:=.pointer (some ⟨blk,off+n.toNat*u.size,none⟩)) ⟨blk,off+n.toNat*u.size,es,rfl,hok,he,hr⟩ ?_;simp[execOp,ho,hx,hix,uK w hut hj h0 hlt',hjs,hb']
  case own bx vw=>
   obtain⟨loc,hm,hview⟩:=hu;refine aI ?_;split
   .rename_i ln sz' hSl;split<;>try trivial
    refine bC λhb=>⟨λhin=>?_,λ_=>trivial⟩;have hb' :=fC hb;have hin' :=of_decide_eq_true (show decide (0<=n/\n<ln)=true from hin);have hbx:=R.box (ML+bx);rw[hSl]at hbx;obtain⟨k',l',e,hm',hl⟩:=hbx;have e' :k' =bx:=o5;subst e';simp only at hm hm';rw[hm]at hm';cases hm';cases loc with
    |nil=>simp only at hl;omega|st b=>cases hl|mp b=>cases hl|arr blk off len cap sz2=>obtain⟨rfl,rfl⟩:=hl;simp only[Loc.view]at hview;refine aB H R (v:=.ep k' (X4 n) 0) (x:=.pointer (some ⟨blk,off+n.toNat*sz',none⟩)) ⟨blk,off,len,cap,sz',hm,by unfold X4;omega,rfl⟩ ?_;simp[execOp,ho,hview,hix,uK w hut hj hin'.1 hin'.2,hjs,hb']
   refine aI ?_;split<;>try trivial
   .rename_i u xs hS;refine bi λhb=>dI λy hy=>?_;obtain⟨hE0,hb'⟩:=Aq hb;obtain⟨h0,hget,hlt,hlt'⟩:=yw hy;obtain⟨loc',hm',ha⟩:=R.own_arr hS;simp only at hm;rw[hm]at hm';cases hm';obtain⟨blk,off,len,cap,rfl,hx2,p,c,hvv,hp⟩:=a4Z hE0 ha hview hget;have hlen:=ha.2.2.1;have hlt2:=(aK.1 hx2).1;rw[a9P];refine aB H R (v:=.ep bx (ZP vw+X4 n) 0) (x:=.pointer (some ⟨blk,p+n.toNat*u.size,none⟩)) ⟨blk,off,len,cap,u.size,hm,by rw[hlen];exact hlt2,by rw[hp];rfl⟩ ?_;simp[execOp,ho,hvv,hix,uK w hut hj h0 hlt',hjs,hb']
   .rename_i u xs hS;refine bi λhb=>dI λy hy=>?_;obtain⟨hE0,hb'⟩:=Aq hb;obtain⟨h0,hget,hlt,hlt'⟩:=yw hy;obtain⟨loc',hm',ha,hok⟩:=R.own_frz hS;simp only at hm;rw[hm]at hm';cases hm';obtain⟨ad,cap,hx,hc,hel⟩:=(xx hE0).1 (mG (C:=⟨w.heap,ok,m⟩) ha hview (λ_ _ h=>h) hok);simp only[G7,and_true]at hx;obtain⟨blk,off,es,rfl,hok',he,hr⟩:=hel _ y hget;refine aB H R (v:=.dp u y 0) (x:=.pointer (some ⟨blk,off+n.toNat*u.size,none⟩)) ⟨blk,off+n.toNat*u.size,es,rfl,hok',he,hr⟩ ?_;simp[execOp,ho,hx,hix,uK w hut hj h0 hlt',hjs,hb']
   .rename_i md xs hole hS;split<;>try trivial
    refine bC λhb=>dI λy hy=>?_;have hb' :=fC hb;obtain⟨h0,hget,hlt,hlt'⟩:=yw hy;obtain⟨hel,loc',Os,hm',⟨ha,hho⟩,hk⟩:=R.own_barrs hS;simp only at hm;rw[hm]at hm';cases hm';cases loc with
    |st b=>cases ha|mp b=>cases ha|nil=>obtain⟨e1,_⟩:=ha;subst e1;simp at hlt
    |arr blk off len cap sz' =>obtain⟨rfl,rfl,h3,_⟩:=ha;simp only[Loc.view]at hview;refine aB H R (v:=.ep bx (X4 n) 0) (x:=.pointer (some ⟨blk,off+n.toNat*md.size,none⟩)) ⟨blk,off,xs.length,cap,md.size,hm,hlt,rfl⟩ ?_;simp[execOp,ho,hview,hix,uK w hut hj h0 hlt',hjs,hb']
 ·
  rename_i k n l sz hsz;obtain⟨e,j,hut,hj,hjs⟩:=a0J H hsz;have hix:=qX hv;cases u<;>try trivial
  case glob g=>
   cases hg:bK X.E.gl g with
   |none=>simp only[hg];trivial|some p=>
   obtain⟨u,xs⟩:=p;simp only[hg];refine bi λhb=>dI λy hy=>?_;simp only[A7]at hb;have hb1:=fC hb.1;have hb2:=fC hb.2;obtain⟨h0,hget,hlt,hlt'⟩:=yw hy;obtain⟨hok,_,hel⟩:=R.gl g _ hg;obtain⟨es,he,hr⟩:=hel _ y hget;have hx:a.eval x= .pointer (some ⟨g,0,none⟩):=hu;refine aB H R (v:=.dp u y 0) (x:=.pointer (some ⟨g,0+n.toNat*u.size,none⟩)) ⟨g,n.toNat*u.size,es,A8,hok,he,hr⟩ ?_;have:=OU w hut hj (k:=k) (b:=g) (p:=0) h0 (by rw[hb2];exact hlt');simp only[hjs,hb1]at this;simp[execOp,ho,hx,hix,this]
  case ptr bx off=>refine⟨λhin=>?_,λ_=>trivial⟩;have hin' :=of_decide_eq_true (show decide (0<=n/\n<(l:Int))=true from hin);obtain⟨blk,hm,hx⟩:=hu;refine aB H R (v:=.ptr bx (off+X4 n*sz)) (x:=.pointer (some ⟨blk,off+n.toNat*sz,none⟩)) ⟨blk,hm,rfl⟩ ?_;have:=OU w hut hj (k:=k) (b:=blk) (p:=off) hin'.1 hin'.2;simp only[hjs]at this;simp[execOp,ho,hx,hix,this]
theorem Uz(R:Rel X cl ch S m ok a w){sz fo:Nat}{c:V}{u:Value}(hu:sQ ⟨w.heap,ok,m⟩ c u){K:V->Cmd α}
  (hK:∀r y,jI ⟨w.heap,ok,m⟩ r y->(∃b bo n k,u= .slice (some ⟨b,bo,none⟩) n k/\0<=L6 .i64 (n:Int) 1/\L6 .i64 (n:Int) 1<(n:Int)/\y= .pointer (some ⟨b,bo+(L6 .i64 (n:Int) 1).toNat*sz+fo,none⟩))->(K r).post S Q):
  (a2Z sz fo c K).post S Q:=by
 unfold a2Z;split<;>try trivial
 .rename_i u' xs;refine bi λhb=>dI λy hy=>?_;obtain⟨hE0,hb'⟩:=Aq hb;obtain⟨h0,hget,hlt,hlt'⟩:=yw hy;obtain⟨ad,cap,hx,hc,hel⟩:=(xx hE0).1 hu;simp only[G7,and_true]at hx;obtain⟨blk,off,es,rfl,hok,he,hr⟩:=hel _ y hget;refine hK (.dp u' y fo) _ ⟨blk,off+(L6 .i64 (o9 xs) 1).toNat*u'.size,es,rfl,hok,he,hr⟩ ⟨blk,off,xs.length,cap,hx,h0,hlt',?_⟩;rw[hb'];rfl
 .rename_i bx;obtain⟨loc,hm,hview⟩:=hu;refine aI ?_;split
  .rename_i ln sz' hSl;refine bC λhb=>⟨λhin=>?_,λ_=>trivial⟩;have hb' :=fC hb;have hin' :=of_decide_eq_true (show decide (0<=L6 .i64 ln 1/\L6 .i64 ln 1<ln)=true from hin);have hbx:=R.box (ML+bx);rw[hSl]at hbx;obtain⟨k',l',e,hm',hl⟩:=hbx;have e' :k' =bx:=o5;subst e';simp only at hm hm';rw[hm]at hm';cases hm';cases loc with
   |nil=>simp only at hl;omega|st b=>cases hl|mp b=>cases hl|arr blk off len cap sz2=>obtain⟨rfl,rfl⟩:=hl;simp only[Loc.view]at hview;refine hK (.ep k' (X4 (L6 .i64 (len:Int) 1)) fo) (.pointer (some ⟨blk,off+(L6 .i64 (len:Int) 1).toNat*sz' +fo,none⟩)) ⟨blk,off,len,cap,sz',hm,by unfold X4;omega,rfl⟩ ⟨blk,off,len,cap,hview,hin'.1,hin'.2,?_⟩;rw[hb']
  refine aI ?_;split<;>try trivial
  .rename_i u xs hS;refine bi λhb=>dI λy hy=>?_;obtain⟨hE0,hb'⟩:=Aq hb;obtain⟨h0,hget,hlt,hlt'⟩:=yw hy;obtain⟨loc',hm',ha⟩:=R.own_arr hS;simp only at hm;rw[hm]at hm';cases hm';cases loc with
   |nil=>obtain⟨e1,_⟩:=ha;subst e1;simp at hlt
   |st b=>cases ha|mp b=>rw[ha.1]at hE0;cases hE0|arr blk off len cap sz2=>obtain⟨_,rfl,rfl,_⟩:=ha;simp only[Loc.view]at hview;refine hK (.ep bx (X4 (L6 .i64 (o9 xs) 1)) fo) (.pointer (some ⟨blk,off+(L6 .i64 (o9 xs) 1).toNat*u.size+fo,none⟩)) ⟨blk,off,xs.length,cap,u.size,hm,hlt,rfl⟩ ⟨blk,off,xs.length,cap,hview,h0,hlt',?_⟩;rw[hb'];rfl
  .rename_i u xs hS;refine bi λhb=>dI λy hy=>?_;obtain⟨hE0,hb'⟩:=Aq hb;obtain⟨h0,hget,hlt,hlt'⟩:=yw hy;obtain⟨loc',hm',ha,hok⟩:=R.own_frz hS;simp only at hm;rw[hm]at hm';cases hm';obtain⟨ad,cap,hx,hc,hel⟩:=(xx hE0).1 (mG (C:=⟨w.heap,ok,m⟩) (vw:=none) ha hview (λ_ _ h=>h) hok);simp only[G7,and_true]at hx;obtain⟨blk,off,es,rfl,hok',he,hr⟩:=hel _ y hget;refine hK (.dp u y fo) _ ⟨blk,off+(L6 .i64 (o9 xs) 1).toNat*u.size,es,rfl,hok',he,hr⟩ ⟨blk,off,xs.length,cap,hx,h0,hlt',?_⟩;rw[hb'];rfl
  .rename_i md xs hole hS;refine bC λhb=>dI λy hy=>?_;have hb' :=fC hb;obtain⟨h0,hget,hlt,hlt'⟩:=yw hy;obtain⟨hel,loc',Os,hm',⟨ha,hho⟩,hk⟩:=R.own_barrs hS;simp only at hm;rw[hm]at hm';cases hm';cases loc with
   |st b=>cases ha|mp b=>cases ha|nil=>obtain⟨e1,_⟩:=ha;subst e1;simp at hlt
   |arr blk off len cap sz' =>obtain⟨rfl,rfl,h3,_⟩:=ha;simp only[Loc.view]at hview;refine hK (.ep bx (X4 (L6 .i64 (o9 xs) 1)) fo) (.pointer (some ⟨blk,off+(L6 .i64 (o9 xs) 1).toNat*md.size+fo,none⟩)) ⟨blk,off,xs.length,cap,md.size,hm,hlt,rfl⟩ ⟨blk,off,xs.length,cap,hview,h0,hlt',?_⟩;rw[hb'];rfl
theorem RH{C:Cx}{c:V}{vs:List Value}(h:eX C [c] vs):∃v,vs=[v]/\sQ C c v:=by obtain⟨v,r,rfl,h1,h2,h3⟩:=h;simp only[eX]at h3;subst h3;exact⟨v,rfl,h1⟩
theorem Nr(R:Rel X cl ch S m ok a w){off sz fo:Nat}{p:V}{x:Value}(hp:jI ⟨w.heap,ok,m⟩ p x){K:V->Cmd α}
  (hK:∀r y,jI ⟨w.heap,ok,m⟩ r y->Po w.heap x off sz fo y->(K r).post S Q):(l_ off sz fo p K).post S Q:=by
 unfold l_;split<;>try trivial
 .rename_i bx o;obtain⟨blk,hm,rfl⟩:=hp;refine aI ?_;split<;>try trivial
  rename_i cs hS;obtain⟨blk',arr,T,hm',hh,hl⟩:=R.own_cells hS;simp only at hm;rw[hm]at hm';cases hm';refine xY λhle=>?_;have hlen:=je hl;have e:=ik hh (o+off) 1 (by simp at hlen;omega);have hl1:=sW 1 (qV (o+off) hl);split<;>try trivial
  rename_i c hc;rw[hc]at hl1;obtain⟨u,hu,hr⟩:=RH hl1;rw[hu]at e;refine Uz R hr λr y h1 ⟨b,bo,n,k,h2,h3,h4,h5⟩=>hK r y h1 ⟨blk,o,b,bo,n,k,rfl,by rw[e,h2],h3,h4,h5⟩
 .rename_i t z o;obtain⟨blk,o',es,rfl,hb,he,hr⟩:=hp;refine xY λhle=>?_;rw[lw]at hle;have e:=xC he (o+off) 1 hle;have hl1:=sW 1 (qV (o+off) (nZ (C:=⟨w.heap,ok,m⟩) hr));split<;>try trivial
  rename_i c hc;rw[hc]at hl1;obtain⟨u,hu,hr⟩:=RH hl1;rw[hu]at e;refine Uz R hr λr y h1 ⟨b,bo,n,k,h2,h3,h4,h5⟩=>hK r y h1 ⟨blk,o' +o,b,bo,n,k,rfl,by rw[dH,e,h2],h3,h4,h5⟩
theorem a_{C:Cx} :∀{vs:List V} {xs:List Value} (k:Nat),fK C vs xs->a9Z vs k= .un\/∃x,xs[k]? =some x/\jI C (a9Z vs k) x
 |[],_,k,_=> .inl (by cases k<;>rfl)|v::r,_,0,⟨x,xr,e,h1,h2⟩=> .inr ⟨x,by subst e;rfl,h1⟩|v::r,_,k+1,⟨x,xr,e,h1,h2⟩=>by subst e;rw[List.getElem?_cons_succ];exact a_ k h2
theorem a5u(R:Rel X cl ch S m ok a w){all:List V}{xall:List Value}(hall:fK ⟨w.heap,ok,m⟩ all xall):∀(ms:List MG) {vs:List V} {xs:List Value} {K:Cmd α}
  (hv:fK ⟨w.heap,ok,m⟩ vs xs) (hK:a3P w.heap xall ms xs->K.post S Q),(dvC all ms vs K).post S Q:=by
 intro ms;induction ms with
 |nil=>
  intro vs xs K hv hK;cases vs with
  |nil=>exact hK trivial|cons v vs=>trivial
 |cons md ms ih=>
  intro vs xs K hv hK;obtain⟨g,md⟩:=md;cases vs with
  |nil=>cases md<;>trivial|cons v vs=>
   obtain⟨x,r,rfl,h1,h2⟩:=hv;cases md
   case dv k off sz fo=>
    unfold dvC;rcases a_ k hall with e|⟨p,hp,hr⟩
    .rw[e];trivial
    .refine Nr R hr λr0 y h3 h4=>?_;unfold b6Z;split<;>try trivial
     rename_i n i o n' i' o';refine bi λhb=>⟨λhi=>?_,λ_=>trivial⟩;simp only[A7]at hb;have e1:=fC hb.1;have e2:=fC hb.2;have e3:=fC hi;subst e1;subst e2;subst e3;obtain⟨b1,o1,l1,c1,s1,m1,_,rfl⟩:=h1;obtain⟨b2,o2,l2,c2,s2,m2,_,rfl⟩:=h3;simp only at m1 m2;rw[m1]at m2;cases m2;exact ih h2 λhd=>hK ⟨⟨p,hp,h4⟩,hd⟩
   all_goals
    unfold dvC;exact ih h2 λhd=>hK hd
theorem a5J{α β:Type}{f:α->β}{args:Array α}{u:β}(h:args.toList.map f=[u]):∃y,args=#[y]/\f y=u:=by obtain⟨l⟩:=args;simp only[List.map_eq_cons_iff,List.map_eq_nil_iff]at h;obtain⟨y,r,h1,h2,h3⟩:=h;subst h3;exact⟨y,by rw[h1],h2⟩
theorem UB{α β:Type}{f:α->β}{args:Array α}{u v:β}(h:args.toList.map f=[u,v]):∃y z,args=#[y,z]/\f y=u/\f z=v:=by obtain⟨l⟩:=args;simp only[List.map_eq_cons_iff,List.map_eq_nil_iff]at h;obtain⟨y,r,h1,h2,z,r',h3,h4,h5⟩:=h;subst h5;subst h3;exact⟨y,z,by rw[h1],h2,h4⟩
theorem b2o(H:FxOk X)(R:Rel X cl ch S m ok a w){c:Call}(ho:o.op= .call c)(hc:c.callee= .builtin .len):(aP X.E q o).post S (λ_ S' =>gI X cl ch o a w m ok S'):=by
 obtain⟨cal,args,ats⟩:=c;simp only at hc;subst hc;unfold aP;simp only[ho];refine jQ R _ λvs hvs=>?_;split<;>try trivial
 rename_i t rt x hat
 obtain⟨u,r,he,hx,hr⟩:=hvs;simp only[fK]at hr;subst hr;refine jF H λi hi=>?_;have htd:=hi.td;obtain⟨y,rfl,rfl⟩:=a5J he;have h0:ats[0]? =some t:=by
  obtain⟨l⟩:=ats;simp only at hat
  simp[hat]
 have fin:∀(v:V) (n:Nat),jI ⟨w.heap,ok,m⟩ v (.int .i64 n)->(Builtin.len_ ats o.type #[a.eval y]).run X.P w= .ok (.int .i64 n) w->(cO X.E o.dst v).post S (λ_ S' =>gI X cl ch o a w m ok S'):=λv n hv h=>
  aB H R hv (by simp[execOp,ho,resolve,invoke,builtin,h])
 have mapLen:∀{ke e n:Nat},X.P.underlying t=some (.map ke e)->(∃mv,a.eval y= .map mv/\(mv=none->n=0)/\∀blk,mv=some blk->∃es ck,w.heap[blk]? =some (.map es ck)/\es.size=n)->
   (cO X.E o.dst (.i .i64 n)).post S (λ_ S' =>gI X cl ch o a w m ok S'):=λ{ke e n} hu ⟨mv,hv,h1,h2⟩=>by
  refine fin _ n rfl ?_;cases mv with
  |none=>rw[h1 rfl];simp[Builtin.len_,h0,run_underlying hu,hv,goInt]|some blk=>obtain⟨es,ck,h3,h4⟩:=h2 blk rfl;simp[Builtin.len_,h0,run_underlying hu,hv,goInt,GX h3,h4]
 unfold b7a;split<;>try trivial
 .rename_i l htd';rw[htd']at htd;refine fin _ l.length rfl ?_;simp[Builtin.len_,h0,run_underlying (show X.P.underlying t=some .string from htd),JL hx,goInt];rfl
 .rename_i e u xs htd';rw[htd']at htd;cases hE0:u.isEnt
  .simp only[cond_false];obtain⟨ad,cap,hv,_⟩:=(xx hE0).1 hx;simp only[G7,and_true]at hv;refine fin _ xs.length rfl ?_;simp[Builtin.len_,h0,run_underlying (show X.P.underlying t=some (.slice e)from htd),hv,goInt]
  .trivial
 .rename_i ke e u xs htd';rw[htd']at htd;cases hE0:u.isEnt
  .trivial
  .simp only[cond_true];refine mapLen htd ?_;obtain⟨mv,hv,h1,h2⟩:=(a1u hE0).1 hx;exact⟨mv,by simpa using hv,(λe=>by simp[h1 e]),λblk hb=>by obtain⟨_,es,ck,h3,h4,_⟩:=h2 blk hb;exact⟨es,ck,h3,h4⟩⟩
 .rename_i ke e bx htd';rw[htd']at htd;obtain⟨loc,hm,hview⟩:=hx;simp only at hm;refine aI ?_;have key:∀{u:Ty} {xs:List u.den},u.isEnt=true->arrOk ⟨w.heap,ok,m⟩ u xs loc->(cO X.E o.dst (.i .i64 (o9 xs))).post S (λ_ S' =>gI X cl ch o a w m ok S'):=λ{u xs} hE0 ha=>by
   refine mapLen htd ?_;cases loc with
   |nil=>exact absurd ha.2 (by simp[hE0])|st b=>cases ha|arr blk off len cap sz=>exact absurd ha.1 (by simp[hE0])|mp b=>simp only[Loc.view]at hview;obtain⟨_,es,ck,h3,h4,_⟩:=ha;exact⟨some b,hview,(λh=>nomatch h),λblk hb=>by cases hb;exact⟨es,ck,h3,h4⟩⟩
  split<;>try trivial
  .rename_i u xs hS;obtain⟨loc',hm',ha⟩:=R.own_arr hS;rw[hm]at hm';cases hm';cases hE0:u.isEnt
   .trivial
   .exact key hE0 ha
  .rename_i u xs hS;obtain⟨loc',hm',ha,_⟩:=R.own_frz hS;rw[hm]at hm';cases hm';cases hE0:u.isEnt
   .trivial
   .exact key hE0 ha
 .rename_i e htd';rw[htd']at htd;have hv:a.eval y= .slice none 0 0:=hx;refine fin _ 0 rfl ?_;simp[Builtin.len_,h0,run_underlying (show X.P.underlying t=some (.slice e)from htd),hv,goInt]
 .rename_i e bx vw htd';rw[htd']at htd;obtain⟨loc,hm,hview⟩:=hx;refine aI ?_;split
  .rename_i ln sz' hSl;split<;>try trivial
   have hbx:=R.box (ML+bx);rw[hSl]at hbx;obtain⟨k',l',e',hm',hl⟩:=hbx;have e2:k' =bx:=o5;subst e2;simp only at hm hm';rw[hm]at hm';cases hm';cases loc with
   |nil=>simp only at hl;subst hl;simp only[Loc.view]at hview;refine fin _ 0 rfl ?_;simp[Builtin.len_,h0,run_underlying (show X.P.underlying t=some (.slice e)from htd),hview,goInt]|st b=>cases hl|mp b=>cases hl|arr blk off len cap sz2=>obtain⟨rfl,rfl⟩:=hl;simp only[Loc.view]at hview;refine fin _ len rfl ?_;simp[Builtin.len_,h0,run_underlying (show X.P.underlying t=some (.slice e)from htd),hview,goInt]
  refine aI ?_;have key:∀{u:Ty} {xs:List u.den},u.isEnt=false->arrOk ⟨w.heap,ok,m⟩ u xs loc->(cO X.E o.dst (.i .i64 (o9 (iI vw xs)))).post S (λ_ S' =>gI X cl ch o a w m ok S'):=λ{u xs} hE0 ha=>by obtain⟨ad,cap,hv,_⟩:=(xx hE0).1 (mG (C:=⟨w.heap,ok,m⟩) (ok' :=λ_ _=>True) ha hview (λ_ _ _=>trivial) (λ_ _=>trivial));simp only[G7,and_true]at hv;refine fin _ (iI vw xs).length rfl ?_;simp[Builtin.len_,h0,run_underlying (show X.P.underlying t=some (.slice e)from htd),hv,goInt]
  split<;>try trivial
  .rename_i u xs hS;obtain⟨loc',hm',ha⟩:=R.own_arr hS;simp only at hm;rw[hm]at hm';cases hm';cases hE0:u.isEnt
   .exact key hE0 ha
   .trivial
  .rename_i u xs hS;obtain⟨loc',hm',ha,_⟩:=R.own_frz hS;simp only at hm;rw[hm]at hm';cases hm';cases hE0:u.isEnt
   .exact key hE0 ha
   .trivial
  .rename_i md xs hole hS;split<;>try trivial
   obtain⟨hel,loc',Os,hm',⟨ha,hho⟩,hk⟩:=R.own_barrs hS;simp only at hm;rw[hm]at hm';cases hm';cases loc with
   |st b=>cases ha|mp b=>cases ha|nil=>obtain⟨e1,_⟩:=ha;subst e1;simp only[Loc.view]at hview;refine fin _ 0 rfl ?_;simp[Builtin.len_,h0,run_underlying (show X.P.underlying t=some (.slice e)from htd),hview,goInt]
   |arr blk off len cap sz' =>obtain⟨rfl,rfl,h3,_⟩:=ha;simp only[Loc.view]at hview;refine fin _ xs.length rfl ?_;simp[Builtin.len_,h0,run_underlying (show X.P.underlying t=some (.slice e)from htd),hview,goInt]
theorem Xl(H:FxOk X)(R:Rel X cl ch S m ok a w){c:Call}(ho:o.op= .call c)(hc:c.callee= .builtin .min\/c.callee= .builtin .max):(aP X.E q o).post S (λ_ S' =>gI X cl ch o a w m ok S'):=by
 obtain⟨cal,args,ats⟩:=c;simp only at hc;rcases hc with rfl|rfl
 all_goals
  unfold aP;simp only[ho];refine jQ R _ λvs hvs=>?_;split<;>try trivial
  rename_i k p k' r;obtain⟨u,r',he,hx,v,r'',he',hy,hr⟩:=hvs;simp only[fK]at hr;subst hr;rw[he']at he;refine bi λhk=>?_;have hk' :k=k' :=of_decide_eq_true hk;subst hk';obtain⟨y,z,rfl,rfl,rfl⟩:=UB he
 .refine aB H R (v:=.i k (xk p r)) rfl ?_;simp[execOp,ho,resolve,invoke,builtin,Builtin.min_,Builtin.min2,qX hx,qX hy,xk]
 .refine aB H R (v:=.i k (rF p r)) rfl ?_;simp[execOp,ho,resolve,invoke,builtin,Builtin.max_,Builtin.max2,qX hx,qX hy,rF]
end
end Go.GP
namespace Go.GP
def Bnd(d:Int)(o:Option Value)(n:Int):Prop:=(o=none/\n=d)\/∃k,o=some (.int k n)
theorem Dw{P:Program}{w:World}{isS:Bool}{len cap:Nat}{lo hi:Option Value}{x y:Int}(hlo:Bnd 0 lo x)(hhi:Bnd len hi y)(h0:0<=x)(h1:x<=y)(h2:y<=len)(hc:len<=cap):
  (Instr.sliceBounds isS len cap lo hi none).run P w= .ok (x.toNat,y.toNat,cap) w:=by
 have hyc:y<=cap:=o5;have hy0:0<=y:=o5;have e:((y.toNat:Nat):Int)=y:=o5;rcases hlo with⟨rfl,rfl⟩|⟨k,rfl⟩<;>rcases hhi with⟨rfl,rfl⟩|⟨k',rfl⟩
 .simp[Instr.sliceBounds]
 .simp[Instr.sliceBounds,Instr.sliceBound,asIntOf,hy0,hyc]
 .simp[Instr.sliceBounds,Instr.sliceBound,asIntOf,h0,h1]
 .simp[Instr.sliceBounds,Instr.sliceBound,asIntOf,hy0,hyc,h0,e,h1]
theorem Xg{α:Type}{l r:List α}{x y:Int}(h:iQ l x y=some r):0<=x/\x<=y/\y<=l.length/\r=(l.take y.toNat).drop x.toNat:=by
 unfold iQ at h;split at h
 .rename_i hh;cases h;exact⟨hh.1,hh.2.1,hh.2.2,rfl⟩
 .cases h
theorem VR(l:List UInt8)(x y:Nat):(⟨l.toArray⟩:ByteArray).extract x y=⟨((l.take y).drop x).toArray⟩:=by apply ByteArray.ext;apply jm;simp[ByteArray.data_extract,kQ,gp]
theorem b0t{h:Array Obj}{ok:Nat->Ty->Prop}{t:Ty}(ht:t.isEnt=false){xs:List t.den}{ad:Option Addr}{cap:Nat}{x y:Nat}(hr:jJ h ok (.sl t) xs [.slice ad xs.length cap])(h1:x<=y)(h2:y<=xs.length):
  jJ h ok (.sl t) ((xs.take y).drop x) [.slice (if cap=x then ad else ad.map (·.add (x*t.size))) (y -x) (cap -x)]:=by
 obtain⟨ad',cap',e,hc,hel⟩:=(xx ht).1 hr;simp only[G7,nK,and_true,true_and]at e;obtain⟨rfl,rfl⟩:=e;have hl:((xs.take y).drop x).length=y -x:=by simp;omega
 refine(xx ht).2 ⟨_,cap -x,by rw[hl],by rw[hl];omega,λi z hz=>?_⟩;have hi:i<y -x:=by rw[←hl];exact(aK.1 hz).1
 have hz' :xs[x+i]? =some z:=by
  simp only[S9,U7]at hz;split at hz
  .exact hz
  .cases hz
 obtain⟨blk,off,es,rfl,hb,he,hrp⟩:=hel _ z hz';have hne:cap≠x:=o5;refine⟨blk,off+x*t.size,es,by simp[hne,fJ],hb,?_,hrp⟩;rw[←he];congr 1;rw[I9];omega
section
variable {X:Fx} {cl ch:Nat} {S:Sm} {m:Mp} {ok:Nat->Ty->Prop} {a:Act} {w:World} {o:Oper}
theorem uf{C:Cx}{d n:Int}{v:Option V}{u:Option Value}(h:zu d v=some n)(hr:(v=none/\u=none)\/∃c x,v=some c/\u=some x/\jI C c x):Bnd d u n:=by
 rcases hr with⟨rfl,rfl⟩|⟨c,x,rfl,rfl,hr⟩
 .simp[zu]at h;subst h;exact .inl ⟨rfl,rfl⟩
 .cases c<;>simp[zu]at h;subst h;exact .inr ⟨_,by rw[qX hr]⟩
theorem EI(H:FxOk X)(R:Rel X cl ch S m ok a w){t:TypeId}{x:V}{u:Value}{lo hi:Option V}{lv hv:Option Value}(hx:jI ⟨w.heap,ok,m⟩ x u)
  (hlo:(lo=none/\lv=none)\/∃c y,lo=some c/\lv=some y/\jI ⟨w.heap,ok,m⟩ c y) (hhi:(hi=none/\hv=none)\/∃c y,hi=some c/\hv=some y/\jI ⟨w.heap,ok,m⟩ c y)
  {K:V->Cmd Unit} {Q:Unit->Sm->Prop} (hK:∀v z,jI ⟨w.heap,ok,m⟩ v z->(Instr.sliceAt t u lv hv none).run X.P w= .ok z w->(K v).post S Q):(Qx X.E t x lo hi K).post S Q:=by
 unfold Qx;cases x<;>try trivial
 case s l=>
  refine jF H λi hi' =>?_;have htd:=hi'.td;split<;>try trivial
  rename_i p q htd' hp hq;rw[htd']at htd;refine dI λr hr=>?_;obtain⟨h0,h1,h2,rfl⟩:=Xg hr;have hb:=Dw (P:=X.P) (w:=w) (isS:=false) (cap:=l.length) (uf hp hlo) (uf hq hhi) h0 h1 h2 (E9 _);refine hK (.s _) (.string ⟨((l.take q.toNat).drop p.toNat).toArray⟩) rfl ?_;have hus:X.P.underlying t=some .string:=htd;have hs:(⟨l.toArray⟩:ByteArray).size=l.length:=rfl;simp[Instr.sliceAt,run_underlying hus,Instr.slice,JL hx,hs,hb,VR]
 case sl v l=>
  dsimp only;split<;>try trivial
  rename_i n sz p q hsz hp hq;obtain⟨e,j,hut,hj,hjs⟩:=GI H hsz;refine bi λhbq=>dI λr hr=>?_;obtain⟨hE0,hbq'⟩:=Aq hbq;obtain⟨h0,h1,h2,rfl⟩:=Xg hr;have hx' :jJ w.heap ok (.sl v) l [u]:=hx;obtain⟨ad,cap,hu,hc,_⟩:=(xx hE0).1 hx';simp only[G7,and_true]at hu;subst hu;have hb:=Dw (P:=X.P) (w:=w) (isS:=true) (cap:=cap) (uf hp hlo) (uf hq hhi) h0 h1 h2 hc;refine hK (.sl v _) _ (b0t hE0 (x:=p.toNat) (y:=q.toNat) hx' o5 o5) ?_;simp[Instr.sliceAt,run_underlying hut,Instr.slice,hb,oO hj,hjs,hbq']
 case own bx vw=>
  cases vw with
  |some _=>trivial|none=>
  obtain⟨loc,hm,hview⟩:=hx;refine aI ?_;have key:∀{v:Ty} {xs:List v.den} {n sz:Nat} {p q:Int},arrOk ⟨w.heap,ok,m⟩ v xs loc->GH X.E t=some (false,n,sz)->zu 0 lo=some p->zu (o9 xs) hi=some q->
    (bif szB sz v then Cmd.br (jE p q (o9 xs)) (K (.own bx (some (X4 p,X4 q)))) .fail else .fail).post S Q:=λ{v xs n sz p q} ha hsz hp hq=>by
   obtain⟨e,j,hut,hj,hjs⟩:=GI H hsz;refine bi λhbq=>⟨λhr=>?_,λ_=>trivial⟩;obtain⟨hE0,hbq'⟩:=Aq hbq;have hr' :=of_decide_eq_true (show decide (0<=p/\p<=q/\q<=o9 xs)=true from hr);obtain⟨h0,h1,h2⟩:=hr';have h2' :q<=(xs.length:Int):=h2;cases loc with
   |st b=>cases ha|mp b=>exact absurd ha.1 (by simp[hE0])|nil=>
    obtain⟨ha,_⟩:=ha;subst ha;simp only[Loc.view]at hview;subst hview;have h2'' :q<=((0:Nat):Int):=by simpa using h2'
    have hb:=Dw (P:=X.P) (w:=w) (isS:=true) (len:=0) (cap:=0) (uf hp hlo) (by have:=uf hq hhi;simpa[o9]using this) h0 h1 h2'' (E9 _);have ep:p=0:=o5;have eq:q=0:=o5;subst ep;subst eq;refine hK (.own bx (some (X4 0,X4 0))) (.slice none 0 0) ⟨.nil,hm,rfl,rfl,rfl⟩ ?_;simp[Instr.sliceAt,run_underlying hut,Instr.slice,hb,oO hj]
   |arr blk off len cap sz' =>
    obtain⟨_,rfl,rfl,hc,_⟩:=ha;simp only[Loc.view]at hview;subst hview;have hb:=Dw (P:=X.P) (w:=w) (isS:=true) (cap:=cap) (uf hp hlo) (uf hq hhi) h0 h1 h2' hc;refine hK (.own bx (some (X4 p,X4 q))) _ ⟨_,hm,by unfold X4;omega,by unfold X4;omega,rfl⟩ ?_;have e1:(if cap=p.toNat then some (⟨blk,off,none⟩:Addr)else some ⟨blk,off+p.toNat*v.size,none⟩)=some (if cap=p.toNat then⟨blk,off,none⟩else⟨blk,off+p.toNat*v.size,none⟩):=by split<;>rfl
    simp[Instr.sliceAt,run_underlying hut,Instr.slice,hb,oO hj,hjs,hbq',fJ,X4,e1];by_cases ecp:cap=p.toNat<;>simp[ecp]
  split<;>try trivial
  .rename_i v xs hS;obtain⟨loc',hm',ha⟩:=R.own_arr hS;simp only at hm;rw[hm]at hm';cases hm';split<;>try trivial
   rename_i n sz p q hsz hp hq;exact key ha hsz hp hq
  .rename_i v xs hS;obtain⟨loc',hm',ha,_⟩:=R.own_frz hS;simp only at hm;rw[hm]at hm';cases hm';split<;>try trivial
   rename_i n sz p q hsz hp hq;exact key ha hsz hp hq
theorem a4D(H:FxOk X)(R:Rel X cl ch S m ok a w){t:TypeId}{x:Operand}{lo hi:Option Operand}{q:Nat}(ho:o.op= .slice t x lo hi none)
  (hA:∀bx,lo=none->hi=none->jI ⟨w.heap,ok,m⟩ (.ptr bx 0) (a.eval x)->(Vz X.E (N7 q o.dst) t bx λr=>cO X.E o.dst r).post S (λ_ S' =>gI X cl ch o a w m ok S')):(aP X.E q o).post S (λ_ S' =>gI X cl ch o a w m ok S'):=by
 unfold aP;simp only[ho];refine Z8 R λv hv=>jQ R _ λbs hbs=>?_;split<;>try trivial
 .split
  .exact hA _ rfl rfl hv
  refine EI H R (lv:=none) (hv:=none) hv (.inl ⟨rfl,rfl⟩) (.inl ⟨rfl,rfl⟩) λr z hr hz=>aB H R hr ?_;simp[execOp,ho,hz]
 .rename_i l c;obtain⟨y,r,he,h1,h2⟩:=hbs;simp only[fK]at h2;subst h2;simp at he;subst he;refine EI H R (lv:=some (a.eval l)) (hv:=none) hv (.inr ⟨_,_,rfl,rfl,h1⟩) (.inl ⟨rfl,rfl⟩) λr z hr hz=>aB H R hr ?_;simp[execOp,ho,hz]
 .rename_i h c;obtain⟨y,r,he,h1,h2⟩:=hbs;simp only[fK]at h2;subst h2;simp at he;subst he;refine EI H R (lv:=none) (hv:=some (a.eval h)) hv (.inl ⟨rfl,rfl⟩) (.inr ⟨_,_,rfl,rfl,h1⟩) λr z hr hz=>aB H R hr ?_;simp[execOp,ho,hz]
 .rename_i l h c d;obtain⟨y,r,he,h1,y',r',he',h2,h3⟩:=hbs;simp only[fK]at h3;subst h3;subst he';simp at he;obtain⟨rfl,rfl⟩:=he;refine EI H R (lv:=some (a.eval l)) (hv:=some (a.eval h)) hv (.inr ⟨_,_,rfl,rfl,h1⟩) (.inr ⟨_,_,rfl,rfl,h2⟩) λr z hr hz=>aB H R hr ?_;simp[execOp,ho,hz]
end
end Go.GP
namespace Go.GP
def cu(h:Array Obj)(ok:Nat->Ty->Prop)(t:Ty)(xs:List t.den)(cs:List Value):Prop:=
 cs.length=xs.length*t.size/\∀i x,xs[i]? =some x->jJ h ok t x ((cs.drop (i*t.size)).take t.size)
variable {h:Array Obj}{ok:Nat->Ty->Prop}{t:Ty}
theorem cu.nil :cu h ok t [] []:=⟨A8,λi x hi=>by simp at hi⟩
theorem cu.append{xs ys:List t.den}{cs ds:List Value}(hx:cu h ok t xs cs)(hy:cu h ok t ys ds):cu h ok t (xs++ys) (cs++ds):=by
 refine⟨by simp[hx.1,hy.1,I9],λi x hi=>?_⟩;by_cases hlt:i<xs.length
 .rw[U4 hlt]at hi;have h1:=hx.2 i x hi;have hle:(i+1)*t.size<=cs.length:=by rw[hx.1];exact G8 _ o5
  rw[I9,Z7]at hle;rw[List.drop_append_of_le_length o5,Y7 F5];exact h1
 .rw[I8 o5]at hi;have h1:=hy.2 _ x hi;have hle:cs.length<=i*t.size:=by rw[hx.1];exact G8 _ o5
  rw[List.drop_append,bz hle,J3];have:i*t.size -cs.length=(i -xs.length)*t.size:=by rw[hx.1,Nat.sub_mul]
  rw[this];exact h1
variable {cs:List Value}{x:t.den}
theorem cu.one(hr:jJ h ok t x cs):cu h ok t [x] cs:=by
 refine⟨by simp[dJ hr],λi y hi=>?_⟩;have:i=0:=by have:=(aK.1 hi).1;simp at this;exact this
 subst this;simp at hi;subst hi;have:(List.drop (0*t.size) cs).take t.size=cs:=by simp[←dJ hr]
 rw[this];exact hr
variable {xs:List t.den}
theorem cu.mono{h h' :Array Obj}{ok ok' :Nat->Ty->Prop}(hok:∀b t,ok b t->ok' b t)(hh:∀b t,ok b t->h'[b]? =h[b]?)(hr:cu h ok t xs cs):cu h' ok' t xs cs:=
 ⟨hr.1,λi x hi=>dK hok hh (hr.2 i x hi)⟩
theorem cu.rep_all{h:Array Obj}{ok:Nat->Ty->Prop}{t:Ty}{x:t.den}{cs:List Value}(hr:jJ h ok t x cs):∀n,cu h ok t (List.replicate n x) ((List.replicate n cs).flatten)
 |0=>by simpa using cu.nil|n+1=>by have:=(cu.one hr).append (cu.rep_all hr n);simpa[List.replicate_succ]using this
theorem cu.one_cell{h:Array Obj}{ok:Nat->Ty->Prop}{t:Ty} :∀{xs:List t.den} {cs:List Value},cu h ok t xs cs->∀v∈cs,v.oneCell' =true
 |[],cs,hr=>by have:=hr.1;simp at this;simp[this]|x::xs,cs,hr=>by
  intro v hv;have h0:=hr.2 0 x rfl;simp only[Nat.zero_mul,jY]at h0;have hl:=hr.1;simp only[H5,I9,Z7]at hl;have hrest:cu h ok t xs (cs.drop t.size):=by refine⟨by simp;omega,λi y hi=>?_⟩;have:=hr.2 (i+1) y (by simpa using hi);rw[X8];rwa[show t.size+i*t.size=(i+1)*t.size by rw[I9];omega]
  rw[←iD t.size cs]at hv;rcases N8.1 hv with hv|hv
  .exact uI h0 v hv
  .exact cu.one_cell hrest v hv
variable {blk:Nat}{off:Nat}{cap:Nat}{C:Cx}
theorem cu.arrOk(h0:t.isEnt=false)(hr:cu C.h C.ok t xs cs){c:Array Value}{T:TypeId}{f:Nat×Nat}(hb:C.h[blk]? =some (.cells c T f))(hz:fzo t c.size f)
  (hcap:xs.length<=cap) (hfit:off+cap*t.size<=c.size) (he:(c.toList.drop off).take (xs.length*t.size)=cs):Go.GP.arrOk C t xs (.arr blk off xs.length cap t.size):=by
 refine⟨h0,rfl,rfl,hcap,c,T,f,hb,hz,hfit,λi x hi=>?_⟩;have hlt:=(aK.1 hi).1;have hle:(i+1)*t.size<=xs.length*t.size:=G8 _ o5;rw[I9,Z7]at hle;have hle2:xs.length*t.size<=cap*t.size:=G8 _ hcap;refine⟨_,ik hb _ _ o5,?_⟩;have h1:=hr.2 i x hi;rw[←he,gp,fE,X8]at h1;rwa[bT o5]at h1
theorem Px{blk off len cap sz:Nat}(h:arrOk C t xs (.arr blk off len cap sz)):
  ∃c T f,C.h[blk]? =some (.cells c T f)/\fzo t c.size f/\sz=t.size/\len=xs.length/\len<=cap/\off+cap*sz<=c.size/\cu C.h C.ok t xs ((c.toList.drop off).take (len*sz)):=by
 obtain⟨_,rfl,rfl,h3,c,T,f,hb,hz,hf,hx⟩:=h;refine⟨c,T,f,hb,hz,rfl,rfl,h3,hf,?_,λi x hi=>?_⟩
 .have:xs.length*t.size<=cap*t.size:=G8 _ h3;simp;omega
 .obtain⟨es,he,hr⟩:=hx i x hi;obtain⟨c',T',f',hb',hn',rfl⟩:=oz he;rw[hb]at hb';cases hb';have hlt:=(aK.1 hi).1;have hle:(i+1)*t.size<=xs.length*t.size:=G8 _ o5;rw[I9,Z7]at hle;rw[gp,fE,X8,bT o5];exact hr
def uP(h:Array Obj)(ok:Nat->Ty->Prop)(m:M)(xs:List m.den)(cs:List Value)(Os:List (List Nat)):Prop:=
 cs.length=xs.length*m.size/\Os.length=xs.length/\∀i x,xs[i]? =some x->∃O,Os[i]? =some O/\nP h ok m none x ((cs.drop (i*m.size)).take m.size) O
theorem uP.nil{m:M} :uP h ok m [] [] []:=⟨A8,rfl,λi x hi=>by simp at hi⟩
theorem uP.append{t:M}{xs ys:List t.den}{cs ds:List Value}{Os Ps:List (List Nat)}(hx:uP h ok t xs cs Os)(hy:uP h ok t ys ds Ps):uP h ok t (xs++ys) (cs++ds) (Os++Ps):=by
 refine⟨by simp[hx.1,hy.1,I9],by simp[hx.2.1,hy.2.1],λi x hi=>?_⟩;by_cases hlt:i<xs.length
 .rw[U4 hlt]at hi;obtain⟨O,hO,h1⟩:=hx.2.2 i x hi;have hle:(i+1)*t.size<=cs.length:=by rw[hx.1];exact G8 _ o5
  rw[I9,Z7]at hle;rw[List.drop_append_of_le_length o5,Y7 F5];exact⟨O,by rw[U4 (by rw[hx.2.1];exact hlt)];exact hO,h1⟩
 .rw[I8 o5]at hi;obtain⟨O,hO,h1⟩:=hy.2.2 _ x hi;have hle:cs.length<=i*t.size:=by rw[hx.1];exact G8 _ o5
  rw[List.drop_append,bz hle,J3];have:i*t.size -cs.length=(i -xs.length)*t.size:=by rw[hx.1,Nat.sub_mul]
  rw[this];exact⟨O,by rw[I8 (by rw[hx.2.1];omega),hx.2.1];exact hO,h1⟩
theorem uP.one{t:M}{x:t.den}{O:List Nat}(hr:nP h ok t none x cs O):uP h ok t [x] cs [O]:=by
 refine⟨by simp[aW hr],rfl,λi y hi=>?_⟩;have:i=0:=by have:=(aK.1 hi).1;simp at this;exact this
 subst this;simp at hi;subst hi;have:(List.drop (0*t.size) cs).take t.size=cs:=by simp[←aW hr]
 rw[this];exact⟨O,rfl,hr⟩
variable {Os:List (List Nat)}
theorem uP.mono{h h' :Array Obj}{ok ok' :Nat->Ty->Prop}{t:M}{xs:List t.den}(hok:∀b t,ok b t->ok' b t)(hh:∀b t,ok b t->h'[b]? =h[b]?)(hO:∀b∈Os.flatten,h'[b]? =h[b]?)(hr:uP h ok t xs cs Os):uP h' ok' t xs cs Os:=
 ⟨hr.1,hr.2.1,λi x hi=>by obtain⟨O,h1,h2⟩:=hr.2.2 i x hi;exact⟨O,h1,ji hok hh (λb hb=>hO b (bW.2 ⟨O,rH h1,hb⟩)) h2⟩⟩
theorem uP.rep_all{h:Array Obj}{ok:Nat->Ty->Prop}{t:M}{x:t.den}{cs:List Value}(hr:nP h ok t none x cs []):∀n,uP h ok t (List.replicate n x) ((List.replicate n cs).flatten) (List.replicate n [])
 |0=>by simpa using uP.nil|n+1=>by have:=(uP.one hr).append (uP.rep_all hr n);simpa[List.replicate_succ]using this
theorem uP.one_cell{h:Array Obj}{ok:Nat->Ty->Prop}{t:M} :∀{xs:List t.den} {cs:List Value} {Os:List (List Nat)},uP h ok t xs cs Os->∀v∈cs,v.oneCell' =true
 |[],cs,_,hr=>by have:=hr.1;simp at this;simp[this]|x::xs,cs,Os,hr=>by
  intro v hv;obtain⟨O,hO,h0⟩:=hr.2.2 0 x rfl;simp only[Nat.zero_mul,jY]at h0;have hl:=hr.1;simp only[H5,I9,Z7]at hl;have hl2:=hr.2.1;simp only[H5]at hl2;have hrest:uP h ok t xs (cs.drop t.size) (Os.drop 1):=by refine⟨by simp;omega,by simp;omega,λi y hi=>?_⟩;obtain⟨O',hO',this⟩:=hr.2.2 (i+1) y (by simpa using hi);rw[X8];refine⟨O',by rw[S9,Nat.add_comm];exact hO',?_⟩;rwa[show t.size+i*t.size=(i+1)*t.size by rw[I9];omega]
  rw[←iD t.size cs]at hv;rcases N8.1 hv with hv|hv
  .exact mW h0 v hv
  .exact uP.one_cell hrest v hv
theorem uP.arrs{t:M}{xs:List t.den}(hr:uP h ok t xs cs Os){c:Array Value}{T:TypeId}(hb:h[blk]? =some (.cells c T (0,0)))
  (hcap:xs.length<=cap) (hfit:off+cap*t.size<=c.size) (he:(c.toList.drop off).take (xs.length*t.size)=cs):Aw h t.size (λ_ x es O=>nP h ok t none x es O) xs Os (.arr blk off xs.length cap t.size):=by
 refine⟨rfl,rfl,hcap,hr.2.1,c,T,hb,hfit,λi x hi=>?_⟩;have hlt:=(aK.1 hi).1;have hle:(i+1)*t.size<=xs.length*t.size:=G8 _ o5;rw[I9,Z7]at hle;have hle2:xs.length*t.size<=cap*t.size:=G8 _ hcap;obtain⟨O,hO,h1⟩:=hr.2.2 i x hi;refine⟨_,O,hO,ik hb _ _ o5,?_⟩;rw[←he,gp,fE,X8]at h1;rwa[bT o5]at h1
theorem Zl{t:M}{xs:List t.den}{blk off len cap sz:Nat}(k:Aw h t.size (λ_ x es O=>nP h ok t none x es O) xs Os (.arr blk off len cap sz)):
  ∃c T,h[blk]? =some (.cells c T (0,0))/\sz=t.size/\len=xs.length/\len<=cap/\off+cap*sz<=c.size/\uP h ok t xs ((c.toList.drop off).take (len*sz)) Os:=by
 obtain⟨rfl,rfl,h3,h7,c,T,hb,hf,hx⟩:=k;refine⟨c,T,hb,rfl,rfl,h3,hf,?_,h7,λi x hi=>?_⟩
 .have:xs.length*t.size<=cap*t.size:=G8 _ h3;simp;omega
 .obtain⟨es,O,hO,he,hr⟩:=hx i x hi;obtain⟨c',T',f',hb',hn',rfl⟩:=oz he;rw[hb]at hb';cases hb';have hlt:=(aK.1 hi).1;have hle:(i+1)*t.size<=xs.length*t.size:=G8 _ o5;rw[I9,Z7]at hle;rw[gp,fE,X8,bT o5];exact⟨O,hO,hr⟩
theorem a5n{α β:Type}(e:α=β)(e' :List α=List β):cast e' []=[]:=by subst e;rfl
theorem VO{h:Array Obj}{ok:Nat->Ty->Prop}{C:Cx} :∀(m:M) (he:m.el=true) {zs:List V} {cs r:List Value},jJ h ok m.ty m.ty.zero cs->eX C zs (cs++r)->Rt m zs=true->nP h ok m none (m.zero he) cs []
 | .dat t,_,_,_,_,hr,_,_=>⟨hr,rfl⟩| .unit,_,_,_,_,hr,_,_=>⟨hr,rfl⟩| .own t,he,zs,cs,r,hr,hz,hn=>by
  have ht:t.isEnt=false:=by simpa[M.el]using he
  obtain⟨a,cap,rfl,_⟩:=(xx ht).1 hr;unfold Rt at hn;split at hn
  .obtain⟨v,r',e,h1,_⟩:=hz;simp only[Z4,J3,G7]at e;obtain⟨rfl,rfl⟩:=e;exact⟨_,rfl,rfl,.nil,h1,⟨rfl,ht⟩,rfl⟩
  .cases hn
 | .owns t,he,zs,cs,r,hr,hz,hn=>by
  obtain⟨a,cap,rfl,_⟩:=(xx (M.ty_ent (m:=t) (by simpa[M.el]using he))).1 hr;unfold Rt at hn;split at hn
  .obtain⟨v,r',e,h1,_⟩:=hz;simp only[Z4,J3,G7]at e;obtain⟨rfl,rfl⟩:=e;have he' :t.el=true:=by simpa[M.el]using he
   refine xW.2 ⟨he',.nil,_,[],rfl,h1,⟨?_,rfl⟩,rfl⟩;exact a5n (M.denEq t he').symm _
  .cases hn
 | .pair p q,he,zs,cs,r,hr,hz,hn=>by
  obtain⟨c,d,rfl,h1,h2⟩:=hr;have he' :p.el=true/\q.el=true:=by simpa[M.el]using he
  have hp:=dJ h1;rw[M.ty_size he'.1]at hp;unfold Rt at hn;split at hn
  .rename_i r' hd;obtain⟨_,rfl⟩:=Ue _ _ _ hd;cases hb:Rt p zs<;>rw[hb]at hn
   .cases hn
   .have a1:=VO p he'.1 (r:=d++r) h1 (by simpa using hz) hb;have hz' :=qV p.size hz;rw[show(c++d++r).drop p.size=d++r by rw[←hp,E5,List.drop_left]]at hz';have a2:=VO q he'.2 (r:=r) h2 hz' hn;refine⟨c,d,[],[],rfl,rfl,?_,?_⟩
    .have:=PD (M.denEq p he'.1).symm (M.denEq q he'.2).symm (M.denEq (.pair p q) he).symm (p.ty.zero,q.ty.zero);exact(congrArg (λz:p.den×q.den=>nP h ok p none z.1 c []) this).mpr a1
    .have:=PD (M.denEq p he'.1).symm (M.denEq q he'.2).symm (M.denEq (.pair p q) he).symm (p.ty.zero,q.ty.zero);exact(congrArg (λz:p.den×q.den=>nP h ok q none z.2 d []) this).mpr a2
  .cases hn
 | .box _,he,_,_,_,_,_,_=>by simp[M.el]at he| .ownb _,he,_,_,_,_,_,_=>by simp[M.el]at he| .cell _,he,_,_,_,_,_,_=>by simp[M.el]at he| .fr _,he,_,_,_,_,_,_=>by simp[M.el]at he| .sbx _ _,he,_,_,_,_,_,_=>by simp[M.el]at he| .lp _,he,_,_,_,_,_,_=>by simp[M.el]at he| .dv ..,he,_,_,_,_,_,_=>by simp[M.el]at he| .sit,he,_,_,_,_,_,_=>by simp[M.el]at he| .rp _,he,_,_,_,_,_,_=>by simp[M.el]at he| .fn _ _,he,_,_,_,_,_,_=>by simp[M.el]at he| .ifc _ _,he,_,_,_,_,_,_=>by simp[M.el]at he
theorem JB(z:Array Value):∀n,(madeCells z (n*z.size)).toList=(List.replicate n z.toList).flatten:=by
 intro n;rcases gX z.size with h0|h0
 .have:z=#[]:=by simpa using h0
  subst this;simp[madeCells]
 induction n with
 |zero=>simp[madeCells]|succ n ih=>
  rw[oZ,jk,←ih];simp only[madeCells,kD,Array.toList_range,List.flatten_cons,List.flatten_nil,H6];rw[I9,Z7,List.range_add,eQ,List.map_map];congr 1;apply kE
  .simp
  .intro i h1 h2;simp at h1 h2;simp[Nat.mod_eq_of_lt h1,Nat.add_mod,h1,getElem!_pos]
theorem CE{E:Env}{t e:Nat}{u:Ty}(h:AA E t=some (e,u)):u.isEnt=false:=by
 unfold AA at h;split at h<;>try (cases h;done)
 split at h<;>try (cases h;done)
 split at h<;>try (cases h;done)
 split at h<;>try (cases h;done)
 rename_i u' _;cases hu:u'.isEnt
 .revert h;generalize (Nat.beq _ _&&Nat.ble _ _)=b;cases b<;>simp[hu];rintro _ rfl;exact hu
 .simp[hu]at h
theorem uq{X:Fx}(H:FxOk X){t e:Nat}{u:Ty}(h:AA X.E t=some (e,u)):
  ∃j z inf,X.P.underlying t=some (.slice e)/\TiOk X.P e j/\X.P.info? e=some inf/\inf.size=u.size/\j.size=u.size/\inf.bytes<=65536/\inf.zero=some z/\jJ #[] (λ_ _=>False) u u.zero z.cells.toList:=by
 unfold AA at h;cases hi:bK X.E.tt t with
 |none=>simp[hi]at h|some i=>
  have htd:=(H.tt t i hi).td;simp only[hi]at h;cases hd:i.td<;>simp only[hd]at h<;>try (simp at h;done)
  rename_i e';rw[hd]at htd;cases hj:bK X.E.tt e' with
  |none=>simp[hj]at h|some j=>
   simp only[hj]at h;cases hy:j.ty with
   |none=>simp[hy]at h|some u' =>
    simp only[hy]at h;cases hb:(Nat.beq u'.size j.size&&Nat.ble j.bytes 65536&&!u'.isEnt)
    .simp only[hb,cond_false]at h;cases h
    .simp only[hb,cond_true,F6,jq]at h;obtain⟨rfl,rfl⟩:=h;simp only[A7]at hb;have h1:=fC hb.1.1;have h2:=V9 hb.1.2;obtain⟨inf,a1,a2,a3,a4,a5⟩:=(H.tt e' j hj).info;obtain⟨b1,z,b2,b3⟩:=a5 u' hy;exact⟨j,z,inf,htd,H.tt _ _ hj,a1,o5,o5,o5,b2,b3⟩
variable {q:Nat}{w1:World}{T:List Nat}
section
variable {X:Fx} {cl ch:Nat} {S:Sm} {m:Mp} {ok:Nat->Ty->Prop} {a:Act} {w:World} {o:Oper}
theorem Xv(h:jJ #[] (λ_ _=>False) t x cs):jJ C.h C.ok t x cs:=
 dK (λ_ _ h=>h.elim) (λ_ _ h=>h.elim) h
theorem Df(H:FxOk X){v vv:V}{Q:Unit->Sm->Prop}
  (hK:∀n,n=N7 q o.dst->CB*q<=n->n+64<=CB*q+CB->S (Y4+n)= .undef->(cO X.E o.dst vv).post (upd S (Y4+n) v) Q):
  (tH (N7 q o.dst) v (cO X.E o.dst vv)).post S Q:=by
 refine pK λhn=>?_;cases hd:o.dst with
 |none=>have hin:=qg H (q:=q) none (λt h=>by cases h);rw[hd]at hn;have:=hK (N7 q none) (by rw[hd]) hin.1 hin.2 hn;rwa[hd]at this|some t=>
  cases hb:Xj X.E t with
  |false=>unfold cO;simp only[hb,cond_false];trivial|true=>have hin:=qg H (q:=q) (some t) (λt' h=>by cases h;exact(zH hb).1);rw[hd]at hn;have:=hK (N7 q (some t)) (by rw[hd]) hin.1 hin.2 hn;rwa[hd]at this
theorem a4r(H:FxOk X){v vv u:V}{Q:Unit->Sm->Prop}
  (hK:∀n,n=N7 q o.dst->CB*q<=n->n+64<=CB*q+CB->S (Y4+n)= .undef->(Cmd.set (Y4+(ML+n)) u (cO X.E o.dst vv)).post (upd S (Y4+n) v) Q):
  (tH (N7 q o.dst) v (.set (Y4+(ML+N7 q o.dst)) u (cO X.E o.dst vv))).post S Q:=by
 refine pK λhn=>?_;cases hd:o.dst with
 |none=>have hin:=qg H (q:=q) none (λt h=>by cases h);rw[hd]at hn;have:=hK (N7 q none) (by rw[hd]) hin.1 hin.2 hn;rwa[hd]at this|some t=>
  cases hb:Xj X.E t with
  |false=>refine fQ ?_;unfold cO;simp only[hb,cond_false];trivial|true=>have hin:=qg H (q:=q) (some t) (λt' h=>by cases h;exact(zH hb).1);rw[hd]at hn;have:=hK (N7 q (some t)) (by rw[hd]) hin.1 hin.2 hn;rwa[hd]at this
theorem a1a(R:Rel X cl ch S m ok a w)(hos:w1.os=w.os)(htp:w1.tape=w.tape)(hout:w1.output=w.output)(hh:w1.heap=w.heap)
  {u:Ty} (ht:u.isEnt=false) {xs:List u.den} {cs:List Value} {e:TypeId} {c:Array Value} {cap n:Nat} (hr:cu w.heap ok u xs cs)
  (hcap:xs.length<=cap) (hfit:cap*u.size<=c.size) (he:c.toList.take (xs.length*u.size)=cs) (hcl:cl<=n) (hch:n<ch) (hn:S (Y4+n)= .undef) {f:Nat×Nat} (hz:fzo u c.size f):
  Rel X cl ch (upd S (Y4+n) (.barr u xs)) (kU m n (.arr w.heap.size 0 xs.length cap u.size) []) ok a (w1.alloc (.cells c e f)):=by
 have R1:Rel X cl ch S m ok a w1:=R.same hos htp hout hh;have hblk:(w1.alloc (.cells c e f)).heap[w.heap.size]? =some (.cells c e f):=by rw[←hh];exact heap_alloc_new w1 _
 refine R1.new hn hcl hch A8 (by simp[P9,hh]) ⟨_,ax _ _ _ _,?_⟩;refine cu.arrOk (cs:=cs) ht (hr.mono (λ_ _ h=>h) (λb t hb=>?_)) hblk hz hcap o5 (by simpa using he);have:=R.okLt b t hb;show(w1.heap.push (.cells c e f))[b]? =_;rw[hh];exact wB _ _ this
theorem KX(H:FxOk X)(R:Rel X (CB*q) (CB*q+CB) S m ok a w)(hos:w1.os=w.os)(htp:w1.tape=w.tape)(hout:w1.output=w.output)(hh:w1.heap=w.heap)
  {u:Ty} (ht:u.isEnt=false) {xs:List u.den} {cs:List Value} {e:TypeId} {c:Array Value} {cap:Nat} (hr:cu w.heap ok u xs cs)
  (hcap:xs.length<=cap) (hfit:cap*u.size<=c.size) (he:c.toList.take (xs.length*u.size)=cs) {w0:World} {m0:Mp} {ok0:Nat->Ty->Prop} (hm:∀k l,m0 k=some l->m k=some l) (hok:∀b t,ok0 b t->ok b t)
  {f:Nat×Nat} (hz:fzo u c.size f)
  (run:(execOp a.eval o).run X.P w0= .ok (.value (.slice (some ⟨w.heap.size,0,none⟩) xs.length cap)) (w1.alloc (.cells c e f))):
  (tH (N7 q o.dst) (.barr u xs) (cO X.E o.dst (.own (N7 q o.dst) none))).post S (λ_ S' =>gI X (CB*q) (CB*q+CB) o a w0 m0 ok0 S'):=by
 refine Df H λn e1 h1 h2 hn=>?_;rw[←e1];clear e1;generalize CB*q=Z at*;have R' :=a1a R hos htp hout hh ht (e:=e) hr hcap hfit he h1 (by show n<Z+1000000;change n+64<=Z+1000000 at h2;omega) hn hz;refine qi H R' (λk l h=>?_) hok ⟨_,ax _ _ _ _,rfl⟩ run;by_cases ek:k=n
 .subst ek;have:=R.fresh k h1 hn;have h3:=hm _ _ h;rw[this]at h3;cases h3
 .rw[iH _ _ _ ek];exact hm _ _ h
theorem Ro(R:Rel X cl ch S m ok a w)(hT:Tk X S m ok w T)(hos:w1.os=w.os)(htp:w1.tape=w.tape)(hout:w1.output=w.output)(hh:w1.heap=w.heap)
  {md:M} (hel:md.el=true) {xs:List md.den} {cs:List Value} {Os:List (List Nat)} {e:TypeId} {c:Array Value} {cap n:Nat} (hr:uP w.heap ok md xs cs Os) (hnd:Os.flatten.Nodup) (hO:∀b∈Os.flatten,b∈T)
  (hcap:xs.length<=cap) (hfit:cap*md.size<=c.size) (he:c.toList.take (xs.length*md.size)=cs) (hcl:cl<=n) (hch:n<ch) (hn:S (Y4+n)= .undef):
  Rel X cl ch (upd S (Y4+n) (.barrs md xs none)) (kU m n (.arr w.heap.size 0 xs.length cap md.size) Os.flatten) ok a (w1.alloc (.cells c e)):=by
 have R1:Rel X cl ch S m ok a w1:=R.same hos htp hout hh;have T1:Tk X S m ok w1 T:=⟨hT.nodup,λb hb=>by rw[hh];exact hT.free b hb⟩;have hblk:(w1.alloc (.cells c e)).heap[w.heap.size]? =some (.cells c e (0,0)):=by rw[←hh];exact heap_alloc_new w1 _
 have hold:∀b,b<w.heap.size->(w1.alloc (.cells c e)).heap[b]? =w.heap[b]?:=λb hb=>by show(w1.heap.push (.cells c e))[b]? =_;rw[hh];exact wB _ _ hb
 refine R1.newK T1 hn hcl hch A8 (by simp[P9,hh]) hnd hO ⟨hel,_,Os,ax _ _ _ _,?_,A8⟩;exact⟨uP.arrs (cs:=cs) (hr.mono (λ_ _ h=>h) (λb t hb=>hold b (R.okLt b t hb)) (λb hb=>hold b (hT.free b (hO b hb)).2.1)) hblk hcap o5 (by simpa using he),trivial⟩
theorem UL(H:FxOk X)(R:Rel X (CB*q) (CB*q+CB) S m ok a w)(hT:Tk X S m ok w T)(hos:w1.os=w.os)(htp:w1.tape=w.tape)(hout:w1.output=w.output)(hh:w1.heap=w.heap)
  {md:M} (hel:md.el=true) {xs:List md.den} {cs:List Value} {Os:List (List Nat)} {e:TypeId} {c:Array Value} {cap:Nat} (hr:uP w.heap ok md xs cs Os) (hnd:Os.flatten.Nodup) (hO:∀b∈Os.flatten,b∈T)
  (hcap:xs.length<=cap) (hfit:cap*md.size<=c.size) (he:c.toList.take (xs.length*md.size)=cs) {w0:World} {m0:Mp} {ok0:Nat->Ty->Prop} (hm:∀k l,m0 k=some l->m k=some l) (hok:∀b t,ok0 b t->ok b t)
  (run:(execOp a.eval o).run X.P w0= .ok (.value (.slice (some ⟨w.heap.size,0,none⟩) xs.length cap)) (w1.alloc (.cells c e))):
  (tH (N7 q o.dst) (.barrs md xs none) (cO X.E o.dst (.own (N7 q o.dst) none))).post S (λ_ S' =>gI X (CB*q) (CB*q+CB) o a w0 m0 ok0 S'):=by
 refine Df H λn e1 h1 h2 hn=>?_;rw[←e1];clear e1;generalize CB*q=Z at*;have R' :=Ro R hT hos htp hout hh (e:=e) hel hr hnd hO hcap hfit he h1 (by show n<Z+1000000;change n+64<=Z+1000000 at h2;omega) hn;refine qi H R' (λk l h=>?_) hok ⟨_,ax _ _ _ _,rfl⟩ run;by_cases ek:k=n
 .subst ek;have:=R.fresh k h1 hn;have h3:=hm _ _ h;rw[this]at h3;cases h3
 .rw[iH _ _ _ ek];exact hm _ _ h
theorem ZY(H:FxOk X)(R:Rel X (CB*q) (CB*q+CB) S m ok a w)(hT:Tk X S m ok w T)(hos:w1.os=w.os)(htp:w1.tape=w.tape)(hout:w1.output=w.output)(hh:w1.heap=w.heap)
  {md:M} (hel:md.el=true) {xs:List md.den} {cs:List Value} {Os:List (List Nat)} {e:TypeId} {c:Array Value} {cap:Nat} (hr:uP w.heap ok md xs cs Os) (hnd:Os.flatten.Nodup) (hO:∀b∈Os.flatten,b∈T)
  (hcap:xs.length<=cap) (hfit:cap*md.size<=c.size) (he:c.toList.take (xs.length*md.size)=cs) {w0:World} {m0:Mp} {ok0:Nat->Ty->Prop} (hm:∀k l,m0 k=some l->m k=some l) (hok:∀b t,ok0 b t->ok b t)
  (run:(execOp a.eval o).run X.P w0= .ok (.value (.slice (some ⟨w.heap.size,0,none⟩) xs.length cap)) (w1.alloc (.cells c e))):
  (tH (N7 q o.dst) (.barrs md xs none) (.set (Y4+(ML+N7 q o.dst)) (.blen (o9 xs) md.size) (cO X.E o.dst (.own (N7 q o.dst) none)))).post S (λ_ S' =>gI X (CB*q) (CB*q+CB) o a w0 m0 ok0 S'):=by
 refine a4r H λn e1 h1 h2 hn=>?_;refine fQ ?_;rw[←e1];clear e1;generalize CB*q=Z at*;have R' :=Ro R hT hos htp hout hh (e:=e) hel hr hnd hO hcap hfit he h1 (by show n<Z+1000000;change n+64<=Z+1000000 at h2;omega) hn;refine qi H (R'.mark (jG _ _ _)) (λk l h=>?_) hok ⟨_,ax _ _ _ _,rfl⟩ run;by_cases ek:k=n
 .subst ek;have:=R.fresh k h1 hn;have h3:=hm _ _ h;rw[this]at h3;cases h3
 .rw[iH _ _ _ ek];exact hm _ _ h
theorem Yn(H:FxOk X)(R:Rel X (CB*q) (CB*q+CB) S m ok a w){t:TypeId}{l c:Operand}(ho:o.op= .makeSlice t l c):(aP X.E q o).post S (λ_ S' =>gI X (CB*q) (CB*q+CB) o a w m ok S'):=by
 unfold aP;simp only[ho];split
 .rename_i md hom;split<;>try trivial
  rename_i e u het;obtain⟨j,z,inf,hu,hj,h1,h2,h3,h4,h5,h6⟩:=uq H het;have hz:=dJ h6;refine Z8 R λv hv=>?_;split<;>try trivial
  rename_i k n;refine bC λhc=>?_;simp only[A7]at hc;obtain⟨⟨hs,hsz⟩,hza⟩:=hc;split<;>try trivial
  rename_i hel;obtain⟨hel,rfl⟩:=hel;refine dI λxs hxs=>?_;have hec:a.eval c=a.eval l:=by
   unfold Vt at hs;split at hs
   .have:=fC hs;subst this;rfl
   .cases hs
  unfold yH at hxs;split at hxs
  .rename_i hh;cases hxs;have e1:=qX hv;have e2:=hec.trans e1;have hms:=M.ty_size hel;have hby:(inf.bytes:Int)*n<=65536*1073741824:=by
    have:inf.bytes*n.toNat<=65536*1073741824:=Nat.mul_le_mul h4 o5;have e:(n.toNat:Int)=n:=o5;rw[←e,←Int.natCast_mul];generalize inf.bytes*n.toNat=p at*;omega
   have hrun:=run_make (P:=X.P) w t e inf z hu h1 h5 k k n n hh.1 (zC _) o5 o5;have hflat:=JB z.cells n.toNat
   have hzs:z.cells.size=md.ty.size:=by simpa using hz
   have hzero:nP w.heap ok md none (md.zero hel) z.cells.toList []:=by
    unfold a3O at hza;rw[het]at hza;simp only at hza;cases hj2:bK X.E.tt e with
    |none=>rw[hj2]at hza;cases hza|some j2=>
     rw[hj2]at hza;simp only at hza;cases hb:Nat.beq j2.zero.length j2.size<;>rw[hb]at hza
     .cases hza
     .obtain⟨inf2,a1,a2,a3,a4,a5⟩:=(H.tt e j2 hj2).info;rw[h1]at a1;cases a1;obtain⟨z2,b1,b2⟩:=a4 (fC hb);rw[h5]at b1;cases b1;exact VO md hel (r:=[]) (Xv (C:=⟨w.heap,ok,m⟩) h6) (by simpa using b2) hza
   refine ZY H R (T:=[]) Tk.nil rfl rfl rfl rfl (cs:=(List.replicate n.toNat z.cells.toList).flatten) (c:=madeCells z.cells (n.toNat*inf.size)) (cap:=n.toNat) (e:=e) hel (uP.rep_all hzero _) A8 A8 A8 (by simp[size_madeCells,h2,hms]) ?_ (λ_ _ h=>h) (λ_ _ h=>h) (w1:=w) ?_
   .rw[h2,←hzs,hflat];rw[U1 (by simp[List.length_flatten,hzs,hms])]
   .simp[execOp,ho,e1,e2,hrun]
  .cases hxs
 split<;>try trivial
 rename_i e u het;obtain⟨j,z,inf,hu,hj,h1,h2,h3,h4,h5,h6⟩:=uq H het;have hz:=dJ h6;have key:∀{k k' :IntKind} {n n' :Int},a.eval l= .int k n->a.eval c= .int k' n' ->0<=n->n<=n' ->n' <=1073741824->
   (tH (N7 q o.dst) (.barr u (List.replicate n.toNat u.zero)) (cO X.E o.dst (.own (N7 q o.dst) none))).post S (λ_ S' =>gI X (CB*q) (CB*q+CB) o a w m ok S'):=λ{k k' n n'} e1 e2 g0 g1 g2=>by
  have hby:(inf.bytes:Int)*n' <=65536*1073741824:=by have:inf.bytes*n'.toNat<=65536*1073741824:=Nat.mul_le_mul h4 o5;have e:(n'.toNat:Int)=n' :=o5;rw[←e,←Int.natCast_mul];generalize inf.bytes*n'.toNat=p at*;omega
  have hrun:=run_make (P:=X.P) w t e inf z hu h1 h5 k k' n n' g0 g1 o5 o5;have hflat:=JB z.cells n'.toNat
  have hzs:z.cells.size=u.size:=by simpa using hz
  refine KX H R rfl rfl rfl rfl (CE het) (cs:=(List.replicate n.toNat z.cells.toList).flatten) (c:=madeCells z.cells (n'.toNat*inf.size)) (cap:=n'.toNat) (e:=e) (cu.rep_all (Xv (C:=⟨w.heap,ok,m⟩) h6) _) F5 (by simp[size_madeCells,h2]) ?_ (λ_ _ h=>h) (λ_ _ h=>h) (w1:=w) (.inl rfl) ?_
  .rw[h2,←hzs,hflat];have:n'.toNat=n.toNat+(n'.toNat -n.toNat):=o5;rw[this,←List.replicate_append_replicate,jk,Y7 (by simp[List.length_flatten]),U1 (by simp[List.length_flatten])]
  .simp[execOp,ho,e1,e2,hrun]
 refine Z8 R λv hv=>?_;split<;>try trivial
 rename_i k n;cases hs:Vt l c
 .simp only[cond_false];refine Z8 R λv' hv' =>?_;split<;>try trivial
  rename_i k' n';refine⟨λhr=>dI λxs hxs=>?_,λ_=>trivial⟩;have hr' :=of_decide_eq_true (show decide (0<=n/\n<=n' /\n' <=1073741824)=true from hr);unfold yH at hxs;split at hxs
  .cases hxs;exact key (qX hv) (qX hv') hr'.1 hr'.2.1 hr'.2.2
  .cases hxs
 .simp only[cond_true];refine dI λxs hxs=>?_;have hec:a.eval c=a.eval l:=by
   unfold Vt at hs;split at hs
   .have:=fC hs;subst this;rfl
   .cases hs
  unfold yH at hxs;split at hxs
  .rename_i hh;cases hxs;exact key (qX hv) (hec.trans (qX hv)) hh.1 (zC _) hh.2
  .cases hxs
end
end Go.GP
namespace Go.GP
theorem FU:∀(vs:List Value) (k off:Nat) (cs:Array Value),off+k+vs.length<=cs.size->
  (vs.zipIdx k).foldl (λcs (x:Value×Nat)=>cs.setIfInBounds (off+x.2) x.1) cs=(aC (off+k) vs cs.toList).toArray
 |[],k,off,cs,h=>by simp[aC]|v::vs,k,off,cs,h=>by
  simp only[List.zipIdx_cons,ah];rw[FU vs (k+1) off (cs.setIfInBounds (off+k) v) (by simp only[H5]at h;rw[Array.size_setIfInBounds];omega)];congr 1;simp only[H5]at h;have hsz:cs.toList.length=cs.size:=rfl;apply bI;intro i;rw[qy (by rw[kw,List.length_set];omega),qy (by rw[H5];omega)];simp only[kw,H5,P8];by_cases h1:i<off+k
  .rw[if_pos (show i<off+(k+1) by omega),if_pos h1,if_neg (show ¬off+k=i by omega)]
  .rw[if_neg h1];by_cases h2:i=off+k
   .subst h2;rw[if_pos (show off+k<off+(k+1) by omega),if_pos rfl,if_pos (show off+k<cs.toList.length by omega),if_pos (show off+k<off+k+(vs.length+1) by omega)];simp
   .rw[if_neg (show ¬i<off+(k+1) by omega)];by_cases h3:i<off+(k+1)+vs.length
    .rw[if_pos h3,if_pos (show i<off+k+(vs.length+1) by omega)];rw[show i -(off+k)=(i -(off+(k+1)))+1 by omega];simp
    .rw[if_neg h3,if_neg (show ¬i<off+k+(vs.length+1) by omega),if_neg (show ¬off+k=i by omega)]
theorem Zd(v:Value)(off:Nat)(cs:Array Value)(h:off+v.cells.size<=cs.size):
  v.cells.zipIdx.foldl (λcs (c,j)=>cs.setIfInBounds (off+j) c) cs=(aC off v.cells.toList cs.toList).toArray:=by
 have:=FU v.cells.toList 0 off cs (by simpa using h);rw[aQ]at this;rw[←this,←Array.foldl_toList,Array.toList_zipIdx]
theorem PP{place:Nat->Option (Nat×Nat)}{cs:Array Value}{i off size:Nat}{v:Value}{rest:List (Nat×Value)}(hp:place i=some (off,size))(hs:v.cells.size=size)(hf:off+v.cells.size<=cs.size):
  Instr.fill place cs ((i,v)::rest)=Instr.fill place (aC off v.cells.toList cs.toList).toArray rest:=by
 have h2:¬(v.cells.size≠size\/off+v.cells.size>cs.size):=o5;simp only[Instr.fill,hp];rw[if_neg (by simpa using h2),Zd v off cs hf]
theorem Un{size:Nat} :∀(vs:List Value) (n:Nat) (cs:Array Value),(∀v∈vs,v.cells.size=size)->cs.size=(n+vs.length)*size->
  Instr.fill (λi=>some (i*size,size)) cs ((List.range' n vs.length).zip vs)=some (cs.toList.take (n*size)++vs.flatMap (λv=>v.cells.toList)).toArray
 |[],n,cs,_,h=>by simp only[ai,aQ]at h;have:cs.toList.take (n*size)=cs.toList:=U1 (by rw[←h];exact E9 _);simp[Instr.fill,this]|v::vs,n,cs,hv,h=>by
  have h1:=hv v A8;simp only[H5]at h;have e1:(n+(vs.length+1))*size=n*size+size+vs.length*size:=by rw[I9,I9];omega
  simp only[H5,kF,fH];rw[PP (off:=n*size) (size:=size) rfl h1 o5];rw[Un vs (n+1) _ (λu hu=>hv u (by simp[hu])) (by have:=tq (p:=n*size) (us:=v.cells.toList) (L:=cs.toList) F5;simp only[Y2,this];rw[I9,I9];simp;omega)]
  congr 2;simp only[List.flatMap_cons];rw[←E5];congr 1;unfold aC;have hsz:cs.toList.length=cs.size:=rfl;have h1' :v.cells.toList.length=size:=h1;rw[I9,Z7,Y7 (by rw[H9,bn,h1'];omega)];rw[U1 (by rw[H9,bn,h1'];omega)]
theorem JS{P:Program}{w:World}{t e:TypeId}{inf:TypeInfo}{z:Value}{n sz:Nat}{parts:Array (Nat×Value)}{F:Array Value}(hu:P.underlying t=some (.slice e))(hi:P.info? e=some inf)(hs:inf.size=sz)(hz:inf.zero=some z)
  (hle:n*sz<=16777216) (hf:∀cs:Array Value,cs.size=n*sz->Instr.fill (λi=>some (i*sz,sz)) cs parts.toList=some F):
  (Instr.buildSlice t n parts).run P w= .ok (.slice (some ⟨w.heap.size,0,none⟩) n n) (w.alloc (.cells F e)):=by
 subst hs;have hsz:(sizeOf e).run P w= .ok inf.size w:=by simp[sizeOf,typeInfo,hi]
 have hnle:¬(n*inf.size>2^24):=by show ¬(n*inf.size>16777216);omega
 unfold Instr.buildSlice;simp only[G9,run_underlying hu,H7,hsz,if_neg hnle];generalize n*inf.size=N at*;have fin:∀zero:Array Value,((match Instr.fill (λi=>some (i*inf.size,inf.size)) ((Array.range N).map (zero[·% zero.size]!)) parts.toList with
   |some cells=>(do pure (Value.slice (some (←newRow e cells)) n n):Sem Value)
   |_=>stuck "buildSlice: a part of the wrong size"):Sem Value).run P w= .ok (.slice (some ⟨w.heap.size,0,none⟩) n n) (w.alloc (.cells F e)):=λzero=>by
  rw[hf _ A8];simp[newRow]
 by_cases hn:N=0
 .rw[if_pos hn];simp only[G9,U6,H7];exact fin _
 .rw[if_neg hn];have hzv:(zeroValue e).run P w= .ok z w:=by simp[zeroValue,typeInfo,hi,hz]
  simp only[G9,hzv,U6,H7];exact fin _
variable {t:TypeId}
section
variable {X:Fx} {cl ch:Nat} {S:Sm} {m:Mp} {ok:Nat->Ty->Prop} {a:Act} {w:World} {o:Oper}
theorem Iu{α:Type}{Q:α->Sm->Prop}(u:Ty):∀(is:List Nat) (vs:List V) {us:List Value} (n k:Nat) {K:List u.den->Cmd α} {S:Sm} {ok:Nat->Ty->Prop} (R:Rel X cl ch S m ok a w) (hl:is.length=us.length)
  (hv:fK ⟨w.heap,ok,m⟩ vs us)
  (hK:∀S' ok' xs,Rel X cl ch S' m ok' a w->(∀b t,ok b t->ok' b t)->us.length=k->is=List.range' n us.length->(∀v∈us,v.cells.size=u.size)->xs.length=us.length->cu w.heap ok' u xs (us.flatMap λv=>v.cells.toList)->(K xs).post S' Q),
  (xf u (is.zip vs) n k K).post S Q
 |[],vs,us,n,k,K,S,ok,R,hl,hv,hK=>by
  have:us=[]:=by cases us<;>simp at hl ⊢
  subst this;simp only[nJ];cases k with
  |zero=>unfold xf;exact hK S ok [] R (λ_ _ h=>h) rfl rfl A8 rfl cu.nil|succ k=>unfold xf;trivial
 |i::is,vs,us,n,k,K,S,ok,R,hl,hv,hK=>by
  cases us with
  |nil=>simp at hl|cons x us=>
  cases vs with
  |nil=>simp[fK]at hv|cons v vs=>
  obtain⟨x',r,e,h1,h2⟩:=hv;simp only[G7]at e;obtain⟨rfl,rfl⟩:=e;simp only[fH];cases k with
  |zero=>unfold xf;trivial|succ k=>
  unfold xf;refine bi λhi=>rf h1 λcs hcs=>?_;have hi' :=fC hi;subst hi';refine BU (T:=[]) u R Tk.nil hcs λS1 ok1 y q ws ws' R1 T1 k1 s1 e1 g1 l1=>?_;cases q with
  |cons _ _=>trivial|nil=>
  simp only[eX]at l1;subst l1;simp only[H6]at e1;refine Iu u is vs (i+1) k R1 (by simpa using hl) (JM k1 h2) λS2 ok2 ys R2 k2 c1 c2 c3 c4 c5=>?_;refine hK S2 ok2 (y::ys) R2 (λb t h=>k2 b t (k1 b t h)) (by simp[c1]) ?_ ?_ (by simp[c4]) ?_
  .simp[kF,c2]
  .intro z hz;rcases D6.1 hz with rfl|hz
   .have:=dJ g1;rw[←e1]at this;simpa using this
   .exact c3 z hz
  .have:=(cu.one (dK k2 (λ_ _ _=>rfl) g1)).append c5;simpa[e1]using this
theorem FH{α:Type}{Q:α->Sm->Prop}(md:M):∀(is:List Nat) (vs:List V) {us:List Value} (n k:Nat) {K:List md.den->Cmd α} {S:Sm} {ok:Nat->Ty->Prop} {T:List Nat} (R:Rel X cl ch S m ok a w) (hT:Tk X S m ok w T) (hl:is.length=us.length)
  (hv:fK ⟨w.heap,ok,m⟩ vs us)
  (hK:∀S' ok' xs Os,Rel X cl ch S' m ok' a w->Tk X S' m ok' w (T++Os.flatten)->(∀b t,ok b t->ok' b t)->us.length=k->is=List.range' n us.length->(∀v∈us,v.cells.size=md.size)->xs.length=us.length->uP w.heap ok' md xs (us.flatMap λv=>v.cells.toList) Os->(K xs).post S' Q),
  (ug md (is.zip vs) n k K).post S Q
 |[],vs,us,n,k,K,S,ok,T,R,hT,hl,hv,hK=>by
  have:us=[]:=by cases us<;>simp at hl ⊢
  subst this;simp only[nJ];cases k with
  |zero=>unfold ug;exact hK S ok [] [] R (by simpa using hT) (λ_ _ h=>h) rfl rfl A8 rfl uP.nil|succ k=>unfold ug;trivial
 |i::is,vs,us,n,k,K,S,ok,T,R,hT,hl,hv,hK=>by
  cases us with
  |nil=>simp at hl|cons x us=>
  cases vs with
  |nil=>simp[fK]at hv|cons v vs=>
  obtain⟨x',r,e,h1,h2⟩:=hv;simp only[G7]at e;obtain⟨rfl,rfl⟩:=e;simp only[fH];cases k with
  |zero=>unfold ug;trivial|succ k=>
  unfold ug;refine bC λhi=>rf h1 λcs hcs=>?_;have hi' :=fC hi;subst hi';refine CO md R hT hcs λS1 ok1 y q ws ws' O R1 T1 k1 s1 e1 g1 l1=>?_;cases q with
  |cons _ _=>trivial|nil=>
  simp only[eX]at l1;subst l1;simp only[H6]at e1;refine FH md is vs (i+1) k R1 T1 (by simpa using hl) (JM k1 h2) λS2 ok2 ys Os R2 T2 k2 c1 c2 c3 c4 c5=>?_;refine hK S2 ok2 (y::ys) (O::Os) R2 (by simpa[E5]using T2) (λb t h=>k2 b t (k1 b t h)) (by simp[c1]) ?_ ?_ (by simp[c4]) ?_
  .simp[kF,c2]
  .intro z hz;rcases D6.1 hz with rfl|hz
   .have:=aW g1;rw[←e1]at this;simpa using this
   .exact c3 z hz
  .have:=(uP.one (ji k2 (λ_ _ _=>rfl) (λ_ _=>rfl) g1)).append c5;simpa[e1]using this
theorem Wn(H:FxOk X){q:Nat}(R:Rel X (CB*q) (CB*q+CB) S m ok a w){n:Nat}{ps:Array (Nat×Operand)}(ho:o.op= .buildSlice t n ps):(aP X.E q o).post S (λ_ S' =>gI X (CB*q) (CB*q+CB) o a w m ok S'):=by
 unfold aP;simp only[ho];split<;>try trivial
 rename_i e u het;obtain⟨j,z,inf,hu,hj,h1,h2,h3,h4,h5,h6⟩:=uq H het;have hz:=dJ h6;refine bi λhle=>jQ R _ λvs hvs=>?_;have hle' :n*u.size<=16777216:=V9 hle;split
 rotate_left
 .rename_i md hom;refine bC λhc=>?_;simp only[A7]at hc;have hms:=fC hc.1;refine FH md _ vs 0 n (T:=[]) R Tk.nil A8 hvs λS' ok' xs Os R' T' k c1 c2 c3 c4 c5=>?_;rw[J3]at T';simp only[V7]at c1 c2;have hparts:(ps.map λ(i,x)=>(i,a.eval x)).toList=(List.range' 0 ((ps.toList.map (·.2)).map a.eval).length).zip ((ps.toList.map (·.2)).map a.eval):=by
   simp only[V7];rw[←c2];simp[List.zip_map',List.zip_map,kD,nI]
  have hxl:xs.length=n:=by rw[c4];simpa using c1
  have hflat:=c5.1;have hcl:((ps.toList.map (·.2)).map a.eval).length=n:=by simpa using c1
  have hfill:∀cs:Array Value,cs.size=n*u.size->Instr.fill (λi=>some (i*u.size,u.size)) cs (ps.map λ(i,x)=>(i,a.eval x)).toList=some ((((ps.toList.map (·.2)).map a.eval).flatMap λv=>v.cells.toList)).toArray:=λcs hcs=>by rw[hparts,Un _ 0 cs (by rw[←hms];exact c3) (by rw[hcl,hcs];simp)];simp
  refine UL (w1:=w) (e:=e) (cap:=xs.length) H R' T' rfl rfl rfl rfl hc.2 c5 T'.nodup (λ_ h=>h) (E9 _) (by rw[←hflat];simp) (c:=((((ps.toList.map (·.2)).map a.eval).flatMap λv=>v.cells.toList)).toArray) (U1 (by rw[hflat];exact E9 _)) (λ_ _ h=>h) k ?_;have hrun:=JS (w:=w) (n:=n) hu h1 h2 h5 hle' hfill;simp only[execOp,ho,G9,hrun,H7,U6,hxl]
 refine Iu u _ vs 0 n R A8 hvs λS' ok' xs R' k c1 c2 c3 c4 c5=>?_;have hsz:(sizeOf e).run X.P w= .ok u.size w:=by simp[sizeOf,typeInfo,h1,h2]
 simp only[V7]at c1 c2;have hparts:(ps.map λ(i,x)=>(i,a.eval x)).toList=(List.range' 0 ((ps.toList.map (·.2)).map a.eval).length).zip ((ps.toList.map (·.2)).map a.eval):=by simp only[V7];rw[←c2];simp[List.zip_map',List.zip_map,kD,nI]
 have hxl:xs.length=n:=by rw[c4];simpa using c1
 have hflat:=c5.1;have hcl:((ps.toList.map (·.2)).map a.eval).length=n:=by simpa using c1
 have hfill:∀cs:Array Value,cs.size=n*u.size->Instr.fill (λi=>some (i*u.size,u.size)) cs (ps.map λ(i,x)=>(i,a.eval x)).toList=some ((((ps.toList.map (·.2)).map a.eval).flatMap λv=>v.cells.toList)).toArray:=λcs hcs=>by rw[hparts,Un _ 0 cs c3 (by rw[hcl,hcs];simp)];simp
 refine KX (w1:=w) (e:=e) (cap:=xs.length) H R' rfl rfl rfl rfl (CE het) c5 (E9 _) (by rw[←hflat];simp) (c:=((((ps.toList.map (·.2)).map a.eval).flatMap λv=>v.cells.toList)).toArray) (U1 (by rw[hflat];exact E9 _)) (λ_ _ h=>h) k (.inl rfl) ?_;have hrun:=JS (w:=w) (n:=n) hu h1 h2 h5 hle' hfill;simp only[execOp,ho,G9,hrun,H7,U6,hxl]
theorem TF{E:Env} :∀{fs:List (Nat×Nat)},a2B E fs=true->∀p∈fs,∃i,bK E.tt p.1=some i
 |[],_,p,hp=>by cases hp|(t,o)::r,h,p,hp=>by
  unfold a2B at h;cases hi:bK E.tt t with
  |none=>simp[hi]at h|some i=>
   simp only[hi]at h;rcases D6.1 hp with rfl|hp
   .exact⟨i,hi⟩
   .exact TF h p hp
def OD(P:Program)(fields:Array Field):List (Nat×Nat):=fields.toList.map λf=>(f.offset,((P.info? f.type).map (·.size)).getD 0)
theorem Ry{P:Program} :∀(fs:List Field),(∀f∈fs,∃i,P.info? f.type=some i)->
  fs.mapM (λf=>(P.info? f.type).map λi=>(f.offset,i.size))=some (fs.map λf=>(f.offset,((P.info? f.type).map (·.size)).getD 0))
 |[],_=>by simp|f::fs,h=>by obtain⟨i,hi⟩:=h f A8;rw[List.mapM_cons,Ry fs (λg hg=>h g (by simp[hg]))];simp[hi]
theorem Gp{α:Type}{Q:α->Sm->Prop}(H:FxOk X){t:Nat}{fields:Array Field}(hu:X.P.underlying t=some (.struct fields)):
  ∀(is:List Nat) (vs:List V) {us:List Value} {cs:List V} {arr:Array Value} {K:List V->Cmd α} (hl:is.length=us.length) (hv:fK ⟨w.heap,ok,m⟩ vs us) (hc:eX ⟨w.heap,ok,m⟩ cs arr.toList)
  (hK:∀cs' arr',Instr.fill ((OD X.P fields).toArray[·]?) arr (is.zip us)=some arr' ->eX ⟨w.heap,ok,m⟩ cs' arr'.toList->(K cs').post S Q),(Am X.E t (is.zip vs) cs K).post S Q
 |[],vs,us,cs,arr,K,hl,hv,hc,hK=>by simp only[nJ];unfold Am;exact hK cs arr (by simp[Instr.fill]) hc|i::is,vs,us,cs,arr,K,hl,hv,hc,hK=>by
  cases us with
  |nil=>simp at hl|cons x us=>
  cases vs with
  |nil=>simp[fK]at hv|cons v vs=>
  obtain⟨x',r,e,h1,h2⟩:=hv;simp only[G7]at e;obtain⟨rfl,rfl⟩:=e;simp only[fH];unfold Am;split<;>try trivial
  rename_i off n ag hf;obtain⟨fields',fld,j,hu',hfl,hoff,hj,hn,hn0,_⟩:=EU H hf;rw[hu]at hu';cases hu';obtain⟨inf,i1,i2,_⟩:=hj.info;refine rf h1 λws hws=>bi λhb=>zJ off ws cs λhle=>?_;have hb' :=fC hb;have hL:=je hc;have hLw:=je hws;have hxs:x.cells.size=n:=by simp at hLw;omega
  have hpl:((OD X.P fields).toArray[i]?)=some (off,n):=by
   have hfl' :fields.toList[i]? =some fld:=by simpa using hfl
   simp[OD,hfl,i1,i2,hoff,hn]
  refine Gp H hu is vs (arr:=(aC off x.cells.toList arr.toList).toArray) (by simpa using hl) h2 (by simpa using Ak hws hc) λcs' arr' hfill hrel=>?_;refine hK cs' arr' ?_ hrel;rw[fH,PP (place:=λk=>(OD X.P fields).toArray[k]?) (cs:=arr) hpl hxs (by simp at hL;omega)];exact hfill
theorem LK{α:Type}{Q:α->Sm->Prop}{sz:Nat} :
  ∀(is:List Nat) (vs:List V) {us:List Value} {cs:List V} {arr:Array Value} {K:List V->Cmd α} (hl:is.length=us.length) (hv:fK ⟨w.heap,ok,m⟩ vs us) (hc:eX ⟨w.heap,ok,m⟩ cs arr.toList)
  (hK:∀cs' arr',Instr.fill (λi=>some (i*sz,sz)) arr (is.zip us)=some arr' ->eX ⟨w.heap,ok,m⟩ cs' arr'.toList->(K cs').post S Q),(Je sz (is.zip vs) cs K).post S Q
 |[],vs,us,cs,arr,K,hl,hv,hc,hK=>by simp only[nJ];unfold Je;exact hK cs arr (by simp[Instr.fill]) hc|i::is,vs,us,cs,arr,K,hl,hv,hc,hK=>by
  cases us with
  |nil=>simp at hl|cons x us=>
  cases vs with
  |nil=>simp[fK]at hv|cons v vs=>
  obtain⟨x',r,e,h1,h2⟩:=hv;simp only[G7]at e;obtain⟨rfl,rfl⟩:=e;simp only[fH];unfold Je;refine rf h1 λws hws=>bi λhb=>zJ (i*sz) ws cs λhle=>?_;have hb' :=fC hb;have hL:=je hc;have hLw:=je hws;have hxs:x.cells.size=sz:=by simp at hLw;omega
  refine LK is vs (arr:=(aC (i*sz) x.cells.toList arr.toList).toArray) (by simpa using hl) h2 (by simpa using Ak hws hc) λcs' arr' hfill hrel=>?_;refine hK cs' arr' ?_ hrel;rw[fH,PP (place:=λk=>some (k*sz,sz)) (cs:=arr) rfl hxs (by simp at hL;omega)];exact hfill
theorem a6a(H:FxOk X)(R:Rel X cl ch S m ok a w){ps:Array (Nat×Operand)}{q:Nat}(ho:o.op= .build t ps):(aP X.E q o).post S (λ_ S' =>gI X cl ch o a w m ok S'):=by
 unfold aP;simp only[ho];refine jF H λi hi=>?_;split<;>try trivial
 case h_2=>
  rename_i n e htd';have htd:=hi.td;rw[htd']at htd;refine jF H λj hj=>bi λhb=>jQ R _ λvs hvs=>?_;obtain⟨inf,h1,h2,h3,h4,h5⟩:=hi.info;obtain⟨ine,e1,e2,_⟩:=hj.info;obtain⟨z,hz1,hz2⟩:=h4 (fC hb);refine LK _ vs (us:=(ps.toList.map (·.2)).map a.eval) (arr:=z.cells) A8 hvs (Nw hz2) λcs' arr' hfill hrel=>?_;refine aB H R (v:=.agg cs') (x:=.agg arr') ⟨arr',rfl,hrel⟩ ?_;have hparts:(ps.map λ(i,x)=>(i,a.eval x)).toList=(ps.toList.map (·.1)).zip ((ps.toList.map (·.2)).map a.eval):=by simp[List.zip_map',List.zip_map,kD,nI]
  have hbuilt:X.P.built t (ps.map λ(i,x)=>(i,a.eval x)).toList=some arr' :=by unfold Program.built;simp only[h1,show X.P.underlying t=some (.array n e)from htd,hz1,e1];rw[hparts,e2];exact hfill
  have:=run_build (P:=X.P) w t _ arr' hbuilt;simp only[execOp,ho,G9,this,H7,U6]
 rename_i fs htd';have htd:=hi.td;rw[htd']at htd;obtain⟨fields,hu,hfs⟩:=htd;refine bi λhb=>jQ R _ λvs hvs=>?_;simp only[A7]at hb;obtain⟨inf,h1,h2,h3,h4,h5⟩:=hi.info;obtain⟨z,hz1,hz2⟩:=h4 (fC hb.2);refine Gp H hu _ vs (us:=(ps.toList.map (·.2)).map a.eval) (arr:=z.cells) A8 hvs (Nw hz2) λcs' arr' hfill hrel=>?_;refine aB H R (v:=.agg cs') (x:=.agg arr') ⟨arr',rfl,hrel⟩ ?_;have hparts:(ps.map λ(i,x)=>(i,a.eval x)).toList=(ps.toList.map (·.1)).zip ((ps.toList.map (·.2)).map a.eval):=by simp[List.zip_map',List.zip_map,kD,nI]
 have hmap:=Ry (P:=X.P) fields.toList (λf hf=>by obtain⟨i',hi'⟩:=TF hb.1 (f.type,f.offset) (by rw[←hfs];exact gK.2 ⟨f,hf,rfl⟩);obtain⟨inf',q1,_⟩:=(H.tt _ _ hi').info;exact⟨inf',q1⟩)
 have hbuilt:X.P.built t (ps.map λ(i,x)=>(i,a.eval x)).toList=some arr' :=by unfold Program.built;simp only[h1,hu,hz1,hmap];rw[hparts];exact hfill
 have:=run_build (P:=X.P) w t _ arr' hbuilt;simp only[execOp,ho,G9,this,H7,U6]
end
end Go.GP
namespace Go.GP
def AQ(h:Array Obj)(sz:Nat)(v:Value)(n:Nat)(es:List Value):Prop:=
 es.length=n*sz/\((n=0/\∃ad cap,v= .slice ad 0 cap)\/(∃blk off cap,v= .slice (some ⟨blk,off,none⟩) n cap/\0<n/\bZ h blk off (n*sz)=some es)\/∃b:ByteArray,v= .string b/\n=b.size/\es=Lib.strCells b)
variable {v:Value}{h:Array Obj}
theorem b0s{ok:Nat->Ty->Prop}{t:Ty}{ys:List t.den}(ht:t.isEnt=false)(hr:jJ h ok (.sl t) ys [v]):∃es,AQ h t.size v ys.length es/\cu h ok t ys es:=by
 obtain⟨ad,cap,e,hc,hel⟩:=(xx ht).1 hr;simp only[G7,and_true]at e;subst e;rcases gX ys.length with h0|h0
 .have:ys=[]:=aA.1 h0;subst this;exact⟨[],⟨A8,.inl ⟨rfl,ad,cap,rfl⟩⟩,cu.nil⟩
 .obtain⟨y,hy⟩:∃y,ys[ys.length -1]? =some y:=by
   refine⟨ys[ys.length -1]'o5,?_⟩;exact kN _
  obtain⟨blk,off,es,rfl,hok,he,hr⟩:=hel _ y hy;obtain⟨c,T,f,hb,hn,_⟩:=oz he;have hle:off+ys.length*t.size<=c.size:=by
   have:ys.length*t.size=(ys.length -1)*t.size+t.size:=by
    conv=>lhs;rw[show ys.length=(ys.length -1)+1 by omega,I9,Z7]
   omega
  refine⟨(c.toList.drop off).take (ys.length*t.size),⟨by simp;omega,.inr (.inl ⟨blk,off,cap,rfl,h0,ik hb _ _ hle⟩)⟩,by simp;omega,λi x hi=>?_⟩;obtain⟨blk',off',es',ha',hok',he',hr'⟩:=hel i x hi;simp only[F6,fV,and_true]at ha';obtain⟨rfl,rfl⟩:=ha';obtain⟨c',T',f',hb',hn',rfl⟩:=oz he';rw[hb]at hb';cases hb';have hlt:=(aK.1 hi).1;have hle2:(i+1)*t.size<=ys.length*t.size:=G8 _ o5;rw[I9,Z7]at hle2;rw[gp,fE,X8,bT o5];exact hr'
variable {C:Cx}{l:Loc}
theorem VL{t:Ty}{xs:List t.den}(ht:t.isEnt=false)(ha:arrOk C t xs l)(hv:l.view none v):∃es,AQ C.h t.size v xs.length es/\cu C.h C.ok t xs es:=by
 cases l with
 |st b=>cases ha|mp b=>exact absurd ha.1 (by simp[ht])|nil=>obtain⟨ha,_⟩:=ha;subst ha;simp only[Loc.view]at hv;subst hv;exact⟨[],⟨A8,.inl ⟨rfl,none,0,rfl⟩⟩,cu.nil⟩
 |arr blk off len cap sz=>
  obtain⟨c,T,f,hb,hz,rfl,rfl,hc,hf,hr⟩:=Px ha;simp only[Loc.view]at hv;subst hv;have hle:xs.length*t.size<=cap*t.size:=G8 _ hc;refine⟨_,⟨hr.1,?_⟩,hr⟩;rcases gX xs.length with h0|h0
  .exact .inl ⟨h0,_,cap,by rw[h0]⟩
  .exact .inr (.inl ⟨blk,off,cap,rfl,h0,ik hb _ _ o5⟩)
variable {P:Program}{es:List Value}{n:Nat}{sz:Nat}
theorem tV{w w' :World}(h:AQ w.heap sz v n es)(hh:w'.heap=w.heap):(Builtin.firstCells sz n v).run P w' = .ok es.toArray w' :=by
 obtain⟨hl,h⟩:=h;rcases h with⟨rfl,ad,cap,rfl⟩|⟨blk,off,cap,rfl,hn,hc⟩|⟨b,rfl,rfl,rfl⟩
 .have:es=[]:=aA.1 (by simpa using hl);subst this;cases ad with
  |none=>simp[Builtin.firstCells]|some b=>have:=run_loadCells_list (P:=P) w' b [] (λj v h=>by simp at h);simp[Builtin.firstCells];simpa using this
 .refine run_firstCells_some w' sz n _ _ cap es hl λj u hu=>?_;rw[fJ];exact sD (w:=w') (by rw[hh];exact hc) hu
 .exact Lib.run_firstCells_string w' sz b
theorem AQ.lenOf(hs:AQ h sz v n es)(w:World):(Builtin.lenOf v).run P w= .ok n w:=by rcases hs.2 with⟨rfl,ad,cap,rfl⟩|⟨blk,off,cap,rfl,hn,hc⟩|⟨b,rfl,rfl,rfl⟩<;>rfl
section runs
variable {P:Program} {w:World} {t ty e:TypeId} {i:TypeInfo} {z:Value}
theorem MH(ht:P.underlying t=some (.slice e))(hi:P.info? e=some i){blk off len cap n:Nat}{c:Array Value}{T:TypeId}{f:Nat×Nat}(hb:w.heap[blk]? =some (.cells c T f))(hz:f=(0,0)\/f=(c.size,c.size+1))(hv:AQ w.heap i.size v n es)
  (h1:∀u∈es,u.oneCell' =true) (hroom:len+n<=cap) (hfit:off+cap*i.size<=c.size):
  (Builtin.append_ #[t,t] ty #[.slice (some ⟨blk,off,none⟩) len cap,v]).run P w= .ok (.slice (some ⟨blk,off,none⟩) (len+n) cap) (w.setRow blk (aC (off+len*i.size) es c.toList).toArray):=by
 have hle:(len+n)*i.size<=cap*i.size:=G8 _ hroom;rw[I9,←hv.1]at hle;have hf:=tV (P:=P) (w' :=w) hv rfl;have hst:=vO (P:=P) blk (off+len*i.size) T es 0 c f w hb hz o5 h1;simp only[aQ]at hst;simp[Builtin.append_,run_underlying ht,sizeOf,typeInfo,hi,hv.lenOf,hroom,hf,fJ,hst,aC]
theorem IQ(ht:P.underlying t=some (.slice e))(hi:P.info? e=some i)(hv:AQ w.heap i.size v 0 es):
  (Builtin.append_ #[t,t] ty #[.slice none 0 0,v]).run P w= .ok (.slice none 0 0) w:=by
 have hf:=tV (P:=P) (w' :=w) hv rfl;simp[Builtin.append_,run_underlying ht,sizeOf,typeInfo,hi,hv.lenOf,hf]
theorem JR(ht:P.underlying t=some (.slice e))(hi:P.info? e=some i)(hz:i.zero=some z)(hby:i.bytes<=65536){s v:Value}{sAd:Option Addr}{len cap n:Nat}{olds es:List Value}(hse:s= .slice sAd len cap)
  (hs:AQ w.heap i.size s len olds) (hv:AQ w.heap i.size v n es) (hg:cap<len+n) (hmax:len+n<=1073741824):
  (Builtin.append_ #[t,t] ty #[s,v]).run P w= .ok (.slice (some ⟨w.heap.size,0,none⟩) (len+n) (grownCap w (len+n) cap e))
   (w.drew.alloc (.cells ((olds++es).toArray++Builtin.zeroCells z.cells (grownCap w (len+n) cap e -(len+n))) e)):=by
 subst hse;have hn:¬(len+n<=cap):=o5;have h63' :¬(9223372036854775807<((len:Int)+(n:Int))):=o5;have hb2:(len+n)*i.bytes<=1073741824*65536:=Nat.mul_le_mul hmax hby;have h48' :¬(281474976710656<Builtin.nextslicecap (len+n) cap*i.bytes):=by have:=growslice_fits hg (show(len+n)*i.bytes<=140737488355328 by omega);omega
 have hf:=tV (P:=P) (w' :=w.drew) hv rfl;have hfo:=tV (P:=P) (w' :=w.drew) hs rfl;simp[Builtin.append_,run_underlying ht,sizeOf,typeInfo,zeroValue,hi,hz,hv.lenOf,hn,h63',h48',Question.forced,hf,hfo,newRow,grownCap];generalize Builtin.zeroCells _ _=Z;congr 2;apply jm;simp
end runs
variable {q:Nat}{t:TypeId}{α:Type}{u:Ty}{e:TypeId}{z:Value}{Q:α->Sm->Prop}{inf:TypeInfo}{x:Operand}{y:V}
section
variable {X:Fx} {cl ch:Nat} {S:Sm} {m:Mp} {ok:Nat->Ty->Prop} {a:Act} {w:World} {o:Oper}
theorem MJ(R:Rel X cl ch S m ok a w)(ht:u.isEnt=false){vy:Value}{K:List u.den->Cmd α}(hy:jI ⟨w.heap,ok,m⟩ y vy)
  (hK:∀ys es,AQ w.heap u.size vy ys.length es->cu w.heap ok u ys es->(K ys).post S Q):(m_ u y K).post S Q:=by
 unfold m_;split<;>try trivial
 .have hy' :vy= .slice none 0 0:=hy;subst hy';simp only[ht,cond_false];exact hK [] [] ⟨A8,.inl ⟨rfl,none,0,rfl⟩⟩ cu.nil
 .obtain⟨ad,c,rfl,_⟩:=(show ∃a c,vy=Value.slice a 0 c/\a.isNone=_ from hy);simp only[ht,cond_false];exact hK [] [] ⟨A8,.inl ⟨rfl,ad,c,rfl⟩⟩ cu.nil
 .rename_i t' xs;refine dY λe=>?_;subst e;obtain⟨es,h1,h2⟩:=b0s ht (show jJ w.heap ok (.sl t') xs [vy]from hy);exact hK xs es h1 h2
 .rename_i bx vw;obtain⟨l,hm,hv⟩:=hy;refine aI ?_;split<;>try trivial
  .rename_i t' xs hS;obtain⟨l',hm',ha⟩:=R.own_arr hS;simp only at hm;rw[hm]at hm';cases hm';refine dY λe=>?_;subst e;obtain⟨a1,a2,_⟩:=Gw ha hv;obtain⟨es,h1,h2⟩:=VL ht a1 a2;exact hK _ es h1 h2
  .rename_i t' xs hS;obtain⟨l',hm',ha,_⟩:=R.own_frz hS;simp only at hm;rw[hm]at hm';cases hm';refine dY λe=>?_;subst e;obtain⟨a1,a2,_⟩:=Gw ha hv;obtain⟨es,h1,h2⟩:=VL ht a1 a2;exact hK _ es h1 h2
theorem QV{T:List Nat}(R:Rel X cl ch S m ok a w)(hT:Tk X S m ok w T){md:M}{vy:Value}{K:List md.den->List V->Cmd α}(hy:jI ⟨w.heap,ok,m⟩ y vy)
  (hK:∀S' ok' ys r O,Rel X cl ch S' m ok' a w->Tk X S' m ok' w (T++O)->(∀b t,ok b t->ok' b t)->aJ S S' ->nP w.heap ok' (.owns md) none ys [vy] O->(K ys r).post S' Q):
  (exM yI (.owns md) [y] K).post S Q:=by
 have key:sQ ⟨w.heap,ok,m⟩ y vy->vy.oneCell' =true->(exM yI (.owns md) [y] K).post S Q:=λh1 h2=>by
  refine CO (.owns md) R hT (vs:=[vy]) ⟨vy,[],rfl,h1,h2,rfl⟩ λS' ok' ys r us us' O R' T' k s e hr l=>?_;have:us=[vy]:=by obtain⟨v,e',_⟩:=hr;subst e';simp at e;simp[e.1]
  subst this;exact hK S' ok' ys r O R' T' k s hr
 cases y<;>try (unfold exM;trivial)
 .exact key hy (by have h:vy= .slice none 0 0:=hy;subst h;rfl)
 .refine key hy ?_;obtain⟨l,_,hv⟩:=hy;exact kG hv
theorem XF{ok:Nat->Ty->Prop}{md:M}{xs:List md.den}{Os:List (List Nat)}(ha:Aw h md.size (λ_ x es O=>nP h ok md none x es O) xs Os l)(hv:l.view none v):∃es,AQ h md.size v xs.length es/\uP h ok md xs es Os:=by
 cases l with
 |st b=>cases ha|mp b=>cases ha|nil=>obtain⟨rfl,rfl⟩:=ha;simp only[Loc.view]at hv;subst hv;exact⟨[],⟨A8,.inl ⟨rfl,none,0,rfl⟩⟩,uP.nil⟩
 |arr blk off len cap sz=>
  obtain⟨c,T,hb,rfl,rfl,hc,hf,hr⟩:=Zl ha;simp only[Loc.view]at hv;subst hv;have hle:xs.length*md.size<=cap*md.size:=G8 _ hc;refine⟨_,⟨hr.1,?_⟩,hr⟩;rcases gX xs.length with h0|h0
  .exact .inl ⟨h0,_,cap,by rw[h0]⟩
  .exact .inr (.inl ⟨blk,off,cap,rfl,h0,ik hb _ _ o5⟩)
theorem PW{xs ys zs:List α}(h:aT xs ys=some zs):xs.length+ys.length<=1073741824/\zs=xs++ys:=by
 unfold aT at h;split at h
 .cases h;exact⟨by assumption,rfl⟩
 .cases h
theorem KD(z:Array Value)(n:Nat):(Builtin.zeroCells z n).size=n*z.size:=by simp[Builtin.zeroCells]
theorem LG(H:FxOk X)(R:Rel X (CB*q) (CB*q+CB) S m ok a w)(ht:u.isEnt=false){j:TI}(hu:X.P.underlying t=some (.slice e))(h1:X.P.info? e=some inf)(h2:inf.size=u.size)(h4:inf.bytes<=65536)
  (h5:inf.zero=some z) (hz:z.cells.size=u.size) {xs ys:List u.den} {s v:Value} {sAd:Option Addr} {cap:Nat} {olds es:List Value} (hse:s= .slice sAd xs.length cap)
  (hs:AQ w.heap u.size s xs.length olds) (hv:AQ w.heap u.size v ys.length es) (r1:cu w.heap ok u xs olds) (r2:cu w.heap ok u ys es) (hg:cap<xs.length+ys.length) (hmax:xs.length+ys.length<=1073741824)
  (run:∀r w',(Builtin.append_ #[t,t] o.type #[s,v]).run X.P w= .ok r w' ->(execOp a.eval o).run X.P w= .ok (.value r) w'):
  (tH (N7 q o.dst) (.barr u (xs++ys)) (cO X.E o.dst (.own (N7 q o.dst) none))).post S (λ_ S' =>gI X (CB*q) (CB*q+CB) o a w m ok S'):=by
 have hrun:=JR (P:=X.P) (w:=w) (t:=t) (ty:=o.type) hu h1 h5 h4 (s:=s) (v:=v) hse (by rw[h2];exact hs) (by rw[h2];exact hv) hg hmax;have hge:=grownCap_ge w (xs.length+ys.length) cap e;have r:=r1.append r2;rw[←H9]at hrun hge;refine KX H R (w1:=w.drew) rfl rfl rfl rfl ht r hge ?_ ?_ (λ_ _ h=>h) (λ_ _ h=>h) (.inl rfl) (run _ _ hrun)
 .have hl:=r.1;simp only[nG,Y2,hl,KD,hz,←I9];exact G8 _ o5
 .have hl:=r.1;simp only[kY];rw[Y7 (by rw[hl];exact E9 _),←hl];exact bu
theorem LH(H:FxOk X)(R:Rel X (CB*q) (CB*q+CB) S m ok a w)(ht:u.isEnt=false)(hu:X.P.underlying t=some (.slice e))(h1:X.P.info? e=some inf)(h2:inf.size=u.size)(h4:inf.bytes<=65536)
  (h5:inf.zero=some z) (hz:z.cells.size=u.size) {ys:List u.den} {s v:Value} {es:List Value} (hse:s= .slice none 0 0)
  (hv:AQ w.heap u.size v ys.length es) (r2:cu w.heap ok u ys es) (hmax:ys.length<=1073741824)
  (run:∀r w',(Builtin.append_ #[t,t] o.type #[s,v]).run X.P w= .ok r w' ->(execOp a.eval o).run X.P w= .ok (.value r) w'):
  (tH (N7 q o.dst) (.barr u ys) (cO X.E o.dst (.own (N7 q o.dst) none))).post S (λ_ S' =>gI X (CB*q) (CB*q+CB) o a w m ok S'):=by
 rcases gX ys.length with h0|h0
 .have hy:ys=[]:=aA.1 h0;subst hy;have hrun:=IQ (P:=X.P) (w:=w) (t:=t) (ty:=o.type) hu h1 (v:=v) (by rw[h2];exact hv);rw[←hse]at hrun;refine Df H λn e1 g1 g2 hn=>?_;rw[←e1];clear e1;generalize CB*q=Z at*;have R' :Rel X Z (Z+CB) (upd S (Y4+n) (.barr u [])) (kU m n .nil []) ok a w:=by
   refine R.lay hn g1 (by show n<Z+1000000;change n+64<=Z+1000000 at g2;omega) A8 rfl rfl rfl (E9 _) (λ_ _ _=>rfl) (by simp[P9]) (λb hb=>by simp[P9]at hb) ⟨.nil,ax _ _ _ _,rfl,ht⟩
  refine qi H R' (λk l h=>?_) (λ_ _ h=>h) ⟨.nil,ax _ _ _ _,hse⟩ (run _ _ hrun);by_cases ek:k=n
  .subst ek;have:=R.fresh k g1 hn;rw[this]at h;cases h
  .rw[iH _ _ _ ek];exact h
 .have:=LG (j:=⟨0,0,.bool,none,[]⟩) H R ht hu h1 h2 h4 h5 hz (xs:=[]) (ys:=ys) (s:=s) (v:=v) (sAd:=none) (cap:=0) (olds:=[]) (es:=es) hse ⟨A8,.inl ⟨rfl,none,0,hse⟩⟩ hv cu.nil r2 (by simpa using h0) (by simpa using hmax) run;simpa using this
theorem a0r(H:FxOk X)(R:Rel X (CB*q) (CB*q+CB) S m ok a w){md:M}{j:TI}(hu:X.P.underlying t=some (.slice e))(h1:X.P.info? e=some inf)(h2:inf.size=md.size)(h4:inf.bytes<=65536)
  (h5:inf.zero=some z) (hz:z.cells.size=md.size) {x y:V} {s v:Value} (hx:jI ⟨w.heap,ok,m⟩ x s) (hy:jI ⟨w.heap,ok,m⟩ y v)
  (run:∀r w',(Builtin.append_ #[t,t] o.type #[s,v]).run X.P w= .ok r w' ->(execOp a.eval o).run X.P w= .ok (.value r) w'):
  (exM yI (.owns md) [y] λys _=>exM yI (.owns md) [x] λxs _=>Cmd.opt (aT xs ys) λzs=>tH (N7 q o.dst) (.barrs md zs none) (cO X.E o.dst (.own (N7 q o.dst) none))).post S (λ_ S' =>gI X (CB*q) (CB*q+CB) o a w m ok S'):=by
 refine QV (T:=[]) R Tk.nil hy λS1 ok1 ys _ O1 R1 T1 k1 s1 g1=>?_;refine QV R1 T1 (Ld k1 hx) λS2 ok2 xs _ O2 R2 T2 k2 s2 g2=>?_;have k12:∀b t,ok b t->ok2 b t:=λb t h=>k2 b t (k1 b t h);have g1:=ji k2 (λ_ _ _=>rfl) (λ_ _=>rfl) g1;obtain⟨hel,ly,vy,Oy,ey,hvy,hay,rfl⟩:=xW.1 g1;obtain⟨_,lx,vx,Ox,ex,hvx,hax,rfl⟩:=xW.1 g2;simp only[G7,and_true]at ey ex;subst ey;subst ex;refine dI λzs hzs=>?_;obtain⟨hmax,rfl⟩:=PW hzs;obtain⟨es,hv,ry⟩:=XF hay hvy;obtain⟨olds,hs,rx⟩:=XF hax hvx;have hnd2:=T2.nodup;have rr:=rx.append ry;have hT3:∀b∈(Ox++Oy).flatten,b∈[]++(ly.blks++Oy.flatten)++(lx.blks++Ox.flatten):=λb hb=>by
  simp only[jk,N8]at hb ⊢;rcases hb with hb|hb
  .exact .inr (.inr hb)
  .exact .inl (.inr (.inr hb))
 have hnd3:(Ox++Oy).flatten.Nodup:=by rw[jk];have h:=U5.1 hnd2;simp only[J3]at h;refine U5.2 ⟨(U5.1 h.2.1).2.1,(U5.1 h.1).2.1,λp hp r hr e=>h.2.2 r (by simp[hr]) p (by simp[hp]) e.symm⟩
 have fresh:∀{sAd:Option Addr} {cap:Nat},s= .slice sAd xs.length cap->cap<xs.length+ys.length->(tH (N7 q o.dst) (.barrs md (xs++ys) none) (cO X.E o.dst (.own (N7 q o.dst) none))).post S2 (λ_ S' =>gI X (CB*q) (CB*q+CB) o a w m ok S'):=λ{sAd cap} hse hg=>by
  have hrun:=JR (P:=X.P) (w:=w) (t:=t) (ty:=o.type) hu h1 h5 h4 (s:=s) (v:=v) hse (by rw[h2];exact hs) (by rw[h2];exact hv) hg hmax;have hge:=grownCap_ge w (xs.length+ys.length) cap e;rw[←H9]at hrun hge;refine UL H R2 T2 (w1:=w.drew) rfl rfl rfl rfl hel rr hnd3 hT3 hge ?_ ?_ (λ_ _ h=>h) k12 (run _ _ hrun)
  .have hl:=rr.1;simp only[nG,Y2,hl,KD,hz,←I9];exact G8 _ o5
  .have hl:=rr.1;simp only[kY];rw[Y7 (by rw[hl];exact E9 _),←hl];exact bu
 cases lx with
 |st b=>cases hax|mp b=>cases hax|nil=>
  obtain⟨rfl,rfl⟩:=hax;simp only[Loc.view]at hvx;rcases gX ys.length with h0|h0
  .have hy0:ys=[]:=aA.1 h0;subst hy0;have hO0:Oy=[]:=aA.1 ry.2.1;subst hO0;have hrun:=IQ (P:=X.P) (w:=w) (t:=t) (ty:=o.type) hu h1 (v:=v) (by rw[h2];exact hv);rw[←hvx]at hrun;refine Df H λn e1 g1 g2 hn=>?_;rw[←e1];clear e1;generalize CB*q=Z at*;have R' :Rel X Z (Z+CB) (upd S2 (Y4+n) (.barrs md ([]++[]) none)) (kU m n .nil []) ok2 a w:=by
    refine R2.lay hn g1 (by show n<Z+1000000;change n+64<=Z+1000000 at g2;omega) A8 rfl rfl rfl (E9 _) (λ_ _ _=>rfl) (by simp[P9]) (λb hb=>by simp[P9]at hb) ⟨hel,.nil,[],ax _ _ _ _,⟨⟨rfl,rfl⟩,trivial⟩,A8⟩
   refine qi H R' (λk l h=>?_) k12 ⟨.nil,ax _ _ _ _,hvx⟩ (run _ _ hrun);by_cases ek:k=n
   .subst ek;have:=R2.fresh k g1 hn;rw[this]at h;cases h
   .rw[iH _ _ _ ek];exact h
  .exact fresh (sAd:=none) (cap:=0) hvx (by simpa using h0)
 |arr blk off len cap sz=>
  obtain⟨c,T,hb,rfl,rfl,hcap,hfit,r1⟩:=Zl hax;simp only[Loc.view]at hvx;by_cases hroom:xs.length+ys.length<=cap
  .have hrun:=MH (P:=X.P) (w:=w) (t:=t) (ty:=o.type) (off:=off) (cap:=cap) hu h1 hb (.inl rfl) (v:=v) (n:=ys.length) (es:=es) (by rw[h2];exact hv) ry.one_cell hroom (by rw[h2];exact hfit);rw[←hvx]at hrun;obtain⟨q1,q2,q3,q4⟩:=T2.free blk (by simp[Loc.blks]);have hle:(xs.length+ys.length)*md.size<=cap*md.size:=G8 _ hroom;rw[I9]at hle;have hesl:=hv.1;have hcl:c.toList.length=c.size:=rfl;have hsp:(aC (off+xs.length*md.size) es c.toList).length=c.size:=by rw[tq o5];rfl
   have hblk:∀b∈(Ox++Oy).flatten,b≠blk:=λb hbm e=>by
    subst e;rw[jk]at hbm;have h:=U5.1 hnd2;simp only[J3]at h;rcases N8.1 hbm with hbm|hbm
    .exact(U5.1 h.2.1).2.2 b (by simp[Loc.blks]) b hbm rfl
    .exact h.2.2 b (by simp[hbm]) b (by simp[Loc.blks]) rfl
   refine Df H λn e1 g1 g2 hn=>?_;rw[←e1];clear e1;generalize CB*q=Z at*;have hoth:∀b,b≠blk->(w.setRow blk (aC (off+xs.length*md.size) es c.toList).toArray).heap[b]? =w.heap[b]?:=λb hb=>setRow_other w blk b _ hb;have hown1:P9 (kU m n (.arr blk off (xs.length+ys.length) cap md.size) (Ox++Oy).flatten) n (.barrs md (xs++ys) none)=blk::(Ox++Oy).flatten:=by simp[P9]
   have R' :Rel X Z (Z+CB) (upd S2 (Y4+n) (.barrs md (xs++ys) none)) (kU m n (.arr blk off (xs.length+ys.length) cap md.size) (Ox++Oy).flatten) ok2 a (w.setRow blk (aC (off+xs.length*md.size) es c.toList).toArray):=by
    refine R2.lay hn g1 (by show n<Z+1000000;change n+64<=Z+1000000 at g2;omega) A8 rfl rfl rfl A8 (λb _ hne=>hoth b (λe=>hne (by rw[hown1,e];simp))) (by rw[hown1];exact aj.2 ⟨λh=>hblk blk h rfl,hnd3⟩) (λb hbb=>?_) ⟨hel,_,Ox++Oy,ax _ _ _ _,?_,A8⟩
    .rw[hown1]at hbb;obtain⟨q1,q2,q3,q4⟩:=T2.free b (by
      rcases D6.1 hbb with rfl|h
      .simp[Loc.blks]
      .exact hT3 b h)
     exact⟨q1,by simpa using q2,q3,q4⟩
    .refine⟨?_,trivial⟩;have:=uP.arrs (h:=(w.setRow blk (aC (off+xs.length*md.size) es c.toList).toArray).heap) (ok:=ok2) (cs:=((c.toList.drop off).take (xs.length*md.size))++es) (cap:=cap) (off:=off) ((r1.append ry).mono (λ_ _ h=>h) (λb t hb=>hoth b (λe=>q1 t (e▸hb))) (λb hb=>hoth b (hblk b hb))) (setRow_heap w blk c _ T (0,0) hb) (by rw[H9];exact hroom) (by rw[Y2,hsp];exact hfit) ?_
     .rw[H9]at this;exact this
     .simp only[H9,I9];rw[Lj (n:=xs.length*md.size+ys.length*md.size) o5 o5];unfold aC;have hd:((c.toList.drop off).take (xs.length*md.size+ys.length*md.size)).drop (xs.length*md.size+es.length)=[]:=bz (by rw[bn,gz];omega);rw[fE,bT (gB _ _),hd,H6]
   refine qi H R' (λk l h=>?_) k12 ⟨_,ax _ _ _ _,rfl⟩ (run _ _ (by rw[h2]at hrun;exact hrun));by_cases ek:k=n
   .subst ek;have:=R2.fresh k g1 hn;rw[this]at h;cases h
   .rw[iH _ _ _ ek];exact h
  .exact fresh hvx o5
theorem Vs{w:World}{t t' ty e:TypeId}{i:TypeInfo}(ht:P.underlying t=some (.slice e))(hs:P.underlying t' =some .string)(hi:P.info? e=some i){s:Value}{b:ByteArray} :
  (Builtin.append_ #[t,t'] ty #[s,.string b]).run P w=(Builtin.append_ #[t,t] ty #[s,.string b]).run P w:=by
 cases s<;>simp[Builtin.append_,run_underlying ht,run_underlying hs,sizeOf,typeInfo,hi]
theorem TJ(H:FxOk X)(R:Rel X (CB*q) (CB*q+CB) S m ok a w){p:Operand}{x:V}{j:TI}(ht:u.isEnt=false)(hu:X.P.underlying t=some (.slice e))(h1:X.P.info? e=some inf)(h2:inf.size=u.size)(h4:inf.bytes<=65536)
  (h5:inf.zero=some z) (hz:z.cells.size=u.size) (hx:jI ⟨w.heap,ok,m⟩ x (a.eval p)) {ys:List u.den} {v:Value} {es:List Value} (hv:AQ w.heap u.size v ys.length es) (r2:cu w.heap ok u ys es)
  (run:∀r w',(Builtin.append_ #[t,t] o.type #[a.eval p,v]).run X.P w= .ok r w' ->(execOp a.eval o).run X.P w= .ok (.value r) w'):
  (SQ (N7 q o.dst) u x ys λv=>cO X.E o.dst v).post S (λ_ S' =>gI X (CB*q) (CB*q+CB) o a w m ok S'):=by
 unfold SQ;split<;>try trivial
 ·
  refine dI λzs hzs=>?_;obtain⟨hmax,rfl⟩:=PW hzs;have hx' :a.eval p= .slice none 0 0:=hx;simp only[J3];exact LH H R ht hu h1 h2 h4 h5 hz hx' hv r2 (by simpa using hmax) run
 .rename_i bx vw;obtain⟨loc,hm,hview⟩:=hx;refine aI ?_;split<;>try trivial
  rename_i u' xs hS;refine dY λeu=>?_;subst eu;refine dI λzs hzs=>fQ ?_;obtain⟨hmax,rfl⟩:=PW hzs;obtain⟨loc',hm',ha⟩:=R.own_arr hS;simp only at hm;rw[hm]at hm';cases hm';have R1:=R.kill bx;obtain⟨a1,a2,a3⟩:=Gw ha hview;generalize hl2:Il loc vw=l2 at*;generalize iI vw xs=xs' at*;cases l2 with
  |st b=>cases a1|mp b=>exact absurd a1.1 (by simp[ht])|nil=>obtain⟨a1,_⟩:=a1;subst a1;simp only[Loc.view]at a2;simp only[J3];exact LH H R1 ht hu h1 h2 h4 h5 hz a2 hv r2 (by simpa using hmax) run
  |arr blk off len cap sz=>
   obtain⟨c,T,f,hb,hfz,rfl,rfl,hcap,hfit,r1⟩:=Px a1;simp only[Loc.view]at a2;simp only at hb r1;by_cases hroom:xs'.length+ys.length<=cap
   ·
    have hrun:=MH (P:=X.P) (w:=w) (t:=t) (ty:=o.type) (off:=off) (cap:=cap) hu h1 hb hfz.of (v:=v) (n:=ys.length) (es:=es) (by rw[h2];exact hv) r2.one_cell hroom (by rw[h2];exact hfit);rw[←a2]at hrun;have hown:P9 m bx (S (Y4+bx))=[blk]:=by
     cases loc with
     |nil=>simp[Loc.blks]at a3|st _=>cases ha|mp b=>exact absurd ha.1 (by simp[ht])|arr b2 _ _ _ _=>simp[Loc.blks]at a3;simp[P9,hS,hm,a3]
    obtain⟨s1,s2,s3⟩:=R.sep bx blk (by rw[hown];simp);have hle:(xs'.length+ys.length)*u'.size<=cap*u'.size:=G8 _ hroom;rw[I9]at hle;have hel:=hv.1;have hcl:c.toList.length=c.size:=rfl;have hsp:(aC (off+xs'.length*u'.size) es c.toList).length=c.size:=by rw[tq o5];rfl
    refine Df H λn e1 g1 g2 hn=>?_;rw[←e1];clear e1;generalize CB*q=Z at*;have hkeep:∀b t,ok b t->(w.setRow blk (aC (off+xs'.length*u'.size) es c.toList).toArray).heap[b]? =w.heap[b]?:=λb t hb=>setRow_other w blk b _ (λe=>s1 t (e▸hb));have R' :Rel X Z (Z+CB) (upd (upd S (Y4+bx) .dead) (Y4+n) (.barr u' (xs' ++ys))) (kU m n (.arr blk off (xs'.length+ys.length) cap u'.size) []) ok a (w.setRow blk (aC (off+xs'.length*u'.size) es c.toList).toArray):=by
     refine R1.lay hn g1 (by show n<Z+1000000;change n+64<=Z+1000000 at g2;omega) A8 rfl rfl rfl A8 (λb _ hne=>?_) (by simp[P9]) (λb hbb=>?_) ⟨_,ax _ _ _ _,?_⟩
     .refine setRow_other w blk b _ (λe=>hne ?_);subst e;simp[P9]
     .simp[P9]at hbb;subst hbb;refine⟨s1,by simpa using s2,s3,λk e=>?_⟩;obtain⟨k1,k2⟩:=xQ rfl e;exact k1 (R.inj k bx b k2 (by rw[hown];simp))
     .rw[←H9];refine cu.arrOk ht (cs:=((c.toList.drop off).take (xs'.length*u'.size))++es) ((r1.append r2).mono (λ_ _ h=>h) hkeep) (setRow_heap w blk c _ T f hb) (by rw[Y2,hsp];exact hfz) (by rw[H9];exact hroom) (by rw[Y2,hsp];exact hfit) ?_;simp only[H9,I9];rw[Lj (n:=xs'.length*u'.size+ys.length*u'.size) o5 o5];unfold aC;have hd:((c.toList.drop off).take (xs'.length*u'.size+ys.length*u'.size)).drop (xs'.length*u'.size+es.length)=[]:=bz (by rw[bn,gz];omega);rw[fE,bT (gB _ _),hd,H6]
    refine qi H R' (λk l h=>?_) (λ_ _ h=>h) ⟨_,ax _ _ _ _,rfl⟩ (run _ _ (by rw[h2]at hrun;exact hrun))
    .by_cases ek:k=n
     .subst ek;have:=R1.fresh k g1 hn;rw[this]at h;cases h
     .rw[iH _ _ _ ek];exact h
   .obtain⟨olds,q1,q2⟩:=VL (C:=⟨w.heap,ok,m⟩) ht a1 a2;exact LG (j:=j) H R1 ht hu h1 h2 h4 h5 hz a2 q1 hv q2 r2 o5 hmax run
theorem a4y(H:FxOk X)(R:Rel X (CB*q) (CB*q+CB) S m ok a w){c:Call}(ho:o.op= .call c)(hc:c.callee= .builtin .append):(aP X.E q o).post S (λ_ S' =>gI X (CB*q) (CB*q+CB) o a w m ok S'):=by
 obtain⟨cal,args,ats⟩:=c;simp only at hc;subst hc;unfold aP;simp only[ho];refine jQ R _ λvs hvs=>?_;split<;>try trivial
 rename_i t t' x y hat
 obtain⟨u1,r,he,hx,u2,r',he',hy,hr⟩:=hvs;simp only[fK]at hr;subst hr;rw[he']at he;obtain⟨p,p',rfl,rfl,rfl⟩:=UB he;cases htt:Nat.beq t t'
 ·
  simp only[cond_false];split<;>try trivial
  rename_i l;refine jF H λi hi=>?_;have hd:=hi.td;split<;>try trivial
  rename_i htd;rw[htd]at hd;unfold a2D;split<;>try trivial
  rename_i e het;obtain⟨j,z,inf,hu,hj,h1,h2,h3,h4,h5,h6⟩:=uq H het;have hz:z.cells.size=(Ty.int IntKind.u8).size:=by have:=dJ h6;simpa using this
  split<;>try trivial
  have hats:ats=#[t,t']:=by
   obtain⟨l⟩:=ats;simp only at hat
   rw[hat]
  have hs:a.eval p' = .string ⟨l.toArray⟩:=hy;refine TJ (j:=j) H R (CE het) hu h1 h2 h4 h5 hz hx (v:=.string ⟨l.toArray⟩) (es:=Lib.strCells ⟨l.toArray⟩) ?_ ?_ ?_
  .refine⟨?_,.inr (.inr ⟨_,rfl,?_,rfl⟩)⟩
   .rw[Lib.strCells_length];simp[Wh,Ty.size,ByteArray.size]
   .simp[Wh,ByteArray.size]
  .refine⟨by rw[Lib.strCells_length];simp[Wh,Ty.size,ByteArray.size],λi x hi=>?_⟩;show(((Lib.strCells ⟨l.toArray⟩).drop (i*1)).take 1)=[.int .u8 x];have hl:l[i]?.map (λc=>(c.toNat:Int))=some x:=by simpa[Wh,eP]using hi
   obtain⟨c,hc,rfl⟩:=dm.1 hl;have h7:(Lib.strCells ⟨l.toArray⟩)[i]? =some (.int .u8 c.toNat):=by simp[Lib.strCells,hc]
   obtain⟨g1,g2⟩:=aK.1 h7;rw[aS,dB g1,g2];rfl
  .intro r w' h;rw[←Vs hu hd h1]at h;simp[execOp,ho,resolve,invoke,builtin,hats,hs,h]
 simp only[cond_true];have htt' :=fC htt;subst htt';have hats:ats=#[t,t]:=by
  obtain⟨l⟩:=ats;simp only at hat
  rw[hat]
 have run:∀(s v:Value),a.eval p=s->a.eval p' =v->∀r w',(Builtin.append_ #[t,t] o.type #[s,v]).run X.P w= .ok r w' ->(execOp a.eval o).run X.P w= .ok (.value r) w' :=λs v e1 e2 r w' h=>by subst e1;subst e2;simp[execOp,ho,resolve,invoke,builtin,hats,h]
 unfold a2C;split
 .trivial
 rename_i e u het;obtain⟨j,z,inf,hu,hj,h1,h2,h3,h4,h5,h6⟩:=uq H het;have hz:z.cells.size=u.size:=by have:=dJ h6;simpa using this
 split
 rotate_left
 .rename_i md hom;refine bC λhms=>?_;have hms:=fC hms;exact a0r (j:=j) H R hu h1 (by rw[h2,hms]) h4 h5 (by rw[hz,hms]) hx hy (run _ _ rfl rfl)
 have ht:=CE het;refine MJ R ht hy λys es hv r2=>?_;exact TJ (j:=j) H R ht hu h1 h2 h4 h5 hz hx hv r2 (run _ _ rfl rfl)
theorem VG{α:Type}{Q:α->Sm->Prop}{S:Sm}{C:Cx}{u:Ty}(hf:u.flat=true):∀(n:Nat) {cs:List V} {vs:List Value} {K:List u.den->Cmd α},eX C cs vs->
  (∀xs,xs.length=n->cu C.h C.ok u xs vs->(K xs).post S Q)->(a0e u n cs K).post S Q
 |0,cs,vs,K,hL,hK=>by
  unfold a0e;cases cs with
  |nil=>simp only[eX]at hL;subst hL;exact hK [] rfl cu.nil|cons _ _=>trivial
 |n+1,cs,vs,K,hL,hK=>by unfold a0e;refine EL u hf hL λx r us us' e hr hL' =>?_;refine VG hf n hL' λxs hl hxs=>?_;subst e;exact hK (x::xs) (by simp[hl]) ((cu.one (hr C.h C.ok)).append hxs)
theorem a6g(H:FxOk X)(R:Rel X (CB*q) (CB*q+CB) S m ok a w){lo hi:Option Operand}(ho:o.op= .slice t x lo hi none):(aP X.E q o).post S (λ_ S' =>gI X (CB*q) (CB*q+CB) o a w m ok S'):=by
 refine a4D H R ho λbx hlo hhi hx=>?_;subst hlo;subst hhi;obtain⟨blk,hm,hx⟩:=hx;unfold Vz;refine jF H λi hi=>?_;have htd:=hi.td;split<;>try trivial
 rename_i n e hd;rw[hd]at htd;have hut:X.P.underlying t=some (.array n e):=htd;refine jF H λj hj=>?_;split<;>try trivial
 rename_i u hju;refine bC λhf=>aI ?_;split<;>try trivial
 rename_i cs hS;obtain⟨blk',arr,T,hm',hh,hl⟩:=R.own_cells hS;simp only at hm;rw[hm]at hm';cases hm';refine VG (C:=⟨w.heap,ok,m⟩) hf n hl λxs hlen hr=>fQ ?_;have hjz:u.size=j.size:=by obtain⟨inf,_,_,_,_,hty⟩:=hj.info;exact(hty u hju).1
 have ht:u.isEnt=false:=by cases u<;>first|rfl|(cases hf;done)
 have hown:P9 m bx (S (Y4+bx))=[blk]:=by simp[P9,hS,hm]
 obtain⟨s1,s2,s3⟩:=R.sep bx blk (by rw[hown];simp);have R1:=R.kill bx;refine Df H λnn e1 g1 g2 hn=>?_;rw[←e1];clear e1;generalize CB*q=Z at*;have hsz:arr.toList.length=xs.length*u.size:=hr.1;have R' :Rel X Z (Z+CB) (upd (upd S (Y4+bx) .dead) (Y4+nn) (.barr u xs)) (kU m nn (.arr blk 0 xs.length xs.length u.size) []) ok a w:=by
  refine R1.lay hn g1 (by show nn<Z+1000000;change nn+64<=Z+1000000 at g2;omega) A8 rfl rfl rfl (E9 _) (λ_ _ _=>rfl) (by simp[P9]) (λb hbb=>?_) ⟨_,ax _ _ _ _,?_⟩
  .simp[P9]at hbb;subst hbb;refine⟨s1,s2,s3,λk e=>?_⟩;obtain⟨k1,k2⟩:=xQ rfl e;exact k1 (R.inj k bx b k2 (by rw[hown];simp))
  .refine cu.arrOk ht (C:=⟨w.heap,ok,kU m nn (.arr blk 0 xs.length xs.length u.size) []⟩) (cs:=arr.toList) hr hh (.inl rfl) (E9 _) (by rw[←hsz];simp) ?_;simp only[jY];exact U1 (by rw[hsz];exact E9 _)
 refine qi H R' (λk l h=>?_) (λ_ _ h=>h) (x:=.slice (some ⟨blk,0,none⟩) n n) ⟨_,ax _ _ _ _,by rw[hlen];rfl⟩ ?_
 .by_cases ek:k=nn
  .subst ek;have:=R1.fresh k g1 hn;rw[this]at h;cases h
  .rw[iH _ _ _ ek];exact h
 .have hb:=Dw (P:=X.P) (w:=w) (isS:=false) (len:=n) (cap:=n) (lo:=none) (hi:=none) (x:=0) (y:=n) (.inl ⟨rfl,rfl⟩) (.inl ⟨rfl,rfl⟩) o5 o5 o5 (E9 _);simp[execOp,ho,hx,Instr.sliceAt,run_underlying hut,Instr.sureAddr,hb,oO hj,fJ]
theorem Dx{w:World}{sz n k:Nat}(h:AQ w.heap sz v n es)(hk:k<=n)(hs:∀b,v≠.string b):(Builtin.firstCells sz k v).run P w= .ok (es.take (k*sz)).toArray w:=by
 obtain⟨hl,h⟩:=h;rcases h with⟨rfl,ad,cap,rfl⟩|⟨blk,off,cap,rfl,hn,hc⟩|⟨b,rfl,_,_⟩
 .have hk0:k=0:=o5;subst hk0;have:es=[]:=aA.1 (by simpa using hl);subst this;cases ad with
  |none=>simp[Builtin.firstCells]|some b=>have:=run_loadCells_list (P:=P) w b [] (λj v h=>by simp at h);simp[Builtin.firstCells];simpa using this
 .have hle:k*sz<=n*sz:=G8 _ hk;refine run_firstCells_some w sz k _ _ cap (es.take (k*sz)) (by rw[bn,hl,bT hle]) λj u hu=>?_;rw[fJ];have hu' :es[j]? =some u:=by
   rw[U7]at hu;split at hu
   .exact hu
   .cases hu
  exact sD (w:=w) hc hu'
 .exact absurd rfl (hs b)
theorem b0m{b:ByteArray}(h:jI C y (.string b))(u:Ty)(K:List u.den->Cmd α):m_ u y K= .fail:=by
 cases y<;>try rfl
 case nl=>cases (show Value.string b= .slice none 0 0 from h)
 case ne z=>obtain⟨_,_,e,_⟩:=(show ∃a c,Value.string b= .slice a 0 c/\a.isNone=z from h);cases e
 case sl t xs=>
  rcases(show jJ C.h C.ok (.sl t) xs [.string b]from h)with⟨_,a,cap,e,_⟩|⟨_,mv,e,_⟩
  .cases (O5 e).1
  .cases (O5 e).1
 case own bx vw=>
  obtain⟨loc,_,hv⟩:=(show ∃loc,C.m bx=some loc/\loc.view vw (.string b)from h);cases loc<;>rcases vw with _|⟨lo,hi⟩<;>simp only[Loc.view]at hv
  .cases hv
  .cases hv.2.2
  .cases hv
  .cases hv.2.2
  .cases hv
theorem b0d(H:FxOk X)(R:Rel X (CB*q) (CB*q+CB) S m ok a w){c:Call}(ho:o.op= .call c)(hc:c.callee= .builtin .copy):(aP X.E q o).post S (λ_ S' =>gI X (CB*q) (CB*q+CB) o a w m ok S'):=by
 obtain⟨cal,args,ats⟩:=c;simp only at hc;subst hc;unfold aP;simp only[ho];refine jQ R _ λvs hvs=>?_;split<;>try trivial
 rename_i t t' x y hat
 obtain⟨u1,r,he,hx,u2,r',he',hy,hr⟩:=hvs;simp only[fK]at hr;subst hr;rw[he']at he;obtain⟨p,p',rfl,rfl,rfl⟩:=UB he;refine bC λhtt=>?_;have htt' :=fC htt;subst htt';have hats:ats=#[t,t]:=by
  obtain⟨l⟩:=ats;simp only at hat
  rw[hat]
 unfold b1s;split
 .trivial
 rename_i e u het;obtain⟨j,z,inf,hu,hj,h1,h2,h3,h4,h5,h6⟩:=uq H het;split<;>try trivial
 have ht:=CE het;by_cases hns:∃b,a.eval p' = .string b
 .obtain⟨b,hb⟩:=hns;rw[hb]at hy;rw[b0m hy];trivial
 have hns:∀b,a.eval p' ≠.string b:=λb e=>hns ⟨b,e⟩;refine MJ R ht hy λys es hv r2=>?_;split<;>try trivial
 rename_i bx;obtain⟨loc,hm,hview⟩:=hx;refine aI ?_;split<;>try trivial
 rename_i u' xs hS;refine dY λeu=>?_;subst eu;refine fQ ?_;obtain⟨loc',hm',ha⟩:=R.own_arr hS;simp only at hm;rw[hm]at hm';cases hm';have him:xk (o9 xs) (o9 ys)=((Nat.min ys.length xs.length:Nat):Int):=by unfold xk o9;split<;>simp only[Nat.min_def]<;>split<;>omega
 rw[him];cases loc with
 |st b=>cases ha|mp b=>exact absurd ha.1 (by simp[ht])|nil=>
  obtain⟨ha,_⟩:=ha;subst ha;have hx' :a.eval p= .slice none 0 0:=hview;have hf:=Dx (P:=X.P) (k:=0) (by rw[←h2]at hv;exact hv) (dC _) hns;have R' :Rel X (CB*q) (CB*q+CB) (upd S (Y4+bx) (.barr u' (Oe [] ys))) m ok a w:=
   R.mod (by rw[hS];simp[P9,hm]) A8 rfl rfl rfl rfl (λ_ _=>rfl) ⟨_,hm,by simp[Oe],ht⟩
  refine qi H R' (λ_ _ h=>h) (λ_ _ h=>h) (x:=.int .i64 ((Nat.min ys.length 0:Nat):Int)) rfl ?_;simp[execOp,ho,resolve,invoke,builtin,hats,hx',Builtin.copy_,run_underlying hu,hv.lenOf,sizeOf,typeInfo,h1,hf,goInt]
 |arr blk off len cap sz=>
  obtain⟨c,T,f,hb,hfz,rfl,rfl,hcap,hfit,r1⟩:=Px ha;have hx' :a.eval p= .slice (some ⟨blk,off,none⟩) xs.length cap:=hview;simp only at hb r1;generalize hk:Nat.min ys.length xs.length=k;have hk1:k<=ys.length:=by rw[←hk];exact Nat.min_le_left _ _
  have hk2:k<=xs.length:=by rw[←hk];exact Nat.min_le_right _ _
  have hf:=Dx (P:=X.P) (k:=k) (by rw[←h2]at hv;exact hv) hk1 hns;have hes:es.length=ys.length*u'.size:=hv.1;have hle1:k*u'.size<=ys.length*u'.size:=G8 _ hk1;have hle2:k*u'.size<=xs.length*u'.size:=G8 _ hk2;have hle3:xs.length*u'.size<=cap*u'.size:=G8 _ hcap;have htl:(es.take (k*u'.size)).length=k*u'.size:=by simp;omega
  have hcl:c.toList.length=c.size:=rfl;have hst:=vO (P:=X.P) blk off T (es.take (k*u'.size)) 0 c f w hb hfz.of (by rw[htl];omega) (λu hu=>r2.one_cell u (List.mem_of_mem_take hu));simp only[aQ]at hst;have hsp:(aC off (es.take (k*u'.size)) c.toList).length=c.size:=by rw[tq (by rw[htl];omega)];rfl
  have hown:P9 m bx (S (Y4+bx))=[blk]:=by simp[P9,hS,hm]
  have hkeep:∀b t,ok b t->(w.setRow blk (aC off (es.take (k*u'.size)) c.toList).toArray).heap[b]? =w.heap[b]?:=λb t hb=>setRow_other w blk b _ (λe=>(R.sep bx blk (by rw[hown];simp)).1 t (e▸hb));have hlc:(Oe xs ys).length=xs.length:=by unfold Oe;simp;omega
  have hlce:Oe xs ys=ys.take k++xs.drop k:=by
   unfold Oe;rcases Nat.le_total ys.length xs.length with h|h
   .have:k=ys.length:=by rw[←hk];exact bT h
    rw[this,U1 (E9 _),U1 h]
   .have:k=xs.length:=by rw[←hk];exact Nat.min_eq_right h
    rw[this,bz h,bz (E9 _)]
  have R' :Rel X (CB*q) (CB*q+CB) (upd S (Y4+bx) (.barr u' (Oe xs ys))) m ok a (w.setRow blk (aC off (es.take (k*u'.size)) c.toList).toArray):=by
   refine R.mod (by rw[hown];simp[P9,hm]) A8 rfl rfl rfl A8 (λb hb=>setRow_other w blk b _ (by rw[hown]at hb;simpa using hb)) ⟨_,hm,?_⟩;have:=cu.arrOk (C:=⟨(w.setRow blk (aC off (es.take (k*u'.size)) c.toList).toArray).heap,ok,m⟩) (xs:=Oe xs ys) (cs:=((aC off (es.take (k*u'.size)) c.toList).drop off).take (xs.length*u'.size)) (blk:=blk) (off:=off) (cap:=cap) ht ?_ (setRow_heap w blk c _ T f hb) (by rw[Y2,hsp];exact hfz) (by rw[hlc];exact hcap) (by rw[Y2,hsp];exact hfit) (by rw[hlc])
   .rw[hlc]at this;exact this
   .refine cu.mono (h:=w.heap) (ok:=ok) (λ_ _ h=>h) hkeep ?_;have e1:=Lj (b:=off) (off:=0) (n:=xs.length*u'.size) (us:=es.take (k*u'.size)) (L:=c.toList) (by rw[hcl];omega) (by rw[htl];omega);rw[aQ]at e1;rw[e1,hlce];unfold aC;rw[List.take_zero,J3,bV,htl];refine cu.append ?_ ?_
    .refine⟨by rw[htl,bn,bT hk1],λi x hi=>?_⟩;have hik:i<k:=by have:=(aK.1 hi).1;simp at this;omega
     have hi' :ys[i]? =some x:=by rw[U7,if_pos hik]at hi;exact hi
     have h7:=r2.2 i x hi';have hle:(i+1)*u'.size<=k*u'.size:=G8 _ o5;rw[I9,Z7]at hle;rw[gp,fE,bT o5];exact h7
    .refine⟨by have:=r1.1;simp only[gz,this,Nat.sub_mul],λi x hi=>?_⟩;rw[S9]at hi;have h7:=r1.2 (k+i) x hi;rw[I9]at h7;rw[X8];exact h7
  refine qi H R' (λ_ _ h=>h) (λ_ _ h=>h) (x:=.int .i64 (k:Int)) rfl ?_;rw[h2]at hf;have hrun:(Builtin.copy_ #[t,t] o.type #[.slice (some ⟨blk,off,none⟩) xs.length cap,a.eval p']).run X.P w= .ok (.int .i64 (k:Int)) (w.setRow blk (aC off (es.take (k*u'.size)) c.toList).toArray):=by simp only[Builtin.copy_,List.getElem?_toArray,bY,List.getElem?_cons_succ,G9,run_underlying hu,H7,hv.lenOf,hk,oO hj,h3,U6,hf,List.toList_toArray,hst,goInt,aC]
  simp[execOp,ho,resolve,invoke,builtin,hats,hx',hrun]
theorem a1f(H:FxOk X)(R:Rel X (CB*q) (CB*q+CB) S m ok a w){src t:TypeId}(ho:o.op= .convert src t x):
  (aP X.E q o).post S (λ_ S' =>gI X (CB*q) (CB*q+CB) o a w m ok S'):=by
 refine f_ H R ho λl hl hsrc=>?_;unfold a5p;split<;>try trivial
 rename_i e het;obtain⟨j,z,inf,hu,hj,h1,h2,h3,h4,h5,h6⟩:=uq H het;refine jF H λk hk=>?_;have hkd:=hk.td;split<;>try trivial
 rename_i hke;rw[hke]at hkd;have hrun:=run_bytes_of_string (P:=X.P) w src t e ⟨l.toArray⟩ hsrc hu hkd;have hsz:(⟨l.toArray⟩:ByteArray).size=l.length:=by simp[ByteArray.size]
 have hge:=grownCap_ge w (⟨l.toArray⟩:ByteArray).size 0 e;generalize hcap:grownCap w (⟨l.toArray⟩:ByteArray).size 0 e=cap at*;have hbs:(bytesRow ⟨l.toArray⟩ cap).size=cap:=by simp[bytesRow];omega
 have hll:(Wh l).length=l.length:=by simp[Wh]
 refine KX H R (w1:=w.drew) (u:=.int .u8) (e:=e) (cap:=cap) (c:=bytesRow ⟨l.toArray⟩ cap) (cs:=Lib.strCells ⟨l.toArray⟩) (f:=((bytesRow ⟨l.toArray⟩ cap).size,(bytesRow ⟨l.toArray⟩ cap).size+1)) rfl rfl rfl rfl rfl ?_ ?_ ?_ ?_ (λ_ _ h=>h) (λ_ _ h=>h) (.inr ⟨rfl,rfl⟩) ?_
 .refine⟨by rw[Lib.strCells_length];simp[Wh,Ty.size,ByteArray.size],λi x hi=>?_⟩;show(((Lib.strCells ⟨l.toArray⟩).drop (i*1)).take 1)=[.int .u8 x];have hl:l[i]?.map (λc=>(c.toNat:Int))=some x:=by simpa[Wh,eP]using hi
  obtain⟨c,hc,rfl⟩:=dm.1 hl;have h7:(Lib.strCells ⟨l.toArray⟩)[i]? =some (.int .u8 c.toNat):=by simp[Lib.strCells,hc]
  obtain⟨g1,g2⟩:=aK.1 h7;rw[aS,dB g1,g2];rfl
 .omega
 .rw[hbs];simp[Ty.size]
 .rw[hll];have:(bytesRow ⟨l.toArray⟩ cap).toList=Lib.strCells ⟨l.toArray⟩++List.replicate (cap -l.length) (.int .u8 0):=by
   simp[bytesRow,Lib.strCells,hsz]
  rw[this,Y7 (by rw[Lib.strCells_length,hsz];simp[Ty.size])];exact U1 (by rw[Lib.strCells_length,hsz];simp[Ty.size])
 .simp only[execOp,ho,hl];rw[G9,hrun,hll,←hsz];rfl
end
def qO{α β:Type}(eq:α->α->Bool):List (α×β)->α->Option Nat
 |[],_=>none|p::r,k=>bif eq k p.1 then some 0 else(qO eq r k).map (·+1)
theorem Np{α β:Type}{eq:α->α->Bool} :∀{xs:List (α×β)} {k:α} {i:Nat},qO eq xs k=some i->∃p,xs[i]? =some p/\eq k p.1=true
 |[],_,_,h=>by cases h|p::r,k,i,h=>by
  unfold qO at h;cases he:eq k p.1<;>rw[he]at h
  .simp only[cond_false,dm]at h;obtain⟨j,h1,rfl⟩:=h;obtain⟨q,h2,h3⟩:=Np h1;exact⟨q,by simpa using h2,h3⟩
  .cases h;exact⟨p,rfl,he⟩
theorem UH{α β:Type}(eq:α->α->Bool):∀(xs:List (α×β)) (k:α) (z:β),a3g eq xs k z=(match qO eq xs k with|some i=>(match xs[i]? with|some p=>p.2|none=>z)|none=>z)
 |[],_,_=>rfl|p::r,k,z=>by
  unfold a3g qO;cases he:eq k p.1
  .simp only[cond_false];rw[UH eq r k z];cases qO eq r k<;>simp
  .rfl
variable {β:Type}
theorem a4o(eq:α->α->Bool):∀(xs:List (α×β)) (k:α) (z:β),a9T eq xs k z=(match qO eq xs k with|some i=>(match xs[i]? with|some p=>p.2|none=>z)|none=>z):=
 UH eq
theorem UI{α β:Type}(eq:α->α->Bool):∀(xs:List (α×β)) (k:α),a3h eq xs k=(qO eq xs k).isSome
 |[],_=>rfl|p::r,k=>by
  unfold a3h qO;cases he:eq k p.1
  .simp only[cond_false];rw[UI eq r k];cases qO eq r k<;>simp
  .rfl
theorem a4p(eq:α->α->Bool):∀(xs:List (α×β)) (k:α),a9U eq xs k=(qO eq xs k).isSome:=
 UI eq
theorem UK{α β:Type}(eq:α->α->Bool):∀(xs:List (α×β)) (k:α) (x:β),a3k eq xs k x=(match qO eq xs k with|some i=>xs.set i (k,x)|none=>xs++[(k,x)])
 |[],_,_=>rfl|p::r,k,x=>by
  unfold a3k qO;cases he:eq k p.1
  .simp only[cond_false];rw[UK eq r k x];cases qO eq r k<;>simp
  .rfl
theorem Xi(eq:α->α->Bool):∀(xs:List (α×β)) (k:α) (x:β),a4q eq xs k x=(match qO eq xs k with|some i=>xs.set i (k,x)|none=>xs++[(k,x)]):=
 UK eq
theorem SX:∀{k:Ty} (hf:k.flat=true) (a b:k.den),keq k a b=true↔a=b
 | .bool,_,a,b=>by cases a<;>cases b<;>simp[keq,Bh]| .int _,_,a,b=>by simp[keq,x8]| .str,_,a,b=>by simp[keq,seq]| .unit,_,a,b=>⟨λ_=>rfl,λ_=>rfl⟩| .prod p q,hf,a,b=>by simp only[Ty.flat,A7]at hf;simp only[keq,dA,A7,SX hf.1,SX hf.2];exact⟨λh=>Prod.ext h.1 h.2,λh=>by subst h;exact⟨rfl,rfl⟩⟩| .sl _,hf,_,_=>by cases hf| .ent ..,hf,_,_=>by cases hf
theorem Tm{h h' :Array Obj}{ok ok' :Nat->Ty->Prop} :∀{t:Ty} (hf:t.flat=true) {x:t.den} {c d:List Value},jJ h ok t x c->jJ h' ok' t x d->c=d
 | .bool,_,_,_,_,h1,h2=>by simp only[jJ]at h1 h2;rw[h1,h2]| .int _,_,_,_,_,h1,h2=>by simp only[jJ]at h1 h2;rw[h1,h2]| .str,_,_,_,_,h1,h2=>by simp only[jJ]at h1 h2;rw[h1,h2]| .unit,_,_,_,_,h1,h2=>by simp only[jJ]at h1 h2;rw[h1,h2]| .prod p q,hf,_,_,_,h1,h2=>by simp only[Ty.flat,A7]at hf;obtain⟨a,b,rfl,a1,a2⟩:=h1;obtain⟨a',b',rfl,b1,b2⟩:=h2;rw[Tm hf.1 a1 b1,Tm hf.2 a2 b2]
 | .sl _,hf,_,_,_,_,_=>by cases hf| .ent ..,hf,_,_,_,_,_=>by cases hf
theorem YC{h h' :Array Obj}{ok ok' :Nat->Ty->Prop} :∀{t:Ty} (hf:t.flat=true) {x y:t.den} {c:List Value},jJ h ok t x c->jJ h' ok' t y c->x=y
 | .bool,_,_,_,_,h1,h2=>by simp only[jJ]at h1 h2;rw[h1]at h2;simpa using h2| .int _,_,_,_,_,h1,h2=>by simp only[jJ]at h1 h2;rw[h1]at h2;simpa using h2
 | .str,_,_,_,_,h1,h2=>by simp only[jJ]at h1 h2;rw[h1]at h2;injection h2 with h2 _;injection h2 with h2;injection h2 with h2;have:=congrArg Array.toList h2;simpa using this
 | .unit,_,_,_,_,_,_=>rfl| .prod p q,hf,_,_,_,h1,h2=>by simp only[Ty.flat,A7]at hf;obtain⟨a,b,rfl,a1,a2⟩:=h1;obtain⟨a',b',e,b1,b2⟩:=h2;obtain⟨rfl,rfl⟩:=List.append_inj e ((dJ a1).trans (dJ b1).symm);exact Prod.ext (YC hf.1 a1 b1) (YC hf.2 a2 b2)
 | .sl _,hf,_,_,_,_,_=>by cases hf| .ent ..,hf,_,_,_,_,_=>by cases hf
theorem Qp{h:Array Obj}{ok:Nat->Ty->Prop} :∀{k:Ty} (hf:k.flat=true) {x:k.den} {c:List Value},jJ h ok k x c->∀{sh:List Ty} {d:List Value},iW sh d->iW (k.leaves++sh) (c++d)
 | .bool,_,x,_,h1,_,_,hd=>by simp only[jJ]at h1;subst h1;exact⟨_,_,rfl,hd⟩| .int _,_,x,_,h1,_,_,hd=>by simp only[jJ]at h1;subst h1;exact⟨_,_,rfl,hd⟩| .str,_,x,_,h1,_,_,hd=>by simp only[jJ]at h1;subst h1;exact⟨_,_,rfl,hd⟩| .unit,_,x,_,h1,_,_,hd=>by simp only[jJ]at h1;subst h1;exact hd| .prod p q,hf,_,_,h1,_,_,hd=>by simp only[Ty.flat,A7]at hf;obtain⟨a,b,rfl,a1,a2⟩:=h1;simp only[Ty.leaves,E5];exact Qp hf.1 a1 (Qp hf.2 a2 hd)
 | .sl _,hf,_,_,_,_,_,_=>by cases hf| .ent ..,hf,_,_,_,_,_,_=>by cases hf
theorem Xy:∀{a b:List Ty},Qu a b=true->a=b
 |[],[],_=>rfl|[],_::_,h=>by cases h|_::_,[],h=>by cases h|a::r,b::q,h=>by
  unfold Qu at h;cases hb:Ty.beq a b<;>rw[hb]at h
  .cases h
  .rw[Ty.beq_eq hb,Xy (show Qu r q=true from h)]
def Ac(ag:Bool)(k:Ty)(x:k.den)(kv:Value):Prop:=gok ag kv/\jJ #[] (λ_ _=>False) k x (qI ag kv)
variable {ag:Bool}
theorem a0T{u v:Value}(hu:gok ag u)(hv:gok ag v)(h:qI ag u=qI ag v):u=v:=by
 cases ag
 .simpa[qI]using h
 .obtain⟨a,rfl⟩:=hu;obtain⟨b,rfl⟩:=hv;have:a.toList=b.toList:=h;rw[Array.toList_inj.1 this]
variable {k:Ty}
theorem Ac.det(hf:k.flat=true){x:k.den}{u v:Value}(h1:Ac ag k x u)(h2:Ac ag k x v):u=v:=
 a0T h1.1 h2.1 (Tm hf h1.2 h2.2)
theorem MI:∀(v:Value),(∃b,v= .bool b)\/(∃k n,v= .int k n)\/(∃s,v= .string s)->∀n,Instr.sameBits n v v=true:=by rintro v (⟨b,rfl⟩|⟨k,n,rfl⟩|⟨s,rfl⟩) m<;>simp[Instr.sameBits,MapKept.bytes_beq]
theorem Qo{h:Array Obj}{ok:Nat->Ty->Prop} :∀{k:Ty} (hf:k.flat=true) {x:k.den} {c:List Value},jJ h ok k x c->∀v∈c,(∃b,v= .bool b)\/(∃k n,v= .int k n)\/(∃s,v= .string s)
 | .bool,_,x,_,h1,v,hv=>by simp only[jJ]at h1;subst h1;simp at hv;exact .inl ⟨_,hv⟩| .int _,_,x,_,h1,v,hv=>by simp only[jJ]at h1;subst h1;simp at hv;exact .inr (.inl ⟨_,_,hv⟩)| .str,_,x,_,h1,v,hv=>by simp only[jJ]at h1;subst h1;simp at hv;exact .inr (.inr ⟨_,hv⟩)| .unit,_,x,_,h1,v,hv=>by simp only[jJ]at h1;subst h1;cases hv| .prod p q,hf,_,_,h1,v,hv=>by
  simp only[Ty.flat,A7]at hf;obtain⟨a,b,rfl,a1,a2⟩:=h1;rcases N8.1 hv with hv|hv
  .exact Qo hf.1 a1 v hv
  .exact Qo hf.2 a2 v hv
 | .sl _,hf,_,_,_,_,_=>by cases hf| .ent ..,hf,_,_,_,_,_=>by cases hf
theorem Ac.stays{w:World}(hf:k.flat=true){x:k.den}(h:Ac ag k x v):(Instr.keyThatStays v v).run P w= .ok v w:=by
 have hs:Instr.sameBits 10000 v v=true:=by
  have hc:=Qo hf h.2;cases ag
  .exact MI v (hc v (by simp[qI])) _
  .obtain⟨arr,rfl⟩:=h.1;show Instr.sameBits (9999+1) (.agg arr) (.agg arr)=true;simp only[Instr.sameBits,beq_self_eq_true,iw,jh];intro p hp;obtain⟨i,hi,e⟩:=bJ hp;rw[List.getElem_zip]at e;rw[←e];exact MI _ (hc _ (O0 _)) _
 simp[Instr.keyThatStays,hs]
variable {M:MT}
section
variable {X:Fx} {cl ch:Nat} {S:Sm} {m:Mp} {ok:Nat->Ty->Prop} {a:Act} {w:World} {T:List Nat} {o:Oper}
theorem ZN(H:FxOk X){ke:Nat}{i:TI}(hi:TiOk X.P ke i)(hk:ZL X.E ke i.td k=true)(hf:k.flat=true){x:k.den}{u:Value}(hu:Ac (bf i.td) k x u)(w:World):
  (∀em,(Instr.checkKey em 10000 ke u).run X.P w= .ok () w)/\
  ∀{β:Type} (es:List MapEntry) (xs:List (k.den×β)),es.length=xs.length->(∀(j:Nat) (p:k.den×β),xs[j]? =some p->∃e:MapEntry,es[j]? =some e/\Ac (bf i.td) k p.1 e.key)->
   (Instr.findKey ke u es).run X.P w= .ok ((qO (keq k) xs x).bind λj=>(es[j]?).map λe=>(j,e.val)) w:=by
 have htd:=hi.td;have scal:∀d,X.P.underlying ke=some d->bf i.td=false->(∀y v,Ac (bf i.td) k y v->Instr.sameNow d u v=some (keq k x y))->
   ∀{β:Type} (es:List MapEntry) (xs:List (k.den×β)),es.length=xs.length->(∀(j:Nat) (p:k.den×β),xs[j]? =some p->∃e:MapEntry,es[j]? =some e/\Ac (bf i.td) k p.1 e.key)->
   (Instr.findKey ke u es).run X.P w= .ok ((qO (keq k) xs x).bind λj=>(es[j]?).map λe=>(j,e.val)) w:=by
  intro d hd _ hs β es xs hl he;refine MapKept.run_findKey hd ?_;have:∀(es:List MapEntry) (xs:List (k.den×β)) (n:Nat),es.length=xs.length->(∀(j:Nat) (p:k.den×β),xs[j]? =some p->∃e:MapEntry,es[j]? =some e/\Ac (bf i.td) k p.1 e.key)->
    Instr.findNow d u es n=some ((qO (keq k) xs x).bind λj=>(es[j]?).map λe=>(n+j,e.val)):=by
   intro es;induction es with
   |nil=>
    intro xs n hl he;cases xs with
    |nil=>rfl|cons _ _=>cases hl
   |cons e es ih=>
    intro xs n hl he;cases xs with
    |nil=>cases hl|cons p xs=>
     obtain⟨e',h1,h2⟩:=he 0 p rfl;simp only[bY,F6]at h1;subst h1;unfold Instr.findNow qO;rw[hs _ _ h2];cases hq:keq k x p.1
     .simp only[cond_false];rw[ih xs (n+1) (by simpa using hl) (λj q hj=>by simpa using he (j+1) q (by simpa using hj))];cases qO (keq k) xs x with
      |none=>rfl|some j=>simp[dH,Nat.add_comm 1 j]
     .simp
  simpa using this es xs 0 hl he
 have one:∀{v:Value} {y:k.den},bf i.td=false->Ac (bf i.td) k y v->jJ #[] (λ_ _=>False) k y [v]:=λha h=>by have:=h.2;rw[ha]at this;exact this
 unfold ZL at hk;split at hk
 .rename_i htd';rw[htd']at htd;have ha:bf i.td=false:=by rw[htd'];rfl
  have hu1:=one ha hu;simp only[jJ,G7,and_true]at hu1;subst hu1;refine⟨λem=>pg htd (by simp[MapKept.IsKey]) em 9999,scal _ htd ha λy v hv=>?_⟩;have hv1:=one ha hv;simp only[jJ,G7,and_true]at hv1;subst hv1;rfl
 .rename_i p q htd';have:=of_decide_eq_true hk;subst this;rw[htd']at htd;have ha:bf i.td=false:=by rw[htd'];rfl
  have hu1:=one ha hu;simp only[jJ,G7,and_true]at hu1;subst hu1;refine⟨λem=>pg htd (by simp[MapKept.IsKey]) em 9999,scal _ htd ha λy v hv=>?_⟩;have hv1:=one ha hv;simp only[jJ,G7,and_true]at hv1;subst hv1;simp[Instr.sameNow,keq,x8];rfl
 .rename_i htd';rw[htd']at htd;have ha:bf i.td=false:=by rw[htd'];rfl
  have hu1:=one ha hu;simp only[jJ,G7,and_true]at hu1;subst hu1;refine⟨λem=>pg htd (by simp[MapKept.IsKey]) em 9999,scal _ htd ha λy v hv=>?_⟩;have hv1:=one ha hv;simp only[jJ,G7,and_true]at hv1;subst hv1;simp only[Instr.sameNow,keq,seq,F6];rw[jA];simp[MapKept.bytes_beq]
 .rename_i k _ _ fs htd';cases hkf:k.flat<;>rw[hkf]at hk
  .cases hk
  simp only[cond_true]at hk;cases hq:bK X.E.eqs ke with
  |none=>rw[hq]at hk;cases hk|some sh=>
  rw[hq]at hk;have hsh:=Xy (show Qu sh k.leaves=true from hk);subst hsh;obtain⟨⟨fields,hund⟩,hks⟩:=(H.eqs ke _ hq).2;have ha:bf i.td=true:=by rw[htd'];rfl
  rw[ha]at hu;obtain⟨xs0,rfl⟩:=hu.1;have shp:∀{y:k.den} {arr:Array Value},Ac true k y (.agg arr)->iW k.leaves arr.toList:=λ{y arr} h=>by have:=Qp hf (show jJ #[] (λ_ _=>False) k y arr.toList from h.2) (sh:=[]) (d:=[]) rfl;simpa using this
  obtain⟨c1,c2⟩:=hks w xs0 (shp hu);refine⟨c1,λ{β} es xs hl he=>?_⟩;rw[run_findKey_eq w (by rw[hund])];rw[ha]at he;have:∀(es:List MapEntry) (xs:List (k.den×β)) (n:Nat),es.length=xs.length->(∀(j:Nat) (p:k.den×β),xs[j]? =some p->∃e:MapEntry,es[j]? =some e/\Ac true k p.1 e.key)->
    (Instr.findAsking ke (.agg xs0) es n).run X.P w= .ok ((qO (keq k) xs x).bind λj=>(es[j]?).map λe=>(n+j,e.val)) w:=by
   intro es;induction es with
   |nil=>
    intro xs n hl he;cases xs with
    |nil=>rfl|cons _ _=>cases hl
   |cons e es ih=>
    intro xs n hl he;cases xs with
    |nil=>cases hl|cons p xs=>
     obtain⟨e',h1,h2⟩:=he 0 p rfl;simp only[bY,F6]at h1;subst h1;obtain⟨ys,hys⟩:=h2.1;rw[hys]at h2;obtain⟨r,hr,hre⟩:=c2 ys (shp h2);have hrq:r=keq k x p.1:=by
      rw[jA,hre,SX hf];constructor
      .intro h;have h3:=h2.2;rw[show qI true (Value.agg ys)=ys.toList from rfl,←h]at h3;exact YC hf hu.2 h3
      .intro h;have h3:=h2.2;rw[←h]at h3;exact Tm hf hu.2 h3
     subst hrq;unfold Instr.findAsking qO;simp only[hys,G9,hr,H7];cases hq:keq k x p.1
     .simp only[cond_false,dR,if_false];rw[ih xs (n+1) (by simpa using hl) (λj q hj=>by simpa using he (j+1) q (by simpa using hj))];cases qO (keq k) xs x with
      |none=>rfl|some j=>simp[dH,Nat.add_comm 1 j]
     .simp
  simpa using this es xs 0 hl he
 .cases hk
theorem Nh(H:FxOk X){t:Nat}(h:Oi X.E t=some M):X.P.underlying t=some (.map M.ke M.el)/\M.k.flat=true/\
  (∃i,TiOk X.P M.ke i/\ZL X.E M.ke i.td M.k=true/\M.ka=bf i.td)/\(∃j,TiOk X.P M.el j/\j.ty=some M.v/\M.va=bf j.td):=by
 unfold Oi at h;split at h<;>try (cases h;done)
 rename_i i hi;split at h<;>try (cases h;done)
 rename_i ke el htd;split at h<;>try (cases h;done)
 rename_i p q hp hq;split at h<;>try (cases h;done)
 rename_i k v hk hv;cases hc:(ZL X.E ke p.td k&&k.flat)<;>rw[hc]at h
 .cases h
 .simp only[cond_true,F6]at h;subst h;simp only[A7]at hc;have h1:=(H.tt t i hi).td;rw[htd]at h1;exact⟨h1,hc.2,⟨p,H.tt _ p hp,hc.1,rfl⟩,⟨q,H.tt _ q hq,hv,rfl⟩⟩
theorem PH{t:Ty}{v:V}{x:Value}{K:t.den->Cmd α}(R:Rel X cl ch S m ok a w)(hT:Tk X S m ok w T)(hv:jI ⟨w.heap,ok,m⟩ v x)
  (hK:∀S' ok' y,Rel X cl ch S' m ok' a w->Tk X S' m ok' w T->(∀b t,ok b t->ok' b t)->aJ S S' ->gok ag x->jJ w.heap ok' t y (qI ag x)->(K y).post S' Q):
  (a5r ag t v K).post S Q:=by
 unfold a5r;refine Ad hv λcs us hg hl=>?_;refine BU t R hT hl λS1 ok1 y q us1 us' R1 T1 k1 s1 e1 h1 l1=>?_;cases q with
 |cons _ _=>trivial|nil=>
 simp only[eX]at l1;subst l1;simp only[H6]at e1;subst e1;have hgc:gok ag x/\qI ag x=us:=by
  cases ag
  .simp only[Ql]at hg;subst hg;exact⟨uI h1 x A8,rfl⟩
  .obtain⟨arr,rfl,rfl⟩:=hg;exact⟨⟨arr,rfl⟩,rfl⟩
 refine hK _ _ _ R1 T1 k1 s1 hgc.1 ?_;rw[hgc.2];exact h1
def IZ(h:Array Obj)(ok:Nat->Ty->Prop)(t:Ty)(xs:List t.den)(v:Value):Prop:=
 ∃mv,v= .map mv/\(mv=none->xs=[])/\∀blk,mv=some blk->∃(es:Array MapEntry) (ck:Nat),h[blk]? =some (.map es ck)/\es.size=(xs:List t.den).length/\
  ∀(i:Nat) (x:t.den),(xs:List t.den)[i]? =some x->∃e:MapEntry,es[i]? =some e/\NQ t e/\jJ h ok t x (yg t e)
theorem IZ.of_rep{ok:Nat->Ty->Prop}{t:Ty}{xs:List t.den}(ht:t.isEnt=true)(hr:jJ h ok (.sl t) xs [v]):IZ h ok t xs v:=by obtain⟨mv,e,h1,h2⟩:=(a1u ht).1 hr;exact⟨mv,by simpa using e,h1,λblk hb=>(h2 blk hb).2⟩
theorem IZ.of_arr{t:Ty}{xs:List t.den}(ht:t.isEnt=true)(ha:arrOk C t xs l)(hv:l.view none v):IZ C.h C.ok t xs v:=by
 cases l with
 |nil=>have:=ha.2;rw[ht]at this;cases this|st b=>cases ha|arr blk off len cap sz=>have:=ha.1;rw[ht]at this;cases this|mp b=>simp only[Loc.view]at hv;subst hv;exact⟨_,rfl,(λh=>nomatch h),λblk hb=>by cases hb;exact ha.2⟩
theorem a1k(R:Rel X cl ch S m ok a w)(hu:u.isEnt=true){v:V}{x:Value}{K:List u.den->Cmd α}(hv:jI ⟨w.heap,ok,m⟩ v x)
  (hK:∀xs,IZ w.heap ok u xs x->(K xs).post S Q):(a6l u v K).post S Q:=by
 unfold a6l;split<;>try trivial
 .refine dY λe=>?_;subst e;exact hK _ (IZ.of_rep hu hv)
 .rename_i bx;obtain⟨l,hm,hvw⟩:=hv;refine aI ?_;split<;>try trivial
  .rename_i t xs hS;obtain⟨l',hm',ha⟩:=R.own_arr hS;simp only at hm;rw[hm]at hm';cases hm';refine dY λe=>?_;subst e;exact hK _ (IZ.of_arr hu ha hvw)
  .rename_i t xs hS;obtain⟨l',hm',ha,_⟩:=R.own_frz hS;simp only at hm;rw[hm]at hm';cases hm';refine dY λe=>?_;subst e;exact hK _ (IZ.of_arr hu ha hvw)
theorem KQ{ok:Nat->Ty->Prop}{x:M.k.den×M.v.den}{e:MapEntry}(h1:NQ M.ent e)(h2:jJ h ok M.ent x (yg M.ent e)):
  gok M.ka e.key/\gok M.va e.val/\jJ h ok M.k x.1 (qI M.ka e.key)/\jJ h ok M.v x.2 (qI M.va e.val):=by
 obtain⟨g1,g2,g3⟩:=h1;obtain⟨c,d,e1,r1,r2⟩:=h2;obtain⟨rfl,rfl⟩:=List.append_inj (show qI M.ka e.key++qI M.va e.val=c++d from e1) (g3.trans (dJ r1).symm);exact⟨g1,g2,r1,r2⟩
theorem a5w{ok:Nat->Ty->Prop}{x:M.k.den}{y:M.v.den}{e:MapEntry}(g1:gok M.ka e.key)(g2:gok M.va e.val)(r1:jJ h ok M.k x (qI M.ka e.key))(r2:jJ h ok M.v y (qI M.va e.val)):
  NQ M.ent e/\jJ h ok M.ent (x,y) (yg M.ent e):=⟨⟨g1,g2,dJ r1⟩,_,_,rfl,r1,r2⟩
theorem Yz{c:V}(h:sQ C c v):Vh C c v:=by
 cases c<;>simp only[sQ]at h<;>try exact h
 all_goals exact h.elim
theorem a6Y{cs:List V}{us:List Value}{x:Value}(hg:Ql ag x us)(hl:eX C cs us):Vh C (mkV ag cs) x:=by
 cases ag
 .simp only[Ql]at hg;subst hg;cases cs with
  |nil=>simp[eX]at hl|cons c r=>
   obtain⟨v,r',e,h1,h2,h3⟩:=hl;simp at e;obtain⟨rfl,rfl⟩:=e;cases r with
   |nil=>exact Yz h1|cons d r=>obtain⟨_,_,e,_⟩:=h3;cases e
 .obtain⟨arr,rfl,rfl⟩:=hg;exact⟨arr,rfl,hl⟩
theorem v_(h:gok ag v):Ql ag v (qI ag v):=by
 cases ag
 .rfl
 .obtain⟨arr,rfl⟩:=h;exact⟨arr,rfl,rfl⟩
theorem SK{w:World}{t ke el:TypeId}{mv:Option Nat}{es:Array MapEntry}{key z:Value}{ok:Bool}(hund:P.underlying t=some (.map ke el))
  (hes:mv=none/\es=#[]\/∃r ck,mv=some r/\w.heap[r]? =some (.map es ck)) (hck:∀em,(Instr.checkKey em 10000 ke key).run P w= .ok () w) {r:Option (Nat×Value)}
  (hfind:(Instr.findKey ke key es.toList).run P w= .ok r w) (hz:(zeroValue el).run P w= .ok z w):
  (Instr.lookup t (.map mv) key ok).run P w= .ok (if ok then .tuple #[(r.map (·.2)).getD z,.bool r.isSome]else(r.map (·.2)).getD z) w:=by
 rcases hes with⟨rfl,rfl⟩|⟨b,ck,rfl,hb⟩
 .simp only[Instr.lookup,G9,run_underlying hund,H7,U6,hck,hfind];cases r with
  |none=>cases ok<;>simp[hz]|some p=>cases ok<;>simp
 .simp only[Instr.lookup,G9,run_underlying hund,GX hb,H7,U6,hck,hfind];cases r with
  |none=>cases ok<;>simp[hz]|some p=>cases ok<;>simp
theorem a4C(H:FxOk X)(R:Rel X cl ch S m ok a w){x ix:Operand}{okk:Bool}(ho:o.op= .lookup t x ix okk):(aP X.E q o).post S (λ_ S' =>gI X cl ch o a w m ok S'):=by
 unfold aP;simp only[ho];refine Z8 R λu hu=>Z8 R λkv hk=>?_;unfold a3b;cases hM:Oi X.E t with
 |none=>trivial|some M=>
 obtain⟨hund,hf,⟨i,hi,hko,hka⟩,⟨j,hj,hjt,hva⟩⟩:=Nh H hM;simp only[];refine PH (T:=[]) R Tk.nil hk λS1 ok1 key R1 T1 k1 s1 hg hr=>?_;refine a1k R1 rfl (Ld k1 hu) λxs hxs=>?_;obtain⟨mv,hx,hnil,hmap⟩:=hxs;have hkey:Ac (bf i.td) M.k key (a.eval ix):=by rw[←hka];exact⟨hg,yR hf hr⟩
 obtain⟨c1,c2⟩:=ZN H hi hko hf hkey w;obtain⟨inf,hinf,_,_,_,hzero⟩:=hj.info;obtain⟨_,z,hz,hzr⟩:=hzero _ hjt;have hzrun:(zeroValue M.el).run X.P w= .ok z w:=by simp[zeroValue,typeInfo,hinf,hz]
 have hzg:gok M.va z/\jJ w.heap ok1 M.v M.v.zero (qI M.va z):=by
  have hr0:jJ w.heap ok1 M.v M.v.zero z.cells.toList:=dK (λ_ _ h=>h.elim) (λ_ _ h=>h.elim) hzr;have hag:=hj.agg inf z hinf hz;rw[←hva]at hag;cases hva' :M.va
  .have h1:=hag.2 hva';have hcz:z.cells.toList=[z]:=by cases z<;>first|rfl|cases h1
   rw[hcz]at hr0;exact⟨h1,hr0⟩
  .exact⟨hag.1 hva',hr0⟩
 have hE:∃es:Array MapEntry,(mv=none/\es=#[]\/∃r ck,mv=some r/\w.heap[r]? =some (.map es ck))/\es.size=xs.length/\
   ∀(i:Nat) (x:M.k.den×M.v.den),xs[i]? =some x->∃e:MapEntry,es[i]? =some e/\NQ M.ent e/\jJ w.heap ok1 M.ent x (yg M.ent e):=by
  cases mv with
  |none=>have:=hnil rfl;subst this;exact⟨#[],.inl ⟨rfl,rfl⟩,rfl,λi x h=>by simp at h⟩|some blk=>obtain⟨es,ck,h1,h2,h3⟩:=hmap blk rfl;exact⟨es,.inr ⟨blk,ck,rfl,h1⟩,h2,h3⟩
 obtain⟨es,hes,hsz,hent⟩:=hE;have hfind:=c2 (β:=M.v.den) es.toList xs (by rw[Y9];exact hsz) (λj p hp=>by obtain⟨e,h1,h2,h3⟩:=hent j p hp;obtain⟨g1,g2,r1,r2⟩:=KQ h2 h3;exact⟨e,by simpa using h1,by rw[←hka];exact⟨g1,yR hf r1⟩⟩)
 have run:=SK (ok:=okk) hund hes c1 hfind hzrun;have hval:∃val,(((qO (keq M.k) xs key).bind λj=>(es.toList[j]?).map λe=>(j,e.val)).map (·.2)).getD z=val/\gok M.va val/\
   jJ w.heap ok1 M.v (a9T (keq M.k) xs key M.v.zero) (qI M.va val)/\(((qO (keq M.k) xs key).bind λj=>(es.toList[j]?).map λe=>(j,e.val))).isSome=a9U (keq M.k) xs key:=by
  rw[a4o,a4p];cases hfi:qO (keq M.k) xs key with
  |none=>exact⟨z,rfl,hzg.1,hzg.2,rfl⟩|some j=>
   obtain⟨p,hp,_⟩:=Np hfi;obtain⟨e,h1,h2,h3⟩:=hent j p hp;obtain⟨g1,g2,r1,r2⟩:=KQ h2 h3;have h1' :es.toList[j]? =some e:=by simpa using h1
   refine⟨e.val,by rw[gG,h1'];rfl,g2,?_,by rw[gG,h1'];rfl⟩;simp only[hp];exact r2
 obtain⟨val,e1,g,r,e2⟩:=hval;rw[e1,e2]at run;have hrel:=v_ g;have hL:=nZ (C:=⟨w.heap,ok1,m⟩) r;cases okk
 .simp only[cond_false];refine qi H R1 (λ_ _ h=>h) k1 (OM hrel hL) ?_;simp only[execOp,ho,hx,G9,run];rfl
 .simp only[cond_true];refine qi H R1 (λ_ _ h=>h) k1 (v:=.tup _) (x:=.tuple #[val,.bool (a9U (keq M.k) xs key)]) ⟨_,rfl,⟨_,_,rfl,a6Y hrel hL,_,_,rfl,rfl,rfl⟩⟩ ?_;simp only[execOp,ho,hx,G9,run];rfl
theorem a1h(H:FxOk X)(R:Rel X (CB*q) (CB*q+CB) S m ok a w){r:Option Operand}(ho:o.op= .makeMap t r):(aP X.E q o).post S (λ_ S' =>gI X (CB*q) (CB*q+CB) o a w m ok S'):=by
 have go:((Instr.makeMap t (r.map a.eval)).run X.P w= .ok (.map (some w.heap.size)) (w.alloc (.map #[] 0)))->
   (JC X.E (N7 q o.dst) t λv=>cO X.E o.dst v).post S (λ_ S' =>gI X (CB*q) (CB*q+CB) o a w m ok S'):=λrun=>by
  unfold JC;cases hM:Oi X.E t with
  |none=>trivial|some M=>
  refine Gg (l:=.mp w.heap.size) (obj:=.map #[] 0) (x:=.map (some w.heap.size)) H R A8 (by simp[P9]) (λhn hc=>?_) ⟨.mp w.heap.size,A8,rfl⟩ ?_
  .exact⟨.mp w.heap.size,A8,rfl,#[],0,heap_alloc_new w _,rfl,λi x h=>by simp at h⟩
  .simp only[execOp,ho,G9,run];rfl
 unfold aP;simp only[ho];cases r with
 |none=>exact go (by simp[Instr.makeMap])|some hd=>
  refine Z8 R λv hv=>?_;split<;>try trivial
  rename_i k n;cases hM:Oi X.E t with
  |none=>unfold JC;rw[hM];trivial|some M=>
  refine go ?_;simp[Instr.makeMap,qX hv,run_underlying (Nh H hM).1,asInt,asIntOf]
theorem Oz(H:FxOk X)(R:Rel X cl ch S m ok a w){x ix y:Operand}(ho:o.op= .mapUpdate t x ix y\/o.op= .insert t x ix y):(aP X.E q o).post S (λ_ S' =>gI X cl ch o a w m ok S'):=by
 suffices h:((match o.dst with|none=>nV x λm=>nV ix λk=>nV y λv=>Za X.E t m k v|some _=> .fail:Cmd Unit)).post S (λ_ S' =>gI X cl ch o a w m ok S') by unfold aP;rcases ho with ho|ho<;>simp only[ho]<;>exact h
 cases hd:o.dst with
 |some _=>trivial|none=>
 refine Z8 R λu hu=>Z8 R λkv hk=>Z8 R λyv hy=>?_;unfold Za;cases hM:Oi X.E t with
 |none=>trivial|some M=>
 obtain⟨hund,hf,⟨i,hi,hko,hka⟩,⟨j,hj,hjt,hva⟩⟩:=Nh H hM;simp only[];refine PH (T:=[]) R Tk.nil hk λS1 ok1 key R1 T1 k1 s1 hg hr=>?_;refine PH R1 T1 (Ld k1 hy) λS2 ok2 z R2 T2 k2 s2 hg2 hr2=>?_;have hkey:Ac (bf i.td) M.k key (a.eval ix):=by rw[←hka];exact⟨hg,yR hf hr⟩
 obtain⟨c1,c2⟩:=ZN H hi hko hf hkey w;split<;>try trivial
 rename_i bx;obtain⟨l0,hm0,hvw⟩:=hu;simp only at hm0;refine aI ?_;split<;>try trivial
 rename_i u xs hS;refine dY λe=>?_;subst e;refine fQ ?_;obtain⟨l,hm,ha⟩:=R2.own_arr hS;rw[hm0]at hm;cases hm;cases l0 with
 |nil=>exact absurd ha.2 (by simp[MT.ent,Ty.isEnt])|st b=>cases ha|arr blk off len cap sz=>exact absurd ha.1 (by simp[MT.ent,Ty.isEnt])|mp blk=>
 simp only[Loc.view]at hvw;obtain⟨_,es,ck,hb,hsz,hent⟩:=ha;simp only at hb hent;have hown:P9 m bx (S2 (Y4+bx))=[blk]:=by rw[hS];simp[P9,hm0]
 have hsep:=R2.sep bx blk (by rw[hown];simp);have hfind:=c2 (β:=M.v.den) es.toList xs (by rw[Y9];exact hsz) (λj p hp=>by obtain⟨e,h1,h2,h3⟩:=hent j p hp;obtain⟨g1,g2,r1,r2⟩:=KQ h2 h3;exact⟨e,by simpa using h1,by rw[←hka];exact⟨g1,yR hf r1⟩⟩)
 have fin:∀(es' :Array MapEntry) (ck' :Nat) (xs' :List (M.k.den×M.v.den)),xs' =a4q (keq M.k) xs key z->
   (Instr.mapUpdate t (a.eval x) (a.eval ix) (a.eval y)).run X.P w= .ok () { w with heap:=w.heap.setIfInBounds blk (.map es' ck') }->es'.size=xs'.length->
   (∀(i:Nat) (x:M.k.den×M.v.den),xs'[i]? =some x->∃e:MapEntry,es'[i]? =some e/\NQ M.ent e/\jJ w.heap ok2 M.ent x (yg M.ent e))->
   gI X cl ch o a w m ok (upd S2 (Y4+bx) (.barr M.ent (a4q (keq M.k) xs key z))):=by
  intro es' ck' xs' hxs' run hsz' hent';subst hxs';obtain⟨q1,q2⟩:=MapKept.heap_set (o' :=.map es' ck') hb;have R3:Rel X cl ch (upd S2 (Y4+bx) (.barr M.ent (a4q (keq M.k) xs key z))) m ok2 a { w with heap:=w.heap.setIfInBounds blk (.map es' ck') }:=by refine R2.mod (by rw[hown];simp[P9,hm0]) A8 rfl rfl rfl A8 (λb hb=>q2 b (by rw[hown]at hb;simpa using hb)) ?_;refine⟨.mp blk,hm0,rfl,es',ck',q1,hsz',λi x hx=>?_⟩;obtain⟨e,h1,h2,h3⟩:=hent' i x hx;exact⟨e,h1,h2,dK (λ_ _ h=>h) (λb t hb=>q2 b (λe=>hsep.1 t (e▸hb))) h3⟩
  intro next Q hn
  unfold Oper.wp;have e:(execOp a.eval o).run X.P w= .ok .skip { w with heap:=w.heap.setIfInBounds blk (.map es' ck') }:=by rcases ho with ho|ho<;>simp[execOp,ho,run]
  rw[e,Oper.upon_skip,hd];exact hn m ok2 a _ R3 (λ_ _ h=>h) (λb t h=>k2 b t (k1 b t h))
 have hnew:∀n,NQ M.ent { key:=a.eval ix,val:=a.eval y,born:=n }/\jJ w.heap ok2 M.ent (key,z) (yg M.ent { key:=a.eval ix,val:=a.eval y,born:=n }):=λn=>
  a5w (e:={ key:=a.eval ix,val:=a.eval y,born:=n }) hg hg2 (yR hf hr) hr2
 show gI X cl ch o a w m ok (upd S2 (Y4+bx) (.barr M.ent (a4q (keq M.k) xs key z)));cases hfi:qO (keq M.k) xs key with
 |none=>
  rw[hfi]at hfind;refine fin (es.push { key:=a.eval ix,val:=a.eval y,born:=ck }) (ck+1) (xs++[(key,z)]) (by rw[Xi,hfi]) ?_ (by simp[hsz]) λi x hx=>?_
  .rw[hvw];simp only[Instr.mapUpdate,G9,run_underlying hund,GX hb,H7,c1,hfind,Option.bind_none];exact MapKept.run_setObj_map _ hb
  .rw[List.getElem?_append]at hx;split at hx
   .rename_i hlt;obtain⟨e,h1,h2,h3⟩:=hent i x hx;refine⟨e,?_,h2,dK (λ_ _ h=>h) (λ_ _ _=>rfl) h3⟩;rw[Array.getElem?_push_lt o5];rw[←h1,N9 o5]
   .rename_i hge;have hi0:i=xs.length:=by
     have:=(aK.1 hx).1;simp at this;omega
    subst hi0;simp at hx;subst hx;exact⟨_,by rw[←hsz];simp,hnew ck⟩
 |some j=>
  obtain⟨p,hp,hpk⟩:=Np hfi;obtain⟨e,h1,h2,h3⟩:=hent j p hp;obtain⟨g1,g2,r1,r2⟩:=KQ h2 h3;have h1' :es.toList[j]? =some e:=by simpa using h1
  have hpe:=(SX hf _ _).1 hpk;have hke:e.key=a.eval ix:=Ac.det hf (ag:=M.ka) (x:=key) ⟨g1,by rw[hpe];exact yR hf r1⟩ ⟨hg,yR hf hr⟩;rw[hfi]at hfind;simp only[gG,h1',aV]at hfind;refine fin (es.modify j λe=> { e with key:=a.eval ix,val:=a.eval y }) ck (xs.set j (key,z)) (by rw[Xi,hfi]) ?_ (by simp[hsz]) λi x hx=>?_
  .rw[hvw];simp only[Instr.mapUpdate,G9,run_underlying hund,GX hb,H7,c1,hfind,h1,aV,dM,hke,Ac.stays (P:=X.P) (w:=w) hf hkey];exact MapKept.run_setObj_map _ hb
  .rw[P8]at hx;rw[jK];split at hx
   .rename_i hij;subst hij;split at hx
    .cases hx;simp only[if_true,h1,aV];exact⟨_,rfl,hnew e.born⟩
    .cases hx
   .rename_i hij;simp only[hij,if_false];obtain⟨e',a1,a2,a3⟩:=hent i x hx;exact⟨e',a1,a2,dK (λ_ _ h=>h) (λ_ _ _=>rfl) a3⟩
end
end Go.GP
namespace Go.GP
theorem XE:∀(n:Nat) (vs a b:List V),Ii n vs=some (a,b)->vs=a++b/\a.length=n
 |0,vs,a,b,h=>by simp[Ii]at h;obtain⟨rfl,rfl⟩:=h;simp
 |n+1,[],a,b,h=>by simp[Ii]at h|n+1,v::vs,a,b,h=>by
  unfold Ii at h;cases hs:Ii n vs with
  |none=>simp[hs]at h|some p=>obtain⟨a',b'⟩:=p;simp only[hs,F6,jq]at h;obtain⟨rfl,rfl⟩:=h;obtain⟨rfl,hl⟩:=XE n vs _ _ hs;exact⟨rfl,by simp[hl]⟩
theorem RJ{C:Cx} :∀{a b:List V} {xs ys:List Value},a.length=xs.length->fK C (a++b) (xs++ys)->fK C a xs/\fK C b ys
 |[],b,xs,ys,hl,h=>by
  have:xs=[]:=by cases xs<;>simp at hl ⊢
  subst this;exact⟨rfl,h⟩
 |c::a,b,xs,ys,hl,h=>by
  cases xs with
  |nil=>simp at hl|cons x xs=>obtain⟨v,r,e,h1,h2⟩:=h;simp only[Z4,G7]at e;obtain⟨rfl,rfl⟩:=e;obtain⟨h3,h4⟩:=RJ (by simpa using hl) h2;exact⟨⟨_,_,rfl,h1,h3⟩,h4⟩
theorem a3u{C:Cx} :∀{a:List V} {xs:List Value},EQ a=false->fK C a xs->YB C a xs
 |[],xs,_,h=>h|c::a,xs,ht,⟨v,r,e,h1,h2⟩=>by
  have ht2:EQ a=false:=by cases c<;>first|exact ht|(simp[EQ]at ht)
  refine⟨v,r,e,?_,a3u ht2 h2⟩;cases c<;>first|exact h1|(simp[EQ]at ht)
variable {v:Value}
theorem a7d{C:Cx}{a:List V}{xs:List Value}{n:Nat}(ht:EQ a=false)(h:fK C a xs)(hr:a0m n v xs):jI C (b0u a) v:=by
 obtain⟨_,hv⟩:=hr;cases a with
 |nil=>simp only[fK]at h;subst h;simp only at hv;subst hv;exact⟨_,rfl,rfl⟩|cons c a=>
  obtain⟨x,r,rfl,h1,h2⟩:=h;cases a with
  |nil=>simp only[fK]at h2;subst h2;simp only at hv;subst hv;exact h1|cons d a=>obtain⟨y,r',rfl,h3,h4⟩:=h2;simp only at hv;subst hv;exact⟨_,rfl,a3u ht ⟨_,_,rfl,h1,_,_,rfl,h3,h4⟩⟩
theorem TN{h:Array Obj}{ok ok' :Nat->Ty->Prop} :∀{ts:List Ty} {x:QJ ts} {vs:List Value},(∀b u,ok b u->Ru u ts=true->ok' b u)->Cb h ok (QG ts x) vs->Cb h ok' (QG ts x) vs
 |[],_,_,_,hr=>hr|[t],x,_,f,hr=>by obtain⟨v,r,e,⟨b,o,es,hv,hb,hc,hp⟩,h2⟩:=hr;exact⟨v,r,e,⟨b,o,es,hv,f _ _ hb (by simp[Ru]),hc,vN (λb u h k=>f b u h (by simp[Ru,k])) hp⟩,h2⟩
 |t::t' ::ts,x,_,f,hr=>by obtain⟨v,r,e,⟨b,o,es,hv,hb,hc,hp⟩,h2⟩:=hr;exact⟨v,r,e,⟨b,o,es,hv,f _ _ hb (by simp[Ru]),hc,vN (λb u h k=>f b u h (by simp[Ru,k])) hp⟩,TN (ts:=t' ::ts) (λb u h k=>f b u h (by rw[Ru,k];simp)) h2⟩
theorem Pv{h:Array Obj}{ok ok' :Nat->Ty->Prop}{m:Mp}{t:Ty}{xs:List t.den}{l:Loc}(f:∀b u,ok b u->Ty.occ u t=true->ok' b u)(hr:arrOk ⟨h,ok,m⟩ t xs l):arrOk ⟨h,ok',m⟩ t xs l:=by
 cases l with
 |nil=>exact hr|st b=>exact hr|mp b=>obtain⟨h1,es,ck,h2,h3,h4⟩:=hr;refine⟨h1,es,ck,h2,h3,λi y hi=>?_⟩;obtain⟨e,a1,a2,a3⟩:=h4 i y hi;exact⟨e,a1,a2,vN f a3⟩
 |arr blk off len cap sz=>obtain⟨h0,h1,h2,h3,c,T,g,h4,hz,h5,h6⟩:=hr;refine⟨h0,h1,h2,h3,c,T,g,h4,hz,h5,λi y hi=>?_⟩;obtain⟨es,he,hp⟩:=h6 i y hi;exact⟨es,he,vN f hp⟩
theorem Dt{h:Array Obj}{ok ok' :Nat->Ty->Prop} :∀{m:M} {ho:Option Nat} {x:m.den} {cs:List Value} {O:List Nat},(∀b u,ok b u->m.occ u=true->ok' b u)->nP h ok m ho x cs O->nP h ok' m ho x cs O
 | .dat t,_,_,_,_,f,hr=>⟨vN f hr.1,hr.2⟩| .unit,_,_,_,_,_,hr=>hr| .pair a b,_,_,_,_,f,⟨c,d,O1,O2,e,eo,h1,h2⟩=>⟨c,d,O1,O2,e,eo,Dt (λb u h k=>f b u h (by simp[M.occ,k])) h1,Dt (λb u h k=>f b u h (by simp[M.occ,k])) h2⟩| .box m,_,_,_,_,f,⟨blk,arr,T,O',e,hh,hr,eo⟩=>⟨blk,arr,T,O',e,hh,Dt f hr,eo⟩| .own t,ho,_,_,_,f,⟨v,e,h1,ha⟩=>by
  refine⟨v,e,h1,?_⟩;split at ha
  .exact ha
  .obtain⟨l,hv,ha,hO⟩:=ha;exact⟨l,hv,Pv f ha,hO⟩
 | .owns m,ho,_,_,_,f,⟨v,e,h1,ha⟩=>by
  refine⟨v,e,h1,?_⟩;split at ha
  .exact ha
  .obtain⟨he,l,Os,hv,ha,hO⟩:=ha;exact⟨he,l,Os,hv,DV (λ_ _=>rfl) (λi x es O _ hr=>Dt f hr) ha,hO⟩
 | .ownb t,_,_,_,_,f,⟨l,v,e,hv,ha,hO⟩=>⟨l,v,e,hv,Pv f ha,hO⟩| .rp t,_,_,_,_,f,⟨v,e,⟨b,o,es,hv,hb,hc,hp⟩,h2⟩=>⟨v,e,⟨b,o,es,hv,f _ _ hb (by simp[M.occ]),hc,vN (λb u h k=>f b u h (by simp[M.occ,k])) hp⟩,h2⟩| .fn g ts,_,_,_,_,f,⟨vs,e,h1,h2⟩=>⟨vs,e,TN f h1,h2⟩| .ifc t m,_,_,_,_,f,⟨u,e,h1⟩=>⟨u,e,Dt f h1⟩| .cell _,_,_,_,_,_,h=>h| .fr t,_,_,_,_,f,⟨l,v,e,hv,ha,hk,hO⟩=>⟨l,v,e,hv,Pv (λb u h k=>f b u h (by simp[M.occ,k])) ha,λb h=>f b t (hk b h) (by simp[M.occ]),hO⟩| .sbx _ _,_,_,_,_,f,h=>h| .lp t,_,_,_,_,f,⟨v,e,⟨b,o,es,hv,hb,hc,hp⟩,h2⟩=>⟨v,e,⟨b,o,es,hv,f _ _ hb (by simp[M.occ]),hc,vN (λb u h k=>f b u h (by simp[M.occ,k])) hp⟩,h2⟩| .dv ..,_,_,_,_,f,h=>h| .sit,_,_,_,_,f,h=>h
theorem Vl{h:Array Obj}{ok ok' :Nat->Ty->Prop} :∀{ms:List MG} {x:V4 ms} {vs:List Value} {O:List Nat},(∀b u,ok b u->JF u ms=true->ok' b u)->qW h ok ms x vs O->qW h ok' ms x vs O
 |[],_,_,_,_,e=>e|[m],_,_,_,f,⟨v,cs,e,hg,hr⟩=>⟨v,cs,e,hg,Dt (λb u h k=>f b u h (by simp[JF,k])) hr⟩|m::m' ::r,_,_,_,f,⟨v,cs,vs',O1,O2,e,eo,hg,h1,h2⟩=>
  ⟨v,cs,vs',O1,O2,e,eo,hg,Dt (λb u h k=>f b u h (by simp[JF,k])) h1,Vl (λb u h k=>f b u h (by rw[JF,k];simp)) h2⟩
theorem Oo{u:Ty} :∀{a b:List MG},JF u (a++b)=(JF u a || JF u b)
 |[],_=>rfl|m::a,b=>by simp[JF,Oo,Bool.or_assoc]
theorem Xn:∀{fs:List (Nat×FSpec)} {f:Nat} {vs:List V} {s:FSpec},n_ fs f vs=some s->(f,s)∈fs
 |[],_,_,_,h=>by simp[n_]at h|(g,s')::r,f,vs,s,h=>by
  unfold n_ at h;cases hb:(Nat.beq g f&&MS s'.ps vs)
  .rw[hb]at h;exact V5 _ (Xn h)
  .rw[hb]at h;simp only[cond_true,F6]at h;subst h;simp only[A7]at hb;have:=fC hb.1;subst this;exact gW
theorem b1i{l l0:Loc}(h:l.view none v)(h0:l0.view none v)(hs:∀b o n c s b' o' n' c' s',l= .arr b o n c s->l0= .arr b' o' n' c' s' ->s=s'):l=l0:=by
 cases l<;>cases l0<;>simp only[Loc.view]at h h0
 .rfl
 .rw[h]at h0;cases h0
 .rw[h]at h0;cases h0
 .rw[h]at h0;cases h0
 .rw[h]at h0;simp only[nK,F6,fV,and_true]at h0;obtain⟨⟨rfl,rfl⟩,rfl,rfl⟩:=h0;have:=hs _ _ _ _ _ _ _ _ _ _ rfl rfl;subst this;rfl
 .rw[h]at h0;cases h0
 .rw[h]at h0;cases h0
 .rw[h]at h0;cases h0
 .rw[h]at h0;cases h0;rfl
theorem MC{h:Array Obj}{ok:Nat->Ty->Prop} :∀{ms:List MG} {x:V4 ms} {vs:List Value} {O:List Nat},qW h ok ms x vs O->vs.length=ms.length
 |[],_,_,_,e=>by simp[e.1]|[m],_,_,_,⟨v,cs,e,hg,hr⟩=>by simp[e]|m::m' ::r,_,_,_,⟨v,cs,vs',O1,O2,e,eo,hg,h1,h2⟩=>by have:=MC h2;subst e;simp[this]
variable {q:Nat}{f:FuncId}{c:Call}
section
variable {X:Fx} {cl ch:Nat} {S:Sm} {m:Mp} {ok:Nat->Ty->Prop} {a:Act} {w:World} {o:Oper}
theorem ay{α:Type}{Q:α->Sm->Prop}{h0:Array Obj}{ok0:Nat->Ty->Prop}{m0:Mp} :∀(ms:List MG) {vs:List V} {vals:List Value} {ws:List V} {os:List Value} {B:List Nat} {K:Cmd α} {S:Sm}
  (R:Rel X cl ch S m ok a w) (hm:∀k l,m0 k=some l->m k=some l) (hT:Tk X S m ok w B) (hv:fK ⟨h0,ok0,m0⟩ vs vals) (ho:vU w.heap ms vals os B) (hw:fK ⟨w.heap,ok,m⟩ ws os)
  (hK:∀S',Rel X cl ch S' m ok a w->K.post S' Q),(Z5 ms vs ws K).post S Q
 |[],vs,vals,ws,os,B,K,S,R,hm,hT,hv,ho,hw,hK=>by
  cases vs with
  |cons _ _=>unfold Z5;trivial|nil=>
   cases ws with
   |cons _ _=>unfold Z5;trivial|nil=>unfold Z5;exact hK S R
 |(g,.dat t)::ms,vs,vals,ws,os,B,K,S,R,hm,hT,hv,ho,hw,hK=>by
  cases vs with
  |nil=>unfold Z5;trivial|cons v vs=>obtain⟨x,r,rfl,h1,h2⟩:=hv;unfold Z5;exact ay ms R hm hT h2 ho hw hK
 |(g,.own t)::ms,vs,vals,ws,os,B,K,S,R,hm,hT,hv,ho,hw,hK=>by
  cases vs with
  |nil=>unfold Z5;trivial|cons v vs=>obtain⟨x,r,rfl,h1,h2⟩:=hv;unfold Z5;exact ay ms R hm hT h2 ho hw hK
 |(g,.pair p q)::ms,vs,vals,ws,os,B,K,S,R,hm,hT,hv,ho,hw,hK=>by
  cases vs with
  |nil=>unfold Z5;trivial|cons v vs=>obtain⟨x,r,rfl,h1,h2⟩:=hv;unfold Z5;exact ay ms R hm hT h2 ho hw hK
 |(g,.unit)::ms,vs,vals,ws,os,B,K,S,R,hm,hT,hv,ho,hw,hK=>by
  cases vs with
  |nil=>unfold Z5;trivial|cons v vs=>obtain⟨x,r,rfl,h1,h2⟩:=hv;unfold Z5;exact ay ms R hm hT h2 ho hw hK
 |(g,.cell _)::ms,vs,vals,ws,os,B,K,S,R,hm,hT,hv,ho,hw,hK=>by
  cases vs with
  |nil=>unfold Z5;trivial|cons v vs=>obtain⟨x,r,rfl,h1,h2⟩:=hv;unfold Z5;exact ay ms R hm hT h2 ho hw hK
 |(g,.fr _)::ms,vs,vals,ws,os,B,K,S,R,hm,hT,hv,ho,hw,hK=>by
  cases vs with
  |nil=>unfold Z5;trivial|cons v vs=>obtain⟨x,r,rfl,h1,h2⟩:=hv;unfold Z5;exact ay ms R hm hT h2 ho hw hK
 |(g,.box md)::ms,vs,vals,ws,os,B,K,S,R,hm,hT,hv,ho,hw,hK=>by
  cases vs with
  |nil=>unfold Z5;trivial|cons v0 vs=>
  cases v0<;>try (unfold Z5;trivial)
  case ptr bx off=>
  cases ws with
  |nil=>unfold Z5;trivial|cons o0 ws=>
  cases o0<;>try (unfold Z5;trivial)
  case agg cs=>
   unfold Z5;refine aI ?_;split<;>try trivial
   rename_i hS;refine fQ ?_;obtain⟨x,r,rfl,h1,h2⟩:=hv;obtain⟨y,r',rfl,h3,h4⟩:=hw;obtain⟨b,arr,T,os',B',e1,hh,e2,rfl,ho'⟩:=ho;simp only[G7]at e2;obtain⟨rfl,rfl⟩:=e2;obtain⟨blk,hmb,e3⟩:=h1;subst e1;simp only[kZ,F6,fV,and_true]at e3;obtain⟨rfl,rfl⟩:=e3;obtain⟨arr',e4,hl⟩:=h3;simp only[Value.agg.injEq]at e4;subst e4;have hmb' :=hm _ _ hmb;obtain⟨R',T'⟩:=R.backV (n:=bx) (v:=.bcells cs) (O1:=[b]) (B:=B') A8 (by simpa using hT) (by simp[P9,hmb']) ⟨b,_,T,hmb',hh,hl⟩;exact ay ms R' hm T' h2 ho' h4 hK
 |(g,.ifc t (.box md))::ms,vs,vals,ws,os,B,K,S,R,hm,hT,hv,ho,hw,hK=>by
  cases vs with
  |nil=>unfold Z5;trivial|cons v0 vs=>
  cases v0<;>try (unfold Z5;trivial)
  case ifc t' v1=>
  cases v1<;>try (unfold Z5;trivial)
  case ptr bx off=>
  cases ws with
  |nil=>unfold Z5;trivial|cons o0 ws=>
  cases o0<;>try (unfold Z5;trivial)
  case agg cs=>
   unfold Z5;refine aI ?_;split<;>try trivial
   rename_i hS;refine fQ ?_;obtain⟨x,r,rfl,h1,h2⟩:=hv;obtain⟨y,r',rfl,h3,h4⟩:=hw;obtain⟨t2,b,arr,T,os',B',e1,hh,e2,rfl,ho'⟩:=ho;simp only[G7]at e2;obtain⟨rfl,rfl⟩:=e2;obtain⟨u,e5,_,h1⟩:=h1;obtain⟨blk,hmb,e3⟩:=h1;subst e1;subst e3;simp only[Value.iface.injEq,kZ,F6,fV,and_true]at e5;obtain⟨rfl,rfl,rfl⟩:=e5;obtain⟨arr',e4,hl⟩:=h3;simp only[Value.agg.injEq]at e4;subst e4;have hmb' :=hm _ _ hmb;obtain⟨R',T'⟩:=R.backV (n:=bx) (v:=.bcells cs) (O1:=[b]) (B:=B') A8 (by simpa using hT) (by simp[P9,hmb']) ⟨b,_,T,hmb',hh,hl⟩;exact ay ms R' hm T' h2 ho' h4 hK
 |(g,.ownb t)::ms,vs,vals,ws,os,B,K,S,R,hm,hT,hv,ho,hw,hK=>by
  cases vs with
  |nil=>unfold Z5;trivial|cons v0 vs=>
  obtain⟨x,r,rfl,h1,h2⟩:=hv;obtain⟨os',rfl,ho'⟩:=ho;cases v0<;>try (unfold Z5;trivial)
  case nl=>
   cases ws with
   |nil=>unfold Z5;trivial|cons o0 ws=>
   cases o0<;>try (unfold Z5;trivial)
   case own nm vw=>
   cases vw with
   |some _=>unfold Z5;trivial|none=>
   unfold Z5;obtain⟨y,r',e,h3,h4⟩:=hw;simp only[G7]at e;obtain⟨rfl,rfl⟩:=e;refine fQ ?_;have T1:=Tk.kill R hT nm (bs:=[]) (λb h=>by cases h) cZ;rw[H6]at T1;exact ay ms (R.kill nm) hm T1 h2 ho' h4 hK
  case own bx vw=>
   cases vw with
   |some _=>unfold Z5;trivial|none=>
   cases ws with
   |nil=>unfold Z5;trivial|cons o0 ws=>
   cases o0<;>try (unfold Z5;trivial)
   case own nm vw=>
   cases vw with
   |some _=>unfold Z5;trivial|none=>
   unfold Z5;obtain⟨y,r',e,h3,h4⟩:=hw;simp only[G7]at e;obtain⟨rfl,rfl⟩:=e;obtain⟨l0,hm0,hv0⟩:=h1;obtain⟨l,hml,hvl⟩:=h3;have hm0' :=hm _ _ hm0;refine aI ?_;split<;>try trivial
   rename_i u xs hS;refine fQ (aI ?_);split<;>try trivial
   rename_i t' hS2;refine dY λe=>?_;subst e;refine fQ ?_;obtain⟨l',hml',ha⟩:=R.own_arr hS;simp only at hml;rw[hml]at hml';cases hml';have R1:=R.kill nm;have hob:P9 m nm (S (Y4+nm))=l.blks:=by rw[hS];cases l<;>first|(simp[P9,hml,Loc.blks];done)|cases ha
   have T1:=Tk.kill R hT nm (bs:=l.blks) (λb h=>by rw[hob];exact h) (Loc.blks_nodup l);have hg:=R1.box bx;rw[hS2]at hg;obtain⟨l1,hm1,hsz⟩:=hg;simp only at hm1;rw[hm0']at hm1;cases hm1;have hll:l=l0:=b1i hvl hv0 (λb o n c s b' o' n' c' s' e1 e2=>by subst e1;rw[hsz _ _ _ _ _ e2];exact ha.2.1);subst hll;obtain⟨R',T'⟩:=R1.backV (n:=bx) (v:=.barr u xs) (O1:=l.blks) (B:=B) A8 (T1.perm iC) (by cases l<;>first|(simp[P9,hm0',Loc.blks];done)|cases ha) ⟨l,hm0',ha⟩;exact ay ms R' hm T' h2 ho' h4 hK
 |(g,.lp _)::ms,vs,vals,ws,os,B,K,S,R,hm,hT,hv,ho,hw,hK=>by
  cases vs with
  |nil=>unfold Z5;trivial|cons v vs=>obtain⟨x,r,rfl,h1,h2⟩:=hv;unfold Z5;exact ay ms R hm hT h2 ho hw hK
 |(g,.dv ..)::ms,vs,vals,ws,os,B,K,S,R,hm,hT,hv,ho,hw,hK=>by
  cases vs with
  |nil=>unfold Z5;trivial|cons v vs=>obtain⟨x,r,rfl,h1,h2⟩:=hv;unfold Z5;exact ay ms R hm hT h2 ho hw hK
 |(g,.sit)::ms,vs,vals,ws,os,B,K,S,R,hm,hT,hv,ho,hw,hK=>by cases vs<;>(unfold Z5;trivial)|(g,.sbx _ _)::ms,vs,vals,ws,os,B,K,S,R,hm,hT,hv,ho,hw,hK=>by
  cases vs with
  |nil=>unfold Z5;trivial|cons v0 vs=>
  obtain⟨x,r,rfl,h1,h2⟩:=hv;obtain⟨os',rfl,ho'⟩:=ho;cases v0<;>try (unfold Z5;trivial)
  case ptr bx off=>
  cases ws with
  |nil=>unfold Z5;trivial|cons o0 ws=>
  cases o0<;>try (unfold Z5;trivial)
  case ptr nm off' =>
   unfold Z5;obtain⟨y,r',e,h3,h4⟩:=hw;simp only[G7]at e;obtain⟨rfl,rfl⟩:=e;obtain⟨b0,hm0,hv0⟩:=h1;obtain⟨b1,hm1,hv1⟩:=h3;have hm0' :=hm _ _ hm0;have hbb:b0=b1:=by rw[hv0]at hv1;simp only[kZ,F6,fV,and_true]at hv1;exact hv1.1
   subst hbb;refine aI ?_;split<;>try trivial
   rename_i tb0 c hS;refine fQ (aI ?_);split<;>try trivial
   rename_i hS2;refine fQ ?_;have hb:=R.box nm;rw[hS]at hb;obtain⟨blk',a0,v0,hm',hh,hs,g1⟩:=hb;simp only at hm1 hm';rw[hm1]at hm';cases hm';have R1:=R.kill nm;have T1:=Tk.kill R hT nm (bs:=[b0]) (λb h=>by rw[hS];simp[P9,hm1];simpa using h) A8;obtain⟨R',T'⟩:=R1.backV (n:=bx) (v:=.bsb tb0 c) (O1:=[b0]) (B:=B) A8 (T1.perm iC) (by simp[P9,hm0']) ⟨b0,a0,v0,hm0',hh,hs,g1⟩;exact ay ms R' hm T' h2 ho' h4 hK
 |(g,.owns md)::ms,vs,vals,ws,os,B,K,S,R,hm,hT,hv,ho,hw,hK=>by
  cases vs with
  |nil=>unfold Z5;trivial|cons v vs=>obtain⟨x,r,rfl,h1,h2⟩:=hv;unfold Z5;exact ay ms R hm hT h2 ho hw hK
 |(g,.rp t)::ms,vs,vals,ws,os,B,K,S,R,hm,hT,hv,ho,hw,hK=>by
  cases vs with
  |nil=>unfold Z5;trivial|cons v vs=>obtain⟨x,r,rfl,h1,h2⟩:=hv;unfold Z5;exact ay ms R hm hT h2 ho hw hK
 |(g,.fn f ts)::ms,vs,vals,ws,os,B,K,S,R,hm,hT,hv,ho,hw,hK=>by
  cases vs with
  |nil=>unfold Z5;trivial|cons v vs=>obtain⟨x,r,rfl,h1,h2⟩:=hv;unfold Z5;exact ay ms R hm hT h2 ho hw hK
 |(g,.ifc t (.dat u))::ms,vs,vals,ws,os,B,K,S,R,hm,hT,hv,ho,hw,hK=>by
  cases vs with
  |nil=>unfold Z5;trivial|cons v vs=>obtain⟨x,r,rfl,h1,h2⟩:=hv;unfold Z5;exact ay ms R hm hT h2 ho hw hK
 |(g,.ifc t (.own u))::ms,vs,vals,ws,os,B,K,S,R,hm,hT,hv,ho,hw,hK=>by
  cases vs with
  |nil=>unfold Z5;trivial|cons v vs=>obtain⟨x,r,rfl,h1,h2⟩:=hv;unfold Z5;exact ay ms R hm hT h2 ho hw hK
 |(g,.ifc t (.pair p q))::ms,vs,vals,ws,os,B,K,S,R,hm,hT,hv,ho,hw,hK=>by
  cases vs with
  |nil=>unfold Z5;trivial|cons v vs=>obtain⟨x,r,rfl,h1,h2⟩:=hv;unfold Z5;exact ay ms R hm hT h2 ho hw hK
 |(g,.ifc t (.unit))::ms,vs,vals,ws,os,B,K,S,R,hm,hT,hv,ho,hw,hK=>by
  cases vs with
  |nil=>unfold Z5;trivial|cons v vs=>obtain⟨x,r,rfl,h1,h2⟩:=hv;unfold Z5;exact ay ms R hm hT h2 ho hw hK
 |(g,.ifc t (.cell _))::ms,vs,vals,ws,os,B,K,S,R,hm,hT,hv,ho,hw,hK=>by
  cases vs with
  |nil=>unfold Z5;trivial|cons v vs=>obtain⟨x,r,rfl,h1,h2⟩:=hv;unfold Z5;exact ay ms R hm hT h2 ho hw hK
 |(g,.ifc t (.lp _))::ms,vs,vals,ws,os,B,K,S,R,hm,hT,hv,ho,hw,hK=>by
  cases vs with
  |nil=>unfold Z5;trivial|cons v vs=>obtain⟨x,r,rfl,h1,h2⟩:=hv;unfold Z5;exact ay ms R hm hT h2 ho hw hK
 |(g,.ifc t (.dv ..))::ms,vs,vals,ws,os,B,K,S,R,hm,hT,hv,ho,hw,hK=>by
  cases vs with
  |nil=>unfold Z5;trivial|cons v vs=>obtain⟨x,r,rfl,h1,h2⟩:=hv;unfold Z5;exact ay ms R hm hT h2 ho hw hK
 |(g,.ifc t (.fr _))::ms,vs,vals,ws,os,B,K,S,R,hm,hT,hv,ho,hw,hK=>by
  cases vs with
  |nil=>unfold Z5;trivial|cons v vs=>obtain⟨x,r,rfl,h1,h2⟩:=hv;unfold Z5;exact ay ms R hm hT h2 ho hw hK
 |(g,.ifc t (.owns md))::ms,vs,vals,ws,os,B,K,S,R,hm,hT,hv,ho,hw,hK=>by
  cases vs with
  |nil=>unfold Z5;trivial|cons v vs=>obtain⟨x,r,rfl,h1,h2⟩:=hv;unfold Z5;exact ay ms R hm hT h2 ho hw hK
 |(g,.ifc t .sit)::ms,vs,vals,ws,os,B,K,S,R,hm,hT,hv,ho,hw,hK=>by
  cases vs with
  |nil=>unfold Z5;trivial|cons v vs=>obtain⟨x,r,rfl,h1,h2⟩:=hv;unfold Z5;exact ay ms R hm hT h2 ho hw hK
 |(g,.ifc t (.sbx _ _))::ms,vs,vals,ws,os,B,K,S,R,hm,hT,hv,ho,hw,hK=>by
  cases vs with
  |nil=>unfold Z5;trivial|cons v vs=>obtain⟨x,r,rfl,h1,h2⟩:=hv;unfold Z5;exact ay ms R hm hT h2 ho hw hK
 |(g,.ifc t (.ownb u))::ms,vs,vals,ws,os,B,K,S,R,hm,hT,hv,ho,hw,hK=>by
  cases vs with
  |nil=>unfold Z5;trivial|cons v vs=>obtain⟨x,r,rfl,h1,h2⟩:=hv;unfold Z5;exact ay ms R hm hT h2 ho hw hK
 |(g,.ifc t (.rp u))::ms,vs,vals,ws,os,B,K,S,R,hm,hT,hv,ho,hw,hK=>by
  cases vs with
  |nil=>unfold Z5;trivial|cons v vs=>obtain⟨x,r,rfl,h1,h2⟩:=hv;unfold Z5;exact ay ms R hm hT h2 ho hw hK
 |(g,.ifc t (.fn f ts))::ms,vs,vals,ws,os,B,K,S,R,hm,hT,hv,ho,hw,hK=>by
  cases vs with
  |nil=>unfold Z5;trivial|cons v vs=>obtain⟨x,r,rfl,h1,h2⟩:=hv;unfold Z5;exact ay ms R hm hT h2 ho hw hK
 |(g,.ifc t (.ifc t2 md))::ms,vs,vals,ws,os,B,K,S,R,hm,hT,hv,ho,hw,hK=>by
  cases vs with
  |nil=>unfold Z5;trivial|cons v vs=>obtain⟨x,r,rfl,h1,h2⟩:=hv;unfold Z5;exact ay ms R hm hT h2 ho hw hK
theorem Ic{P:Program}{w:World}{fn:Func}(hf:P.funcs[f]? =some fn)(hb:fn.body.isSome=true)(hn:(fn.name== "runtime.NumGoroutine")=false)(args:Array Value):
  (callFunc f args).run P w= .ok (.enter f args) w:=by
 have hb' :¬fn.body=none:=by intro e;rw[e]at hb;cases hb
 have hn' :¬fn.name= "runtime.NumGoroutine":=by intro e;rw[e]at hn;simp at hn
 simp[callFunc,hf,hn',hb']
theorem a3X(H:FxOk X)(R:Rel X (CB*q) (CB*q+CB) S m ok a w){h0:Array Obj}{ok0:Nat->Ty->Prop}{s:FSpec}{vs:List V}{vals:List Value}{r:V4 (s.rs++s.outs)}{rs os:List Value}{O' B:List Nat}
  (hT:Tk X S m ok w (O' ++B)) (hv:fK ⟨h0,ok0,m⟩ vs vals) (hret:a0m s.rs.length v rs) (ho:vU w.heap s.ps vals os B) (hr:qW w.heap ok (s.rs++s.outs) r (rs++os) O') {Q:Unit->Sm->Prop}
  (hK:∀S' m',Rel X (CB*q) (CB*q+CB) S' m' ok (a.put o.dst v) w->(∀k l,m k=some l->m' k=some l)->Q () S'):
  (LQ (s.rs++s.outs) r (N7 q o.dst) λws n' =>bif Nat.ble n' (N7 q o.dst+64)then(match Ii s.rs.length ws with
    |some (a,o')=>bif EQ a then .fail else Z5 s.ps vs o' (cO X.E o.dst (b0u a))
    |none=> .fail)else .fail).post S Q:=by
 have hcl:CB*q<=N7 q o.dst:=by
  cases o.dst with
  |none=>exact gB _ _|some t=>exact gB _ _
 refine GK (T:=B) _ R hcl hT hr λS1 m1 ws n1 ch1 R1 c1 T1 k1 s1 l1 e1=>bi λhle=>?_;have hle' :=V9 hle;split<;>try trivial
 rename_i p p' hsp;obtain⟨rfl,hpl⟩:=XE _ _ _ _ hsp;obtain⟨l2,l3⟩:=RJ (by rw[hpl,hret.1]) l1;cases ht:EQ p
 .simp only[cond_false];refine ay s.ps R1 k1 T1 hv ho l3 λS2 R2=>?_;have hres:=a7d ht l2 hret;cases hd:o.dst with
  |none=>have hin:=qg H (q:=q) none (λt h=>by cases h);rw[hd]at hle' hK;exact hK S2 m1 (R2.chmono (by generalize CB*q=Z at*;generalize N7 q none=N at*;omega)) k1
  |some t=>unfold cO;refine bi λhb=>?_;have hin:=qg H (q:=q) (some t) (λt' h=>by cases h;exact(zH hb).1);rw[hd]at hle' hK;have R3:Rel X (CB*q) (CB*q+CB) S2 m1 ok a w:=R2.chmono (by generalize CB*q=Z at*;generalize N7 q (some t)=N at*;omega);exact hK _ m1 (R3.put H.ntB hb hres) k1
 .trivial
theorem NL(H:FxOk X)(R:Rel X (CB*q) (CB*q+CB) S m ok a w){vs:List V}{vals:List Value}(hvs:fK ⟨w.heap,ok,m⟩ vs vals)
  (run:∀fn,X.P.funcs[f]? =some fn->fn.body.isSome=true->(fn.name== "runtime.NumGoroutine")=false->(execOp a.eval o).run X.P w= .ok (.enter f vals.toArray) w):
  (WL X.E q o.dst f vs).post S (λ_ S' =>gI X (CB*q) (CB*q+CB) o a w m ok S'):=by
 unfold WL;split
 .trivial
 rename_i s hs;have hmem:=Xn hs;have hF:=H.fs _ hmem;obtain⟨fn,hf,hb,hnm⟩:=H.fn _ hmem;have hrun:=run fn hf hb hnm;refine a5u R hvs s.ps hvs λhdv=>?_;refine GR (ln:=Yh s) (T:=[]) s.ps R Tk.nil hvs λS1 ok1 x O R1 T1 k1 s1 hrel=>dI λr hr=>?_;simp only[J3]at T1;generalize hokc:okL (Yh s) S1 m ok1=okc at hrel;have c1:∀b t,ok1 b t->okc b t:=λb t h=>by rw[←hokc];exact .inl h
 have hsep1:∀b t,ok1 b t->∀n,b∉P9 m n (S1 (Y4+n)):=λb t h n e=>(R1.sep n b e).1 t h;have hlt:∀b t,okc b t->b<w.heap.size:=λb t h=>by
  rw[←hokc]at h;rcases h with h|⟨_,n,h,_⟩
  .exact R1.okLt b t h
  .exact(R1.sep n b h).2.1
 have hfree:∀b∈O,(∀t,¬okc b t)/\b<w.heap.size:=λb hb=>by
  obtain⟨f1,f2,f3,f4⟩:=T1.free b hb;refine⟨λt h=>?_,f2⟩;rw[←hokc]at h;rcases h with h|⟨_,n,h,_⟩
  .exact f1 t h
  .exact f4 n h
 have hC:=hF w okc O _ x r hlt T1.nodup hfree (λg u hg=>by obtain⟨g1,g3,g2⟩:=R1.gl g u hg;refine⟨c1 _ _ g1,g3,λi y hi=>?_⟩;obtain⟨es,he,hr⟩:=g2 i y hi;exact⟨es,he,dK c1 (λ_ _ _=>rfl) hr⟩) hrel hdv hr
 have hown:∀b,(w.heap.size<=b\/b∈O)->(X.w0.heap.size<=b\/b∈X.O)/\∀n,b∉P9 m n (S1 (Y4+n)):=λb hb=>by
  rcases hb with hb|hb
  .have:=R1.frame.size;exact⟨.inl o5,λn e=>by have:=(R1.sep n b e).2.1;omega⟩
  .exact(T1.free b hb).2.2
 revert hC;generalize hPost:(λ(e:Ending) (w' :World)=>∃v ok' O' rs os B,e= .returned v/\Frame' w w' O/\(∀b t,okc b t->ok' b t)/\(∀b t,ok' b t->b<w'.heap.size/\(okc b t\/w.heap.size<=b\/b∈O))/\
  (O' ++B).Nodup/\(∀b∈O' ++B,(∀t,¬ok' b t)/\b<w'.heap.size/\(w.heap.size<=b\/b∈O))/\
  a0m s.rs.length v rs/\vU w'.heap s.ps vals os B/\qW w'.heap ok' (s.rs++s.outs) r (rs++os) O')=Post
 intro hC;have hall:∀p: { p:Ending×World // Post p.1 p.2 },(LQ (s.rs++s.outs) r (N7 q o.dst) λws n' =>bif Nat.ble n' (N7 q o.dst+64)then(match Ii s.rs.length ws with
   |some (a,o')=>bif EQ a then .fail else Z5 s.ps vs o' (cO X.E o.dst (b0u a))
   |none=> .fail)else .fail).post S1 (λ_ S' =>∃v m' okf,p.1.1= .returned v/\Rel X (CB*q) (CB*q+CB) S' m' okf (a.put o.dst v) p.1.2/\(∀k l,m k=some l->m' k=some l)/\(∀b t,ok b t->okf b t)):=by
  rintro⟨⟨e,w'⟩,hp⟩;rw[←hPost]at hp;obtain⟨v,ok',O',rs,os,B,rfl,fr,k2,hok',hnd,hfr,hret,houts,hrel'⟩:=hp;have k3:∀b t,ok1 b t->(ok' b t/\∀n,b∉P9 m n (S1 (Y4+n))):=λb t h=>⟨k2 b t (c1 b t h),hsep1 b t h⟩;have R2:Rel X (CB*q) (CB*q+CB) S1 m (λb t=>ok' b t/\∀n,b∉P9 m n (S1 (Y4+n))) a w' :=by
   refine R1.world fr.os fr.tape fr.output fr.size (λb hb h=>fr.block b hb λhO=>?_) k3 (λb t h=>⟨(hok' b t h.1).1,?_⟩)
   .obtain⟨f1,f2,f3,f4⟩:=T1.free b hO;rcases h with⟨t,h⟩|⟨n,h⟩|h
    .exact f1 t h
    .exact f4 n h
    .exact h f3
   .rcases(hok' b t h.1).2 with h'|h'
    .rw[←hokc]at h';rcases h' with h'|⟨_,n,h',_⟩
     .exact .inl h'
     .exact absurd h' (h.2 n)
    .exact .inr (hown b h')
  have hrel2:qW w'.heap (λb t=>ok' b t/\∀n,b∉P9 m n (S1 (Y4+n))) (s.rs++s.outs) r (rs++os) O' :=by
   refine Vl (λb u h k=>⟨h,λn e=>?_⟩) hrel';rcases(hok' b u h).2 with h'|h'
   .rw[←hokc]at h';rcases h' with h'|⟨hl,_⟩
    .exact hsep1 b u h' n e
    .rw[Oo]at k;unfold Yh at hl;rw[k]at hl;cases hl
   .exact(hown b h').2 n e
  refine a3X H R2 (h0:=w.heap) (ok0:=ok) (vals:=vals) (rs:=rs) (os:=os) (O' :=O') (B:=B) (v:=v) ⟨hnd,λb hb=>?_⟩ hvs hret houts hrel2 λS' m' R' km=>⟨v,m',_,rfl,R',km,λb t hb=>k3 b t (k1 b t hb)⟩;obtain⟨g1,g2,g3⟩:=hfr b hb;obtain⟨f2,f3⟩:=hown b g3;exact⟨λt h=>g1 t h.1,g2,f2,f3⟩
 refine zI ?_ (Gj hall);intro _ S' hS' next Q hn
 unfold Oper.wp;rw[hrun,Oper.upon_enter];refine Calls.mono hC λe w' hp=>?_;obtain⟨v,m',okf,he,R',km,kok⟩:=hS' ⟨(e,w'),hp⟩;simp only at he;subst he;exact hn m' okf _ w' R' km kok
theorem Py{α:Type} :∀{l:List (Nat×α)} {n:Nat} {x:α},bK l n=some x->(n,x)∈l
 |[],_,_,h=>by cases h|(k,v)::r,n,x,h=>by
  unfold bK at h;cases hb:Nat.beq k n<;>rw[hb]at h
  .exact V5 _ (Py h)
  .have:=fC hb;subst this;simp only[cond_true,F6]at h;subst h;exact gW
theorem b0c(H:FxOk X)(R:Rel X (CB*q) (CB*q+CB) S m ok a w)(ho:o.op= .call c)(hc:c.callee= .value (.func f)):(aP X.E q o).post S (λ_ S' =>gI X (CB*q) (CB*q+CB) o a w m ok S'):=by
 obtain⟨cal,args,ats⟩:=c;simp only at hc;subst hc;unfold aP;simp only[ho];have e:args.map a.eval=(args.toList.map a.eval).toArray:=by apply jm;simp
 have hrun:∀fn,X.P.funcs[f]? =some fn->fn.body.isSome=true->(fn.name== "runtime.NumGoroutine")=false->(execOp a.eval o).run X.P w= .ok (.enter f (args.toList.map a.eval).toArray) w:=λfn hf hb hnm=>by have:=Ic (P:=X.P) (w:=w) hf hb hnm (args.map a.eval);rw[e]at this;simp[execOp,ho,resolve,Deferred.ofValue,Act.eval,invoke,e,this]
 refine jQ R _ λvs hvs=>?_;split
 .rename_i off sz hpl;cases hz:Nat.beq sz 0
  case true=>trivial
  simp only[cond_false];split<;>try trivial
  rename_i v;obtain⟨x,r,e1,h1,h2⟩:=hvs;simp only[fK]at h2;subst h2;refine Nr R h1 λr y hy hp=>?_;obtain⟨⟨fn,hf,hb,hnm⟩,hcall⟩:=(H.pl _ (Py hpl)).snd hz;have hC:=hcall w x y hp;have hr0:=hrun fn hf hb hnm;rw[e1]at hr0;unfold cO;cases hd:o.dst with
  |none=>
   intro next Q hn
   unfold Oper.wp;rw[hr0,Oper.upon_enter];refine Calls.mono hC λen w' hp=>?_;obtain⟨rfl,k,rfl⟩:=hp;rw[hd];exact hn m ok a _ (R.same (w' :=w.drewN k) rfl rfl rfl rfl) (λ_ _ h=>h) (λ_ _ h=>h)
  |some d=>
   refine bi λhb=>?_;intro next Q hn
   unfold Oper.wp;rw[hr0,Oper.upon_enter];refine Calls.mono hC λen w' hp=>?_;obtain⟨rfl,k,rfl⟩:=hp;rw[hd];exact hn m ok _ _ ((R.put H.ntB hb hy).same (w' :=w.drewN k) rfl rfl rfl rfl) (λ_ _ h=>h) (λ_ _ h=>h)
 .exact NL H R hvs hrun
theorem Ib{C:Cx} :∀{a b:List V} {xs ys:List Value},fK C a xs->fK C b ys->fK C (a++b) (xs++ys)
 |[],_,_,_,h,k=>by simp only[fK]at h;subst h;exact k|c::a,b,_,_,⟨v,r,e,h1,h2⟩,k=>by subst e;exact⟨v,r++_,rfl,h1,Ib h2 k⟩
theorem Vm{C:Cx} :∀{caps:List ((t:Ty)×t.den)} {vs:List Value},Cb C.h C.ok caps vs->fK C (caps.map b6Y) vs
 |[],_,h=>h|c::cs,_,⟨v,r,e,h1,h2⟩=>⟨v,r,e,h1,Vm h2⟩
theorem a6b(H:FxOk X)(R:Rel X (CB*q) (CB*q+CB) S m ok a w){x:Operand}(ho:o.op= .call c)(hc:c.callee= .value x)(hx:∀f,x≠.func f):(aP X.E q o).post S (λ_ S' =>gI X (CB*q) (CB*q+CB) o a w m ok S'):=by
 obtain⟨cal,args,ats⟩:=c;simp only at hc;subst hc;unfold aP;simp only[ho];refine jQ R _ λvs hvs=>?_;refine Z8 R λu hu=>?_;split<;>try trivial
 rename_i f caps;obtain⟨cs,hv,hcaps⟩:=hu;refine NL H R (Ib hvs (Vm hcaps)) λfn hf hb hnm=>?_;have:=Ic (P:=X.P) (w:=w) hf hb hnm (args.map a.eval++cs);have e:args.map a.eval++cs=(args.toList.map a.eval++cs.toList).toArray:=by apply jm;simp
 rw[e]at this;simp[execOp,ho,resolve,Deferred.ofValue,hv,invoke,e,this]
theorem Nk:∀{l:List ((Nat×String)×Nat×Option Nat)} {t:Nat} {n:String} {r:Nat×Option Nat},UG l t n=some r->((t,n),r)∈l
 |[],_,_,_,h=>by simp[UG]at h|((u,k),r')::l,t,n,r,h=>by
  unfold UG at h;cases hb:(Nat.beq u t&&(k==n))<;>rw[hb]at h
  .exact V5 _ (Nk h)
  .simp only[cond_true,F6]at h;subst h;simp only[A7,beq_iff_eq]at hb;have:=fC hb.1;subst this;rw[hb.2];exact gW
theorem a4B(H:FxOk X)(R:Rel X (CB*q) (CB*q+CB) S m ok a w){x:Operand}{n:String}(ho:o.op= .call c)(hc:c.callee= .invoke x n):(aP X.E q o).post S (λ_ S' =>gI X (CB*q) (CB*q+CB) o a w m ok S'):=by
 obtain⟨cal,args,ats⟩:=c;simp only at hc;subst hc;unfold aP;simp only[ho];refine jQ R _ λvs hvs=>Z8 R λu hu=>?_;split<;>try trivial
 rename_i t v;obtain⟨z,hz,hz1,hzv⟩:=hu;have e2:(#[a.eval x]++args.map a.eval).extract 1 (#[a.eval x]++args.map a.eval).size=args.map a.eval:=by apply jm;simp;exact U1 (Nat.le_of_eq (by rw[V7];rfl))
 have e3:(#[a.eval x]++args.map a.eval)[0]? =some (a.eval x):=by rw[gZ (by show 0<1;omega)];rfl
 have e4:(args.map a.eval).extract 0 args.size=args.map a.eval:=by
  have h:args.size=(args.map a.eval).size:=by rw[Array.size_map]
  rw[h,Array.extract_size]
 have fin:∀(f:Nat) (r:Value) (fn:Func),X.P.funcs[f]? =some fn->fn.body.isSome=true->(fn.name== "runtime.NumGoroutine")=false->(method (X.P.types.size+Made.depth) t z n).run X.P w= .ok (f,r) w->
   (execOp a.eval o).run X.P w= .ok (.enter f (r::args.toList.map a.eval).toArray) w:=λf r fn hf hb hnm hM=>by
  have:=Ic (P:=X.P) (w:=w) hf hb hnm (#[r]++args.map a.eval);have e:#[r]++args.map a.eval=(r::args.toList.map a.eval).toArray:=by apply jm;simp
  rw[←e];simp only[execOp,ho,resolve,G9,U6,H7,invoke,e3];simp[hz,callMethod,hM,e4,this]
 split<;>try trivial
 .rename_i f hmt;have hM:=H.ms _ (Nk hmt);exact NL H R (vals:=z::args.toList.map a.eval) ⟨z,_,rfl,BF hzv,hvs⟩ λfn hf hb hnm=>fin f z fn hf hb hnm (hM z w)
 .rename_i f e0 hmt;have hM:=H.ms _ (Nk hmt);refine He H R (BF hzv) λv' u ad hv' hp hr=>?_;refine NL H R (vals:=u::args.toList.map a.eval) ⟨u,_,rfl,hv',hvs⟩ λfn hf hb hnm=>fin f u fn hf hb hnm ?_;rw[hM z w ad hp,hr];rfl
end
end Go.GP
namespace Go.GP
variable {q:Nat}{x:Operand}{t:TypeId}
section
variable {X:Fx} {S:Sm} {m:Mp} {ok:Nat->Ty->Prop} {a:Act} {w:World} {o:Oper}
theorem TM{α:Type}{Q:α->Sm->Prop}{cl ch:Nat} :∀(ms:List MG) {vs:List V} {xs:List Value} {K:List ((t:Ty)×t.den)->Cmd α} {S:Sm} {ok:Nat->Ty->Prop} (R:Rel X cl ch S m ok a w)
  (hv:fK ⟨w.heap,ok,m⟩ vs xs)
  (hK:∀S' ok' cs,Rel X cl ch S' m ok' a w->(∀b t,ok b t->ok' b t)->Cb w.heap ok' cs xs->(K cs).post S' Q),(ui ms vs K).post S Q
 |[],vs,xs,K,S,ok,R,hv,hK=>by
  cases vs with
  |cons _ _=>unfold ui;trivial|nil=>unfold ui;exact hK S ok [] R (λ_ _ h=>h) hv
 |(g,.rp t)::ms,vs,xs,K,S,ok,R,hv,hK=>by
  cases vs with
  |nil=>unfold ui;trivial|cons v vs=>
   obtain⟨x,r,rfl,h1,h2⟩:=hv;unfold ui;have key:sQ ⟨w.heap,ok,m⟩ v x->(rpC t v λx=>ui ms vs λcs=>K (⟨t,x⟩::cs)).post S Q:=λh1=>by refine C_ (T:=[]) t R Tk.nil h1 λS1 ok1 y R1 T1 k1 s1 d1=>?_;refine TM ms R1 (JM k1 h2) λS2 ok2 cs R2 k2 d2=>?_;exact hK S2 ok2 _ R2 (λb t h=>k2 b t (k1 b t h)) ⟨x,r,rfl,BL k2 (λ_ _ _=>rfl) d1,d2⟩
   cases v<;>first|exact key h1|(unfold rpC;trivial)
 |(g,.dat t)::ms,vs,xs,K,S,ok,R,hv,hK=>by cases vs<;>(unfold ui;trivial)|(g,.own t)::ms,vs,xs,K,S,ok,R,hv,hK=>by cases vs<;>(unfold ui;trivial)|(g,.pair p q)::ms,vs,xs,K,S,ok,R,hv,hK=>by cases vs<;>(unfold ui;trivial)|(g,.unit)::ms,vs,xs,K,S,ok,R,hv,hK=>by cases vs<;>(unfold ui;trivial)|(g,.cell _)::ms,vs,xs,K,S,ok,R,hv,hK=>by cases vs<;>(unfold ui;trivial)|(g,.fr _)::ms,vs,xs,K,S,ok,R,hv,hK=>by cases vs<;>(unfold ui;trivial)|(g,.sbx _ _)::ms,vs,xs,K,S,ok,R,hv,hK=>by cases vs<;>(unfold ui;trivial)|(g,.lp _)::ms,vs,xs,K,S,ok,R,hv,hK=>by cases vs<;>(unfold ui;trivial)|(g,.dv ..)::ms,vs,xs,K,S,ok,R,hv,hK=>by cases vs<;>(unfold ui;trivial)|(g,.sit)::ms,vs,xs,K,S,ok,R,hv,hK=>by cases vs<;>(unfold ui;trivial)|(g,.box p)::ms,vs,xs,K,S,ok,R,hv,hK=>by cases vs<;>(unfold ui;trivial)|(g,.owns p)::ms,vs,xs,K,S,ok,R,hv,hK=>by cases vs<;>(unfold ui;trivial)|(g,.ownb p)::ms,vs,xs,K,S,ok,R,hv,hK=>by cases vs<;>(unfold ui;trivial)|(g,.fn f ts)::ms,vs,xs,K,S,ok,R,hv,hK=>by cases vs<;>(unfold ui;trivial)|(g,.ifc t p)::ms,vs,xs,K,S,ok,R,hv,hK=>by cases vs<;>(unfold ui;trivial)
theorem g_(H:FxOk X)(R:Rel X (CB*q) (CB*q+CB) S m ok a w){f:FuncId}{first caps:Array Operand}(ho:o.op= .makeFunc (.func f) first caps):(aP X.E q o).post S (λ_ S' =>gI X (CB*q) (CB*q+CB) o a w m ok S'):=by
 unfold aP;simp only[ho];refine bC λhb=>?_;have hb' :=fC hb;have hf:first=#[]:=by simpa using hb'
 split
 .refine bC λhc=>?_;simp only[A7]at hc;have hn:=fC hc.2;refine qi H R (λ_ _ h=>h) (λ_ _ h=>h) (v:=.idl f _) (x:=.func (.func f) #[] (caps.map a.eval)) ⟨caps.map a.eval,rfl,by simpa using hn⟩ ?_;simp[execOp,ho,Instr.makeFunc,hf]
 split<;>try trivial
 refine jQ R _ λvs hvs=>TM _ R hvs λS' ok' cs R' k hc=>?_;refine qi H R' (λ_ _ h=>h) k (v:=.clos f cs) (x:=.func (.func f) #[] (caps.map a.eval)) ⟨caps.map a.eval,rfl,by simpa using hc⟩ ?_;simp[execOp,ho,Instr.makeFunc,hf]
theorem a6c(H:FxOk X)(R:Rel X (CB*q) (CB*q+CB) S m ok a w){c:Call}(ho:o.op= .defer c):(aP X.E q o).post S (λ_ S' =>gI X (CB*q) (CB*q+CB) o a w m ok S'):=by
 unfold aP;simp only[ho];refine bC λhb=>?_;have hb' :=fC hb;have hargs:c.args=#[]:=by simpa using hb'
 split<;>try trivial
 rename_i x hd hc;refine Z8 R λv hv=>?_;split<;>try trivial
 rename_i f n;split<;>try trivial
 rename_i k z hk;refine bC λhn=>?_;simp only[A7]at hn;have hz:=fC hn.1;have hn' :=fC hn.2;subst hz hn';obtain⟨cap,hx,hs⟩:∃cap:Array Value,a.eval x= .func (.func f) #[] cap/\cap.size=n:=hv;intro next Q hnx
 unfold Oper.wp;have hrun:(execOp a.eval o).run X.P w= .ok (.defer { target:=.fn (.func f) cap,args:=#[] }) w:=by simp[execOp,ho,resolve,hc,hargs,hx,Deferred.ofValue]
 rw[hrun,Oper.upon_defer,hd];refine hnx m ok _ w ?_ (λ_ _ h=>h) (λ_ _ h=>h);have hid:Zg X.P { target:=.fn (.func f) cap,args:=#[] }:=H.pl _ (Py hk) cap hs;have R' :Rel X (CB*q) (CB*q+CB) S m ok { a with defers:={ target:=.fn (.func f) cap,args:=#[] }::a.defers } w:=
  { size:=R.size,nodef:=λd hd=>(D6.1 hd).elim (λe=>e▸hid) (R.nodef d),slot:=R.slot,box:=R.box,inj:=R.inj,nd:=R.nd,sep:=R.sep,okLt:=R.okLt,okIn:=R.okIn,okOut:=R.okOut,frame:=R.frame,fresh:=R.fresh,strict:=R.strict,gl:=R.gl,kept:=R.kept }
 exact R'
theorem Qd(H:FxOk X)(R:Rel X (CB*q) (CB*q+CB) S m ok a w)(ho:o.op= .makeInterface t x):(aP X.E q o).post S (λ_ S' =>gI X (CB*q) (CB*q+CB) o a w m ok S'):=by
 unfold aP;simp only[ho];refine jF H λi hi=>?_;have htd:=hi.td;have key:∀d,X.P.underlying t=some d->(∀ms,d≠.interface ms)->(nV x λv=>(match v with
   | .b ..| .i ..| .s ..| .ptr ..=>cO X.E o.dst (.ifc t v)
   |_=> .fail:Cmd Unit)).post S (λ_ S' =>gI X (CB*q) (CB*q+CB) o a w m ok S'):=λd hd hne=>by
  refine Z8 R λv hv=>?_;have run:(execOp a.eval o).run X.P w= .ok (.value (.iface t (a.eval x))) w:=by simp only[execOp,ho,Instr.makeInterface,G9,run_underlying hd,H7];cases d<;>first|rfl|exact absurd rfl (hne _)
  cases v<;>try trivial
  case b y=>exact aB H R (v:=.ifc t (.b y)) ⟨_,rfl,by rw[Qm hv];rfl,hv⟩ run
  case i k n=>exact aB H R (v:=.ifc t (.i k n)) ⟨_,rfl,by rw[qX hv];rfl,hv⟩ run
  case s l=>exact aB H R (v:=.ifc t (.s l)) ⟨_,rfl,by rw[JL hv];rfl,hv⟩ run
  case ptr bx off=>obtain⟨blk,h1,h2⟩:=hv;exact aB H R (v:=.ifc t (.ptr bx off)) ⟨_,rfl,by rw[h2];rfl,⟨blk,h1,h2⟩⟩ run
 cases htd' :i.td<;>rw[htd']at htd<;>try trivial
 all_goals exact key _ htd (λ_ e=>by cases e)
theorem Wp(H:FxOk X)(R:Rel X (CB*q) (CB*q+CB) S m ok a w){xt t:TypeId}{okk:Bool}(ho:o.op= .typeAssert x xt t okk):(aP X.E q o).post S (λ_ S' =>gI X (CB*q) (CB*q+CB) o a w m ok S'):=by
 unfold aP;simp only[ho];refine jF H λi hi=>?_;have htd:=hi.td;have key:∀d,X.P.underlying t=some d->(∀ms,d≠.interface ms)->(nV x λv=>(match v with
   | .ifc t' v=>bif Nat.beq t' t then cO X.E o.dst (bif okk then .tup [v,.b true]else v)else .fail
   |_=> .fail:Cmd Unit)).post S (λ_ S' =>gI X (CB*q) (CB*q+CB) o a w m ok S'):=λd hd hne=>by
  refine Z8 R λv hv=>?_;cases v<;>try trivial
  case ifc t' c=>
  obtain⟨u,hx,h1,hc⟩:=hv;refine bC λhb=>?_;have hb' :=fC hb;subst hb';have run:(execOp a.eval o).run X.P w= .ok (.value (if okk then .tuple #[u,.bool true]else u)) w:=by simp only[execOp,ho,Instr.typeAssert,G9,run_underlying hd,H7,hx];cases d<;>first|(simp;done)|exact absurd rfl (hne _)
  cases okk
  .exact aB H R (BF hc) run
  .refine aB H R (v:=.tup [c,.b true]) ⟨_,rfl,⟨_,_,rfl,?_,_,_,rfl,rfl,rfl⟩⟩ run;cases c<;>first|exact hc|cases hc
 cases htd' :i.td<;>rw[htd']at htd<;>try trivial
 case struct fs=>obtain⟨fields,hu,_⟩:=htd;exact key _ hu (λ_ e=>by cases e)
 all_goals exact key _ htd (λ_ e=>by cases e)
theorem a6f(H:FxOk X)(R:Rel X (CB*q) (CB*q+CB) S m ok a w)(ho:o.op= .range t x):(aP X.E q o).post S (λ_ S' =>gI X (CB*q) (CB*q+CB) o a w m ok S'):=by
 unfold aP;simp only[ho];refine Z8 R λu hu=>jF H λi hi=>?_;have hd:=hi.td;split<;>try trivial
 rename_i l htd;rw[htd]at hd;have hx:a.eval x= .string ⟨l.toArray⟩:=hu;refine Gg (l:=.st w.heap.size) (obj:=.stringIter ⟨l.toArray⟩ 0) H R A8 (by simp[P9]) (λhn hc=>?_) ⟨w.heap.size,A8,rfl⟩ ?_
 .exact⟨w.heap.size,⟨l.toArray⟩,0,A8,heap_alloc_new w _,A8,rfl⟩
 .have hund:X.P.underlying t=some .string:=hd;simp[execOp,ho,Instr.range,run_underlying hund,hx]
theorem b0f(H:FxOk X){cl ch:Nat}(R:Rel X cl ch S m ok a w){b:Bool}(ho:o.op= .next x b):(aP X.E q o).post S (λ_ S' =>gI X cl ch o a w m ok S'):=by
 unfold aP;simp only[ho];refine bi λhs=>?_;subst hs;refine Z8 R λu hu=>?_;split<;>try trivial
 rename_i bx;obtain⟨blk,hm,hx⟩:=hu;refine aI ?_;split<;>try trivial
 rename_i l p hS;have hb:=R.box bx;rw[hS]at hb;obtain⟨blk',s,pos,hm',hh,g1,g2⟩:=hb;simp only at hm hm' hh;rw[hm]at hm';cases hm';subst g2;have hl:(⟨l.toArray⟩:ByteArray)=s:=by rw[←g1]
 have hlen:l.length=s.size:=by rw[←g1,Y9];rfl
 have hown:P9 m bx (S (Y4+bx))=[blk]:=by rw[hS];simp[P9,hm]
 have hx:a.eval x= .pointer (some ⟨blk,0,none⟩):=hx;refine⟨λhlt=>?_,λhge=>?_⟩
 .have hlt:pos<s.size:=by unfold G5 o9 at hlt;rw[decide_eq_true_eq]at hlt;omega
  refine fQ ?_;have hsz:blk<w.heap.size:=(J6.1 hh).1;have R2:Rel X cl ch (upd S (Y4+bx) (.biter l (Kr l (pos:Int)))) m ok a { w with heap:=w.heap.setIfInBounds blk (.stringIter s (pos+(Utf8.decode s pos).2)) }:=by
   refine R.mod (by rw[hown];simp[P9,hm]) A8 rfl rfl rfl A8 (λb hb=>?_) ?_
   .rw[hown]at hb;simp only[lT]at hb;simp[jH,Ne.symm hb]
   .refine⟨blk,s,pos+(Utf8.decode s pos).2,hm,?_,g1,?_⟩
    .simp[jH,hsz]
    .unfold Kr;rw[hl];simp
  refine qi (o:=o) H R2 (m0:=m) (ok0:=ok) (λ_ _ h=>h) (λ_ _ h=>h) (x:=.tuple #[.bool true,.int .i64 (pos:Int),.int .i32 ((Utf8.decode s pos).1:Int)]) ?_ ?_
  .refine⟨_,rfl,⟨_,_,rfl,rfl,_,_,rfl,rfl,_,_,rfl,?_,rfl⟩⟩;show Value.int .i32 _=_;unfold Gn;rw[hl];simp
  .have e1:(getObj blk).run X.P w= .ok (.stringIter s pos) w:=by simp[getObj,Sem.run,hh]
   have e2:(setObj blk (.stringIter s (pos+(Utf8.decode s pos).2))).run X.P w= .ok () { w with heap:=w.heap.setIfInBounds blk (.stringIter s (pos+(Utf8.decode s pos).2)) }:=by simp[setObj,Sem.run,hh]
   simp[execOp,ho,Instr.next,hx,e1,e2,hlt,goInt]
 .have hge:¬pos<s.size:=λh=>by
   have:G5 ((pos:Nat):Int) (o9 l)=true:=by unfold G5 o9;rw[decide_eq_true_eq];omega
   rw[this]at hge;cases hge
  refine aB H R (x:=.tuple #[.bool false]) ⟨_,rfl,⟨_,_,rfl,rfl,rfl⟩⟩ ?_;have e1:(getObj blk).run X.P w= .ok (.stringIter s pos) w:=by simp[getObj,Sem.run,hh]
  simp[execOp,ho,Instr.next,hx,e1,hge]
theorem b2m(H:FxOk X)(R:Rel X (CB*q) (CB*q+CB) S m ok a w)(o:Oper):(aP X.E q o).post S (λ_ S' =>gI X (CB*q) (CB*q+CB) o a w m ok S'):=by
 have fin:∀{α:Type} {Q:α->Sm->Prop},(Cmd.fail:Cmd α).post S Q:=trivial;cases ho:o.op
 case move x=>have h:=a3n H R (o:=o) (x:=x) (.inl ho);unfold aP;simp only[ho];exact h
 case assign x=>have h:=a3n H R (o:=o) (x:=x) (.inr ho);unfold aP;simp only[ho];exact h
 case pick c x y=>exact b0g H R ho
 case alloc t=>exact a5Y H R ho
 case box t x=>exact b2n H R ho
 case build t ps=>exact a6a H R ho
 case buildSlice t n ps=>exact Wn H R ho
 case load t x=>exact b0e H R ho
 case store t x y=>exact a6h H R ho
 case binOp op t x y yt=>exact a5Z H R ho
 case unOp op t x=>exact b0h H R ho
 case convert s t x=>exact a1f H R ho
 case makeSlice t l c=>exact Yn H R ho
 case slice t x lo hi mx=>
  cases mx with
  |none=>exact a6g H R ho|some _=>unfold aP;simp only[ho];exact fin
 case fieldAddr t x f=>exact Yl H R ho
 case field t x f=>exact a6d H R ho
 case indexAddr t x ix=>exact Ym H R ho
 case index t x ix=>exact a6e H R ho
 case extract x n=>exact a1g H R ho
 case nilCheck x=>exact h_ H R ho
 case call c=>
  cases hc:c.callee
  case builtin b=>
   cases b
   case len=>exact b2o H R ho hc
   case append=>exact a4y H R ho hc
   case copy=>exact b0d H R ho hc
   case min=>exact Xl H R ho (.inl hc)
   case max=>exact Xl H R ho (.inr hc)
   all_goals
    unfold aP;simp only[ho];exact jQ R _ λvs hvs=>by simp only[hc];exact fin
  case value f=>
   cases f
   case func f=>exact b0c H R ho hc
   all_goals exact a6b H R ho hc (λf e=>by cases e)
  case invoke x n=>exact a4B H R ho hc
 case makeFunc f first caps=>
  cases f
  case func f=>exact g_ H R ho
  all_goals
   unfold aP;simp only[ho];exact fin
 case defer c=>exact a6c H R ho
 case makeInterface t x=>exact Qd H R ho
 case typeAssert x xt t ok=>exact Wp H R ho
 case makeMap t r=>exact a1h H R ho
 case lookup t x ix ok=>exact a4C H R ho
 case range t x=>exact a6f H R ho
 case next x b=>exact b0f H R ho
 case mapUpdate t x ix y=>exact Oz H R (.inl ho)
 case insert t x ix y=>exact Oz H R (.inr ho)
 all_goals
  unfold aP;simp only[ho];exact fin
def XJ(X:Fx)(cl ch:Nat)(ops:Array Oper)(i:Nat)(a:Act)(w:World)(m:Mp)(ok:Nat->Ty->Prop)(S' :Sm):Prop:=
 ∀(next:Act->World->Prop) (Q:Exit->Act->World->Prop),
  (∀m' ok' a' w',Rel X cl ch S' m' ok' a' w' ->(∀k l,m k=some l->m' k=some l)->(∀b t,ok b t->ok' b t)->next a' w')->wpOp X.P ops Q i next a w
theorem VC(H:FxOk X){cl ch:Nat}(R:Rel X cl ch S m ok a w){ops:Array Oper}{i:Nat}(hi:ops[i]? =some o)(hw:Region.wanted o (yielded ops a.tmps)=false):
  (cO X.E o.dst .un).post S (λ_ S' =>XJ X cl ch ops i a w m ok S'):=by
 have h:∀S',Rel X cl ch S' m ok (a.put o.dst Go.undef) w->XJ X cl ch ops i a w m ok S' :=λS' R' next Q hn=>by unfold wpOp;simp only[hi,hw,dR,if_false];exact hn m ok _ w R' (λ_ _ h=>h) (λ_ _ h=>h)
 unfold cO;cases hd:o.dst with
 |none=>rw[hd]at h;exact h S R
 |some d=>rw[hd]at h;exact bi λhb=>h _ (R.put H.ntB hb rfl)
theorem VY{tmps:Array Value}{t:Nat}{v:Value}(h:tmps.getD t Go.undef=v)(hv:v≠Go.undef):tmps[t]? =some v:=by
 rw[Y1]at h;cases hx:tmps[t]? with
 |none=>rw[hx]at h;exact absurd h.symm hv|some x=>rw[hx]at h;simpa using h
theorem a4S(H:FxOk X)(R:Rel X (CB*q) (CB*q+CB) S m ok a w){ops:Array Oper}{i:Nat}(hi:ops[i]? =some o):
  (lX X.E q ops.toList o).post S (λ_ S' =>XJ X (CB*q) (CB*q+CB) ops i a w m ok S'):=by
 have yes:Region.wanted o (yielded ops a.tmps)=true->(aP X.E q o).post S (λ_ S' =>XJ X (CB*q) (CB*q+CB) ops i a w m ok S'):=λhw=>by
  refine zI ?_ (b2m H R o);intro _ S' h next Q hn
  unfold wpOp;simp only[hi,hw,if_true];exact .inl (h next Q hn)
 unfold lX;cases hg:o.guard with
 |none=>exact yes (by simp[Region.wanted,hg])|some p=>
  obtain⟨j,want⟩:=p;cases hj:ops.toList[j]? with
  |none=>simp only[hj];trivial|some p=>
   simp only[hj];have hj' :ops[j]? =some p:=by simpa using hj
   cases hd:p.dst with
   |none=>trivial|some t=>
    simp only[];refine bi λhlt=>aI ?_;have hsl:=R.slot t (Gx hlt);have hyd:yielded ops a.tmps j=match a.tmps[t]? with|some (.bool b)=>some b|_=>none:=by unfold yielded;rw[hj'];simp only[gG,hd];rfl
    split<;>try trivial
    .rename_i y hS;rw[hS]at hsl;have hb:a.tmps.getD t Go.undef= .bool y:=hsl;have hy:yielded ops a.tmps j=some y:=by
      rw[hyd,VY hb (by simp[Go.undef])]
     have hwt:Region.wanted o (yielded ops a.tmps)=(bif want then y else !y):=by unfold Region.wanted;rw[hg];simp only[hy];cases want<;>cases y<;>rfl
     cases hc:(bif want then y else !y)
     .simp only[cond_false];exact VC H R hi (hwt.trans hc)
     .simp only[cond_true];exact yes (hwt.trans hc)
    .rename_i hS;rw[hS]at hsl;have hb:a.tmps.getD t Go.undef=Go.undef:=hsl;have hwt:Region.wanted o (yielded ops a.tmps)=false:=by
      unfold Region.wanted;rw[hg];simp only[hyd];rw[Y1]at hb;cases hx:a.tmps[t]? with
      |none=>rfl|some x=>rw[hx]at hb;simp only[dM]at hb;subst hb;rfl
     exact VC H R hi hwt
end
end Go.GP
namespace Go.GP
def QN(E:Env)(q:Nat)(all l:List Oper)(S:Nat->Sm)(T:Nat->Tr):Prop:=
 ∀i o,l[i]? =some o->(lX E q all o).eval (S i) ([],[])=some ((),S (i+1),T i)
def a7S(s:Sm)(S:Nat->Sm):Nat->Sm|0=>s|i+1=>S i
def a7T(t:Tr)(T:Nat->Tr):Nat->Tr|0=>t|i+1=>T i
theorem OH{R:Type}{t:Nat}{s:St}{K:St->Option R}{r:R}(h:Ti t s K=some r):∃s0,dN s0=dN s/\K s0=some r:=by
 unfold Ti at h;rw[FV]at h;split at h<;>try (simp at h;done)
 .rename_i y hy;have key:∀b:Bool,y=b->dN (.kv t (.b b)::s)=dN s:=λb hb=>by
   subst hb;rw[a3a];funext k;by_cases e:k=t
   .subst e;simp[hy]
   .rw[aU _ _ e]
  cases y
  .exact⟨_,key false rfl,h⟩
  .exact⟨_,key true rfl,h⟩
 .exact⟨s,rfl,h⟩
theorem RP{R:Type}{E:Env}{q:Nat}{all:List Oper} :∀(l:List Oper) {s:St} {t:Trs} {K:St->Trs->Option R} {r:R},Nz E q all l s t K=some r->
  ∃s' S T,S 0=dN s/\S l.length=dN s' /\QN E q all l S T/\K s' (((List.range l.length).map T).reverse++t)=some r
 |[],s,t,K,r,h=>⟨s,λ_=>dN s,λ_=>([],[]),rfl,rfl,λi o hi=>by simp at hi,by simpa[Nz]using h⟩|o::l,s,t,K,r,h=>by
  have key:∀s0,dN s0=dN s->(lX E q all o).runK s0 ([],[]) (λ_ s' tr=>Nz E q all l s' (tr::t) K)=some r->
    ∃s' S T,S 0=dN s/\S (o::l).length=dN s' /\QN E q all (o::l) S T/\K s' (((List.range (o::l).length).map T).reverse++t)=some r:=λs0 hs0 h=>by
   obtain⟨x,s1,tr,e,hk⟩:=og h;obtain⟨s',S,T,h0,h1,h2,h3⟩:=RP l hk;refine⟨s',a7S (dN s) S,a7T tr T,rfl,h1,λi o' hi=>?_,?_⟩
   .cases i with
    |zero=>simp at hi;subst hi;show(lX E q all o).eval (dN s) ([],[])=some ((),S 0,tr);rw[←hs0,e,h0]|succ i=>exact h2 i o' (by simpa using hi)
   .rw[H5,List.range_succ_eq_map,fA,List.reverse_cons,E5,List.map_map];exact h3
  unfold Nz at h;split at h
  .exact key s rfl h
  .obtain⟨s0,e,h⟩:=OH h;exact key s0 e h
theorem qo{α:Type}(T:Nat->α)(n:Nat):((List.range (n+1)).map T).reverse=T n::((List.range n).map T).reverse:=by rw[fP,eQ,List.reverse_append];rfl
theorem xF{a b:List Nat}(h:Sz a b=true):∀k∈a,k∉b:=by
 induction a with
 |nil=>intro k hk;cases hk|cons x a ih=>
  unfold Sz at h;cases hm:Dc x b
  .simp only[hm,cond_false]at h;intro k hk hkb;rcases D6.1 hk with rfl|hk
   .have:∀(l:List Nat),Dc k l=false->k∉l:=by
     intro l;induction l with
     |nil=>intro _ h;cases h|cons y l ih=>
      intro hm hk;unfold Dc at hm;cases hb:Nat.beq y k
      .simp only[hb,cond_false]at hm;rcases D6.1 hk with rfl|hk
       .simp at hb
       .exact ih hm hk
      .simp[hb]at hm
    exact this b hm hkb
   .exact ih h k hk hkb
  .simp[hm]at h
theorem UF{k:Nat} :∀{l:List Nat},Dc k l=true->k∈l
 |[],h=>by simp[Dc]at h|y::l,h=>by
  unfold Dc at h;cases hb:Nat.beq y k
  .simp only[hb,cond_false]at h;exact V5 _ (UF h)
  .have:=fC hb;subst this;simp
def a5d(x y:Tr):Prop:=(∀k∈x.2,k∉y.1/\k∉y.2)/\∀k∈x.1,k∉y.2
theorem d_{b:Bool}{x y:Tr}(h:a1d b x y=true):b=true\/a5d x y:=by
 unfold a1d at h;cases b
 .simp only[cond_false,A7]at h;exact .inr ⟨λk hk=>⟨xF h.1.1 k hk,xF h.1.2 k hk⟩,λk hk=>xF h.2 k hk⟩
 .exact .inl rfl
theorem Ot{mask:Nat}{y:Tr}{T:Nat->Tr} :∀n,Tc mask y ((List.range n).map T).reverse n=true->∀i,i<n->Nat.testBit mask i=true\/a5d (T i) y
 |0,_,i,hi=>by omega|n+1,h,i,hi=>by
  rw[qo]at h;unfold Tc at h;simp only[Nat.add_sub_cancel,A7]at h;by_cases e:i=n
  .subst e;exact d_ h.1
  .exact Ot n h.2 i o5
theorem Rw{M:Nat->Nat}{T:Nat->Tr} :∀n,UQ ((List.range n).map M).reverse ((List.range n).map T).reverse=true->∀i j,i<j->j<n->Nat.testBit (M j) i=true\/a5d (T i) (T j)
 |0,_,i,j,_,hj=>by omega|n+1,h,i,j,hi,hj=>by
  rw[qo,qo]at h;unfold UQ at h;simp only[A7,List.length_reverse,V7,fZ]at h;by_cases e:j=n
  .subst e;exact Ot j h.1 i hi
  .exact Rw n h.2 i j hi o5
theorem a2J{α:Type}{eq:α->α->Bool}(h:∀a b,eq a b=true->a=b):∀{l m:List α},a9I eq l m=true->l=m
 |[],[],_=>rfl|[],_::_,e=>by cases e|_::_,[],e=>by cases e|a::l,b::m,e=>by simp only[a9I,A7]at e;rw[h _ _ e.1,a2J h e.2]
theorem KO:∀{t:Ty} (a b:t.den),Ub t a b=true->a=b
 | .bool,a,b,e=>a2r e| .int _,a,b,e=>of_decide_eq_true e| .str,a,b,e=>of_decide_eq_true e| .sl t,a,b,e=>a2J (λx y h=>KO x y h) e| .prod p q,a,b,e=>by have e:(Ub p a.1 b.1&&Ub q a.2 b.2)=true:=e;rw[A7]at e;exact Prod.ext (KO _ _ e.1) (KO _ _ e.2)| .unit,a,b,e=>rfl| .any _,a,b,e=>rfl| .ent _ _ p q,a,b,e=>by have e:(Ub p a.1 b.1&&Ub q a.2 b.2)=true:=e;rw[A7]at e;exact Prod.ext (KO _ _ e.1) (KO _ _ e.2)
theorem a2u{R:Type}{a b:V}{K:Option R}{r:R}(h:a9x a b K=some r):a=b/\K=some r:=by
 unfold a9x at h;rw[FV,FV]at h;cases a with
 |i k n=>
  cases b with
  |i k' n' =>
   cases hk:decide (k=k')
   .simp[hk]at h
   .have e:=of_decide_eq_true hk;subst e;simp only[hk,cond_true]at h;cases hi:x8 n n'<;>rw[hi]at h
    .cases h
    .have e:=of_decide_eq_true (show decide (n=n')=true from hi);subst e;exact⟨rfl,h⟩
  |_=>cases h
 |sl t xs=>
  cases b with
  |sl u ys=>
   simp only[Ty.castL]at h;by_cases e:u=t
   .subst e;simp only[dif_pos]at h;cases hi:deq (.sl u) xs ys<;>rw[hi]at h
    .cases h
    .rw[KO (t:=.sl u) xs ys hi];exact⟨rfl,h⟩
   .rw[dif_neg e]at h;cases h
  |_=>cases h
 |b x=>
  cases b with
  |b y=>
   cases hi:Bh x y<;>simp only[hi,l7]at h
   .cases h
   .have e:x=y:=by simpa[Bh]using hi
    subst e;exact⟨rfl,h⟩
  |_=>cases h
 |s x=>
  cases b with
  |s y=>
   cases hi:seq x y<;>simp only[hi,l7]at h
   .cases h
   .have e:x=y:=by simpa[seq]using hi
    subst e;exact⟨rfl,h⟩
  |_=>cases h
 |_=>cases h
theorem JW:∀{a b:List Nat},JV a b=true->a=b
 |[],[],_=>rfl|[],_::_,h=>by cases h|_::_,[],h=>by cases h|a::l,b::m,h=>by
  unfold JV at h;cases hb:Nat.beq a b
  .simp[hb]at h
  .simp only[hb,cond_true]at h;rw[fC hb,JW h]
def Rp(E:Env)(q:Nat)(all:List Oper)(o:Oper)(tr:Tr)(v:V)(S:Sm):Prop:=
 ∃d S',o.dst=some d/\tr.2=[d]/\(lX E q all o).eval S ([],[])=some ((),S',tr)/\S' d=v
theorem Vd{R:Type}{E:Env}{q:Nat}{all:List Oper}{s:St} :∀{p:a3Q} {K:Option R} {r:R},Xt E q all s p K=some r->
  (∀x∈p,Rp E q all x.1 x.2.1 x.2.2 (dN s))/\K=some r
 |[],K,r,h=>⟨λx hx=>by(cases hx),h⟩|(o,tr,v)::p,K,r,h=>by
  unfold Xt at h;obtain⟨x,s2,tr2,e,hk⟩:=og h;cases hd:o.dst with
  |none=>simp[hd]at hk|some d=>
   simp only[hd]at hk;cases hc:(JV tr.1 tr2.1&&JV tr.2 tr2.2&&JV tr2.2 [d])
   .simp[hc]at hk
   .simp only[hc,cond_true]at hk;simp only[A7]at hc;obtain⟨⟨h1,h2⟩,h3⟩:=hc;have h1:=JW h1;have h2:=JW h2;have h3:=JW h3;have etr:tr=tr2:=Prod.ext h1 h2;subst etr;obtain⟨hv,hk⟩:=a2u hk;obtain⟨g1,g2⟩:=Vd hk;refine⟨λy hy=>?_,g2⟩;rcases D6.1 hy with rfl|hy
    .exact⟨d,_,hd,h3,e,hv.symm⟩
    .exact g1 y hy
theorem OT{R:Type}{E:Env}{q:Nat}{all:List Oper} :∀(l:List Oper) {s:St} {t:Trs} {p:a3Q} {K:St->Trs->Option R} {r:R},yS E q all l s t p K=some r->
  ∃s' S T,S 0=dN s/\S l.length=dN s' /\QN E q all l S T/\K s' (((List.range l.length).map T).reverse++t)=some r/\
   (∀x∈p,∀j o',l[j]? =some o' ->mM o' =true->Rp E q all x.1 x.2.1 x.2.2 (S (j+1)))/\
   (∀i j o o',i<j->l[i]? =some o->l[j]? =some o' ->XY E o=true->mM o' =true->∃d,o.dst=some d/\Rp E q all o (T i) (S (i+1) d) (S (j+1)))
 |[],s,t,p,K,r,h=>⟨s,λ_=>dN s,λ_=>([],[]),rfl,rfl,λi o hi=>by simp at hi,by simpa[yS]using h,λx _ j o' hj=>by simp at hj,λi j o o' _ hi=>by simp at hi⟩|o::l,s,t,p,K,r,h=>by
  have key:∀s0,dN s0=dN s->(lX E q all o).runK s0 ([],[]) (λ_ s' tr=>bif mM o then Xt E q all s' p (yS E q all l s' (tr::t) p K)else yS E q all l s' (tr::t) (UV E o s' tr p) K)=some r->
    ∃s' S T,S 0=dN s/\S (o::l).length=dN s' /\QN E q all (o::l) S T/\K s' (((List.range (o::l).length).map T).reverse++t)=some r/\
   (∀x∈p,∀j o',(o::l)[j]? =some o' ->mM o' =true->Rp E q all x.1 x.2.1 x.2.2 (S (j+1)))/\
   (∀i j o1 o',i<j->(o::l)[i]? =some o1->(o::l)[j]? =some o' ->XY E o1=true->mM o' =true->∃d,o1.dst=some d/\Rp E q all o1 (T i) (S (i+1) d) (S (j+1))):=λs0 hs0 h=>by
   obtain⟨x,s1,tr,e,hk⟩:=og h;have fin:∀p',(∀y∈p,y∈p')->(XY E o=true->mM o=false->∃d,o.dst=some d/\(o,tr,dN s1 d)∈p')->(mM o=true->∀y∈p,Rp E q all y.1 y.2.1 y.2.2 (dN s1))->yS E q all l s1 (tr::t) p' K=some r->
     ∃s' S T,S 0=dN s/\S (o::l).length=dN s' /\QN E q all (o::l) S T/\K s' (((List.range (o::l).length).map T).reverse++t)=some r/\
   (∀x∈p,∀j o',(o::l)[j]? =some o' ->mM o' =true->Rp E q all x.1 x.2.1 x.2.2 (S (j+1)))/\
   (∀i j o1 o',i<j->(o::l)[i]? =some o1->(o::l)[j]? =some o' ->XY E o1=true->mM o' =true->∃d,o1.dst=some d/\Rp E q all o1 (T i) (S (i+1) d) (S (j+1))):=λp' hp' hex hcall hk=>by
    obtain⟨s',S,T,h0,h1,h2,h3,h4,h5⟩:=OT l hk;refine⟨s',a7S (dN s) S,a7T tr T,rfl,h1,λi o' hi=>?_,?_,λy hy j o' hj hc=>?_,λi j o1 o' hij hi hj he hc=>?_⟩
    .cases i with
     |zero=>simp at hi;subst hi;show(lX E q all o).eval (dN s) ([],[])=some ((),S 0,tr);rw[←hs0,e,h0]|succ i=>exact h2 i o' (by simpa using hi)
    .rw[H5,List.range_succ_eq_map,fA,List.reverse_cons,E5,List.map_map];exact h3
    .cases j with
     |zero=>simp at hj;subst hj;show Rp E q all y.1 y.2.1 y.2.2 (S 0);rw[h0];exact hcall hc y hy|succ j=>exact h4 y (hp' y hy) j o' (by simpa using hj) hc
    .cases j with
     |zero=>omega|succ j=>
      cases i with
      |zero=>
       simp at hi;subst hi;have hnc:mM o=false:=by
        unfold XY at he;cases hcc:mM o
        .rfl
        .simp[hcc]at he
       obtain⟨d,hd,hm⟩:=hex he hnc;refine⟨d,hd,?_⟩;have:=h4 _ hm j o' (by simpa using hj) hc;show Rp E q all o tr (S 0 d) (S (j+1));rw[h0];exact this
      |succ i=>exact h5 i j o1 o' o5 (by simpa using hi) (by simpa using hj) he hc
   cases hc:mM o
   .simp only[hc,cond_false]at hk;refine fin _ (λy hy=>?_) (λhe _=>?_) (λh=>by rw[hc]at h;cases h) hk
    .unfold UV;cases hx:XY E o
     .exact hy
     .simp only[cond_true];cases hd:o.dst with
      |none=>exact hy|some d=>exact V5 _ hy
    .cases hd:o.dst with
     |none=>simp[XY,hd]at he|some d=>exact⟨d,rfl,by simp[UV,he,hd]⟩
   .simp only[hc,cond_true]at hk;obtain⟨g1,g2⟩:=Vd hk;exact fin p (λ_ h=>h) (λ_ h=>by rw[hc]at h;cases h) (λ_=>g1) g2
  unfold yS at h;split at h
  .exact key s rfl h
  .obtain⟨s0,e,h⟩:=OH h;exact key s0 e h
def a2x(ord:Nat->Nat->Prop)(ex:Nat->Nat->Prop)(T:Nat->Tr)(i j:Nat):Prop:=
 ord i j\/((∀k∈(T i).2,k∉(T j).1/\k∉(T j).2)/\((∀k∈(T i).1,k∉(T j).2)\/
  (ex i j/\(∀k∈(T i).2,k∉(T i).1)/\∀m,i<m->m<j->ord m j\/∀k∈(T i).1,k∉(T m).2)))
theorem UJ{mask:Nat}{x:Tr} :∀{l:List (Nat×Tr)},a3i mask x l=true->∀y∈l,Nat.testBit mask y.1=true\/∀k∈x.1,k∉y.2.2
 |[],_,y,hy=>by cases hy|(m,z)::l,h,y,hy=>by
  unfold a3i at h;simp only[A7,jB]at h;rcases D6.1 hy with rfl|hy
  .exact h.1.imp id (λh=>xF h)
  .exact UJ h.2 y hy
theorem LZ{E:Env}{all:List Oper}{mask:Nat}{y:Tr}{cy:Bool}{T:Nat->Tr}{N:Nat} :∀n (mids:List (Nat×Tr)),(∀m,n<=m->m<N->(m,T m)∈mids)->Oq E all mask y cy ((List.range n).map T).reverse n mids=true->
  ∀i,i<n->Nat.testBit mask i=true\/((∀k∈(T i).2,k∉y.1/\k∉y.2)/\((∀k∈(T i).1,k∉y.2)\/((cy=true/\a5x E all i=true)/\(∀k∈(T i).2,k∉(T i).1)/\∀m,i<m->m<N->Nat.testBit mask m=true\/∀k∈(T i).1,k∉(T m).2)))
 |0,_,_,_,i,hi=>by omega|n+1,mids,hm,h,i,hi=>by
  rw[qo]at h;unfold Oq at h;simp only[Nat.add_sub_cancel,A7]at h;by_cases e:i=n
  .subst e;have h:=h.1;unfold a3m at h;cases hb:Nat.testBit mask i
   .simp only[hb,cond_false,A7]at h;refine .inr ⟨λk hk=>⟨xF h.1.1 k hk,xF h.1.2 k hk⟩,?_⟩;have h2:=h.2;cases hdj:Sz (T i).1 y.2
    .simp only[hdj,cond_false,A7]at h2;exact .inr ⟨h2.1.1,xF h2.1.2,λm h3 h4=>UJ h2.2 _ (hm m o5 h4)⟩
    .exact .inl (xF hdj)
   .exact .inl rfl
  .refine LZ n _ (λm h1 h2=>?_) h.2 i o5;by_cases e2:m=n
   .subst e2;simp
   .exact V5 _ (hm m o5 h2)
theorem Ov{E:Env}{all:List Oper}{M:Nat->Nat}{T:Nat->Tr} :∀n,Ou E all ((List.range n).map M).reverse ((List.range n).map T).reverse=true->∀i j,i<j->j<n->
  a2x (λi j=>Nat.testBit (M j) i=true) (λi j=>XN all j=true/\a5x E all i=true) T i j
 |0,_,i,j,_,hj=>by omega|n+1,h,i,j,hi,hj=>by
  rw[qo,qo]at h;unfold Ou at h;simp only[A7,List.length_reverse,V7,fZ]at h;by_cases e:j=n
  .subst e;exact LZ (N:=j) j [] (λm h1 h2=>by omega) h.1 i hi
  .exact Ov n h.2 i j hi o5
theorem a5L{P:Nat->Prop} :∀(n:Nat),(∃j,j<n/\P j)->∃j,j<n/\P j/\∀m,j<m->m<n->¬P m
 |0,⟨j,h,_⟩=>by omega|n+1,⟨j,h,hp⟩=>by
  by_cases e:P n
  .exact⟨n,o5,e,λm h1 h2=>by omega⟩
  .have:j≠n:=λe2=>e (e2▸hp);obtain⟨j',h1,h2,h3⟩:=a5L n ⟨j,o5,hp⟩;refine⟨j',o5,h2,λm h4 h5=>?_⟩;by_cases e2:m=n
   .subst e2;exact e
   .exact h3 m h4 o5
variable {n:Nat}
theorem a5i{c:Nat->Cmd Unit}{S:Nat->Sm}{T:Nat->Tr}(hs:∀i,i<n->(c i).eval (S i) ([],[])=some ((),S (i+1),T i)){ord ex:Nat->Nat->Prop}
  (hc:∀i j,i<j->j<n->a2x ord ex T i j) (hex:∀i j,i<j->j<n->ex i j->∃S',(c i).eval (S (j+1)) ([],[])=some ((),S',T i)/\∀k∈(T i).2,S' k=S (i+1) k)
  {D:List Nat} {i:Nat} (hi:i<n) (hD:i∉D) (hlt:∀j∈D,j<n) (hp:∀j,ord j i->j∈D) (hdown:∀j∈D,∀k,ord k j->k∈D):
  (c i).eval (SD S T D n) ([],[])=some ((),SD S T (i::D) n,T i):=by
 have before:∀k,(k∈(T i).1\/k∈(T i).2)->∀j,j<i->k∈(T j).2->j∈D:=λk hk j hj hw=>by
  rcases hc j i hj hi with h|⟨h1,_⟩
  .exact hp j h
  .rcases hk with hk|hk
   .exact absurd hk (h1 k hw).1
   .exact absurd hk (h1 k hw).2
 have afterW:∀k,k∈(T i).2->∀j,i<j->j<n->k∈(T j).2->j∉D:=λk hk j hj hjn hw hjD=>by
  rcases hc i j hj hjn with h|⟨h1,h2⟩
  .exact hD (hdown j hjD i h)
  .exact(h1 k hk).2 hw
 have fin:∀S0 S1:Sm,(c i).eval S0 ([],[])=some ((),S1,T i)->(∀k∈(T i).2,S1 k=S (i+1) k)->(∀k∈(T i).1,SD S T D n k=S0 k)->(c i).eval (SD S T D n) ([],[])=some ((),SD S T (i::D) n,T i):=λS0 S1 he hv hr=>by
  obtain⟨T',h1,_,h3,h4⟩:=xh he (SD S T D n) hr;rw[h1];have:T' =SD S T (i::D) n:=by
   funext k;by_cases hk:k∈(T i).2
   .rw[h4 k hk A8,hv k hk];rw[TB (i::D) k (i+1) n o5 (λj h1 h2 hw=>by
     simp only[D6,not_or];exact⟨o5,afterW k hk j o5 h2 hw⟩)]
    simp[SD,hk]
   .rw[h3 k hk,a2z D i k hk]
  rw[this]
 by_cases hx:∃j,j<n/\(i<j/\j∈D/\∃k∈(T i).1,k∈(T j).2)
 .obtain⟨j,hjn,⟨hij,hjD,k0,hk0,hk1⟩,hmax⟩:=a5L n hx;rcases hc i j hij hjn with h|⟨_,h2⟩
  .exact absurd (hdown j hjD i h) hD
  .rcases h2 with h2|⟨h3,h4,h5⟩
   .exact absurd hk1 (h2 k0 hk0)
   .obtain⟨S',he,hv⟩:=hex i j hij hjn h3;refine fin (S (j+1)) S' he hv λk hk=>?_;rw[TB D k (j+1) n o5 (λm g1 g2 hw hmD=>hmax m o5 g2 ⟨o5,hmD,k,hk,hw⟩)];refine KH hs D k (j+1) o5 λm hm hw=>?_;rcases Nat.lt_trichotomy m i with g|g|g
    .exact before k (.inl hk) m g hw
    .subst g;exact absurd hk (h4 k hw)
    .by_cases e:m=j
     .subst e;exact hjD
     .rcases h5 m g o5 with g2|g2
      .exact hdown j hjD m g2
      .exact absurd hw (g2 k hk)
 .refine fin (S i) (S (i+1)) (hs i hi) (λ_ _=>rfl) λk hk=>?_;rw[TB D k i n o5 (λj h1 h2 hw hjD=>by
   by_cases e:j=i
   .subst e;exact hD hjD
   .exact hx ⟨j,h2,o5,hjD,k,hk,hw⟩)]
  exact KH hs D k i o5 (before k (.inl hk))
def qE(e:Edge):Prop:=match e.ground with| .textOnly _=>False| .gcOnly _=>False|_=>True
theorem qE.binds{e:Edge}(h:qE e)(md:Region.Mode):Region.binds md e=true:=by unfold qE at h;unfold Region.binds;split<;>simp_all
theorem a3V{e:Edge}(h:Region.binds .any e=true):qE e:=by unfold Region.binds at h;unfold qE;split<;>simp_all
theorem EX{M:Nat->Nat}{n k:Nat}(hk:k<n):(((List.range n).map M).reverse).getD (n -1 -k) 0=M k:=by rw[Ob,List.getElem?_reverse F5];simp only[V7,fZ,eP];rw[show n -1 -(n -1 -k)=k by omega];simp[hk]
theorem MP{M:Nat->Nat}{n:Nat} :∀(es:List Edge) {m m' :Nat},LP ((List.range n).map M).reverse n es m=some m' ->
  (∀e∈es,qE e->e.on<n)/\∀j,Nat.testBit m' j=true->Nat.testBit m j=true\/∃e∈es,qE e/\(j=e.on\/Nat.testBit (M e.on) j=true)
 |[],m,m',h=>by simp[LP]at h;subst h;exact⟨λ_ h=>absurd h A8,λj hj=> .inl hj⟩|e::es,m,m',h=>by
  have plain:(bif Nat.blt e.on n then LP ((List.range n).map M).reverse n es (m ||| 2^e.on ||| (((List.range n).map M).reverse).getD (n -1 -e.on) 0)else none)=some m' ->qE e->
    (∀e' ∈e::es,qE e' ->e'.on<n)/\∀j,Nat.testBit m' j=true->Nat.testBit m j=true\/∃e' ∈e::es,qE e' /\(j=e'.on\/Nat.testBit (M e'.on) j=true):=λh hp=>by
   cases hb:Nat.blt e.on n
   .simp[hb]at h
   .simp only[hb,cond_true]at h;have hlt:=Gx hb;rw[EX hlt]at h;obtain⟨h1,h2⟩:=MP es h;refine⟨λe' he' hp' =>?_,λj hj=>?_⟩
    .rcases D6.1 he' with rfl|he'
     .exact hlt
     .exact h1 e' he' hp'
    .rcases h2 j hj with h3|⟨e',he',hp',h3⟩
     .rw[Nat.testBit_or,Nat.testBit_or,jB,jB]at h3;rcases h3 with(h3|h3)|h3
      .exact .inl h3
      .rw[Nat.testBit_two_pow]at h3;exact .inr ⟨e,A8,hp,.inl (of_decide_eq_true h3).symm⟩
      .exact .inr ⟨e,A8,hp,.inr h3⟩
     .exact .inr ⟨e',by simp[he'],hp',h3⟩
  have skip:LP ((List.range n).map M).reverse n es m=some m' ->¬qE e->
    (∀e' ∈e::es,qE e' ->e'.on<n)/\∀j,Nat.testBit m' j=true->Nat.testBit m j=true\/∃e' ∈e::es,qE e' /\(j=e'.on\/Nat.testBit (M e'.on) j=true):=λh hp=>by
   obtain⟨h1,h2⟩:=MP es h;refine⟨λe' he' hp' =>?_,λj hj=>?_⟩
   .rcases D6.1 he' with rfl|he'
    .exact absurd hp' hp
    .exact h1 e' he' hp'
   .rcases h2 j hj with h3|⟨e',he',hp',h3⟩
    .exact .inl h3
    .exact .inr ⟨e',by simp[he'],hp',h3⟩
  unfold LP at h;cases hg:e.ground<;>simp only[hg]at h
  case textOnly=>exact skip h (by simp[qE,hg])
  case gcOnly=>exact skip h (by simp[qE,hg])
  all_goals exact plain h (by simp[qE,hg])
theorem KZ:∀(l:List Oper) {n:Nat} {M:Nat->Nat} {ms:List Nat},Yq l n ((List.range n).map M).reverse=some ms->
  ∃M' :Nat->Nat,ms=((List.range (n+l.length)).map M').reverse/\(∀k,k<n->M' k=M k)/\
   ∀i o,l[i]? =some o->(∀e∈o.after.toList,qE e->e.on<n+i)/\∀j,Nat.testBit (M' (n+i)) j=true->∃e∈o.after.toList,qE e/\(j=e.on\/Nat.testBit (M' e.on) j=true)
 |[],n,M,ms,h=>by simp only[Yq,F6]at h;subst h;exact⟨M,rfl,λ_ _=>rfl,λi o hi=>by simp at hi⟩|o::l,n,M,ms,h=>by
  unfold Yq at h;cases he:LP ((List.range n).map M).reverse n o.after.toList 0 with
  |none=>simp[he]at h|some m=>
   simp only[he]at h;obtain⟨h1,h2⟩:=MP _ he;have hM:m::((List.range n).map M).reverse=((List.range (n+1)).map (λk=>if k=n then m else M k)).reverse:=by rw[qo];simp only[if_true];congr 2;apply gm;intro k hk;rw[if_neg];have:=fD.1 hk;omega
   rw[hM]at h;obtain⟨M',e1,e2,e3⟩:=KZ l h;have hMn:M' n=m:=by rw[e2 n o5];simp
   have hMk:∀k,k<n->M' k=M k:=λk hk=>by rw[e2 k o5,if_neg o5]
   refine⟨M',by rw[e1];congr 3;simp;omega,hMk,λi o' hi=>?_⟩;cases i with
   |zero=>
    simp at hi;subst hi;refine⟨h1,λj hj=>?_⟩;rw[aQ,hMn]at hj;rcases h2 j hj with h3|⟨e,hem,hp,h3⟩
    .simp at h3
    .exact⟨e,hem,hp,by rwa[hMk _ (h1 e hem hp)]⟩
   |succ i=>have:=e3 i o' (by simpa using hi);rwa[show n+1+i=n+(i+1) by omega]at this
theorem UN:∀(n:Nat) {D:List Nat},D.Nodup->(∀x∈D,x<n)->D.length<=n
 |0,D,_,h=>by
  cases D with
  |nil=>simp|cons x D=>have:=h x A8;omega
 |n+1,D,hD,h=>by
  by_cases hn:n∈D
  .have h1:=UN n (D:=D.erase n) (hD.erase n) (λx hx=>by
    have:=(hD.mem_erase_iff).1 hx;have:=h x this.2;omega)
   rw[List.length_erase_of_mem hn]at h1;omega
  .have h1:=UN n hD (λx hx=>by
    have:=h x hx;have:x≠n:=λe=>hn (e▸hx);omega)
   omega
theorem a4x{D:List Nat}(hD:D.Nodup)(h:∀x∈D,x<n)(hl:n<=D.length):∀i,i<n->i∈D:=λi hi=>by
 refine Classical.byContradiction λhn=>?_;have:=UN n (D:=i::D) (aj.2 ⟨hn,hD⟩) (λx hx=>by
  rcases D6.1 hx with rfl|hx
  .exact hi
  .exact h x hx)
 simp at this;omega
def MM(md:Region.Mode)(ops:Array Oper):Prop:=∃rk:Nat->Nat,∀i o,ops[i]? =some o->∀e∈o.after.toList,Region.binds md e=true->e.on<ops.size/\rk e.on<rk i
theorem Rz:∀{es:List Edge},Qh es=true->∀e∈es,qE e
 |[],_,e,he=>by cases he|e::es,h,e',he' =>by
  unfold Qh at h;have hp:qE e:=by cases hg:e.ground<;>simp[hg]at h<;>simp[qE,hg]
  have hr:Qh es=true:=by cases hg:e.ground<;>simp[hg]at h<;>exact h
  rcases D6.1 he' with rfl|he'
  .exact hp
  .exact Rz hr e' he'
theorem Mc:∀{l:List Oper},Dk l=true->∀o∈l,∀e∈o.after.toList,qE e
 |[],_,o,ho=>by cases ho|o::l,h,o',ho' =>by
  unfold Dk at h;cases hp:Qh o.after.toList
  .simp[hp]at h
  .simp only[hp,cond_true]at h;rcases D6.1 ho' with rfl|ho'
   .exact Rz hp
   .exact Mc h o' ho'
theorem RD{md:Region.Mode}{done:List Nat} :∀{es:List Edge},Nu md done es=true->∀e∈es,Region.binds md e=true->e.on∈done
 |[],_,e,he,_=>by cases he|e::es,h,e',he',hb=>by
  unfold Nu at h;cases hc:(!Region.binds md e || Dc e.on done)
  .simp[hc]at h
  .simp only[hc,cond_true]at h;rcases D6.1 he' with rfl|he'
   .rw[hb]at hc;simp at hc;exact UF hc
   .exact RD h e' he' hb
theorem Iz{md:Region.Mode}{done:List Nat} :∀{l:List Oper} {n i:Nat},uw md done l n=some i->∃o,l[i -n]? =some o/\n<=i/\i<n+l.length/\Nu md done o.after.toList=true
 |[],n,i,h=>by simp[uw]at h|o::l,n,i,h=>by
  unfold uw at h;have rec' :uw md done l (n+1)=some i->∃o',(o::l)[i -n]? =some o' /\n<=i/\i<n+(o::l).length/\Nu md done o'.after.toList=true:=λh=>by obtain⟨o',h1,h2,h3,h4⟩:=Iz h;refine⟨o',?_,o5,by simp;omega,h4⟩;rw[show i -n=(i -(n+1))+1 by omega];simpa using h1
  cases hm:Dc n done
  .simp only[hm,cond_false]at h;cases hr:Nu md done o.after.toList
   .simp only[hr,cond_false]at h;exact rec' h
   .simp only[hr,cond_true,F6]at h;subst h;exact⟨o,A8,E9 _,A8,hr⟩
  .simp only[hm,cond_true]at h;exact rec' h
theorem TE:∀{n:Nat} {d:List Nat},a2A n d=true->∀i,i<n->i∈d
 |0,d,_,i,hi=>by omega|n+1,d,h,i,hi=>by
  unfold a2A at h;simp only[A7]at h;by_cases e:i=n
  .subst e;exact UF h.1
  .exact TE h.2 i o5
theorem EM{md:Region.Mode}{ops:Array Oper} :∀(k:Nat) {done:List Nat} {rk:Nat->Nat},YY md ops.toList k done=true->
  (∀x∈done,rk x<done.length)->(∀i∈done,∀o,ops[i]? =some o->∀e∈o.after.toList,Region.binds md e=true->e.on∈done/\e.on<ops.size/\rk e.on<rk i)->(∀x∈done,x<ops.size)->MM md ops
 |0,done,rk,h,h1,h2,h3=>by have hall:=TE h;simp only[Y9]at hall;exact⟨rk,λi o hi e he hb=>(h2 i (hall i (J6.1 hi).1) o hi e he hb).2⟩|k+1,done,rk,h,h1,h2,h3=>by
  unfold YY at h;cases hf:uw md done ops.toList 0 with
  |none=>simp[hf]at h|some n=>
   simp only[hf]at h;obtain⟨o,e1,_,e2,e3⟩:=Iz hf;simp only[Nat.sub_zero,Y6,bV,Y9]at e1 e2;by_cases hn:n∈done
   .refine EM k (rk:=rk) h (λx hx=>?_) (λi hi o' ho' e he hb=>?_) (λx hx=>?_)
    .rcases D6.1 hx with rfl|hx
     .have:=h1 x hn;simp;omega
     .have:=h1 x hx;simp;omega
    .have hi' :i∈done:=by rcases D6.1 hi with rfl|hi;exact hn;exact hi
     obtain⟨g1,g2,g3⟩:=h2 i hi' o' ho' e he hb;exact⟨by simp[g1],g2,g3⟩
    .rcases D6.1 hx with rfl|hx
     .exact e2
     .exact h3 x hx
   .refine EM k (rk:=λx=>if x=n then done.length else rk x) h (λx hx=>?_) (λi hi o' ho' e he hb=>?_) (λx hx=>?_)
    .show(if x=n then done.length else rk x)<_;rcases D6.1 hx with rfl|hx
     .simp
     .have:=h1 x hx;rw[if_neg (show ¬x=n from λe=>hn (by rw[←e];exact hx))];simp;omega
    .show _/\_/\(if e.on=n then done.length else rk e.on)<(if i=n then done.length else rk i);rcases D6.1 hi with rfl|hi
     .rw[e1]at ho';cases ho';have hd:=RD e3 e he hb;refine⟨by simp[hd],h3 _ hd,?_⟩;rw[if_neg (show ¬e.on=i from λe' =>hn (by rw[←e'];exact hd)),if_pos rfl];exact h1 _ hd
     .obtain⟨g1,g2,g3⟩:=h2 i hi o' ho' e he hb;refine⟨by simp[g1],g2,?_⟩;rw[if_neg (show ¬e.on=n from λe' =>hn (by rw[←e'];exact g1)),if_neg (show ¬i=n from λe' =>hn (by rw[←e'];exact hi))];exact g3
    .rcases D6.1 hx with rfl|hx
     .exact e2
     .exact h3 x hx
end Go.GP
namespace Go.GP
section
variable {X:Fx} {q:Nat} {ops:Array Oper} {S:Nat->Sm} {T:Nat->Tr} {m0:Mp} {ok0:Nat->Ty->Prop} {Q:Exit->Act->World->Prop}
theorem TT(H:FxOk X){i:Nat}{o:Oper}(hi:ops[i]? =some o){S1 S2:Sm}{t:Tr}(he:(lX X.E q ops.toList o).eval S1 ([],[])=some ((),S2,t)){m:Mp}{ok:Nat->Ty->Prop}{a:Act}{w:World}
  (R:Rel X (CB*q) (CB*q+CB) S1 m ok a w) {next:Act->World->Prop}
  (hn:∀m' ok' a' w',Rel X (CB*q) (CB*q+CB) S2 m' ok' a' w' ->(∀k l,m k=some l->m' k=some l)->(∀b t,ok b t->ok' b t)->next a' w'):wpOp X.P ops Q i next a w:=
 qP (a4S H R hi) he next Q hn
theorem Sj(H:FxOk X)(hc:QN X.E q ops.toList ops.toList S T)
  (hQ:∀m' ok' a' w',Rel X (CB*q) (CB*q+CB) (S ops.size) m' ok' a' w' ->(∀k l,m0 k=some l->m' k=some l)->(∀b t,ok0 b t->ok' b t)->Q .normal a' w'):
  ∀(n k:Nat) {m:Mp} {ok:Nat->Ty->Prop} {a:Act} {w:World},k+n=ops.size->Rel X (CB*q) (CB*q+CB) (S k) m ok a w->(∀k l,m0 k=some l->m k=some l)->(∀b t,ok0 b t->ok b t)->wpOps X.P ops Q (List.range' k n) a w
 |0,k,m,ok,a,w,hk,R,hm,hok=>by have:k=ops.size:=o5;subst this;exact hQ m ok a w R hm hok
 |n+1,k,m,ok,a,w,hk,R,hm,hok=>by rw[kF,wpOps_cons];have hi:ops[k]? =some (ops[k]'o5):=N9 _;refine TT H hi (hc k _ (by rw[Y6];exact hi)) R λm' ok' a' w' R' k1 k2=>?_;exact Sj H hc hQ n (k+1) o5 R' (λk l h=>k1 k l (hm k l h)) (λb t h=>k2 b t (hok b t h))
theorem a3T(H:FxOk X){md:Region.Mode}(hc:QN X.E q ops.toList ops.toList S T){M:Nat->Nat}
  {ex:Nat->Nat->Prop} (hpair:∀i j,i<j->j<ops.size->a2x (λi j=>Nat.testBit (M j) i=true) ex T i j)
  (hex:∀i j,i<j->j<ops.size->ex i j->∃S',(lX X.E q ops.toList (ops.getD i default)).eval (S (j+1)) ([],[])=some ((),S',T i)/\∀k∈(T i).2,S' k=S (i+1) k)
  (hM:∀i o,ops[i]? =some o->∀j,Nat.testBit (M i) j=true->∃e∈o.after.toList,qE e/\(j=e.on\/Nat.testBit (M e.on) j=true)) (hrk:MM md ops)
  (hQ:∀m' ok' a' w',Rel X (CB*q) (CB*q+CB) (S ops.size) m' ok' a' w' ->(∀k l,m0 k=some l->m' k=some l)->(∀b t,ok0 b t->ok' b t)->Q .normal a' w'):
  ∀(jg:Nat) {D:List Nat} {yF:Array Bool} {m:Mp} {ok:Nat->Ty->Prop} {a:Act} {w:World},jg+D.length=ops.size->D.Nodup->(∀j∈D,j<ops.size)->yF.size=ops.size->(∀i,i<ops.size->(yF.getD i false=true↔i∈D))->
   (∀j∈D,∀k,Nat.testBit (M j) k=true->k∈D)->Rel X (CB*q) (CB*q+CB) (SD S T D ops.size) m ok a w->(∀k l,m0 k=some l->m k=some l)->(∀b t,ok0 b t->ok b t)->
   wpAny X.P md ops Q jg yF a w:=by
 have hs:∀i,i<ops.size->(lX X.E q ops.toList (ops.getD i default)).eval (S i) ([],[])=some ((),S (i+1),T i):=λi hi=>by refine hc i _ ?_;simp[Array.getD,hi]
 obtain⟨rk,hrk⟩:=hrk;intro jg;induction jg with
 |zero=>
  intro D yF m ok a w hf hD hlt hsz hl hdown R hm hok;have hall:=a4x hD hlt o5;refine⟨?_,?_⟩
  .cases hr:Region.ready md ops yF with
   |nil=>rfl|cons x xs=>
    have hx:x∈Region.ready md ops yF:=by rw[hr];simp
    obtain⟨h1,o,ho,_⟩:=mem_ready.1 hx;have hxl:=(J6.1 ho).1;have:=(hl x hxl).2 (hall x hxl);rw[Y1]at h1 this;cases hg:yF[x]? with
    |none=>rw[hg]at this;cases this|some y=>rw[hg]at h1 this;simp only[dM]at h1 this;rw[h1]at this;cases this
  .refine hQ m ok a w ?_ hm hok;rwa[a5h (c:=λi=>lX X.E q ops.toList (ops.getD i default)) hs hall]at R
 |succ jg ih=>
  intro D yF m ok a w hf hD hlt hsz hl hdown R hm hok;refine⟨λhr=>?_,λi hi=>?_⟩
  .have hall:∀n i,rk i<n->i<ops.size->i∈D:=by
    intro n;induction n with
    |zero=>intro i hi _;omega|succ n ihn=>
     intro i hi hil;refine Classical.byContradiction λhni=>?_;have hin:i∈Region.ready md ops yF:=by
      refine mem_ready.2 ⟨?_,ops[i],N9 hil,λe he hb=>?_⟩
      .have h1:¬yF.getD i false=true:=λh=>hni ((hl i hil).1 h);rw[Y1]at h1 ⊢;rw[N9 o5]at h1 ⊢;simpa using h1
      .obtain⟨g1,g2⟩:=hrk i _ (N9 hil) e (by simpa using he) hb;exact(hl e.on g1).2 (ihn e.on o5 g1)
     rw[hr]at hin;cases hin
   refine hQ m ok a w ?_ hm hok;rwa[a5h (c:=λi=>lX X.E q ops.toList (ops.getD i default)) hs (λi hi=>hall _ i (Nat.lt_succ_self _) hi)]at R
  .obtain⟨h1,o,ho,h2⟩:=mem_ready.1 hi;have hil:=(J6.1 ho).1;have hnD:i∉D:=λh=>by
    have:=(hl i hil).2 h;rw[Y1]at h1 this;rw[N9 o5]at h1 this;simp only[dM]at h1 this;rw[h1]at this;cases this
   have hp:∀j,Nat.testBit (M i) j=true->j∈D:=λj hj=>by
    obtain⟨e,he,hpl,h3⟩:=hM i o ho j hj;have hlst:=h2 e (by simpa using he) (hpl.binds md);have hon:e.on<ops.size:=(hrk i o ho e he (hpl.binds md)).1;have honD:=(hl e.on hon).1 hlst;rcases h3 with rfl|h3
    .exact honD
    .exact hdown e.on honD j h3
   have hgd:ops.getD i default=o:=by rw[Y1,ho];rfl
   have hstep:=a5i (c:=λi=>lX X.E q ops.toList (ops.getD i default)) (S:=S) (T:=T) (n:=ops.size) hs (ord:=λi j=>Nat.testBit (M j) i=true) (ex:=ex)
    hpair hex hil hnD hlt hp hdown
   simp only[hgd]at hstep;refine TT H ho hstep R λm' ok' a' w' R' k1 k2=>?_;refine ih (D:=i::D) F5 (aj.2 ⟨hnD,hD⟩) (λj hj=>?_) (by simp[hsz]) (λj hj=>?_) (λj hj k hk=>?_) R' (λk l h=>k1 k l (hm k l h)) (λb t h=>k2 b t (hok b t h))
   .rcases D6.1 hj with rfl|hj
    .exact hil
    .exact hlt j hj
   .by_cases e:i=j
    .subst e;simp[Array.getD,hsz,hil]
    .rw[getD_set_ne false e,hl j hj];simp[Ne.symm e]
   .rcases D6.1 hj with rfl|hj
    .exact V5 _ (hp k hk)
    .exact V5 _ (hdown j hj k hk)
theorem RG(H:FxOk X){s s' :St}(h0:S 0=dN s)(h1:S ops.size=dN s')(hc:QN X.E q ops.toList ops.toList S T){draw:Bool}{ex:Nat->Nat->Prop}
  (hex:∀i j,i<j->j<ops.size->ex i j->∃S',(lX X.E q ops.toList (ops.getD i default)).eval (S (j+1)) ([],[])=some ((),S',T i)/\∀k∈(T i).2,S' k=S (i+1) k)
  (hdraw:draw=true->∃M:Nat->Nat,Yq ops.toList 0 []=some ((List.range ops.size).map M).reverse/\(∀i j,i<j->j<ops.size->a2x (λi j=>Nat.testBit (M j) i=true) ex T i j)/\
   (bif Dk ops.toList then true else YY .text ops.toList ops.toList.length []&&YY .gc ops.toList ops.toList.length [])=true):
  (∀k,(∀x∈((List.range ops.size).map T).reverse,k∉x.2)->dN s' k=dN s k)/\
   ∀{m:Mp} {ok:Nat->Ty->Prop} {a:Act} {w:World} {id:Nat} {Q:Exit->Act->World->Prop},Rel X (CB*q) (CB*q+CB) (dN s) m ok a w->
    (∀m' ok' a' w',Rel X (CB*q) (CB*q+CB) (dN s') m' ok' a' w' ->(∀k l,m k=some l->m' k=some l)->(∀b t,ok b t->ok' b t)->Q .normal a' w')->(Code.region id ops draw).wp X.P Q a w:=by
 have hfr:∀k,(∀x∈((List.range ops.size).map T).reverse,k∉x.2)->dN s' k=dN s k:=λk hk=>by
  have:∀n,n<=ops.size->S n k=S 0 k:=by
   intro n;induction n with
   |zero=>intro _;rfl|succ n ih=>intro hn;have hi:ops[n]? =some (ops[n]'o5):=N9 _;rw[GM (hc n (ops[n]'o5) (by rw[Y6];exact hi)) k (hk (T n) (by simp;exact⟨n,o5,rfl⟩)),ih o5]
  rw[←h1,←h0];exact this ops.size (E9 _)
 cases draw with
 |false=>refine⟨hfr,λ{m ok a w id Q} R hQ=>wp_region ?_⟩;rw[List.range_eq_range'];rw[←h0]at R;refine Sj H hc (m0:=m) (ok0:=ok) (by rw[h1];exact hQ) ops.size 0 o5 R (λ_ _ h=>h) (λ_ _ h=>h)|true=>
  obtain⟨M0,hp,hpair,hd⟩:=hdraw rfl;obtain⟨M,hMM,_,hM⟩:=KZ (M:=λ_=>0) ops.toList (n:=0) hp;simp only[bV,Y9]at hd hM hMM;have hMM:∀k,k<ops.size->M0 k=M k:=λk hk=>by have e1:=EX (M:=M0) hk;rw[hMM,EX hk]at e1;exact e1.symm
  have hM:∀i o,ops[i]? =some o->(∀e∈o.after.toList,qE e->e.on<i)/\∀j,Nat.testBit (M0 i) j=true->∃e∈o.after.toList,qE e/\(j=e.on\/Nat.testBit (M0 e.on) j=true):=λi o ho=>by have hil:=(J6.1 ho).1;obtain⟨g1,g2⟩:=hM i o (by simpa using ho);refine⟨g1,λj hj=>?_⟩;rw[hMM i hil]at hj;obtain⟨e,he,hpl,h3⟩:=g2 j hj;exact⟨e,he,hpl,by rw[hMM e.on (by have:=g1 e he hpl;omega)];exact h3⟩
  have hidr:∀md,(∀(i:Nat) (o:Oper),ops[i]? =some o->∀e∈o.after.toList,Region.binds md e=true->qE e)->MM md ops:=λmd hpl=>by refine⟨λi=>i,λi o ho e he hb=>?_⟩;have hil:=(J6.1 ho).1;have:=(hM i o ho).1 e he (hpl i o ho e he hb);exact⟨o5,this⟩
  have hany:MM .any ops:=hidr .any λi o ho e he hb=>a3V hb;have hboth:MM .text ops/\MM .gc ops:=by
   cases hpo:Dk ops.toList
   .simp only[hpo,cond_false,A7]at hd;exact⟨EM (rk:=λ_=>0) _ hd.1 A8 A8 A8,EM (rk:=λ_=>0) _ hd.2 A8 A8 A8⟩
   .have hpl:∀(i:Nat) (o:Oper),ops[i]? =some o->∀e∈o.after.toList,qE e:=λi o ho e he=>Mc hpo o (by simpa using Array.mem_of_getElem? ho) e he;exact⟨hidr _ λi o ho e he _=>hpl i o ho e he,hidr _ λi o ho e he _=>hpl i o ho e he⟩
  refine⟨hfr,λ{m ok a w id Q} R hQ=>wp_region_draw λt=>?_⟩;have R' :Rel X (CB*q) (CB*q+CB) (SD S T [] ops.size) m ok a { w with drawn:=w.drawn+1 }:=by rw[b1P,h0];exact R.same rfl rfl rfl rfl
  have main:∀md,MM md ops->∀t,wpOps X.P ops Q (Region.linearise md ops t) a { w with drawn:=w.drawn+1 }:=λmd hr t=>by unfold Region.linearise;refine wpAny_sound ops.size t _ a _ ?_;refine a3T H hc hpair hex (λi o ho=>(hM i o ho).2) hr (m0:=m) (ok0:=ok) (by rw[h1];exact hQ) ops.size (D:=[]) A8 cZ A8 A8 (λi hi=>?_) A8 R' (λ_ _ h=>h) (λ_ _ h=>h);simp[Array.getD,hi]
  unfold Region.schedule;split
  .exact main _ hany t
  .split
   .exact main _ hboth.1 _
   .exact main _ hboth.2 _
theorem Yy(H:FxOk X){R:Type}{s:St}{wr:Rgs}{K:St->Rgs->Option R}{r:R}{draw:Bool}(h:Yx X.E q ops draw s wr K=some r):
  ∃s' w',K s' w' =some r/\(∃t:Trs,w' =AO t wr/\∀k,(∀x∈t,k∉x.2)->dN s' k=dN s k)/\
   ∀{m:Mp} {ok:Nat->Ty->Prop} {a:Act} {w:World} {id:Nat} {Q:Exit->Act->World->Prop},Rel X (CB*q) (CB*q+CB) (dN s) m ok a w->
    (∀m' ok' a' w',Rel X (CB*q) (CB*q+CB) (dN s') m' ok' a' w' ->(∀k l,m k=some l->m' k=some l)->(∀b t,ok b t->ok' b t)->Q .normal a' w')->(Code.region id ops draw).wp X.P Q a w:=by
 unfold Yx at h;have pick:∀(dr:Bool) (s' :St) (T:Nat->Tr),(bif draw then(bif dr then K s' (AO ((List.range ops.size).map T).reverse wr)else none)else K s' (AO ((List.range ops.size).map T).reverse wr))=some r->
   K s' (AO ((List.range ops.size).map T).reverse wr)=some r/\(draw=true->dr=true):=λdr s' T h=>by
  cases draw
  .exact⟨h,λh=>by cases h⟩
  .cases dr
   .cases h
   .exact⟨h,λ_=>rfl⟩
 split at h
 .obtain⟨s',S,T,h0,h1,hc,hk⟩:=RP _ h;simp only[Y9,H6]at h1 hk;obtain⟨hk,hd⟩:=pick _ s' T hk;obtain⟨hfr,hwp⟩:=RG H h0 h1 hc (draw:=draw) (ex:=λ_ _=>False) (λ_ _ _ _ h=>h.elim) λhdr=>by
   have hd:=hd hdr;unfold a5t at hd;cases hp:Yq ops.toList 0 []with
   |none=>simp[hp]at hd|some ms=>
   simp only[hp]at hd;obtain⟨M,hms,_,_⟩:=KZ (M:=λ_=>0) ops.toList (n:=0) hp;simp only[bV,Y9]at hms;subst hms;cases hod:UQ ((List.range ops.size).map M).reverse ((List.range ops.size).map T).reverse
   .simp[hod]at hd
   simp only[hod,cond_true]at hd;exact⟨M,rfl,λi j hi hj=>(Rw _ hod i j hi hj).imp id λh=>⟨h.1,.inl h.2⟩,hd⟩
  exact⟨s',_,hk,⟨_,rfl,hfr⟩,hwp⟩
 .obtain⟨s',S,T,h0,h1,hc,hk,_,h5⟩:=OT _ h;simp only[Y9,H6]at h1 hk;obtain⟨hk,hd⟩:=pick _ s' T hk;obtain⟨hfr,hwp⟩:=RG H h0 h1 hc (draw:=draw) (ex:=λi j=>XN ops.toList j=true/\a5x X.E ops.toList i=true) (λi j hij hj ⟨e1,e2⟩=>by
   have hi:ops[i]? =some (ops[i]'o5):=N9 _;have hj' :ops[j]? =some (ops[j]'o5):=N9 _;unfold XN at e1;unfold a5x at e2;rw[Y6,hj']at e1;rw[Y6,hi]at e2;obtain⟨d,hd,d',S',g1,g2,g3,g4⟩:=h5 i j _ _ hij (by rw[Y6];exact hi) (by rw[Y6];exact hj') e2 e1;rw[hd]at g1;cases g1;have hgd:ops.getD i default=ops[i]'o5:=by rw[Y1,hi];rfl
   refine⟨S',by rw[hgd];exact g3,λk hk=>?_⟩;rw[g2]at hk;simp only[D6,IV,or_false]at hk;subst hk;exact g4) λhdr=>by
   have hd:=hd hdr;unfold a2M at hd;cases hp:Yq ops.toList 0 []with
   |none=>simp[hp]at hd|some ms=>
   simp only[hp]at hd;obtain⟨M,hms,_,_⟩:=KZ (M:=λ_=>0) ops.toList (n:=0) hp;simp only[bV,Y9]at hms;subst hms;cases hod:Ou X.E ops.toList ((List.range ops.size).map M).reverse ((List.range ops.size).map T).reverse
   .simp[hod]at hd
   simp only[hod,cond_true]at hd;exact⟨M,rfl,Ov _ hod,hd⟩
  exact⟨s',_,hk,⟨_,rfl,hfr⟩,hwp⟩
end
end Go.GP
namespace Go.GP
def Wr(w:Rgs)(k:Nat):Prop:=∃p∈w,p.1<=k/\k<p.2
theorem a0o{k:Nat} :¬Wr [] k:=λ⟨p,h,_⟩=>by cases h
theorem KI{p:Nat×Nat}{w:Rgs}{k:Nat} :Wr (p::w) k↔(p.1<=k/\k<p.2)\/Wr w k:=by
 constructor
 .rintro⟨x,h,h1⟩;rcases D6.1 h with rfl|h
  .exact .inl h1
  .exact .inr ⟨x,h,h1⟩
 .rintro(h|⟨x,h,h1⟩)
  .exact⟨p,A8,h⟩
  .exact⟨x,by simp[h],h1⟩
theorem Jb{w:Rgs}{k:Nat} :∀{ks:List Nat},Wr (Oc ks w) k↔k∈ks\/Wr w k
 |[]=>by simp[Oc]|x::ks=>by
  unfold Oc;rw[KI,Jb];simp only[D6];constructor
  .rintro(⟨h1,h2⟩|h|h)
   .exact .inl (.inl o5)
   .exact .inl (.inr h)
   .exact .inr h
  .rintro((rfl|h)|h)
   .simp
   .exact .inr (.inl h)
   .exact .inr (.inr h)
theorem XK{b:Rgs}{k:Nat} :∀{a:Rgs},Wr (TG a b) k↔Wr a k\/Wr b k
 |[]=>by simp[TG,a0o]|x::a=>by unfold TG;rw[KI,KI,XK,or_assoc]
theorem Pq{w:Rgs}{k:Nat} :∀{t:Trs},Wr (AO t w) k↔(∃x∈t,k∈x.2)\/Wr w k
 |[]=>by simp[AO]|x::t=>by unfold AO;rw[Jb,Pq,←or_assoc];simp
theorem WY{lo hi:Nat} :∀{rs:Rgs},a4j lo hi rs=true->∃p∈rs,p.1<=lo/\hi<=p.2
 |[],h=>by simp[a4j]at h|(a,b)::r,h=>by
  unfold a4j at h;cases hb:(Nat.ble a lo&&Nat.ble hi b)
  .simp only[hb,cond_false]at h;obtain⟨p,h1,h2⟩:=WY h;exact⟨p,by simp[h1],h2⟩
  .simp only[A7]at hb;exact⟨(a,b),A8,V9 hb.1,V9 hb.2⟩
theorem QQ{lim:Nat}{rs:Rgs} :∀{w:Rgs},TW lim rs w=true->∀k,Wr w k->lim<=k\/Wr rs k
 |[],_,k,h=>absurd h a0o|(a,b)::w,h,k,hk=>by
  unfold TW at h;cases hc:(Nat.ble lim a || a4j a b rs)
  .simp[hc]at h
  .simp only[hc,cond_true]at h;rcases KI.1 hk with⟨h1,h2⟩|hk
   .simp only[jB]at hc;rcases hc with hc|hc
    .have:=V9 hc;exact .inl (by simp only at h1;omega)
    .obtain⟨p,h3,h4,h5⟩:=WY hc;exact .inr ⟨p,h3,by simp only at h1;omega,by simp only at h2;omega⟩
   .exact QQ h k hk
theorem Qa{s:St}{k:Nat} :∀{rs:Rgs},¬Wr rs k->dN (CZ rs s) k=dN s k
 |[],_=>rfl|(a,b)::r,h=>by
  rw[KI,not_or]at h;show(bif Nat.ble a k&&Nat.blt k b then V.undef else dN (CZ r s) k)=dN s k;cases hb:(Nat.ble a k&&Nat.blt k b)
  .simp only[cond_false];exact Qa h.2
  .simp only[A7]at hb;exact absurd ⟨V9 hb.1,Gx hb.2⟩ h.1
theorem ZT{s:St}{k:Nat} :∀{rs:Rgs},Wr rs k->dN (CZ rs s) k= .undef
 |[],h=>absurd h a0o|(a,b)::r,h=>by
  show(bif Nat.ble a k&&Nat.blt k b then V.undef else dN (CZ r s) k)=V.undef;cases hb:(Nat.ble a k&&Nat.blt k b)
  .simp only[cond_false];rcases KI.1 h with⟨h1,h2⟩|h
   .simp only at h1 h2;have e1:Nat.ble a k=true:=Nat.ble_eq_true_of_le h1;have e2:Nat.blt k b=true:=by rw[dF];exact h2
    simp[e1,e2]at hb
   .exact ZT h
  .simp
variable {h0:Array Obj}{h1:Array Obj}{ok0:Nat->Ty->Prop}{ok1:Nat->Ty->Prop}{m:Mp}{m1:Mp}{m2:Mp}
theorem Vj(hm:∀k l,m k=some l->m2 k=m1 k):∀{c:V} {v0 v1:Value} (a:sQ ⟨h0,ok0,m⟩ c v0) (b:sQ ⟨h1,ok1,m1⟩ c v1),sQ ⟨h1,ok1,m2⟩ c v1:=by
 intro c;induction c using V.rec (motive_2:=λ_=>True)<;>try trivial
 all_goals
  intro v0 v1 a b;simp only[sQ]at a b ⊢
  try exact b
 case own bx vw=>obtain⟨l0,e0,_⟩:=a;obtain⟨l,e,hv⟩:=b;exact⟨l,by rw[hm _ _ e0];exact e,hv⟩
 case ptr bx o=>obtain⟨l0,e0,_⟩:=a;obtain⟨l,e,hv⟩:=b;exact⟨l,by rw[hm _ _ e0];exact e,hv⟩
 case ep bx ix o=>obtain⟨_,_,_,_,_,e0,_⟩:=a;obtain⟨x1,x2,x3,x4,x5,e,hv⟩:=b;exact⟨x1,x2,x3,x4,x5,by rw[hm _ _ e0];exact e,hv⟩
 case ifc t c ih=>obtain⟨u0,_,_,a⟩:=a;obtain⟨u,e,h,b⟩:=b;exact⟨u,e,h,ih a b⟩
theorem Vk{h0 h1:Array Obj}{ok0 ok1:Nat->Ty->Prop}{m m1 m2:Mp}(hm:∀k l,m k=some l->m2 k=m1 k):∀{cs:List V} {v0 v1:List Value},eX ⟨h0,ok0,m⟩ cs v0->eX ⟨h1,ok1,m1⟩ cs v1->eX ⟨h1,ok1,m2⟩ cs v1
 |[],_,_,_,b=>b|_::_,_,_,⟨_,_,_,a1,_,a3⟩,⟨v,r,e,b1,b2,b3⟩=>⟨v,r,e,Vj hm a1 b1,b2,Vk hm a3 b3⟩
variable {c:V}
theorem t_(hm:∀k l,m k=some l->m2 k=m1 k){v0 v1:Value}(a:Vh ⟨h0,ok0,m⟩ c v0)(b:Vh ⟨h1,ok1,m1⟩ c v1):Vh ⟨h1,ok1,m2⟩ c v1:=by
 cases c<;>simp only[Vh]at a b ⊢<;>try exact Vj hm a b
 case agg cs=>obtain⟨_,_,a⟩:=a;obtain⟨arr,e,b⟩:=b;exact⟨arr,e,Vk hm a b⟩
theorem w_{h0 h1:Array Obj}{ok0 ok1:Nat->Ty->Prop}{m m1 m2:Mp}(hm:∀k l,m k=some l->m2 k=m1 k):∀{cs:List V} {v0 v1:List Value},YB ⟨h0,ok0,m⟩ cs v0->YB ⟨h1,ok1,m1⟩ cs v1->YB ⟨h1,ok1,m2⟩ cs v1
 |[],_,_,_,b=>b|_::_,_,_,⟨_,_,_,a1,a3⟩,⟨v,r,e,b1,b3⟩=>⟨v,r,e,t_ hm a1 b1,w_ hm a3 b3⟩
theorem a7a(hm:∀k l,m k=some l->m2 k=m1 k){v0 v1:Value}(a:jI ⟨h0,ok0,m⟩ c v0)(b:jI ⟨h1,ok1,m1⟩ c v1):jI ⟨h1,ok1,m2⟩ c v1:=by
 cases c<;>simp only[jI]at a b ⊢<;>try exact t_ hm a b
 case tup cs=>obtain⟨_,_,a⟩:=a;obtain⟨arr,e,b⟩:=b;exact⟨arr,e,w_ hm a b⟩
theorem a0V(hm:∀k l,m k=some l->m2 k=m1 k){sz:Nat}{l0 l1:Loc}{hole:Option (Nat×Nat×Option Nat)}(a:Uu ⟨h0,ok0,m⟩ sz l0 hole)(b:Uu ⟨h1,ok1,m1⟩ sz l1 hole):Uu ⟨h1,ok1,m2⟩ sz l1 hole:=by
 obtain _|⟨i,o,_|n⟩:=hole
 .trivial
 .trivial
 .obtain⟨_,_,_,_,_,l',_,_,e,_⟩:=a;obtain⟨b1,b2,b3,b4,b5,l2,c1,c2,c3,c4⟩:=b;exact⟨b1,b2,b3,b4,b5,l2,c1,c2,by rw[hm _ _ e];exact c3,c4⟩
theorem a6Z(hm:∀k l,m k=some l->m2 k=m1 k)(hk:m2.kid=m1.kid)(km:∀k l,m k=some l->m1 k=some l){n:Nat}(a:BD ⟨h0,ok0,m⟩ n c)(b:∀l,m n=some l->BD ⟨h1,ok1,m1⟩ n c):BD ⟨h1,ok1,m2⟩ n c:=by
 cases c<;>simp only[BD]at a b ⊢
 case bcells cs=>obtain⟨_,_,_,e0,_,a⟩:=a;obtain⟨blk,arr,T,e,hh,b⟩:=b _ e0;exact⟨blk,arr,T,by rw[hm _ _ e0];exact e,hh,Vk hm a b⟩
 case barr t xs=>obtain⟨_,e0,_⟩:=a;obtain⟨l,e,b⟩:=b _ e0;exact⟨l,by rw[hm _ _ e0];exact e,mf (λ_ _ h=>h) (λ_ _ _=>rfl) (λ_ _=>rfl) b⟩
 case bfrz t xs=>obtain⟨_,e0,_⟩:=a;obtain⟨l,e,b,hb⟩:=b _ e0;exact⟨l,by rw[hm _ _ e0];exact e,mf (λ_ _ h=>h) (λ_ _ _=>rfl) (λ_ _=>rfl) b,hb⟩
 case barrs md xs hole=>obtain⟨he,_,_,e0,⟨_,ha⟩,_⟩:=a;obtain⟨_,l,Os,e,⟨b,hl⟩,hb⟩:=b _ e0;exact⟨he,l,Os,by rw[hm _ _ e0];exact e,⟨b,a0V hm ha hl⟩,by rw[hk];exact hb⟩
 case bfc t x=>obtain⟨_,_,e0,_⟩:=a;obtain⟨blk,es,e,b⟩:=b _ e0;exact⟨blk,es,by rw[hm _ _ e0];exact e,b⟩
 case gone t=>obtain⟨_,e0,_⟩:=a;obtain⟨l,e,b⟩:=b _ e0;exact⟨l,by rw[hm _ _ e0];exact e,b⟩
 case biter l p=>obtain⟨_,_,_,e0,_⟩:=a;obtain⟨blk,s,q,e,hh,b⟩:=b _ e0;exact⟨blk,s,q,by rw[hm _ _ e0];exact e,hh,b⟩
 case bsb tb c=>obtain⟨_,_,_,e0,_,_,a⟩:=a;obtain⟨blk,a1,v1,e,hh,hs,b⟩:=b _ e0;exact⟨blk,a1,v1,by rw[hm _ _ e0];exact e,hh,hs,Vj hm a b⟩
 case brow te xs=>obtain⟨_,e0,_⟩:=a;obtain⟨l,e,b⟩:=b _ e0;exact⟨l,by rw[hm _ _ e0];exact e,b⟩
 case blen ln sz=>obtain⟨k,l,e,e0,h⟩:=a;exact⟨k,l,e,by rw[hm _ _ e0];exact km _ _ e0,h⟩
def cut(m:Mp)(N:Nat):Mp:=⟨λn=>if n<N then m n else none,m.kid⟩
section
variable {X:Fx} {cl ch N:Nat} {S S1 S2:Sm} {m m1:Mp} {ok ok1:Nat->Ty->Prop} {a a1:Act} {w w1:World}
theorem Rel.climb(R:Rel X cl ch S m ok a w){cl' :Nat}(h:cl<=cl'):Rel X cl' ch S m ok a w:={ R with fresh:=λn h1 h2=>R.fresh n o5 h2 }
theorem Rel.rebase(R0:Rel X cl N S m ok a w){cl1 ch1:Nat}(R1:Rel X cl1 ch1 S1 m1 ok1 a1 w1)(km:∀k l,m k=some l->m1 k=some l)
  (hS:∀k,S2 k= .undef\/(S2 k=S k/\(k<Y4+N->S1 k=S k))):
  Rel X N N S2 (cut m1 N) ok1 a1 w1/\(∀T,Tk X S1 m1 ok1 w1 T->Tk X S2 (cut m1 N) ok1 w1 T)/\(∀k l,m k=some l->cut m1 N k=some l):=by
 have hdom:∀k l,m k=some l->k<N:=λk l h=>by
  rcases Nat.lt_or_ge k N with h1|h1
  .exact h1
  .rw[R0.strict k h1]at h;cases h
 have hagree:∀k l,m k=some l->cut m1 N k=m1 k:=λk l h=>by simp[cut,hdom k l h]
 have hown:∀n,P9 (cut m1 N) n (S2 (Y4+n))=P9 m1 n (S1 (Y4+n))\/P9 (cut m1 N) n (S2 (Y4+n))=[]:=λn=>by
  rcases hS (Y4+n)with h1|⟨h1,h2⟩
  .right;rw[h1];rfl
  .rcases Nat.lt_or_ge n N with hn|hn
   .left;rw[h2 o5,←h1];exact Hm (by simp[cut,hn]) rfl
   .right;have hc:m n=none:=R0.strict n hn;have hb:=R0.box n;rw[h1];cases hv:S (Y4+n)<;>rw[hv]at hb<;>try rfl
    case bcells=>obtain⟨_,_,_,e,_⟩:=hb;simp only at e;rw[hc]at e;cases e
    case barr=>obtain⟨_,e,_⟩:=hb;simp only at e;rw[hc]at e;cases e
    case barrs=>obtain⟨_,_,_,e,_⟩:=hb;simp only at e;rw[hc]at e;cases e
    case biter=>obtain⟨_,_,_,e,_⟩:=hb;simp only at e;rw[hc]at e;cases e
    case bsb=>obtain⟨_,_,_,e,_⟩:=hb;simp only at e;rw[hc]at e;cases e
    case brow=>obtain⟨_,e,_⟩:=hb;simp only at e;rw[hc]at e;cases e
 have hownM:∀n b,b∈P9 (cut m1 N) n (S2 (Y4+n))->b∈P9 m1 n (S1 (Y4+n)):=λn b h=>by
  rcases hown n with e|e
  .rw[←e];exact h
  .rw[e]at h;cases h
 refine⟨{ kept:=R1.kept,size:=R1.size,nodef:=R1.nodef,okLt:=R1.okLt,okIn:=R1.okIn,okOut:=R1.okOut,frame:=R1.frame,gl:=R1.gl,slot:=λn hn=>?_,box:=λn=>?_,inj:=λn n' b h h' =>R1.inj n n' b (hownM n b h) (hownM n' b h'),nd:=λn=>(hown n).elim (λe=>by rw[e];exact R1.nd n) (λe=>by rw[e];exact cZ),sep:=λn b h=>R1.sep n b (hownM n b h),fresh:=λn h1 _=>?_,strict:=λn h=>?_ },λT hT=>⟨hT.nodup,λb hb=>?_⟩,λk l h=>by rw[hagree k l h];exact km k l h⟩
 .rcases hS n with h1|⟨h1,h2⟩
  .rw[h1];trivial
  .rw[h1];refine a7a hagree (R0.slot n hn) ?_;rw[←h2 o5];exact R1.slot n hn
 .rcases hS (Y4+n)with h1|⟨h1,h2⟩
  .rw[h1];trivial
  .rw[h1];refine a6Z hagree rfl km (R0.box n) λl hl=>?_;rw[←h2 (by have:=hdom n l hl;omega)];exact R1.box n
 .simp[cut];omega
 .simp[cut];omega
 .obtain⟨f1,f2,f3,f4⟩:=hT.free b hb;exact⟨f1,f2,f3,λn e=>f4 n (hownM n b e)⟩
theorem jd{R:Type}{q:Nat}{sg:Sig}{rs:Rgs}{s:St}{wr:Rgs}{K:oP sg->Option R}{r:R}(h:LV q sg rs s wr K=some r):
  ∃x,K x=some r/\∀{s0:St} {cl cl1 ch1:Nat} {m m1:Mp} {ok ok1:Nat->Ty->Prop} {a a1:Act} {w w1:World},Rel X cl (CB*q) (dN s0) m ok a w->Rel X cl1 ch1 (dN s) m1 ok1 a1 w1->(∀k l,m k=some l->m1 k=some l)->
   (∀k,¬Wr wr k->dN s k=dN s0 k)->∃m2 ok2 O,Rel X (CB*q) (CB*q) (dN (CZ rs s0)) m2 ok2 a1 w1/\Tk X (dN (CZ rs s0)) m2 ok2 w1 O/\
    a0n w1.heap ok2 sg x a1.tmps O/\(∀k l,m k=some l->m2 k=some l):=by
 unfold LV at h;obtain⟨x,s1,tr,he,hk⟩:=og h;cases hc:TW (Y4+CB*q) rs (Oc tr.2 wr)
 .simp[hc]at hk
 simp only[hc,cond_true]at hk;refine⟨x,hk,λ{s0 cl cl1 ch1 m m1 ok ok1 a a1 w w1} R0 R1 km hun=>?_⟩;have key:=qP (a0O R1 (Q:=λy S' =>∃ok' O,Rel X cl1 ch1 S' m1 ok' a1 w1/\Tk X S' m1 ok' w1 O/\a0n w1.heap ok' sg y a1.tmps O)
  λS' ok' y O R' T' _ _ hr=>⟨ok',O,R',T',hr⟩) he
 obtain⟨ok',O,R',T',hr⟩:=key;have hcov:=QQ hc;obtain⟨R2,hT2,hm2⟩:=R0.rebase (S2:=dN (CZ rs s0)) R' km (λk=>by
  by_cases hw:Wr rs k
  .exact .inl (ZT hw)
  .refine .inr ⟨Qa hw,λhlt=>?_⟩;have hnw:¬Wr (Oc tr.2 wr) k:=λh=>by
    rcases hcov k h with h1|h1
    .omega
    .exact hw h1
   rw[Jb,not_or]at hnw;rw[GM he k hnw.1];exact hun k hnw.2)
 exact⟨_,ok',O,R2,hT2 O T',hr,hm2⟩
theorem pW{R:Type}{q:Nat}{sg:Sig}{rs:Rgs}{s:St}{x:oP sg}{K:St->Rgs->Option R}{r:R}(h:enter q sg rs s x K=some r):
  ∃s' w',K s' w' =some r/\(∀k,Wr rs k->Wr w' k)/\(∀k,¬Wr w' k->dN s' k=dN s k)/\
   ∀{N:Nat} {m:Mp} {ok:Nat->Ty->Prop} {a:Act} {w:World} {O:List Nat},N<=CB*q->Rel X N N (dN (CZ rs s)) m ok a w->Tk X (dN (CZ rs s)) m ok w O->
    a0n w.heap ok sg x a.tmps O->
    ∃m',Rel X (CB*(q+1)) (CB*(q+1)) (dN s') m' ok a w/\(∀k l,m k=some l->m' k=some l):=by
 unfold enter at h;obtain⟨u,s',tr,he,hk⟩:=og h;refine⟨s',_,hk,λk hk=>Jb.2 (.inr hk),λk hk=>?_,λ{N m ok a w O} hN R1 T1 hr=>?_⟩
 .rw[Jb,not_or]at hk;rw[GM he k hk.1,Qa hk.2]
 .have key:=qP (a0K (x:=x) (nb:=CB*q) (lim:=CB*q+CB) (Q:=λ_ S' =>∃m',Rel X N (max N (CB*q+CB)) S' m' ok a w/\(∀k l,m k=some l->m' k=some l)) R1 hN T1 hr
   λS' m' R' k=>⟨m',R',k⟩) he
  obtain⟨m',R',k⟩:=key;have e:CB*(q+1)=CB*q+CB:=by rw[Nat.mul_add,aS]
  rw[e];generalize CB*q=Z at*;exact⟨m',(R'.climb o5).chmono o5,k⟩
end
end Go.GP
namespace Go.GP
variable {q:Nat}{m:Mp}{a:Act}{w:World}{s:St}{wr:Rgs}{q':Nat}{n:Nat}
section
variable {X:Fx} {rt:Ret} {mE:Mp} {RetP:rt.den->Act->World->Prop}
def NI(X:Fx)(q:Nat)(m:Mp)(s:St)(wr:Rgs)(s' :St)(w' :Rgs)(a:Act)(w:World):Prop:=
 ∃m' ok',Rel X (CB*q) (CB*q) (dN s') m' ok' a w/\(∀k l,m k=some l->m' k=some l)/\(∀k,Wr wr k->Wr w' k)/\(∀k,¬Wr w' k->dN s' k=dN s k)
def a0l(X:Fx)(RetP:rt.den->Act->World->Prop)(q:Nat)(m:Mp)(s:St)(wr:Rgs)(fl:Flow rt.den)(s' :St)(w' :Rgs)(e:Exit)(a:Act)(w:World):Prop:=
 match fl with
 | .nm=>e= .normal/\NI X q m s wr s' w' a w| .ex id=>e= .exit id/\NI X q m s wr s' w' a w| .rt x=>e= .ret/\RetP x a w
def a2w(X:Fx)(RetP:rt.den->Act->World->Prop)(q:Nat)(m:Mp)(s:St)(wr:Rgs){R:Type}(K:Flow rt.den->St->Rgs->Option R)(r:R)(e:Exit)(a:Act)(w:World):Prop:=
 ∃fl s' w',K fl s' w' =some r/\a0l X RetP q m s wr fl s' w' e a w
structure DOk (X:Fx) (mE:Mp) (RetP:rt.den->Act->World->Prop) (D:Den rt.den) (c:Code) (n:Nat):Prop where
 run:∀{q:Nat} {an:Ann} {s:St} {wr:Rgs} {R:Type} {K:Flow rt.den->St->Rgs->Option R} {r:R},D q an s wr R K=some r->
  ∀{m:Mp} {ok:Nat->Ty->Prop} {a:Act} {w:World},Rel X (CB*q) (CB*q) (dN s) m ok a w->(∀k l,mE k=some l->m k=some l)->
   c.wp X.P (a2w X RetP (q+n) m s wr K r) a w
def a5g(X:Fx)(rt:Ret)(mE:Mp)(RetP:rt.den->Act->World->Prop):Prop:=
 ∀{s:St} {R:Type} {K:rt.den->Option R} {r:R},(b0w X.E rt).runK s ([],[]) (λx _ _=>K x)=some r->
  ∃x,K x=some r/\∀{cl ch:Nat} {m:Mp} {ok:Nat->Ty->Prop} {a:Act} {w:World},Rel X cl ch (dN s) m ok a w->(∀k l,mE k=some l->m k=some l)->RetP x a w
theorem a2I{p q:Nat}(h:p<=q):CB*p<=CB*q:=Nat.mul_le_mul_left _ h
theorem Rel.upq{p q:Nat}{S:Sm}{ok:Nat->Ty->Prop}(R:Rel X (CB*p) (CB*p) S m ok a w)(h:p<=q):Rel X (CB*q) (CB*q) S m ok a w:=
 (R.climb (a2I h)).chmono (a2I h)
theorem NI.here{ok:Nat->Ty->Prop}(R:Rel X (CB*q) (CB*q) (dN s) m ok a w)(h:q<=q'):NI X q' m s wr s wr a w:=
 ⟨m,ok,R.upq h,λ_ _ h=>h,λ_ h=>h,λ_ _=>rfl⟩
theorem NI.up{s s' :St}{wr w' :Rgs}(h:NI X q m s wr s' w' a w)(hq:q<=q'):NI X q' m s wr s' w' a w:=by obtain⟨m',ok',R,h1,h2,h3⟩:=h;exact⟨m',ok',R.upq hq,h1,h2,h3⟩
theorem NI.trans{m m1:Mp}{s s1 s2:St}{wr w1 w2:Rgs}(k1:∀k l,m k=some l->m1 k=some l)(k2:∀k,Wr wr k->Wr w1 k)(k3:∀k,¬Wr w1 k->dN s1 k=dN s k)
  (h:NI X q m1 s1 w1 s2 w2 a w) (hq:q<=q'):NI X q' m s wr s2 w2 a w:=by
 obtain⟨m',ok',R,h1,h2,h3⟩:=h;exact⟨m',ok',R.upq hq,λk l h=>h1 k l (k1 k l h),λk h=>h2 k (k2 k h),λk h=>(h3 k h).trans (k3 k λh' =>h (h2 k h'))⟩
theorem a0l.up{s s' :St}{wr w' :Rgs}{fl:Flow rt.den}{e:Exit}(h:a0l X RetP q m s wr fl s' w' e a w)(hq:q<=q'):a0l X RetP q' m s wr fl s' w' e a w:=by
 cases fl with
 |nm=>exact⟨h.1,h.2.up hq⟩|ex id=>exact⟨h.1,h.2.up hq⟩|rt x=>exact h
theorem a0l.trans{m m1:Mp}{s s1 s2:St}{wr w1 w2:Rgs}{fl:Flow rt.den}{e:Exit}(k1:∀k l,m k=some l->m1 k=some l)(k2:∀k,Wr wr k->Wr w1 k)(k3:∀k,¬Wr w1 k->dN s1 k=dN s k)
  (h:a0l X RetP q m1 s1 w1 fl s2 w2 e a w) (hq:q<=q'):a0l X RetP q' m s wr fl s2 w2 e a w:=by
 cases fl with
 |nm=>exact⟨h.1,h.2.trans k1 k2 k3 hq⟩|ex id=>exact⟨h.1,h.2.trans k1 k2 k3 hq⟩|rt x=>exact h
theorem KL(hq:q+1<=n){s s3:St}{wr w3:Rgs}{m m2:Mp}{ok2:Nat->Ty->Prop}
  (km:∀k l,m k=some l->m2 k=some l) (hout:∀k,¬Wr w3 k->dN s3 k=dN s k)
  (hR:∃m',Rel X (CB*(q+1)) (CB*(q+1)) (dN s3) m' ok2 a w/\(∀k l,m2 k=some l->m' k=some l)):NI X n m s wr s3 (TG w3 wr) a w:=by
 obtain⟨m',R,k⟩:=hR;exact⟨m',ok2,R.upq hq,λk' l h=>k _ _ (km _ _ h),λk h=>XK.2 (.inr h),λk h=>hout k λh' =>h (XK.2 (.inl h'))⟩
theorem rZ{core:Den rt.den}{c:Code}(hc:DOk X mE RetP core c n):DOk X mE RetP (IU core) c (n+1):=by
 refine⟨?_⟩;intro q an s wr R K r h m ok a w Rl hE;have plain:core (q+1) an s wr R K=some r->c.wp X.P (a2w X RetP (q+(n+1)) m s wr K r) a w:=λh=>by have:=hc.run h (Rl.upq (Nat.le_succ q)) hE;rwa[show q+1+n=q+(n+1) by omega]at this
 cases an
 case join rs nm an=>
  unfold IU at h;simp only at h;obtain⟨x,h1,h2⟩:=Di h;obtain⟨s3,w3,hk3,hrs,hout,hR⟩:=pW (X:=X) h2;refine wp_mono (hc.run h1 (Rl.upq (Nat.le_succ q)) hE) ?_;rintro e a' w' ⟨fl,s',wr',hk,hfl⟩;cases fl with
  |ex id=>cases hk|rt x=>cases hk|nm=>obtain⟨rfl,m',ok',R1,k1,k2,k3⟩:=hfl;obtain⟨x',hx,hL⟩:=jd (X:=X) hk;cases hx;obtain⟨m2,ok2,O,R2,T2,hr,km⟩:=hL Rl R1 k1 k3;exact⟨.nm,s3,_,hk3,rfl,KL (q:=q) o5 km hout (hR (E9 _) R2 T2 hr)⟩
 case joinR rs nm an=>
  unfold IU at h;simp only at h;obtain⟨o,h1,h2⟩:=Di h;refine wp_mono (hc.run h1 (Rl.upq (Nat.le_succ q)) hE) ?_;rintro e a' w' ⟨fl,s',wr',hk,hfl⟩;cases fl with
  |ex id=>cases hk|rt x=>cases hk;exact⟨.rt x,_,_,h2,hfl⟩|nm=>obtain⟨rfl,m',ok',R1,k1,k2,k3⟩:=hfl;obtain⟨x',hx,hL⟩:=jd (X:=X) hk;cases hx;obtain⟨s3,w3,hk3,hrs,hout,hR⟩:=pW (X:=X) (show enter q nm rs s x' (λs' w' =>K .nm s' (TG w' wr))=some r from h2);obtain⟨m2,ok2,O,R2,T2,hr,km⟩:=hL Rl R1 k1 k3;exact⟨.nm,s3,_,hk3,rfl,KL (q:=q) o5 km hout (hR (E9 _) R2 T2 hr)⟩
 all_goals exact plain h
theorem a0Y{core:Den rt.den}{c:Code}(hc:DOk X mE RetP core c n):DOk X mE RetP (ZQ core) (.loop c) (2+n):=by
 refine⟨?_⟩;intro q an s wr R K r h m ok a w Rl hE;cases an
 case loop rs hd xid xs an=>
  unfold ZQ at h;simp only at h;obtain⟨x0,hk0,hL0⟩:=jd (X:=X) h;obtain⟨m2,ok2,O,R2,T2,hr,km⟩:=hL0 Rl Rl (λ_ _ h=>h) (λ_ _=>rfl);obtain⟨y,hl,hen⟩:=Di hk0;clear hk0 h hL0;obtain⟨s3,w3,hk3,hrs,hout,hR⟩:=pW (X:=X) hen;refine wp_loop_rounds jg ?_;unfold aO at hl;have key:∀(f:Nat) {x:oP hd} {m2:Mp} {ok2:Nat->Ty->Prop} {O:List Nat} {a:Act} {w:World},
    yG (λx=>a7g core q rs hd xid xs an s x) f x=some y->
    Rel X (CB*q) (CB*q) (dN (CZ rs s)) m2 ok2 a w->Tk X (dN (CZ rs s)) m2 ok2 w O->a0n w.heap ok2 hd x a.tmps O->(∀k l,m k=some l->m2 k=some l)->
    Code.rounds X.P c (a2w X RetP (q+(2+n)) m s wr K r) f a w:=by
   intro f;induction f with
   |zero=>intro x m2 ok2 O a w h;simp[yG]at h|succ f ih=>
    intro x m2 ok2 O a w h R2 T2 hr km;rw[rounds_succ];unfold yG at h;split at h
    .rename_i x' hf;obtain⟨s1,w1,hcore,_,hout1,hR1⟩:=pW (X:=X) (show enter q hd rs s x _=some _ from hf);obtain⟨m1,R1,km1⟩:=hR1 (E9 _) R2 T2 hr;refine wp_mono (hc.run hcore (R1.upq o5) (λk l h=>km1 _ _ (km _ _ (hE _ _ h)))) ?_;rintro e a' w' ⟨fl,s',wr',hk,hfl⟩;cases fl with
     |rt x=>cases hk|ex id=>
      simp only at hk;cases hb:Nat.beq id xid
      .simp[hb]at hk
      .simp only[hb,cond_true]at hk;obtain⟨y',hx,_⟩:=jd (X:=X) hk;cases hx
     |nm=>obtain⟨rfl,m',ok',R1',k1,k2,k3⟩:=hfl;obtain⟨y',hx,hL⟩:=jd (X:=X) hk;cases hx;obtain⟨m4,ok4,O4,R4,T4,hr4,km4⟩:=hL Rl R1' (λk l h=>k1 _ _ (km1 _ _ (km _ _ h))) (λk h=>(k3 k h).trans (hout1 k λh' =>h (k2 k h')));exact ih h R4 T4 hr4 km4
    .rename_i y' hf;cases h;obtain⟨s1,w1,hcore,_,hout1,hR1⟩:=pW (X:=X) (show enter q hd rs s x _=some _ from hf);obtain⟨m1,R1,km1⟩:=hR1 (E9 _) R2 T2 hr;refine wp_mono (hc.run hcore (R1.upq o5) (λk l h=>km1 _ _ (km _ _ (hE _ _ h)))) ?_;rintro e a' w' ⟨fl,s',wr',hk,hfl⟩;cases fl with
     |rt x=>cases hk|nm=>simp only at hk;obtain⟨y',hx,_⟩:=jd (X:=X) hk;cases hx
     |ex id=>
      simp only at hk;cases hb:Nat.beq id xid
      .simp[hb]at hk
      .simp only[hb,cond_true]at hk;have hid:=fC hb;subst hid;obtain⟨rfl,m',ok',R1',k1,k2,k3⟩:=hfl;obtain⟨y',hx,hL⟩:=jd (X:=X) hk;cases hx;obtain⟨m4,ok4,O4,R4,T4,hr4,km4⟩:=hL Rl R1' (λk l h=>k1 _ _ (km1 _ _ (km _ _ h))) (λk h=>(k3 k h).trans (hout1 k λh' =>h (k2 k h')));exact⟨.ex id,s3,_,hk3,rfl,KL (q:=q+1) o5 km4 hout (hR (a2I (Nat.le_succ q)) R4 T4 hr4)⟩
    .cases h
  exact key jg (x:=x0) hl R2 T2 hr km
 case loopR rs hd xid xs an=>
  unfold ZQ at h;simp only at h;obtain⟨x0,hk0,hL0⟩:=jd (X:=X) h;obtain⟨m2,ok2,O,R2,T2,hr,km⟩:=hL0 Rl Rl (λ_ _ h=>h) (λ_ _=>rfl);obtain⟨y,hl,hen⟩:=Di hk0;clear hk0 h hL0;refine wp_loop_rounds jg ?_;unfold O6 at hl;have key:∀(f:Nat) {x:oP hd} {m2:Mp} {ok2:Nat->Ty->Prop} {O:List Nat} {a:Act} {w:World},
    jO (λx=>a7h core q rs hd xid xs an s x) f x=some y->
    Rel X (CB*q) (CB*q) (dN (CZ rs s)) m2 ok2 a w->Tk X (dN (CZ rs s)) m2 ok2 w O->a0n w.heap ok2 hd x a.tmps O->(∀k l,m k=some l->m2 k=some l)->
    Code.rounds X.P c (a2w X RetP (q+(2+n)) m s wr K r) f a w:=by
   intro f;induction f with
   |zero=>intro x m2 ok2 O a w h;simp[jO]at h|succ f ih=>
    intro x m2 ok2 O a w h R2 T2 hr km;rw[rounds_succ];unfold jO at h;split at h
    .rename_i x' hf;obtain⟨s1,w1,hcore,_,hout1,hR1⟩:=pW (X:=X) (show enter q hd rs s x _=some _ from hf);obtain⟨m1,R1,km1⟩:=hR1 (E9 _) R2 T2 hr;refine wp_mono (hc.run hcore (R1.upq o5) (λk l h=>km1 _ _ (km _ _ (hE _ _ h)))) ?_;rintro e a' w' ⟨fl,s',wr',hk,hfl⟩;cases fl with
     |rt x=>cases hk|ex id=>
      simp only at hk;cases hb:Nat.beq id xid
      .simp[hb]at hk
      .simp only[hb,cond_true]at hk;obtain⟨y',hx,_⟩:=jd (X:=X) hk;cases hx
     |nm=>obtain⟨rfl,m',ok',R1',k1,k2,k3⟩:=hfl;obtain⟨y',hx,hL⟩:=jd (X:=X) hk;cases hx;obtain⟨m4,ok4,O4,R4,T4,hr4,km4⟩:=hL Rl R1' (λk l h=>k1 _ _ (km1 _ _ (km _ _ h))) (λk h=>(k3 k h).trans (hout1 k λh' =>h (k2 k h')));exact ih h R4 T4 hr4 km4
    .rename_i y' hf;cases h;obtain⟨s3,w3,hk3,hrs,hout,hR⟩:=pW (X:=X) (show enter (q+1) xs rs s y' (λs' w' =>K (.ex xid) s' (TG w' wr))=some r from hen);obtain⟨s1,w1,hcore,_,hout1,hR1⟩:=pW (X:=X) (show enter q hd rs s x _=some _ from hf);obtain⟨m1,R1,km1⟩:=hR1 (E9 _) R2 T2 hr;refine wp_mono (hc.run hcore (R1.upq o5) (λk l h=>km1 _ _ (km _ _ (hE _ _ h)))) ?_;rintro e a' w' ⟨fl,s',wr',hk,hfl⟩;cases fl with
     |rt x=>cases hk|nm=>simp only at hk;obtain⟨y',hx,_⟩:=jd (X:=X) hk;cases hx
     |ex id=>
      simp only at hk;cases hb:Nat.beq id xid
      .simp[hb]at hk
      .simp only[hb,cond_true]at hk;have hid:=fC hb;subst hid;obtain⟨rfl,m',ok',R1',k1,k2,k3⟩:=hfl;obtain⟨y',hx,hL⟩:=jd (X:=X) hk;cases hx;obtain⟨m4,ok4,O4,R4,T4,hr4,km4⟩:=hL Rl R1' (λk l h=>k1 _ _ (km1 _ _ (km _ _ h))) (λk h=>(k3 k h).trans (hout1 k λh' =>h (k2 k h')));exact⟨.ex id,s3,_,hk3,rfl,KL (q:=q+1) o5 km4 hout (hR (a2I (Nat.le_succ q)) R4 T4 hr4)⟩
    .rename_i r' hf;cases h;obtain⟨s1,w1,hcore,_,hout1,hR1⟩:=pW (X:=X) (show enter q hd rs s x _=some _ from hf);obtain⟨m1,R1,km1⟩:=hR1 (E9 _) R2 T2 hr;refine wp_mono (hc.run hcore (R1.upq o5) (λk l h=>km1 _ _ (km _ _ (hE _ _ h)))) ?_;rintro e a' w' ⟨fl,s',wr',hk,hfl⟩;cases fl with
     |rt x=>cases hk;obtain⟨rfl,hp⟩:=hfl;exact⟨.rt r',[],[],hen,rfl,hp⟩
     |nm=>simp only at hk;obtain⟨y',hx,_⟩:=jd (X:=X) hk;cases hx
     |ex id=>
      simp only at hk;cases hb:Nat.beq id xid
      .simp[hb]at hk
      .simp only[hb,cond_true]at hk;obtain⟨y',hx,_⟩:=jd (X:=X) hk;cases hx
    .cases h
  exact key jg (x:=x0) hl R2 T2 hr km
 all_goals (unfold ZQ at h;cases h)
theorem zx(H:FxOk X)(hret:a5g X rt mE RetP):∀c:Code,DOk X mE RetP (den X.E rt c) c (xq c)
 | .skip=>rZ (n:=0) ⟨λ{q an s wr R K r} h {m ok a w} Rl hE=>wp_skip ⟨.nm,s,wr,h,rfl,NI.here Rl o5⟩⟩| .label l=>rZ (n:=0) ⟨λ{q an s wr R K r} h {m ok a w} Rl hE=>wp_label ⟨.nm,s,wr,h,rfl,NI.here Rl o5⟩⟩| .exit id=>rZ (n:=0) ⟨λ{q an s wr R K r} h {m ok a w} Rl hE=>wp_exit ⟨.ex id,s,wr,h,rfl,NI.here Rl o5⟩⟩| .ret=>rZ (n:=0) ⟨λ{q an s wr R K r} h {m ok a w} Rl hE=>by obtain⟨x,hk,hp⟩:=hret (K:=λx=>K (.rt x) [] []) h;exact wp_ret ⟨.rt x,[],[],hk,rfl,hp Rl hE⟩⟩
 | .region id ops draw=>rZ (n:=1) ⟨λ{q an s wr R K r} h {m ok a w} Rl hE=>by
  obtain⟨s',w',hk,⟨t,rfl,hfr⟩,hR⟩:=Yy H h;refine hR (Rl.chmono (gB _ _)) λm' ok' a' w2 R' k1 k2=>⟨.nm,s',_,hk,rfl,m',ok',?_,k1,λk h=>Pq.2 (.inr h),λk h=>hfr k λx hx hkx=>h (Pq.2 (.inl ⟨x,hx,hkx⟩))⟩;have e:CB*(q+1)=CB*q+CB:=by rw[Nat.mul_add,aS]
  rw[e];exact R'.climb (gB _ _)⟩
 | .seq x y=>by
  have hx:=zx H hret x;have hy:=zx H hret y;have:=rZ (X:=X) (mE:=mE) (RetP:=RetP) (c:=.seq x y) (n:=xq x+xq y) (core:=λq a s w R K=>den X.E rt x q a.l s w R λfl s' w' =>match fl with
   | .nm=>den X.E rt y (q+xq x) a.r s' w' R K| .ex id=>K (.ex id) s' w'
   | .rt r=>K (.rt r) s' w') (DOk.mk λ{q an s wr R K r} h {m ok a w} Rl hE=>by
    refine wp_seq (wp_mono (hx.run h Rl hE) ?_);rintro e a' w' ⟨fl,s',wr',hk,hfl⟩;cases fl with
    |nm=>obtain⟨rfl,m',ok',R1,k1,k2,k3⟩:=hfl;refine wp_mono (hy.run hk R1 (λk l h=>k1 _ _ (hE _ _ h))) ?_;rintro e a2 w2 ⟨fl,s2,wr2,hk2,hfl2⟩;exact⟨fl,s2,wr2,hk2,hfl2.trans k1 k2 k3 o5⟩
    |ex id=>obtain⟨rfl,hs⟩:=hfl;exact⟨.ex id,s',wr',hk,rfl,hs.up o5⟩
    |rt x=>obtain⟨rfl,hs⟩:=hfl;exact⟨.rt x,s',wr',hk,rfl,hs⟩)
  rw[show xq (.seq x y)=xq x+xq y+1 by simp only[xq];omega];exact this
 | .block id x=>by
  have hx:=zx H hret x;have:=rZ (X:=X) (mE:=mE) (RetP:=RetP) (c:=.block id x) (n:=xq x) (core:=λq a s w R K=>den X.E rt x q a.l s w R λfl s' w' =>match fl with
   | .nm=>K .nm s' w'| .ex j=>bif Nat.beq j id then K .nm s' w' else K (.ex j) s' w'
   | .rt r=>K (.rt r) s' w') (DOk.mk λ{q an s wr R K r} h {m ok a w} Rl hE=>by
    refine wp_block (wp_mono (hx.run h Rl hE) ?_);rintro e a' w' ⟨fl,s',wr',hk,hfl⟩;cases fl with
    |nm=>obtain⟨rfl,hs⟩:=hfl;exact⟨.nm,s',wr',hk,rfl,hs⟩
    |ex j=>
     obtain⟨rfl,hs⟩:=hfl;simp only at hk;cases hb:Nat.beq j id
     .simp only[hb,cond_false]at hk;have hne:j≠id:=λe=>by subst e;simp at hb
      simp only[Exit.inBlock,hne,if_false];exact⟨.ex j,s',wr',hk,rfl,hs⟩
     .simp only[hb,cond_true]at hk;have:=fC hb;subst this;simp only[Exit.inBlock,if_true];exact⟨.nm,s',wr',hk,rfl,hs⟩
    |rt x=>obtain⟨rfl,hs⟩:=hfl;exact⟨.rt x,s',wr',hk,rfl,hs⟩)
  rw[show xq (.block id x)=xq x+1 by simp only[xq];omega];exact this
 | .cond c x y=>by
  have hx:=zx H hret x;have hy:=zx H hret y;have:=rZ (X:=X) (mE:=mE) (RetP:=RetP) (c:=.cond c x y) (n:=xq x+xq y) (core:=λq a s w R K=>(nV c λv=>Cmd.ret v:Cmd V).runK s ([],[]) λv s' _=>match v with
   | .b t=>l7 t (den X.E rt x q a.l s' w R K) (den X.E rt y (q+xq x) a.r s' w R K)
   |_=>none) (DOk.mk λ{q an s wr R K r} h {m ok a w} Rl hE=>by
    obtain⟨v,s',tr,he,hk⟩:=og h;obtain⟨hv,hs⟩:=qP (Z8 Rl (K:=λv=>Cmd.ret v) (x:=c) (Q:=λv S' =>jI ⟨w.heap,ok,m⟩ v (a.eval c)/\S' =dN s) λv hv=>⟨hv,rfl⟩) he;cases v<;>try (simp at hk;done)
    case b t=>
     have R1:Rel X (CB*q) (CB*q) (dN s') m ok a w:=by rw[hs];exact Rl
     refine wp_cond_split (Qm hv) (λht=>?_) (λht=>?_)
     .subst ht;refine wp_mono (hx.run (show den X.E rt x q an.l s' wr R K=some r from hk) R1 hE) ?_;rintro e a2 w2 ⟨fl,s2,wr2,hk2,hfl2⟩;exact⟨fl,s2,wr2,hk2,hfl2.trans (λ_ _ h=>h) (λ_ h=>h) (λk _=>by rw[hs]) o5⟩
     .subst ht;refine wp_mono (hy.run (show den X.E rt y (q+xq x) an.r s' wr R K=some r from hk) (R1.upq o5) hE) ?_;rintro e a2 w2 ⟨fl,s2,wr2,hk2,hfl2⟩;exact⟨fl,s2,wr2,hk2,hfl2.trans (λ_ _ h=>h) (λ_ h=>h) (λk _=>by rw[hs]) o5⟩)
  rw[show xq (.cond c x y)=xq x+xq y+1 by simp only[xq];omega];exact this
 | .loop x=>by have hx:=zx H hret x;have:=rZ (a0Y hx);rw[show xq (.loop x)=2+xq x+1 by simp only[xq];omega];exact this| .goto l=>⟨λh=>by simp[den]at h⟩| .scope x=>⟨λh=>by simp[den]at h⟩| .rangeFunc ..=>⟨λh=>by simp[den]at h⟩| .refuse ..=>⟨λh=>by simp[den]at h⟩
end
end Go.GP
namespace Go.GP
structure EnvOk (P:Program) (E:Env):Prop where
 nt:64*E.nt<=999936
 tt:∀t i,bK E.tt t=some i->TiOk P t i
 fs:∀p∈E.fs,aH P E.gl p.1 p.2
 eqs:∀t sh,bK E.eqs t=some sh->KE P t sh
 ms:∀p∈E.ms,BX P p.1.1 p.1.2 p.2.1 p.2.2
 fn:∀p∈E.fs,∃fn,P.funcs[p.1]? =some fn/\fn.body.isSome=true/\(fn.name== "runtime.NumGoroutine")=false
 pl:∀p∈E.pl,PlP P p.1 p.2.1 p.2.2
theorem OO{C:Cx} :∀{a:List V} {xs:List Value},fK C a xs->a.length=xs.length
 |[],_,h=>by simp only[fK]at h;simp[h]|c::a,_,⟨v,r,e,h1,h2⟩=>by subst e;simp[OO h2]
def Qs(tmps:Array Value):ResultVar->Sem Value
 | .tmp t=>pure (tmps.getD t undef)| .cell a t=>do loadVar t (←asAddr (tmps.getD a undef))
def a5f(h:Array Obj)(tm:Nat->Value):List Nat->List Value->List Nat->Prop
 |[],os,B=>os=[]/\B=[]|n::ns,os,B=>(∃b arr T os' B',tm n= .pointer (some ⟨b,0,none⟩)/\h[b]? =some (.cells arr T (0,0))/\os= .agg arr::os' /\B=b::B' /\a5f h tm ns os' B')\/
  (∃t b arr T os' B',tm n= .iface t (.pointer (some ⟨b,0,none⟩))/\h[b]? =some (.cells arr T (0,0))/\os= .agg arr::os' /\B=b::B' /\a5f h tm ns os' B')\/
  (∃l os',Loc.view l none (tm n)/\os=tm n::os' /\a5f h tm ns os' B)
def XG(h:Array Obj)(ok:Nat->Ty->Prop):List MG->List Value->Prop
 |[],vs=>vs=[]|m::ms,vs=>∃v r cs x O,vs=v::r/\Ql m.1 v cs/\nP h ok m.2 none x cs O/\XG h ok ms r
theorem WG{h:Array Obj}{ok:Nat->Ty->Prop} :∀{ms:List MG} {x:V4 ms} {vs:List Value} {O:List Nat},qW h ok ms x vs O->XG h ok ms vs
 |[],_,_,_,e=>e.1|[m],x,_,_,⟨v,cs,e,hg,hr⟩=>⟨v,[],cs,x,_,e,hg,hr,rfl⟩|m::m' ::r,x,_,_,⟨v,cs,vs',O1,O2,e,eo,hg,h1,h2⟩=>⟨v,vs',cs,x.1,O1,e,hg,h1,WG h2⟩
section
variable {X:Fx} {cl ch:Nat} {m:Mp} {a:Act} {w:World}
theorem JP{α:Type}{Q:α->Sm->Prop}(H:FxOk X){S:Sm}{ok:Nat->Ty->Prop}(R:Rel X cl ch S m ok a w):∀(l:List ResultVar) {K:List V->Cmd α}
  (hK:∀vs rvs,fK ⟨w.heap,ok,m⟩ vs rvs->rvs.length=l.length->(l.mapM (Qs a.tmps)).run X.P w= .ok rvs w->(K vs).post S Q),(Qq X.E l K).post S Q
 |[],K,hK=>hK [] [] rfl rfl A8
 | .tmp t::l,K,hK=>by unfold Qq;refine bi λhb=>aI ?_;refine JP H R l λvs rvs hr hl hrun=>?_;refine hK _ (a.tmps.getD t undef::rvs) ⟨_,_,rfl,R.slot t (Gx hb),hr⟩ (by simp[hl]) ?_;simp only[List.mapM_cons,G9,Qs,U6,H7,hrun]
 | .cell p t::l,K,hK=>by unfold Qq;refine bi λhb=>aI ?_;refine He H R (R.slot p (Gx hb)) λv u ad hv hx hload=>?_;refine JP H R l λvs rvs hr hl hrun=>?_;refine hK _ (u::rvs) ⟨_,_,rfl,hv,hr⟩ (by simp[hl]) ?_;simp only[List.mapM_cons,G9,Qs,hx,asAddr,U6,H7,hload,hrun]
theorem Et{α:Type}{Q:α->Sm->Prop} :∀(ns:List Nat) {S:Sm} {ok:Nat->Ty->Prop} {T:List Nat} {K:List V->Cmd α} (R:Rel X cl ch S m ok a w) (hT:Tk X S m ok w T)
  (hK:∀S' ws os B,Rel X cl ch S' m ok a w->Tk X S' m ok w (T++B)->a5f w.heap (λn=>a.tmps.getD n Go.undef) ns os B->fK ⟨w.heap,ok,m⟩ ws os->(K ws).post S' Q),(Qe ns K).post S Q
 |[],S,ok,T,K,R,hT,hK=>hK S [] [] [] R (by simpa using hT) ⟨rfl,rfl⟩ rfl|n::ns,S,ok,T,K,R,hT,hK=>by
  unfold Qe;refine bC λhb=>aI ?_;have hsl:=R.slot n (by rw[dF]at hb;exact hb);split<;>try trivial
  .rename_i bx hSn;rw[hSn]at hsl;obtain⟨blk,hm,hv⟩:=hsl;refine aI ?_;split<;>try trivial
   rename_i cs hS;obtain⟨blk',arr,Ty,hm',hh,hl⟩:=R.own_cells hS;simp only at hm;rw[hm]at hm';cases hm';refine fQ ?_;have hT1:Tk X (upd S (Y4+bx) .dead) m ok w (T++[blk]):=hT.kill R bx (λb hb=>by simp at hb;subst hb;simp[P9,hS,hm]) A8;refine Et ns (R.kill bx) hT1 λS' ws os B R' T' ho hw=>?_;exact hK S' _ (.agg arr::os) (blk::B) R' (by simpa using T') (.inl ⟨blk,arr,Ty,os,B,hv,hh,rfl,rfl,ho⟩) ⟨_,_,rfl,⟨arr,rfl,hl⟩,hw⟩
  .rename_i t u hSn;rw[hSn]at hsl;obtain⟨z,hz,_,hsl⟩:=hsl;split<;>try trivial
   rename_i bx;obtain⟨blk,hm,hv⟩:=hsl;refine aI ?_;split<;>try trivial
   rename_i cs hS;obtain⟨blk',arr,Ty,hm',hh,hl⟩:=R.own_cells hS;simp only at hm;rw[hm]at hm';cases hm';refine fQ ?_;have hT1:Tk X (upd S (Y4+bx) .dead) m ok w (T++[blk]):=hT.kill R bx (λb hb=>by simp at hb;subst hb;simp[P9,hS,hm]) A8;refine Et ns (R.kill bx) hT1 λS' ws os B R' T' ho hw=>?_;exact hK S' _ (.agg arr::os) (blk::B) R' (by simpa using T') (.inr (.inl ⟨t,blk,arr,Ty,os,B,hv▸hz,hh,rfl,rfl,ho⟩)) ⟨_,_,rfl,⟨arr,rfl,hl⟩,hw⟩
  .rename_i bx hSn;rw[hSn]at hsl;obtain⟨l,hm,hv⟩:=hsl;refine Et ns R hT λS' ws os B R' T' ho hw=>?_;exact hK S' _ (a.tmps.getD n Go.undef::os) B R' T' (.inr (.inr ⟨l,os,hv,rfl,ho⟩)) ⟨_,_,rfl,⟨l,hm,hv⟩,hw⟩
end
theorem NH{l:Loc}{v:Value}(h:l.view none v):(∃a n c,v= .slice a n c)\/∃b,v= .map (some b):=by
 cases l with
 |nil=>exact .inl ⟨_,_,_,h⟩|st b=>cases h|mp b=>exact .inr ⟨_,h⟩|arr blk off len cap sz=>exact .inl ⟨_,_,_,h⟩
theorem a4F{h h0:Array Obj}{ok0:Nat->Ty->Prop}{tm:Nat->Value} :∀(ms:List MG) (k:Nat) {vals:List Value} {os:List Value} {B:List Nat},a9V ms=true->
  XG h0 ok0 ms vals->(∀i v,k+i∈jR ms k->vals[i]? =some v->tm (k+i)=v)->a5f h tm (jR ms k) os B->vU h ms vals os B:=by
 have tail:∀{m:List MG} {k:Nat} {v:Value} {r:List Value},(∀i u,k+i∈jR m (k+1)->(v::r)[i]? =some u->tm (k+i)=u)->∀i u,(k+1)+i∈jR m (k+1)->r[i]? =some u->tm ((k+1)+i)=u:=by intro m k v r h i u hi hu;have e:k+(i+1)=k+1+i:=o5;have:=h (i+1) u (by rw[e];exact hi) (by simpa using hu);rwa[e]at this
 have tail2:∀{m:List MG} {k:Nat} {v:Value} {r:List Value},(∀i u,k+i∈k::jR m (k+1)->(v::r)[i]? =some u->tm (k+i)=u)->(tm k=v)/\∀i u,(k+1)+i∈jR m (k+1)->r[i]? =some u->tm ((k+1)+i)=u:=λh=>
  ⟨by have:=h 0 _ A8 rfl;simpa using this,tail (λi u hi hu=>h i u (V5 _ hi) hu)⟩
 intro ms;induction ms with
 |nil=>intro k vals os B hsb hs ht ho;simp only[XG]at hs;subst hs;exact ho|cons m ms ih=>
  intro k vals os B hsb hs ht ho;obtain⟨v,r,cs,x,O,rfl,hg,hr,hs⟩:=hs;obtain⟨g,m⟩:=m;cases m
  case box md=>
   unfold jR at ht ho;obtain⟨htv,ht⟩:=tail2 ht;obtain⟨blk,arr,T,O',hc,_⟩:=hr;have hv:v= .pointer (some ⟨blk,0,none⟩)\/∃ar,v= .agg ar:=by
    cases g
    .left;have hg:cs=[v]:=hg;rw[hg]at hc;simpa using hc
    .right;obtain⟨ar,e,_⟩:=hg;exact⟨ar,e⟩
   rcases ho with⟨b,arr,T,os',B',e,hh,e1,e2,ho'⟩|⟨t,b,arr,T,os',B',e,_⟩|⟨l,os',e,_⟩
   .exact⟨b,arr,T,os',B',htv.symm.trans e,hh,e1,e2,ih (k+1) hsb hs ht ho'⟩
   .rw[htv]at e;rcases hv with rfl|⟨_,rfl⟩<;>cases e
   .rcases NH e with⟨_,_,_,e⟩|⟨_,e⟩<;>rw[htv]at e<;>rcases hv with rfl|⟨_,rfl⟩<;>cases e
  case ownb u=>
   unfold jR at ht ho;obtain⟨htv,ht⟩:=tail2 ht;obtain⟨l,v',hc,hvv,_⟩:=hr;have hv:((∃a n c,v= .slice a n c)\/∃b,v= .map (some b))\/∃ar,v= .agg ar:=by
    cases g
    .left;have hg:cs=[v]:=hg;rw[hg]at hc;simp only[G7,and_true]at hc;subst hc;exact NH hvv
    .right;obtain⟨ar,e,_⟩:=hg;exact⟨ar,e⟩
   rcases ho with⟨b,arr,T,os',B',e,_⟩|⟨t,b,arr,T,os',B',e,_⟩|⟨l,os',e,rfl,ho'⟩
   .rw[htv]at e;rcases hv with(⟨_,_,_,rfl⟩|⟨_,rfl⟩)|⟨_,rfl⟩<;>cases e
   .rw[htv]at e;rcases hv with(⟨_,_,_,rfl⟩|⟨_,rfl⟩)|⟨_,rfl⟩<;>cases e
   .rw[htv];exact⟨os',rfl,ih (k+1) hsb hs ht ho'⟩
  case ifc t md=>
   cases md
   case box md=>
    unfold jR at ht ho;obtain⟨htv,ht⟩:=tail2 ht;obtain⟨u,hc,blk,arr,T,O',hu,_⟩:=hr;have hv:v= .iface t u\/∃ar,v= .agg ar:=by
     cases g
     .left;have hg:cs=[v]:=hg;rw[hg]at hc;simpa using hc
     .right;obtain⟨ar,e,_⟩:=hg;exact⟨ar,e⟩
    rcases ho with⟨b,arr,T,os',B',e,_⟩|⟨t,b,arr,T,os',B',e,hh,e1,e2,ho'⟩|⟨l,os',e,_⟩
    .rw[htv]at e;rcases hv with rfl|⟨_,rfl⟩<;>cases e
    .exact⟨t,b,arr,T,os',B',htv.symm.trans e,hh,e1,e2,ih (k+1) hsb hs ht ho'⟩
    .rcases NH e with⟨_,_,_,e⟩|⟨_,e⟩<;>rw[htv]at e<;>rcases hv with rfl|⟨_,rfl⟩<;>cases e
   all_goals
    unfold jR at ht ho;exact ih (k+1) hsb hs (tail ht) ho
  case sbx=>cases hsb
  case sit=>cases hsb
  all_goals
   unfold jR at ht ho;exact ih (k+1) hsb hs (tail ht) ho
theorem a0a:∀{a b:List Nat},a9q a b=true->∀n∈a,n∈b
 |[],_,_,_,h=>by cases h|a::r,b,h,n,hn=>by
  unfold a9q at h;cases hb:Dc a b<;>rw[hb]at h
  .cases h
  .rcases D6.1 hn with rfl|hn
   .exact Xh hb
   .exact a0a h n hn
theorem Rx:∀{ms:List MG} {k n:Nat},n∈jR ms k->k<=n/\n<k+ms.length
 |[],k,n,h=>by cases h|(g,m)::ms,k,n,h=>by
  have key:n∈k::jR ms (k+1)->k<=n/\n<k+(ms.length+1):=λh=>by
   rcases D6.1 h with rfl|h
   .omega
   .have:=Rx h;omega
  cases m
  case box md=>exact key h
  case ownb u=>exact key h
  case ifc t md=>
   cases md
   case box md=>exact key h
   all_goals exact key (V5 _ h)
  all_goals exact key (V5 _ h)
variable {P:Program}
theorem F_{w:World}{fn:Func}{tmps:Array Value}{rvs:List Value}(h:(fn.results.toList.mapM (Qs tmps)).run P w= .ok rvs w):
  ∃v,(results fn tmps).run P w= .ok v w/\a0m rvs.length v rvs:=by
 have hm:(fn.results.mapM (Qs tmps)).run P w= .ok rvs.toArray w:=by rw[Array.mapM_eq_mapM_toList];simp[h]
 have e:results fn tmps=(do let vs ←fn.results.mapM (Qs tmps);pure (if h:vs.size=1 then vs[0]else .tuple vs):Sem Value):=by unfold results;congr 1
 rw[e,G9,hm];clear h hm e;rcases rvs with _|⟨x,_|⟨y,r⟩⟩
 .exact⟨.tuple #[],rfl,rfl,rfl⟩
 .exact⟨x,rfl,rfl,rfl⟩
 .exact⟨.tuple (x::y::r).toArray,A8,rfl,rfl⟩
section
variable {X:Fx} {cl ch:Nat} {m:Mp} {ok:Nat->Ty->Prop} {a:Act} {w:World}
theorem a4c{Q:Unit->Sm->Prop}{xall:List Value}(hall:∀k p,xall[k]? =some p->a.tmps.getD k Go.undef=p):∀(ms:List MG) (n:Nat) {xs:List Value} {S:Sm} {K:Cmd Unit}
  (R:Rel X cl ch S m ok a w) (hxs:∀i v,xs[i]? =some v->a.tmps.getD (n+i) Go.undef=v) (hl:ms.length=xs.length) (hd:a3P w.heap xall ms xs)
  (hK:∀S',Rel X cl ch S' m ok a w->K.post S' Q),(a0G ms n K).post S Q:=by
 intro ms;induction ms with
 |nil=>intro n xs S K R hxs hl hd hK;exact hK S R|cons md ms ih=>
  intro n xs S K R hxs hl hd hK;obtain⟨g,md⟩:=md;cases xs with
  |nil=>cases hl|cons x xs=>
   have hxs' :∀i v,xs[i]? =some v->a.tmps.getD (n+1+i) Go.undef=v:=λi v h=>by have:=hxs (i+1) v (by simpa using h);rwa[show n+(i+1)=n+1+i by omega]at this
   have hl' :ms.length=xs.length:=by simpa using hl
   cases md
   case dv k off sz fo=>obtain⟨⟨p,hp,hpa⟩,hd⟩:=hd;unfold a0G;refine bC λhb=>aI ?_;simp only[A7]at hb;have hk:=Gx hb.1;have hn:=Gx hb.2;have hsl:=R.slot k hk;rw[hall k p hp]at hsl;refine Nr R hsl λr y hr hy=>fQ ?_;have hx:=hxs 0 x rfl;rw[aQ]at hx;have:y=x:=hy.det hpa;subst this;exact ih (n+1) (R.slotV hn (by rw[hx];exact hr)) hxs' hl' hd hK
   all_goals
    unfold a0G;exact ih (n+1) R hxs' hl' hd hK
end
theorem MO{E:Env}{f:FuncId}{fn:Func}{c:Code}{ps:List MG}{rt:Ret}{an:Ann}{F:V4 ps->Option rt.den}(hf:P.funcs[f]? =some fn)(hb:fn.body=some c)(hnt:fn.ntmps=E.nt)
  (hres:fn.results.toList=rt.rs.map (·.1)) (hE:EnvOk P E) (hF:∀x r,F x=some r->a4b E ps rt c an x=some r):
  aH P E.gl f ⟨ps,rt.rs.map (·.2),rt.outs.map (·.2),F⟩:=by
 intro w ok O vals x r hlt hnd hO hgl hrel hdv hfn;have hden:=hF x r hfn;clear hfn hF;let X:Fx:=⟨P,E,w,O,ok,vals.toArray++Array.replicate (E.nt -vals.length) undef⟩;have H:FxOk X:=⟨hE.nt,hE.tt,hE.fs,hE.eqs,hE.ms,hE.fn,hE.pl⟩;refine calls_of_wp_defers hf hb ?_;simp only[Y2];rw[hnt];generalize hact:({ tmps:=vals.toArray++Array.replicate (E.nt -vals.length) undef,defers:=[] } :Act)=act;have hvl:vals.length=ps.length:=MC hrel;unfold a4b at hden;cases hle00:(Nat.ble ps.length E.nt&&JV (rt.outs.map (·.1)) (jR ps 0)&&a9q (rt.outs.map (·.1)) E.kp&&a9V ps)
 .simp only[hle00,cond_false]at hden;cases hden
 simp only[hle00,cond_true]at hden;simp only[A7]at hle00;obtain⟨⟨⟨hle0,hsame⟩,hsub⟩,hnosb⟩:=hle00;have hsame:=JW hsame;have hsub:=a0a hsub;have hle1:=V9 hle0;obtain⟨u,s,tr,he,hk⟩:=og hden;have hsize:act.tmps.size=E.nt:=by subst hact;simp;omega
 have hslots:∀n,n<vals.length->act.tmps.getD n undef=vals.getD n undef:=λn hn=>by subst hact;simp only[Y1];rw[gZ (by simpa using hn)];simp[Ob]
 have R0:Rel X 0 0 (dN []) nom ok act w:={ size:=hsize,nodef:=(by subst hact;intro d hd;cases hd),slot:=λn _=>trivial,box:=λn=>trivial,inj:=λn n' b h=>(by simp[dN,P9]at h),nd:=λn=>(by simp[dN,P9]),sep:=λn b h=>(by simp[dN,P9]at h),okLt:=hlt,okIn:=λb t h=>h,okOut:=λb t h=> .inl h,frame:=Frame'.refl w O,fresh:=λ_ _ _=>rfl,strict:=λ_ _=>rfl,gl:=hgl,kept:=λn _=>by subst hact;rfl };have T0:Tk X (dN []) nom ok w (O++[]):=⟨by simpa using hnd,λb hb=>by simp only[H6]at hb;obtain⟨h1,h2⟩:=hO b hb;exact⟨h1,h2,.inr hb,λn e=>by simp[dN,P9]at e⟩⟩
 have key:=qP (GK (T:=[]) ps (Q:=λ_ S' =>∃m' vs,Rel X 0 CB S' m' ok act w/\fK ⟨w.heap,ok,m'⟩ vs vals) R0 (E9 0) T0 hrel
  (K:=λvs n=>bif Nat.ble n CB then Lh (List.range vs.length) vs (a0G ps 0 (.ret ()))else .fail) λS1 m1 vs n1 ch1 R1 c1 T1 k1 s1 l1 e1=>bi λhb=>by
   have hn1:=V9 hb;have hvs:=OO l1;have hr:vals=(List.range vs.length).map λn=>act.tmps.getD n Go.undef:=by
    apply kE
    .simp[hvs]
    .intro i h1 h2;simp only[List.getElem_map,List.getElem_range];rw[hslots i h1,Ob,kN h1];rfl
   have hall:∀k p,vals[k]? =some p->act.tmps.getD k Go.undef=p:=λk p hk=>by rw[hslots k (aK.1 hk).1,Ob,hk];rfl
   refine Ih _ (R1.chmono (ch' :=CB) o5) (by rw[←hr];exact l1) λS' R' =>?_;refine a4c hall ps 0 R' (λi v hi=>by rw[bV];exact hall i v hi) hvl.symm hdv λS2 R2=>⟨m1,vs,R2,l1⟩) he
 obtain⟨mE,vs,RE,hvs⟩:=key;have Rq:Rel X (CB*1) (CB*1) (dN s) mE ok act w:=(RE.climb (dC _)).chmono (by rw[aS];exact E9 _);let RetP:rt.den->Act->World->Prop:=λr a' w' =>(∀d∈a'.defers,Zg P d)/\∃v,(results fn a'.tmps).run P w' = .ok v w' /\
  ∃v' ok' O' rs os B,(Ending.returned v)= .returned v' /\Frame' w w' O/\(∀b t,ok b t->ok' b t)/\(∀b t,ok' b t->b<w'.heap.size/\(ok b t\/w.heap.size<=b\/b∈O))/\
   (O' ++B).Nodup/\(∀b∈O' ++B,(∀t,¬ok' b t)/\b<w'.heap.size/\(w.heap.size<=b\/b∈O))/\
   a0m (rt.rs.map (·.2)).length v' rs/\vU w'.heap ps vals os B/\qW w'.heap ok' (rt.rs.map (·.2)++rt.outs.map (·.2)) r (rs++os) O'
 have hret:a5g X rt mE RetP:=by
  intro s R K r h;obtain⟨x,s',tr,he,hk⟩:=og h;refine⟨x,hk,λ{cl ch m ok1 a1 w1} R1 km=>?_⟩;refine qP (Q:=λx _=>RetP x a1 w1) ?_ he;unfold b0w;refine JP H R1 _ λvs1 rvs hv1 hl1 hrun=>Et (T:=[]) _ R1 Tk.nil λS2 ws os B R2 T2 hout hws=>?_;refine xE _ R2 T2 λS2 m2 R2 T2 km2=>?_;refine Zz _ R2 T2 (a3v km2 (Ib hv1 hws)) λS3 ok3 y O3 R3 T3 k3 s3 hy=>?_;simp only[J3]at T3;have hp:(B++O3).Perm (O3++B):=iC;rw[←hres]at hrun;obtain⟨v,hv,hrv⟩:=F_ hrun;refine⟨R3.nodef,v,hv,v,ok3,O3,rvs,os,B,rfl,R3.frame,R3.okIn,λb t hb=>⟨R3.okLt b t hb,R3.okOut b t hb⟩,hp.nodup_iff.1 T3.nodup,λb hb=>?_,?_,a4F ps 0 hnosb (WG hrel) (λi v hi hv=>?_) (by rw[hsame]at hout;exact hout),hy⟩
  .obtain⟨f1,f2,f3,_⟩:=T3.free b (hp.mem_iff.2 hb);exact⟨f1,f2,f3⟩
  .refine⟨by rw[hl1];simp,hrv.2⟩
  .have h1:=R1.kept (0+i) (hsub _ (by rw[hsame];exact hi));have hlt:=(Rx hi).2;rw[h1];have h2:=hslots (0+i) (by rw[hvl];omega);rw[←hact]at h2;refine h2.trans ?_;rw[Ob,bV,hv];rfl
 have hwp:=(zx H hret c).run hk Rq (λ_ _ h=>h);refine wp_mono hwp ?_;rintro e a' w' ⟨fl,s',wr',hk2,hfl⟩;cases fl with
 |ex id=>cases hk2|rt y=>cases hk2;obtain⟨rfl,h1,v,h2,h3⟩:=hfl;exact Jy ⟨v,h2,h3⟩ _ h1
 |nm=>obtain⟨rfl,m',ok',R',k1,_,_⟩:=hfl;obtain⟨y,hy,hp⟩:=hret (K:=some) hk2;cases hy;obtain⟨h1,v,h2,h3⟩:=hp R' k1;exact Jy ⟨v,h2,h3⟩ _ h1
def zV:V->Value->Bool
 | .undef,v=>v.oneCell'| .b x,.bool y=>x==y| .i k n,.int k' n' =>decide (k=k')&&decide (n=n')| .s l,.string s=>decide (l=s.data.toList)| .nl,.slice none 0 0=>true| .sl t xs,.map none=>t.isEnt&&xs.isEmpty| .npt,.pointer none=>true|_,_=>false
def zL:List V->List Value->Bool
 |[],[]=>true|c::cs,v::vs=>zV c v&&zL cs vs|_,_=>false
theorem b1k{C:Cx}{c:V}{v:Value}(h:zV c v=true):sQ C c v/\v.oneCell' =true:=by
 unfold zV at h;split at h
 .exact⟨trivial,h⟩
 .simp at h;subst h;exact⟨rfl,rfl⟩
 .simp at h;obtain⟨rfl,rfl⟩:=h;exact⟨rfl,rfl⟩
 .rename_i l s;have:=of_decide_eq_true h;subst this;exact⟨rfl,rfl⟩
 .exact⟨rfl,rfl⟩
 .rename_i t xs;simp only[A7,List.isEmpty_iff]at h;obtain⟨h1,rfl⟩:=h;exact⟨(a1u h1).2 ⟨none,rfl,λ_=>rfl,λ_ h=>nomatch h⟩,rfl⟩
 .exact⟨rfl,rfl⟩
 .cases h
theorem a3L{C:Cx} :∀{cs:List V} {vs:List Value},zL cs vs=true->eX C cs vs
 |[],[],_=>rfl|[],_::_,h=>by simp[zL]at h|_::_,[],h=>by simp[zL]at h|c::cs,v::vs,h=>by unfold zL at h;simp only[A7]at h;obtain⟨h1,h2⟩:=b1k (C:=C) h.1;exact⟨v,vs,rfl,h1,h2,a3L h.2⟩
def OQ:(t:Ty)->List Value->Option (List Value)
 | .bool,.bool b::r=>bif b then none else some r| .int k,.int k' n::r=>bif decide (k=k')&&decide (n=0)then some r else none| .str,.string s::r=>bif decide (s.data.toList=[])then some r else none| .sl t,.slice none 0 0::r=>bif t.isEnt then none else some r| .sl t,.map none::r=>bif t.isEnt then some r else none
 | .prod a b,vs=>match OQ a vs with|some r=>OQ b r|none=>none
 | .unit,vs=>some vs|_,_=>none
theorem Qn:∀{t:Ty} {vs r:List Value},OQ t vs=some r->∃cs,vs=cs++r/\jJ #[] (λ_ _=>False) t t.zero cs
 | .bool,vs,r,h=>by
  cases vs with
  |nil=>cases h|cons v vs=>
   cases v<;>try (cases h;done)
   case bool b=>
    cases b
    .simp only[OQ,cond_false,F6]at h;subst h;exact⟨[.bool false],rfl,rfl⟩
    .simp[OQ]at h
 | .int k,vs,r,h=>by
  cases vs with
  |nil=>cases h|cons v vs=>
   cases v<;>try (cases h;done)
   case int k' n=>
    unfold OQ at h;cases hc:(decide (k=k')&&decide (n=0))
    .simp[hc]at h
    .simp only[hc,cond_true,F6]at h;simp only[A7,decide_eq_true_eq]at hc;obtain⟨rfl,rfl⟩:=hc;subst h;exact⟨[.int k 0],rfl,rfl⟩
 | .str,vs,r,h=>by
  cases vs with
  |nil=>cases h|cons v vs=>
   cases v<;>try (cases h;done)
   case string s=>
    unfold OQ at h;cases hc:decide (s.data.toList=[])
    .simp only[hc,cond_false]at h;cases h
    .simp only[hc,cond_true,F6]at h;subst h;have he:=of_decide_eq_true hc;refine⟨[.string s],rfl,?_⟩;show[Value.string s]=[Value.string ⟨(Ty.zero .str).toArray⟩];congr 2;obtain⟨⟨l⟩⟩:=s;simp only at he;subst he;rfl
 | .sl t,vs,r,h=>by
  cases vs with
  |nil=>cases h|cons v vs=>
   cases v<;>try (cases h;done)
   case slice a n c=>
    cases a<;>try (cases h;done)
    cases n<;>try (cases h;done)
    cases c<;>try (cases h;done)
    cases ht:t.isEnt<;>simp only[OQ,ht,cond_true,cond_false,F6]at h
    .subst h;exact⟨[.slice none 0 0],rfl,.inl ⟨ht,none,0,rfl,E9 _,λi x hi=>by simp[Ty.zero]at hi⟩⟩
    .cases h
   case map mv=>
    cases mv<;>try (cases h;done)
    cases ht:t.isEnt<;>simp only[OQ,ht,cond_true,cond_false,F6]at h
    .cases h
    .subst h;exact⟨[.map none],rfl,.inr ⟨ht,none,rfl,λ_=>rfl,λ_ h=>nomatch h⟩⟩
 | .ent ..,vs,r,h=>by
  cases vs with
  |nil=>cases h|cons v vs=>cases v<;>cases h
 | .unit,vs,r,h=>by
  have:vs=r:=by cases vs<;>(simp only[OQ,F6]at h;exact h)
  subst this;exact⟨[],rfl,rfl⟩
 | .prod a b,vs,r,h=>by
  have h' :(match OQ a vs with|some r=>OQ b r|none=>none)=some r:=by cases vs<;>exact h
  cases ha:OQ a vs with
  |none=>simp[ha]at h'|some r1=>simp only[ha]at h';obtain⟨c,rfl,h1⟩:=Qn ha;obtain⟨d,rfl,h2⟩:=Qn h';exact⟨c++d,A8,c,d,rfl,h1,h2⟩
def a4d:List (Nat×Nat)->List Field->Bool
 |[],[]=>true|(t,o)::r,f::fs=>Nat.beq f.type t&&Nat.beq f.offset o&&a4d r fs|_,_=>false
theorem WN:∀{a:List (Nat×Nat)} {b:List Field},a4d a b=true->b.map (λf=>(f.type,f.offset))=a
 |[],[],_=>rfl|[],_::_,h=>by simp[a4d]at h|_::_,[],h=>by simp[a4d]at h|(t,o)::r,f::fs,h=>by unfold a4d at h;simp only[A7]at h;have h1:=fC h.1.1;have h2:=fC h.1.2;simp[WN h.2,←h1,←h2]
def a9u(P:Program)(t:TypeId)(td:TD):Bool:=
 match P.underlying t with
 |none=>false
 |some d=>match td,d with
  | .bool,.bool=>true| .int k,.int k' =>decide (k=k')| .str,.string=>true| .sl e,.slice e' =>Nat.beq e e'| .ptr e,.pointer e' =>Nat.beq e e'| .struct fs,.struct fields=>a4d fs fields.toList| .arr n e,.array n' e' =>Nat.beq n n' &&Nat.beq e e'| .map k e,.map k' e' =>Nat.beq k k' &&Nat.beq e e'| .other,.struct _=>false| .other,.array _ _=>false| .other,_=>true|_,_=>false
theorem a2s{t:TypeId}{td:TD}(h:a9u P t td=true):a9v P t td:=by
 unfold a9u at h;split at h
 .cases h
 .rename_i d hd;split at h<;>try (cases h;done)
  .exact hd
  .have:=of_decide_eq_true h;subst this;exact hd
  .exact hd
  .have:=fC h;subst this;exact hd
  .have:=fC h;subst this;exact hd
  .rename_i fs fields;exact⟨fields,hd,WN h⟩
  .simp only[A7]at h;have h1:=fC h.1;have h2:=fC h.2;subst h1;subst h2;exact hd
  .simp only[A7]at h;have h1:=fC h.1;have h2:=fC h.2;subst h1;subst h2;exact hd
  .rename_i h1 h2;refine⟨d,hd,?_⟩;cases d<;>first|trivial|exact absurd rfl (h1 _)|exact absurd rfl (h2 _ _)
def a3M(inf:TypeInfo)(i:TI):Bool:=
 bif Nat.beq i.zero.length i.size then(match inf.zero with|some z=>zL i.zero z.cells.toList|none=>false)else true
def b1N(inf:TypeInfo)(i:TI):Bool:=
 match i.ty with
 |none=>true|some u=>Nat.beq u.size i.size&&(match inf.zero with|some z=>(match OQ u z.cells.toList with|some []=>true|_=>false)|none=>false)
def b1p(inf:TypeInfo)(i:TI):Bool:=
 match inf.zero with
 |none=>true|some z=>bif bf i.td then(match z with| .agg _=>true|_=>false)else z.oneCell'
def a9w(P:Program)(t:TypeId)(i:TI):Bool:=
 match P.info? t with
 |none=>false|some inf=>Nat.beq inf.size i.size&&Nat.beq inf.bytes i.bytes&&a3M inf i&&b1N inf i&&a9u P t i.td&&(bf i.td || Nat.beq i.size 1)&&b1p inf i
theorem a2t{t:TypeId}{i:TI}(h:a9w P t i=true):TiOk P t i:=by
 unfold a9w at h;split at h
 .cases h
 .rename_i inf hi;simp only[A7,jB]at h;obtain⟨⟨⟨⟨⟨⟨h1,h2⟩,h3⟩,h4⟩,h5⟩,h6⟩,h8⟩:=h;refine⟨⟨inf,hi,fC h1,fC h2,λhl=>?_,λu hu=>?_⟩,a2s h5,λha=>?_,λinf' z hinf hz=>?_⟩
  .unfold a3M at h3;rw[hl,show Nat.beq i.size i.size=true from Nat.beq_refl _]at h3;simp only[cond_true]at h3;split at h3
   .rename_i z hz;exact⟨z,hz,a3L h3⟩
   .cases h3
  .unfold b1N at h4;simp only[hu,A7]at h4;refine⟨fC h4.1,?_⟩;have h7:=h4.2;split at h7
   .rename_i z hz;split at h7
    .rename_i hr;obtain⟨cs,e,hrep⟩:=Qn hr;rw[H6]at e;exact⟨z,hz,by rw[e];exact hrep⟩
    .cases h7
   .cases h7
  .rcases h6 with h6|h6
   .rw[ha]at h6;cases h6
   .exact fC h6
  .rw[hi]at hinf;cases hinf;unfold b1p at h8;rw[hz]at h8;refine⟨λha=>?_,λha=>?_⟩<;>simp only[ha,cond_true,cond_false]at h8
   .split at h8
    .exact⟨_,rfl⟩
    .cases h8
   .exact h8
def a0g(P:Program):List (Nat×TI)->Bool
 |[]=>true|(t,i)::r=>a9w P t i&&a0g P r
theorem VH{P:Program} :∀{tt:List (Nat×TI)},a0g P tt=true->∀t i,bK tt t=some i->TiOk P t i
 |[],_,t,i,h=>by simp[bK]at h|(k,v)::r,hc,t,i,h=>by
  unfold a0g at hc;simp only[A7]at hc;unfold bK at h;cases hb:Nat.beq k t
  .simp only[hb,cond_false]at h;exact VH hc.2 t i h
  .simp only[hb,cond_true,F6]at h;have:=fC hb;subst this;subst h;exact a2t hc.1
def WV(P:Program):List (Nat×FSpec)->Bool
 |[]=>true|(f,_)::r=>(match P.funcs[f]? with|some fn=>fn.body.isSome&&!(fn.name== "runtime.NumGoroutine")|none=>false)&&WV P r
theorem Us{P:Program} :∀{l:List (Nat×FSpec)},WV P l=true->∀p∈l,∃fn,P.funcs[p.1]? =some fn/\fn.body.isSome=true/\(fn.name== "runtime.NumGoroutine")=false
 |[],_,p,h=>by cases h|(k,v)::r,hc,p,h=>by
  unfold WV at hc;simp only[A7]at hc;rcases D6.1 h with rfl|h
  .have h1:=hc.1;split at h1
   .rename_i fn hf;simp only[A7,bH]at h1;exact⟨fn,hf,h1.1,h1.2⟩
   .cases h1
  .exact Us hc.2 p h
end Go.GP
namespace Go.GP
def a5c(P:Program)(gl:List (Nat×(t:Ty)×List t.den)):List (Nat×FSpec)->Prop
 |[]=>True|(f,s)::r=>aH P gl f s/\a5c P gl r
theorem WE{P:Program}{gl:List (Nat×(t:Ty)×List t.den)} :∀{l:List (Nat×FSpec)},a5c P gl l->∀p∈l,aH P gl p.1 p.2
 |[],_,p,h=>by cases h|(k,v)::r,hc,p,h=>by
  rcases D6.1 h with rfl|h
  .exact hc.1
  .exact WE hc.2 p h
def Ze(P:Program):List ((Nat×String)×Nat×Option Nat)->Prop
 |[]=>True|(k,r)::l=>BX P k.1 k.2 r.1 r.2/\Ze P l
theorem Tq{P:Program} :∀{l:List ((Nat×String)×Nat×Option Nat)},Ze P l->∀p∈l,BX P p.1.1 p.1.2 p.2.1 p.2.2
 |[],_,p,h=>by cases h|(k,v)::r,hc,p,h=>by
  rcases D6.1 h with rfl|h
  .exact hc.1
  .exact Tq hc.2 p h
def Zf(P:Program):List (Nat×Nat×Nat)->Prop
 |[]=>True|(f,off,sz)::l=>PlP P f off sz/\Zf P l
theorem Tu{P:Program} :∀{l:List (Nat×Nat×Nat)},Zf P l->∀p∈l,PlP P p.1 p.2.1 p.2.2
 |[],_,p,h=>by cases h|(f,off,sz)::l,hc,p,h=>by
  rcases D6.1 h with rfl|h
  .exact hc.1
  .exact Tu hc.2 p h
theorem Jn{P:Program}{E:Env}(hnt:Nat.ble (64*E.nt) 999936=true)(htt:a0g P E.tt=true)(heq:∀t sh,bK E.eqs t=some sh->KE P t sh)(hfn:WV P E.fs=true)(hms:Ze P E.ms)(hfs:a5c P E.gl E.fs)(hpl:Zf P E.pl):EnvOk P E:=
 ⟨V9 hnt,VH htt,WE hfs,heq,Tq hms,Us hfn,Tu hpl⟩
end Go.GP
namespace Go.GP
def GL(rec:TypeId->List Ty->Bool)(cells:TypeId->Nat):Nat->List Field->List Ty->Bool
 |_,[],sh=>sh.isEmpty|off,f::r,sh=>(f.name != "_")&&Nat.beq f.offset off&&Nat.ble (cells f.type) sh.length&&rec f.type (sh.take (cells f.type))&&GL rec cells (off+cells f.type) r (sh.drop (cells f.type))
def wJ(P:Program):Nat->TypeId->List Ty->Bool
 |0,_,_=>false
 |n+1,t,sh=>match P.underlying t with
  |some .bool=>(match sh with|[.bool]=>true|_=>false)|some (.int k)=>(match sh with|[.int k']=>decide (k=k')|_=>false)|some .string=>(match sh with|[.str]=>true|_=>false)|some (.struct fs)=> !P.stoodInHeld t&&(P.info? t).isSome&&Nat.beq (P.cellsOf t) sh.length&&GL (wJ P n) P.cellsOf 0 fs.toList sh|_=>false
theorem iW.length:∀{sh:List Ty} {vs:List Value},iW sh vs->vs.length=sh.length
 |[],_,h=>by simp only[iW]at h;subst h;rfl| .bool::ts,_,⟨_,_,rfl,h⟩=>by simp[iW.length h]| .int _::ts,_,⟨_,_,rfl,h⟩=>by simp[iW.length h]| .str::ts,_,⟨_,_,rfl,h⟩=>by simp[iW.length h]| .sl _::_,_,h=>h.elim| .prod _ _::_,_,h=>h.elim| .unit::_,_,h=>h.elim
theorem iW.take_drop:∀{sh:List Ty} {vs:List Value} (n:Nat),iW sh vs->iW (sh.take n) (vs.take n)/\iW (sh.drop n) (vs.drop n)
 |sh,vs,0,h=>⟨by simp[iW],h⟩|[],_,n+1,h=>by simp only[iW]at h;subst h;exact⟨rfl,rfl⟩| .bool::ts,_,n+1,⟨b,r,rfl,h⟩=>by have:=iW.take_drop n h;exact⟨⟨b,_,rfl,this.1⟩,this.2⟩| .int _::ts,_,n+1,⟨b,r,rfl,h⟩=>by have:=iW.take_drop n h;exact⟨⟨b,_,rfl,this.1⟩,this.2⟩| .str::ts,_,n+1,⟨b,r,rfl,h⟩=>by have:=iW.take_drop n h;exact⟨⟨b,_,rfl,this.1⟩,this.2⟩| .sl _::_,_,_+1,h=>h.elim| .prod _ _::_,_,_+1,h=>h.elim| .unit::_,_,_+1,h=>h.elim
theorem Gl{C:Cx} :∀{sh:List Ty} {cs:List V} {vs:List Value},yT sh cs=true->eX C cs vs->iW sh vs
 |[],[],vs,_,h=>h|[],_::_,_,h,_=>by simp[yT]at h|t::ts,[],_,h,_=>by cases t<;>simp[yT]at h|t::ts,c::cs,_,h,⟨v,r,rfl,h1,_,h3⟩=>by
  cases t<;>cases c<;>simp only[yT,A7,decide_eq_true_eq]at h<;>try (cases h;done)
  case bool.b x=>have h1:v= .bool x:=h1;subst h1;exact⟨_,_,rfl,Gl h h3⟩
  case int.i k k' n=>have h1:v= .int k' n:=h1;obtain⟨rfl,h⟩:=h;subst h1;exact⟨_,_,rfl,Gl h h3⟩
  case str.s l=>have h1:v= .string ⟨l.toArray⟩:=h1;subst h1;exact⟨_,_,rfl,Gl h h3⟩
theorem XX{a b:V}{r q:List V}{e:Bool}(h:yh (a::r) (b::q)=some e):∃e1 e2,eq1 a b=some e1/\yh r q=some e2/\e=(e1&&e2):=by
 unfold yh at h;split at h
 .cases h
 .rename_i e1 h1;split at h
  .cases h;exact⟨_,true,h1,rfl,A8⟩
  .split at h
   .rename_i e2 h2;cases h;exact⟨_,_,h1,h2,rfl⟩
   .cases h
theorem NR{C:Cx} :∀{cs ds:List V} {xs ys:List Value} {e:Bool},eX C cs xs->eX C ds ys->yh cs ds=some e->(e=true↔xs=ys)
 |[],[],xs,ys,e,h1,h2,h=>by
  simp only[eX]at h1 h2;subst h1;subst h2;have:e=true:=by simpa[yh]using h.symm
  simp[this]
 |[],_::_,_,_,_,_,_,h=>by simp[yh]at h|_::_,[],_,_,_,_,_,h=>by simp[yh]at h|a::r,b::q,xs,ys,e,hx,hy,h=>by
  obtain⟨v,vs,rfl,hv,_,hvs⟩:=hx;obtain⟨u,us,rfl,hu,_,hus⟩:=hy;obtain⟨e1,e2,k1,k2,rfl⟩:=XX h;have ih:=NR hvs hus k2;have hd:e1=true↔v=u:=by
   cases a<;>cases b<;>simp only[eq1]at k1<;>try (cases k1;done)
   case b.b x y=>have hv:v= .bool x:=hv;have hu:u= .bool y:=hu;subst hv;subst hu;cases k1;simp[Bh]
   case i.i j x k y=>
    have hv:v= .int j x:=hv;have hu:u= .int k y:=hu;subst hv;subst hu;by_cases hk:j=k
    .subst hk;simp only[decide_true,cond_true,F6]at k1;subst k1;simp[x8]
    .simp[hk]at k1
   case s.s x y=>have hv:v= .string ⟨x.toArray⟩:=hv;have hu:u= .string ⟨y.toArray⟩:=hu;subst hv;subst hu;cases k1;simp[seq]
  simp only[A7,G7,hd,ih]
def VOf(P:Program)(t:TypeId)(xs:List Value)(v:Value):Prop:=match P.underlying t with
 |some (.struct _)=>v= .agg xs.toArray|_=>xs=[v]
variable {P:Program}{t:TypeId}
theorem a0A{i:TypeInfo}(h:P.info? t=some i):P.cellsOf t=i.size:=by simp[Program.cellsOf,h]
variable {n:Nat}{sh:List Ty}
theorem UU(hc:wJ P n t sh=true)(hcs:P.cellsOf t=sh.length){cs:Array Value}{off:Nat}(hl:off+sh.length<=cs.size)(w:World):
  ∃v,(part t cs off).run P w= .ok v w/\VOf P t ((cs.toList.drop off).take sh.length) v:=by
 cases n with
 |zero=>cases hc|succ n=>
  unfold wJ at hc;split at hc
  all_goals try (cases hc;done)
  .rename_i ht;split at hc<;>try (cases hc;done)
   simp only[H5,ai]at hl ⊢;refine⟨cs[off]'o5,?_,?_⟩
   .have h1:=BR (P:=P) (t:=t) (d:=.bool) ht w;simp only[part,G9,h1,H7,bf,dR,if_false,N9 (show off<cs.size by omega),U6]
   .simp only[VOf,ht];apply kE
    .simp;omega
    .intro i h1 h2;simp at h1 h2;simp[show i=0 by omega]
  .rename_i k ht;split at hc<;>try (cases hc;done)
   simp only[H5,ai]at hl ⊢;refine⟨cs[off]'o5,?_,?_⟩
   .have h1:=BR (P:=P) (t:=t) (d:=.int k) ht w;simp only[part,G9,h1,H7,bf,dR,if_false,N9 (show off<cs.size by omega),U6]
   .simp only[VOf,ht];apply kE
    .simp;omega
    .intro i h1 h2;simp at h1 h2;simp[show i=0 by omega]
  .rename_i ht;split at hc<;>try (cases hc;done)
   simp only[H5,ai]at hl ⊢;refine⟨cs[off]'o5,?_,?_⟩
   .have h1:=BR (P:=P) (t:=t) (d:=.str) ht w;simp only[part,G9,h1,H7,bf,dR,if_false,N9 (show off<cs.size by omega),U6]
   .simp only[VOf,ht];apply kE
    .simp;omega
    .intro i h1 h2;simp at h1 h2;simp[show i=0 by omega]
  .rename_i fs ht;simp only[A7]at hc;obtain⟨⟨⟨_,h2⟩,_⟩,_⟩:=hc;obtain⟨inf,hinf⟩:=Option.isSome_iff_exists.1 h2;have hsz:=a0A hinf;refine⟨.agg (cs.extract off (off+inf.size)),?_,?_⟩
   .have h1:=BR (P:=P) (t:=t) (d:=.struct (fs.toList.map λf=>(f.type,f.offset))) ⟨fs,ht,rfl⟩ w;have h3:(sizeOf t).run P w= .ok inf.size w:=by
     simp[sizeOf,typeInfo,hinf]
    simp only[part,G9,h1,H7,bf,if_true,h3,U6]
   .simp only[VOf,ht];congr 1;apply jm;rw[←hsz,hcs];simp[kQ,Array.toList_extract]
theorem PL{P:Program} :∀(n:Nat) (t:TypeId) (sh:List Ty),wJ P n t sh=true->∀(d:Nat),n<=d->∀(xs ys:List Value) (v u:Value),iW sh xs->iW sh ys->VOf P t xs v->VOf P t ys u->∀w:World,
  ∃r,(Op.equalIn d t v u).run P w= .ok r w/\(r=true↔xs=ys)
 |0,_,_,h,_,_,_,_,_,_,_,_,_,_,_=>by cases h|n+1,t,sh,h,d,hd,xs,ys,v,u,hx,hy,hv,hu,w=>by
  obtain⟨d,rfl⟩:∃k,d=k+1:=⟨d -1,o5⟩;unfold wJ at h;split at h
  all_goals try (cases h;done)
  .rename_i ht;split at h<;>try (cases h;done)
   obtain⟨a,r1,rfl,h1⟩:=hx;obtain⟨b,r2,rfl,h2⟩:=hy;simp only[iW]at h1 h2;subst h1;subst h2;simp only[VOf,ht]at hv hu;obtain rfl:=(O5 hv).1;obtain rfl:=(O5 hu).1;exact⟨a==b,run_equalIn_bool w d t a b ht,A8⟩
  .rename_i k ht;split at h<;>try (cases h;done)
   have:=of_decide_eq_true h;subst this;obtain⟨a,r1,rfl,h1⟩:=hx;obtain⟨b,r2,rfl,h2⟩:=hy;simp only[iW]at h1 h2;subst h1;subst h2;simp only[VOf,ht]at hv hu;obtain rfl:=(O5 hv).1;obtain rfl:=(O5 hu).1;exact⟨a==b,run_equalIn_int w d t k k a b ht,A8⟩
  .rename_i ht;split at h<;>try (cases h;done)
   obtain⟨a,r1,rfl,h1⟩:=hx;obtain⟨b,r2,rfl,h2⟩:=hy;simp only[iW]at h1 h2;subst h1;subst h2;simp only[VOf,ht]at hv hu;obtain rfl:=(O5 hv).1;obtain rfl:=(O5 hu).1;refine⟨a.toList==b.toList,run_equalIn_string w d t a b ht,?_⟩;constructor
   .intro h;have h:=eq_of_beq h;rw[ByteArray.toList_eq,ByteArray.toList_eq]at h;obtain⟨⟨x⟩⟩:=a;obtain⟨⟨y⟩⟩:=b;simp only at h;rw[h]
   .intro h;injection h with h;injection h with h;rw[h];simp
  .rename_i fs ht;simp only[A7,bH]at h;obtain⟨⟨⟨h1,h2⟩,h3⟩,h4⟩:=h;have hlen:=fC h3;simp only[VOf,ht]at hv hu;subst hv;subst hu;have hfo:P.fieldsOf t=fs:=by simp[Program.fieldsOf,ht]
   rw[run_equalIn_struct w d t _ _ (by rw[hfo];exact ht) h1,hfo];have hxl:=hx.length;have hyl:=hy.length;have key:∀(l:List Field) (off:Nat) (s:List Ty),GL (wJ P n) P.cellsOf off l s=true->s=sh.drop off->off<=sh.length->∃r,(Op.eqFields d xs.toArray ys.toArray l).run P w= .ok r w/\(r=true↔xs.drop off=ys.drop off):=by
    intro l;induction l with
    |nil=>
     intro off s hs he ho;unfold GL at hs;have:s=[]:=by simpa using hs
     have hoff:off=sh.length:=by have:=congrArg List.length (he.symm.trans this);simp at this;omega
     refine⟨true,rfl,?_⟩;rw[bz o5,bz o5];simp
    |cons f r ih=>
     intro off s hs he ho;unfold GL at hs;simp only[A7]at hs;obtain⟨⟨⟨⟨g1,g2⟩,g3⟩,g4⟩,g5⟩:=hs;have g2:=fC g2;have g3:=V9 g3;subst he;simp only[gz]at g3;have hsl:((sh.drop off).take (P.cellsOf f.type)).length=P.cellsOf f.type:=by simp;omega
     obtain⟨v1,e1,o1⟩:=UU g4 hsl.symm (cs:=xs.toArray) (off:=off) (by rw[hsl];simp;omega) w;obtain⟨u1,e2,o2⟩:=UU g4 hsl.symm (cs:=ys.toArray) (off:=off) (by rw[hsl];simp;omega) w;rw[hsl]at o1 o2;obtain⟨b1,e3,q1⟩:=PL n f.type _ g4 d o5 _ _ v1 u1 (((hx.take_drop off).2).take_drop _).1 (((hy.take_drop off).2).take_drop _).1 o1 o2 w;obtain⟨b2,e4,q2⟩:=ih (off+P.cellsOf f.type) _ g5 (by rw[X8]) o5;have hne:f.name≠ "_":=by simpa using g1
     have split:(xs.drop off=ys.drop off)↔((xs.drop off).take (P.cellsOf f.type)=(ys.drop off).take (P.cellsOf f.type)/\xs.drop (off+P.cellsOf f.type)=ys.drop (off+P.cellsOf f.type)):=by
      constructor
      .intro h;rw[h];exact⟨rfl,by rw[←X8,←X8,h]⟩
      .rintro⟨p1,p2⟩;rw[←iD (P.cellsOf f.type) (xs.drop off),←iD (P.cellsOf f.type) (ys.drop off),p1,X8,X8,p2]
     simp only[Op.eqFields,if_pos hne,G9,g2,e1,e2,e3,H7];cases b1 with
     |false=>
      refine⟨false,A8,?_⟩;have:¬((xs.drop off).take (P.cellsOf f.type)=(ys.drop off).take (P.cellsOf f.type)):=λh=>by have:=q1.2 h;cases this
      simp only[dR,false_iff];intro h;exact this (split.1 h).1
     |true=>refine⟨b2,by simpa using e4,?_⟩;rw[q2,split];exact⟨λh=>⟨q1.1 rfl,h⟩,λh=>h.2⟩
   have:=key fs.toList 0 sh h4 A8 o5;simpa using this
theorem WM{P:Program}(em:Bool):∀(n:Nat) (t:TypeId) (sh:List Ty),wJ P n t sh=true->∀(d:Nat),n<=d->∀(xs:List Value) (v:Value),iW sh xs->VOf P t xs v->∀w:World,
  (Instr.checkKey em d t v).run P w= .ok () w
 |0,_,_,h,_,_,_,_,_,_,_=>by cases h|n+1,t,sh,h,d,hd,xs,v,hx,hv,w=>by
  obtain⟨d,rfl⟩:∃k,d=k+1:=⟨d -1,o5⟩;unfold wJ at h;split at h
  all_goals try (cases h;done)
  .rename_i ht;split at h<;>try (cases h;done)
   obtain⟨a,r1,rfl,h1⟩:=hx;simp only[iW]at h1;subst h1;simp only[VOf,ht]at hv;obtain rfl:=(O5 hv).1;simp[Instr.checkKey,run_underlying ht]
  .rename_i k ht;split at h<;>try (cases h;done)
   have:=of_decide_eq_true h;subst this;obtain⟨a,r1,rfl,h1⟩:=hx;simp only[iW]at h1;subst h1;simp only[VOf,ht]at hv;obtain rfl:=(O5 hv).1;simp[Instr.checkKey,run_underlying ht]
  .rename_i ht;split at h<;>try (cases h;done)
   obtain⟨a,r1,rfl,h1⟩:=hx;simp only[iW]at h1;subst h1;simp only[VOf,ht]at hv;obtain rfl:=(O5 hv).1;simp[Instr.checkKey,run_underlying ht]
  .rename_i fs ht;simp only[A7,bH]at h;obtain⟨⟨⟨h1,h2⟩,h3⟩,h4⟩:=h;have hlen:=fC h3;simp only[VOf,ht]at hv;subst hv;have hxl:=hx.length;have key:∀(l:List Field) (off:Nat) (s:List Ty),GL (wJ P n) P.cellsOf off l s=true->s=sh.drop off->off<=sh.length->
     (forIn l PUnit.unit (λ(f:Field) (_:PUnit)=>(do
      if f.name≠ "_" then Instr.checkKey em d f.type (←part f.type xs.toArray f.offset)
      pure (ForInStep.yield PUnit.unit):Sem (ForInStep PUnit)))).run P w= .ok PUnit.unit w:=by
    intro l;induction l with
    |nil=>intro off s hs he ho;rfl|cons f r ih=>
     intro off s hs he ho;unfold GL at hs;simp only[A7]at hs;obtain⟨⟨⟨⟨g1,g2⟩,g3⟩,g4⟩,g5⟩:=hs;have g2:=fC g2;have g3:=V9 g3;subst he;simp only[gz]at g3;have hsl:((sh.drop off).take (P.cellsOf f.type)).length=P.cellsOf f.type:=by simp;omega
     obtain⟨v1,e1,o1⟩:=UU g4 hsl.symm (cs:=xs.toArray) (off:=off) (by rw[hsl];simp;omega) w;rw[hsl]at o1;have e3:=WM em n f.type _ g4 d o5 _ v1 (((hx.take_drop off).2).take_drop _).1 o1 w;have e4:=ih (off+P.cellsOf f.type) _ g5 (by rw[X8]) o5;have hne:f.name≠ "_":=by simpa using g1
     simp only[List.forIn_cons,G9,hne,ne_eq,not_false_eq_true,if_true,g2,e1,e3,H7,U6];exact e4
   have:=key fs.toList 0 sh h4 A8 o5;simp only[Instr.checkKey,G9,run_underlying ht,H7];simp at this;simp[this]
theorem ZM(hn:n<=10000)(h:wJ P n t sh=true)(hs:(match P.underlying t with|some (.struct _)=>true|_=>false)=true):Zh P t sh:=by
 have hv:∀zs:Array Value,VOf P t zs.toList (.agg zs):=λzs=>by
  unfold VOf;split
  .simp
  .rename_i hh;exfalso;split at hs
   .rename_i fs hf;exact hh fs hf
   .cases hs
 refine⟨?_,λw xs hx=>⟨λem=>WM em n t sh h 10000 hn _ _ hx (hv xs) w,λys hy=>PL n t sh h 10000 hn _ _ _ _ hx hy (hv xs) (hv ys) w⟩⟩;split at hs
 .rename_i fs hf;exact⟨fs,hf⟩
 .cases hs
theorem a0L(hn:n<=10000)(h:wJ P n t sh=true)(hs:(match P.underlying t with|some (.struct _)=>true|_=>false)=true)(hg:P.eqGuardType P.depth t=false):KE P t sh:=by
 refine⟨?_,ZM hn h hs⟩;intro w C cs ds xs ys e op x y s1 s2 h1 h2 he hop;have hv:∀zs:Array Value,VOf P t zs.toList (.agg zs):=λzs=>by
  unfold VOf;split
  .simp
  .rename_i hh;exfalso;split at hs
   .rename_i fs hf;exact hh fs hf
   .cases hs
 obtain⟨r,hr,hq⟩:=PL n t sh h 10000 hn _ _ _ _ (Gl s1 h1) (Gl s2 h2) (hv xs) (hv ys) w;have hre:r=e:=by have:=NR h1 h2 he;cases r<;>cases e<;>simp_all
 subst hre;rcases hop with rfl|rfl
 .rw[G9,run_eqGuard_agg w .eql t x y xs ys hg];simp only[H7,run_eql_struct,hr,if_pos]
 .rw[G9,run_eqGuard_agg w .neq t x y xs ys hg];simp[run_neq_struct,hr]
def a0M(P:Program):List (Nat×List Ty)->Bool
 |[]=>true|(t,sh)::r=>wJ P 20 t sh&&(match P.underlying t with|some (.struct _)=>true|_=>false)&&!P.eqGuardType P.depth t&&a0M P r
theorem Zx{P:Program} :∀{l:List (Nat×List Ty)},a0M P l=true->∀t sh,bK l t=some sh->KE P t sh
 |[],_,t,sh,h=>by simp[bK]at h|(k,v)::r,hc,t,sh,h=>by
  unfold a0M at hc;simp only[A7,bH]at hc;unfold bK at h;cases hb:Nat.beq k t
  .simp only[hb,cond_false]at h;exact Zx hc.2 t sh h
  .simp only[hb,cond_true,F6]at h;have:=fC hb;subst this;subst h;exact a0L o5 hc.1.1.1 hc.1.1.2 hc.1.2
end Go.GP
