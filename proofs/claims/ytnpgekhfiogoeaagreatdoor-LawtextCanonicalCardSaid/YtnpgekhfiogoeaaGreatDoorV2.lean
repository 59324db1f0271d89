import Derived.Test.YtnpgekhfiogoeaaGreatDoorV1
import Derived.Lib.SlicesCompact
import Derived.Lib.Bytealg
import Derived.Sort.Row
import Derived.Shelf.Strings.BuilderF
import Derived.Shelf.Strings.IndexAnyAll
import Derived.Lib.IndexMore
set_option linter.all false
namespace Go.GP
open Go.RowKit Go.Sort
def a0o(x:Int):List Int->List Int
 |[]=>[x]|y::l=>bif U6 x y then x::y::l else y::a0o x l
def Hy:List Int->List Int
 |[]=>[]|x::l=>a0o x (Hy l)
def ddp(p:Int):List Int->List Int
 |[]=>[]|y::l=>bif D6 y p then ddp p l else y::ddp y l
def dd:List Int->List Int
 |[]=>[]|x::l=>x::ddp x l
theorem OI(x:Int):∀l,(a0o x l).Perm (x::l)
 |[]=> .refl _|y::l=>by
  unfold a0o;cases U6 x y
  .exact(List.Perm.cons y (OI x l)).trans (List.Perm.swap x y l)
  .exact .refl _
theorem Fe:∀l,(Hy l).Perm l
 |[]=> .refl _|x::l=>(OI x (Hy l)).trans ((Fe l).cons x)
theorem PW(x:Int):∀{l:List Int},l.Pairwise (·<=·)->(a0o x l).Pairwise (·<=·)
 |[],_=>by simp[a0o]|y::l,h=>by
  have h' :=V7.1 h;unfold a0o;cases hxy:U6 x y
  .have hxy' :y<x:=by simpa[U6]using hxy
   refine V7.2 ⟨λz hz=>?_,PW x h'.2⟩;rcases C9.1 ((OI x l).mem_iff.1 hz)with rfl|hz
   .omega
   .exact h'.1 z hz
  .have hxy' :x<=y:=by simpa[U6]using hxy
   refine V7.2 ⟨λz hz=>?_,h⟩;rcases C9.1 hz with rfl|hz
   .exact hxy'
   .exact Int.le_trans hxy' (h'.1 z hz)
theorem Ff:∀l,(Hy l).Pairwise (·<=·)
 |[]=>List.Pairwise.nil|x::l=>PW x (Ff l)
theorem Qe(l:List Int):(l.mergeSort λx y=>decide (x<=y))=Hy l:=by refine List.Perm.eq_of_pairwise (le:=(·<=·)) (λa b _ _ h1 h2=>vO h1 h2) ?_ (Ff l) ((List.mergeSort_perm l _).trans (Fe l).symm);have:=List.pairwise_mergeSort (le:=λx y:Int=>decide (x<=y)) (λa b c h1 h2=>by simp at*;omega) (λa b=>by simp;omega) l;simpa using this
theorem Ro(y:Int):∀(l:List Int) (p:Int),ddp p (l++[y])=ddp p l++(bif D6 y ((p::l).getLast D5)then[]else[y])
 |[],p=>rfl|z::l,p=>by
  have hg:(p::z::l).getLast D5=(z::l).getLast D5:=List.getLast_cons _;rw[hg];simp only[J9,ddp];by_cases h:z=p
  .subst h;simp only[D6,decide_true,cond_true];exact Ro y l z
  .have h' :D6 z p=false:=by simp[D6,h]
   rw[h'];simp only[cond_false];rw[Ro y l z];rfl
theorem NI(l:List Int)(y:Int)(m:Nat)(hm:m<=l.length):Lib.compactUpTo (l++[y]).toArray m=Lib.compactUpTo l.toArray m:=by
 unfold Lib.compactUpTo;have e:∀j,j<m->(l++[y]).toArray[j]! =l.toArray[j]!:=λj hj=>by rw[getElem!_pos _ j G5,getElem!_pos _ j G5];simp[List.getElem_append_left (show j<l.length by omega)]
 have hf:(List.range m).filter (Lib.keeps (l++[y]).toArray)=(List.range m).filter (Lib.keeps l.toArray):=by apply List.filter_congr;intro j hj;have hj' :=dX.1 hj;unfold Lib.keeps;rw[e j hj',e (j -1) o5]
 rw[hf];apply eF;intro j hj;exact e j (dX.1 (oz.1 hj).1)
theorem VU(x y:Int)(l:List Int):Lib.compact (x::l++[y])=Lib.compact (x::l)++(bif D6 y ((x::l).getLast D5)then[]else[y]):=by
 have hlen:(x::l++[y]).length=(x::l).length+1:=D5;have h1:Lib.compact (x::l++[y])=Lib.compactUpTo (x::l++[y]).toArray (x::l).length++(if Lib.keeps (x::l++[y]).toArray (x::l).length=true then[(x::l++[y]).toArray[(x::l).length]!]else[]):=by
  unfold Lib.compact;rw[hlen];unfold Lib.compactUpTo;rw[jq,List.filter_append,ed];congr 1;by_cases hk:Lib.keeps (x::l++[y]).toArray (x::l).length=true
  .simp only[kD,hk,if_true,List.filter_nil,dL,jV]
  .simp only[kD,hk,List.filter_nil,jV];simp
 rw[h1,NI (x::l) y _ (A7 _)];have e1:(x::l++[y]).toArray[(x::l).length]! =y:=by rw[getElem!_pos _ _ D5];simp
 have e2:(x::l++[y]).toArray[(x::l).length -1]! =(x::l).getLast D5:=by rw[getElem!_pos _ _ G5];rw[List.getLast_eq_getElem];simp only[List.getElem_toArray];rw[List.getElem_append_left]
 have hk:Lib.keeps (x::l++[y]).toArray (x::l).length=decide (y≠(x::l).getLast D5):=by unfold Lib.keeps;rw[e1,e2];simp
 rw[hk,e1];unfold Lib.compact;by_cases h:y=(x::l).getLast D5<;>simp[D6,h]
theorem Zj{motive:List Int->Prop}(h0:motive [])(h1:∀l y,motive l->motive (l++[y])):∀n (l:List Int),l.length=n->motive l
 |0,l,h=>by rw[Z7.1 h];exact h0|n+1,l,h=>by
  have hne:l≠[]:=by intro e;subst e;cases h
  rw[←iY hne];exact h1 _ _ (Zj h0 h1 n _ G5)
theorem ZR(l:List Int):Lib.compact l=dd l:=by
 cases l with
 |nil=>rfl|cons x l=>
  show _=x::ddp x l;refine Zj (motive:=λl=>Lib.compact (x::l)=x::ddp x l) ?_ (λl y ih=>?_) l.length l rfl
  .simp[Lib.compact,Lib.compactUpTo,Lib.keeps,jq,ddp]
  .have:=VU x y l;rw[J9]at this;rw[this,ih,Ro];rfl
def BJ(xs:List Int):Option (List Int):=bif Nat.blt xs.length 4611686018427387904 then some (Hy xs)else none
def qV(xs:List Int):Option (List Int):=bif Nat.blt xs.length 4611686018427387904 then some (dd xs)else none
def xg(s t:List UInt8):Option Bool:=match t with
 |[c]=>some (decide (0<=Lib.indexByte s c))|_=>none
variable {w:World}{ok:Nat->Ty->Prop}
theorem LK{m:Mp}{xs:List Int}{blk off len cap sz:Nat}(h:arrOk ⟨w.heap,ok,m⟩ (.int .i64) xs (.arr blk off len cap sz)):Holds (Value.int .i64) w blk off xs.toArray:=by
 obtain⟨_,rfl,rfl,hc,c,T,f,hb,hz,hs,hx⟩:=h;have hz:f=(0,0):=hz.elim id (λh=>nomatch h.1);subst hz;intro j hj;have hj' :j<xs.length:=by simpa using hj
 obtain⟨es,he,hr⟩:=hx j xs[j] (mW hj');have hr:es=[.int .i64 xs[j]]:=hr;subst hr;have hb' :w.heap[blk]? =some (.cells c T (0,0)):=hb;have he' :dE w.heap blk (off+j*1) 1=some [.int .i64 xs[j]]:=he;rw[dG]at he';refine⟨?_,?_⟩
 .have:=uF (w:=w) he' (j:=0) (v:=.int .i64 xs[j]) rfl;rw[Z8]at this;rw[this,getElem!_pos xs.toArray j hj];simp
 .simp[World.frozen?,hb']
variable {blk:Nat}{off:Nat}{n:Nat}{c:Array Value}{T:TypeId}
theorem a3o{fr:Nat×Nat}(hb:w.heap[blk]? =some (.cells c T fr))(d:Array Int):
  (putRow (Value.int .i64) (Sort.ahead w n) blk off d).heap[blk]? =some (.cells (putCells (Value.int .i64) off d c) T fr):=by
 show(w.heap.modify blk (onCells (putCells (Value.int .i64) off d)))[blk]? =_;rw[lG,if_pos rfl,hb];rfl
theorem Q_{blk off n b:Nat}(h:b≠blk)(d:Array Int):(putRow (Value.int .i64) (Sort.ahead w n) blk off d).heap[b]? =w.heap[b]?:=by show(w.heap.modify blk (onCells (putCells (Value.int .i64) off d)))[b]? =_;rw[lG,if_neg (λe=>h e.symm)]
theorem a0T{h:Array Obj}{m:Mp}{blk off cap:Nat}{d:Array Int}{ys:List Int}(hb:h[blk]? =some (.cells (putCells (Value.int .i64) off d c) T (0,0)))
  (hfit:off+cap<=c.size) (hd:d.size<=cap) (hl:ys.length<=d.size) (hy:∀(i:Nat) (y:Int),ys[i]? =some y->d[i]? =some y):arrOk ⟨h,ok,m⟩ (.int .i64) ys (.arr blk off ys.length cap 1):=by
 refine⟨rfl,rfl,rfl,o5,_,T,_,hb,.inl rfl,by simp[putCells,Ty.size];omega,λi y hi=>⟨[.int .i64 y],?_,rfl⟩⟩;have hi' :=(ai.1 hi).1;have hdi:=hy i y hi;obtain⟨hdi',hdy⟩:=N8.1 hdi;show dE h blk (off+i*1) 1=_;rw[dG,jO hb _ _ (by simp[putCells];omega)];have hk:off+i<c.size:=o5;have:(putCells (Value.int .i64) off d c).toList[off+i]? =some (.int .i64 y):=by unfold putCells;rw[Y9,Array.getElem?_mapIdx,O8 hk];simp only[dA];rw[if_pos o5,Nat.add_sub_cancel_left,getElem!_pos d i hdi',hdy]
 obtain⟨h1,h2⟩:=ai.1 this;rw[bY h1,h2];rfl
theorem a1P{P:Program}{d:Array Int}{os:Array Obj}(hlt:∀b t,ok b t->b<w.heap.size)(hfree:(∀t,¬ok blk t)/\blk<w.heap.size)
  (hb:w.heap[blk]? =some (.cells c T (0,0))) {w' :World} (hw:w' =Sort.grow (putRow (Value.int .i64) (Sort.ahead w n) blk off d) os):
  w'.heap[blk]? =some (.cells (putCells (Value.int .i64) off d c) T (0,0))/\Frame' w w' [blk]/\(∀b t,ok b t->b<w'.heap.size/\(ok b t\/w.heap.size<=b\/b∈[blk]))/\blk<w'.heap.size:=by
 subst hw;have hsz:(putRow (Value.int .i64) (Sort.ahead w n) blk off d).heap.size=w.heap.size:=by simp[Sort.ahead]
 have hge:w.heap.size<=(Sort.grow (putRow (Value.int .i64) (Sort.ahead w n) blk off d) os).heap.size:=by simp[Sort.grow,Sort.ahead]
 have hold:∀b,b<w.heap.size->(Sort.grow (putRow (Value.int .i64) (Sort.ahead w n) blk off d) os).heap[b]? =(putRow (Value.int .i64) (Sort.ahead w n) blk off d).heap[b]?:=λb hb=>by show((putRow (Value.int .i64) (Sort.ahead w n) blk off d).heap++os)[b]? =_;rw[jl (by rw[hsz];exact hb)]
 refine⟨by rw[hold blk hfree.2];exact a3o hb d,⟨rfl,rfl,rfl,hge,λb h1 h2=>?_⟩,λb t h=>⟨iD (hlt b t h) hge,.inl h⟩,iD hfree.2 hge⟩;rw[hold b h1];exact Q_ (λe=>h2 (by simp[e])) d
variable {P:Program}{f:Nat}
theorem a0x{gl:List (Nat×(t:Ty)×List t.den)}
  (hC:∀(blk off cap:Nat) (zs:List Int) (w:World) (hH:Holds (Value.int .i64) w blk off zs.toArray) (hblk:blk<w.heap.size) (hsz:zs.length<4611686018427387904),
   Calls P f #[.slice (some ⟨blk,off,none⟩) zs.length cap] w λe w' =>e= .returned (.tuple #[])/\∃n os,w' =Sort.grow (putRow (Value.int .i64) (Sort.ahead w n) blk off (zs.mergeSort λx y=>decide (x<=y)).toArray) os)
  (hN:∀(p:Option Addr) (cap:Nat) (w:World),Calls P f #[.slice p 0 cap] w λe w' =>e= .returned (.tuple #[])/\w' =w):
  ik P gl f ⟨[(false,.ownb (.int .i64))],[],[(false,.own (.int .i64))],λx=>BJ x⟩:=by
 intro w ok O vals x r hlt hnd hO _ hrel hdv hfn;obtain⟨v,cs,rfl,h1,l,v',hcs,hv,ha,rfl⟩:=hrel;have h1:cs=[v]:=h1;rw[h1]at hcs;simp only[G8,and_true]at hcs;subst hcs;simp only[BJ]at hfn;cases hx0:Nat.blt x.length 4611686018427387904<;>rw[hx0]at hfn
 .cases hfn
 rw[cZ]at hx0;have hx:=hx0;rw[←Qe]at hfn;cases hfn;cases l with
 |st b=>cases ha|mp b=>cases ha.1|nil=>
  have ha:x=[]:=ha.1;subst ha;have hv:v= .slice none 0 0:=hv;subst hv;refine(hN none 0 w).mono λe w' ⟨he,hw⟩=>?_;subst he;subst hw;exact⟨_,ok,[],[],[.slice none 0 0],[],rfl,Frame'.refl _ _,λ_ _ h=>h,λb t h=>⟨hlt b t h,.inl h⟩,D5,D5,⟨rfl,rfl⟩,⟨[],rfl,rfl,rfl⟩,
   ⟨_,_,rfl,rfl,xu.2 ⟨.nil,_,rfl,rfl,(by simp[arrOk,Ty.isEnt]),rfl⟩⟩⟩
 |arr blk off len cap sz=>
  have hH:=LK ha;obtain⟨_,rfl,rfl,hc,c,T,f,hb,hz,hs,hx'⟩:=ha;have hz:f=(0,0):=hz.elim id (λh=>nomatch h.1);subst hz;have hv:v= .slice (some ⟨blk,off,none⟩) x.length cap:=hv;subst hv;have hfree:=hO blk (by simp[Loc.blks]);refine(hC blk off cap x w hH hfree.2 hx).mono λe w' ⟨he,n,os,hw⟩=>?_;subst he;obtain⟨g1,g2,g3,g4⟩:=a1P (P:=P) hlt hfree hb hw;have hlen:(x.mergeSort λx y=>decide (x<=y)).length=x.length:=List.length_mergeSort ..;have hfit:off+cap<=c.size:=by simpa[Ty.size]using hs
  have harr:=a0T (ok:=ok) (m:=nom) (cap:=cap) (ys:=x.mergeSort λx y=>decide (x<=y)) g1 hfit (by simp[hlen];exact hc) D5 (λi y hi=>by simpa using hi);rw[hlen]at harr;refine⟨_,ok,[blk],[],[.slice (some ⟨blk,off,none⟩) x.length cap],[],rfl,g2,λ_ _ h=>h,g3,D5,λb hb=>?_,⟨rfl,rfl⟩,⟨[],rfl,rfl,rfl⟩,⟨_,_,rfl,rfl,xu.2 ⟨.arr blk off x.length cap 1,_,rfl,rfl,harr,rfl⟩⟩⟩;have:b=blk:=by simpa using hb
  subst this;exact⟨hfree.1,g4,.inr (by simp[Loc.blks])⟩
theorem ZT(zs:List Int):(Lib.compact zs).length<=zs.length:=by unfold Lib.compact Lib.compactUpTo;rw[P6];exact P8 (iw _ _) D5
theorem Ur{gl:List (Nat×(t:Ty)×List t.den)}
  (hC:∀(blk off cap:Nat) (zs:List Int) (w:World) (hH:Holds (Value.int .i64) w blk off zs.toArray) (hsz:zs.length<=9223372036854775807) (hcap:zs.length<=cap),
   Calls P f #[.slice (some ⟨blk,off,none⟩) zs.length cap] w λe w' =>e= .returned (.slice (some ⟨blk,off,none⟩) (Lib.compact zs).length cap)/\∃q,w' =putRow (Value.int .i64) (Sort.ahead w q) blk off (Lib.compact zs++List.replicate (zs.length -(Lib.compact zs).length) 0).toArray)
  (hN:∀(a:Option Addr) (cap:Nat) (w:World),Calls P f #[.slice a 0 cap] w λe w' =>e= .returned (.slice a 0 cap)/\w' =w):
  ik P gl f ⟨[(false,.own (.int .i64))],[(false,.own (.int .i64))],[],λx=>qV x⟩:=by
 intro w ok O vals x r hlt hnd hO _ hrel hdv hfn;obtain⟨v,cs,rfl,h1,hrm⟩:=hrel;obtain⟨l,v',hcs,hv,ha,rfl⟩:=xu.1 hrm;have h1:cs=[v]:=h1;rw[h1]at hcs;simp only[G8,and_true]at hcs;subst hcs;simp only[qV]at hfn;cases hx0:Nat.blt x.length 4611686018427387904<;>rw[hx0]at hfn
 .cases hfn
 rw[cZ]at hx0;have hx:=hx0;rw[←ZR]at hfn;cases hfn;cases l with
 |st b=>cases ha|mp b=>cases ha.1|nil=>
  have ha:x=[]:=ha.1;subst ha;have hv:v= .slice none 0 0:=hv;subst hv;refine(hN none 0 w).mono λe w' ⟨he,hw⟩=>?_;subst he;subst hw;exact⟨_,ok,[],[.slice none 0 0],[],[],rfl,Frame'.refl _ _,λ_ _ h=>h,λb t h=>⟨hlt b t h,.inl h⟩,D5,D5,⟨rfl,rfl⟩,⟨rfl,rfl⟩,
   ⟨_,_,rfl,rfl,xu.2 ⟨.nil,_,rfl,rfl,⟨rfl,rfl⟩,rfl⟩⟩⟩
 |arr blk off len cap sz=>
  have hH:=LK ha;obtain⟨_,rfl,rfl,hc,c,T,f,hb,hz,hs,hx'⟩:=ha;have hz:f=(0,0):=hz.elim id (λh=>nomatch h.1);subst hz;have hv:v= .slice (some ⟨blk,off,none⟩) x.length cap:=hv;subst hv;have hfree:=hO blk (by simp[Loc.blks]);refine(hC blk off cap x w hH o5 hc).mono λe w' ⟨he,n,hw⟩=>?_;subst he;have hle:=ZT x;obtain⟨g1,g2,g3,g4⟩:=a1P (P:=P) (n:=n) (off:=off) (d:=(Lib.compact x++List.replicate (x.length -(Lib.compact x).length) 0).toArray) (os:=#[]) (w' :=w') hlt hfree hb (by rw[grow_empty];exact hw);have hfit:off+cap<=c.size:=by simpa[Ty.size]using hs
  have harr:=a0T (ok:=ok) (m:=nom) (cap:=cap) (ys:=Lib.compact x) g1 hfit G5 D5 (λi y hi=>by have:=(ai.1 hi).1;rw[List.getElem?_toArray,J5 this];exact hi)
  refine⟨_,ok,[blk],[.slice (some ⟨blk,off,none⟩) (Lib.compact x).length cap],[],[],rfl,g2,λ_ _ h=>h,g3,D5,λb hb=>?_,⟨rfl,rfl⟩,⟨rfl,rfl⟩,⟨_,_,rfl,rfl,xu.2 ⟨.arr blk off (Lib.compact x).length cap 1,_,rfl,rfl,harr,rfl⟩⟩⟩;have:b=blk:=by simpa using hb
  subst this;exact⟨hfree.1,g4,.inr (by simp[Loc.blks])⟩
theorem PZ{gl:List (Nat×(t:Ty)×List t.den)}
  (hC:∀(s:ByteArray) (c:UInt8) (w:World),Calls P f #[.string s,.string ⟨#[c]⟩] w λe w' =>e= .returned (.bool (decide (0<=Lib.indexByte s.data.toList c)))/\w' =w):
  ik P gl f ⟨[(false,.dat .str),(false,.dat .str)],[(false,.dat .bool)],[],λx=>xg x.1 x.2⟩:=by
 intro w ok O vals x r hlt _ _ _ hrel hdv hfn;obtain⟨v,cs,vs',O1,O2,rfl,rfl,h1,⟨h2,rfl⟩,v2,cs2,rfl,h3,h4,rfl⟩:=hrel;have h1:cs=[v]:=h1;subst h1;have h3:cs2=[v2]:=h3;subst h3;have h2:[v]=[.string ⟨x.1.toArray⟩]:=h2;have h4:[v2]=[.string ⟨x.2.toArray⟩]:=h4;obtain rfl:=(U0 h2).1;obtain rfl:=(U0 h4).1;simp only[xg]at hfn;split at hfn
 .rename_i c hx;cases hfn;rw[hx];refine(hC ⟨x.1.toArray⟩ c w).mono λe w' ⟨he,hw⟩=>?_;subst he;subst hw;exact En (P:=P) (t:=.bool) (x:=decide (0<=Lib.indexByte x.1 c)) (ps:=[(false,.dat .str),(false,.dat .str)]) (vals:=[_,_]) ⟨rfl,rfl,rfl,A7 _,λ_ _=>rfl⟩ hlt ⟨rfl,rfl⟩ rfl
 .cases hfn
def Bz{α:Type}(xs:List α):Option (List α):=dB [] xs
theorem XJ{E:Env}{f:FuncId}{fn:Func}{c:Code}{t:Ty}(hf:P.funcs[f]? =some fn)(hb:fn.body=some c)(hnt:fn.ntmps=E.nt)(hres:fn.results.toList=[.tmp 2])(hE:EnvOk P E)
  (h0:∀b,a2x E [(false,.cell (some (some b)))] ⟨[(.tmp 2,(false,.own t))],[]⟩ c .leaf ()=some [])
  (h2:∀xs,a2x E [(false,.dat (.sl t))] ⟨[(.tmp 2,(false,.own t))],[]⟩ c .leaf xs=l7 (D6 (x8 xs) 0) none (l9 (dB [] xs) λz=>some z))
  (ht:t.isEnt=false:=by rfl):
  ik P E.gl f ⟨[(false,.dat (.sl t))],[(false,.own t)],[],λxs=>Bz xs⟩:=by
 intro w ok O vals x r hlt hnd hO hgl hrel hdv hfn;obtain⟨v,cs,rfl,h1,hr,rfl⟩:=hrel;have h1:cs=[v]:=h1;subst h1;cases x with
 |nil=>
  obtain⟨a,cap,e,_,_⟩:=(xQ ht).1 hr;have e:v= .slice a 0 cap:=(U0 e).1;have hr:r=[]:=by
   have:some ([]:List t.den)=some r:=by simpa[Bz,dB]using hfn
   exact(bD this).symm
  subst hr;exact Kt (ps:=[(false,.cell (some (some a.isNone)))]) (rt:=⟨[(.tmp 2,(false,.own t))],[]⟩) (F:=λ_=>some []) hf hb hnt hres hE (λx r h=>by cases h;exact h0 a.isNone) w ok [] [v] () [] hlt hnd hO hgl
   ⟨v,[v],rfl,rfl,v,rfl,by subst e;rfl,(λh=>nomatch h),(λb h=>by cases h;exact⟨a,cap,e,rfl⟩),rfl⟩ trivial rfl
 |cons z zs=>
  exact Kt (ps:=[(false,.dat (.sl t))]) (rt:=⟨[(.tmp 2,(false,.own t))],[]⟩) (F:=λxs=>l7 (D6 (x8 xs) 0) none (l9 (dB [] xs) λz=>some z)) hf hb hnt hres hE (λx r h=>(h2 x).trans h) w ok [] [v] (z::zs) r hlt hnd hO hgl
   ⟨v,[v],rfl,rfl,hr,rfl⟩ trivial (by
    have h3:D6 (x8 (z::zs)) 0=false:=by simp only[D6,x8,D9];exact decide_eq_false o5
    have h4:dB [] (z::zs)=some r:=hfn;show l7 (D6 (x8 (z::zs)) 0) none (l9 (dB [] (z::zs)) λz=>some z)=some r;rw[h3,h4];rfl)
end Go.GP
namespace Go.GP
open Go.Shelf Go.RowKit Go.Proofs
structure OthB (w w' :World) (ks:List Nat):Prop where
 os:w'.os=w.os
 tape:w'.tape=w.tape
 output:w'.output=w.output
 size:w.heap.size<=w'.heap.size
 block:∀k,k<w.heap.size->k∉ks->w'.heap[k]? =w.heap[k]?
theorem OthB.trans{a b c:World}{ks:List Nat}(h:OthB a b ks)(k:OthB b c ks):OthB a c ks:=
 ⟨k.os.trans h.os,k.tape.trans h.tape,k.output.trans h.output,P8 h.size k.size,λi hi hn=>(k.block i (iD hi h.size) hn).trans (h.block i hi hn)⟩
variable {xs:List UInt8}{l:Loc}
theorem a6e{h:Array Obj}{te:Nat}(hr:yQ h te xs l):∀b∈l.blks,b<h.size:=by
 intro b hb;cases l with
 |nil=>simp[Loc.blks]at hb|st b=>cases hr|mp b=>cases hr|arr g off len cap sz=>simp[Loc.blks]at hb;subst hb;obtain⟨_,_,_,_,_,cur,fz,h6,_⟩:=hr;exact(N8.1 h6).1
variable {w:World}
theorem ZK{P:Program}{t u ty e:TypeId}{i:TypeInfo}(ht:P.underlying t=some (.slice e))(hu:P.underlying u=some .string)(hi:P.info? e=some i)(hz:i.zero=some (.int .u8 0))
  (hsize:i.size=1) (hby:i.bytes=1) {v:Value} {l:Loc} {xs ys:List UInt8} (hv:l.view none v) (hr:yQ w.heap e xs l) (hmax:xs.length+ys.length<=140737488355328):
  ∃v' w' l',(Builtin.append_ #[t,u] ty #[v,.string ⟨ys.toArray⟩]).run P w= .ok v' w' /\l'.view none v' /\yQ w'.heap e (xs++ys) l' /\(∀b∈l'.blks,b∈l.blks\/w.heap.size<=b)/\OthB w w' l.blks:=by
 have hys:(⟨ys.toArray⟩:ByteArray).size=ys.length:=by simp[ByteArray.size]
 have hsc:Lib.strCells ⟨ys.toArray⟩=ys.map λc=>Value.int .u8 (c.toNat:Int):=rfl;have hback:∀{B:Nat} {h:Array Obj} {w' :World} {v' :Value} {zs:List UInt8} {n:Nat},n=zs.length->w'.ownsRowF B e 1 v' n (zs.map λc=>Value.int .u8 (c.toNat:Int))->∃l',l'.view none v' /\yQ w'.heap e zs l' /\∀b∈l'.blks,B<=b:=by
  intro B h w' v' zs n hn ho;rcases ho.2 with⟨rfl,h0⟩|⟨g,cap,cur,fz,rfl,hB,hg,hfz,hc,hcm,hcs,htk⟩
  .exact⟨.nil,rfl,(Z7.1 (hn▸h0)),λb hb=>by simp[Loc.blks]at hb⟩
  .exact⟨.arr g 0 n cap 1,rfl,⟨rfl,rfl,hn,hc,hcm,cur,fz,hg,o5,o5,by rw[dG]at htk;exact htk⟩,λb hb=>by simp[Loc.blks]at hb;subst hb;exact hB⟩
 cases l with
 |st b=>cases hr|mp b=>cases hr|nil=>have hr:xs=[]:=hr;subst hr;have hv:v= .slice none 0 0:=hv;subst hv;obtain⟨v',w',h1,h2,h3,h4⟩:=Lib.run_append_own_stringF (P:=P) w w.heap.size t u ty e i ht hu hi hz hsize hby (.slice none 0 0) 0 [] ⟨rfl,.inl ⟨rfl,rfl⟩⟩ ⟨ys.toArray⟩ (by rw[hys];simp at hmax;unfold maxLen;omega) (by rw[hys];simpa using hmax) (A7 _);rw[hsc,H9,hys,dH]at h2;obtain⟨l',g1,g2,g3⟩:=hback (h:=w'.heap) rfl h2;exact⟨v',w',l',h1,g1,by simpa using g2,λb hb=> .inr (g3 b hb),⟨h3.os,h3.tape,h3.output,h3.size,λk hk _=>h3.block k hk (by simp[Value.ownBlock])⟩⟩
 |arr g off len cap sz=>
  obtain⟨rfl,rfl,rfl,hc,hcm,cur,fz,hg,hfz,hcs,htk⟩:=hr;have hv:v= .slice (some ⟨g,0,none⟩) xs.length cap:=hv;subst hv;by_cases hroom:xs.length+ys.length<=cap
  .have hrun:=Lib.run_append_room_stringF (P:=P) w t u ty e i ht hu hi hsize g xs.length cap cur fz hg hfz ⟨ys.toArray⟩ (by rw[hys];exact hroom) (by rw[hys];omega);rw[hys,hsc]at hrun;refine⟨_,_,.arr g 0 (xs.length+ys.length) cap 1,hrun,rfl,⟨rfl,rfl,D5,hroom,hcm,_,fz,setRow_heap w g cur _ e _ hg,o5,?_,?_⟩,λb hb=> .inl hb,⟨rfl,rfl,rfl,D5,λk _ hk=>setRow_other w g k _ (λe=>hk (by simp[Loc.blks,e]))⟩⟩
   .simp only[aK,E8,aX,aC,aI,P6];omega
   .rw[htk,F7,←F7,←ed];rw[show xs.length+ys.length=((xs++ys).map λc=>Value.int .u8 (c.toNat:Int)).length by simp];exact gY
  .have holds:∀(j:Nat) (u:Value),(xs.map λc=>Value.int .u8 (c.toNat:Int))[j]? =some u->w.cell? ((⟨g,0,none⟩:Addr).add j)=some u:=λj u hj=>by
    have ho:w.ownsRowF 0 e 1 (.slice (some ⟨g,0,none⟩) xs.length cap) xs.length (xs.map λc=>Value.int .u8 (c.toNat:Int)):=⟨D5,.inr ⟨g,cap,cur,fz,rfl,aU _,hg,o5,hc,hcm,o5,by rw[dG];exact htk⟩⟩;exact ho.cells (g:=g) rfl j u hj
   have hrun:=Lib.run_append_grow_string (P:=P) w t u ty e i (.int .u8 0) ht hu hi hz ⟨g,0,none⟩ xs.length cap (xs.map λc=>Value.int .u8 (c.toNat:Int)) (by rw[hsize];simp) holds ⟨ys.toArray⟩ (by rw[hys];omega) (by rw[hys];omega) (by rw[hby,hys];exact growslice_fits o5 o5);rw[hys,hsc]at hrun;have hge:=grownCap_ge w (xs.length+ys.length) cap e;have hcm2:grownCap w (xs.length+ys.length) cap e<=maxLen:=grownCap_le_maxLen w (xs.length+ys.length) cap e (by unfold maxLen;omega);refine⟨_,_,.arr w.heap.size 0 (xs.length+ys.length) _ 1,hrun,rfl,⟨rfl,rfl,D5,hge,hcm2,_,(0,0),heap_alloc_new w.drew _,aU _,?_,?_⟩,λb hb=> .inr (by simp[Loc.blks]at hb;omega),⟨rfl,rfl,rfl,D5,λk hk _=>heap_alloc_old w.drew _ hk⟩⟩
   .have hz1:(Value.int IntKind.u8 0).cells.size=1:=rfl;simp only[Array.size_append,aK,size_zeroCells,hz1,P6];omega
   .simp only[Array.toList_append,F7];rw[←F7,←ed];rw[show xs.length+ys.length=((xs++ys).map λc=>Value.int .u8 (c.toNat:Int)).length by simp];exact gY
theorem ZM{P:Program}{ops:Array Oper}{rest:List Oper}{o:Oper}{a:Act}{Q:Exit->Act->World->Prop}{w:World}(hgd:o.guard=none)(sl x:Operand)(t u:TypeId)
  (ho:o.op= .call { callee:=.builtin .append,args:=#[sl,x],argTypes:=#[t,u] }) {e:TypeId} {i:TypeInfo} (ht:P.underlying t=some (.slice e)) (hu:P.underlying u=some .string) (hi:P.info? e=some i) (hz:i.zero=some (.int .u8 0))
  (hsize:i.size=1) (hby:i.bytes=1) {v:Value} {l:Loc} {xs ys:List UInt8} (hs:a.eval sl=v) (hx:a.eval x= .string ⟨ys.toArray⟩) (hv:l.view none v) (hr:yQ w.heap e xs l) (hmax:xs.length+ys.length<=140737488355328)
  (h:∀v' w' l',l'.view none v' ->yQ w'.heap e (xs++ys) l' ->(∀b∈l'.blks,b∈l.blks\/w.heap.size<=b)->OthB w w' l.blks->wpList P ops Q rest (a.put o.dst v') w'):wpList P ops Q (o::rest) a w:=by
 refine wpList_plain hgd λK hK=>?_;obtain⟨v',w',l',h1,h2,h3,h4,h5⟩:=ZK (ty:=o.type) ht hu hi hz hsize hby hv hr hmax;unfold Oper.wp execOp;simp only[ho,resolve,invoke,builtin,I4,V9,I5,List.map_toArray,dL,jV,hs,hx,h1];exact hK _ _ (h v' w' l' h2 h3 h4 h5)
variable {P:Program} {ρ:Ren}
set_option maxHeartbeats 2000000 in
set_option maxRecDepth 100000 in
set_option maxHeartbeats 2000000 in
set_option maxRecDepth 100000 in
theorem a7W(L:Lays.n170 P ρ){b:Nat}{a v:Value}(hb:w.heap[b]? =some (.cells #[a,v] (ρ.t 72) (0,0)))(hv:l.view none v)(hr:yQ w.heap (ρ.t 5) xs l):
  Calls P (ρ.f 170) #[.pointer (some ⟨b,0,none⟩)] w λe w' =>e= .returned (.int .i64 xs.length)/\w' =w:=by
 obtain⟨ao,cap,rfl⟩:∃ao cap,v= .slice ao xs.length cap:=by
  cases l with
  |nil=>have h:xs=[]:=hr;subst h;exact⟨_,_,hv⟩|st _=>cases hr|mp _=>cases hr|arr g off len cap sz=>obtain⟨_,_,rfl,_⟩:=hr;exact⟨_,_,hv⟩
 have c1:w.cell? ⟨b,1,none⟩=some (.slice ao xs.length cap):=by rw[Lib.cell_of_heap hb];rfl
 have mixed:=L.mixed;have t72:=L.t72;have a72:=L.a72;have z72:=L.z72;have v72:=L.v72;have u72:=run_underlying L.t72;have t70:=L.t70;have a70:=L.a70;have z70:=L.z70;have v70:=L.v70;have u70:=run_underlying L.t70;have t37:=L.t37;have a37:=L.a37;have z37:=L.z37;have v37:=L.v37;have u37:=run_underlying L.t37;have t3:=L.t3;have a3:=L.a3;have z3:=L.z3;have v3:=L.v3;have u3:=run_underlying L.t3
 go_enter L.f170,Body.n170_ntmps ρ
 go_wp2
 go_ret
 exact⟨rfl,rfl⟩
set_option maxHeartbeats 2000000 in
set_option maxRecDepth 100000 in
theorem ZL(L:Lays.n169 P ρ)(X:Builder.Extra P ρ){b:Nat}{p v:Value}(hb:w.heap[b]? =some (.cells #[p,v] (ρ.t 72) (0,0)))
  (hv:l.view none v) (hr:yQ w.heap (ρ.t 5) xs l) (hlen:xs.length<=140737488355328) (hnb:b∉l.blks):
  Calls P (ρ.f 169) #[.pointer (some ⟨b,0,none⟩)] w λe w' =>e= .returned (.string ⟨xs.toArray⟩)/\w'.heap[b]? =some (.cells #[p,v] (ρ.t 72) (0,0))/\yQ w'.heap (ρ.t 5) xs l/\OthB w w' l.blks:=by
 have mixed:=L.mixed;have t72:=L.t72;have a72:=L.a72;have z72:=L.z72;have v72:=L.v72;have u72:=run_underlying L.t72;have t70:=L.t70;have a70:=L.a70;have z70:=L.z70;have v70:=L.v70;have u70:=run_underlying L.t70;have t37:=L.t37;have a37:=L.a37;have z37:=L.z37;have v37:=L.v37;have u37:=run_underlying L.t37;have t127:=L.t127;have a127:=L.a127;have z127:=L.z127;have v127:=L.v127;have u127:=run_underlying L.t127;have t3:=L.t3;have a3:=L.a3;have z3:=L.z3;have v3:=L.v3;have u3:=run_underlying L.t3;have t9:=L.t9;have a9:=L.a9;have z9:=L.z9;have v9:=L.v9;have u9:=run_underlying L.t9;have t5:=X.t5;have a5:=X.a5;have z5:=X.z5;have v5:=X.v5;have u5:=run_underlying X.t5;have hlt:b<w.heap.size:=(N8.1 hb).1;have c1:w.drew.cell? ⟨b,1,none⟩=some v:=by have:w.drew.heap[b]? =some (.cells #[p,v] (ρ.t 72) (0,0)):=hb;rw[Lib.cell_of_heap this];rfl
 have hdrew:OthB w w.drew l.blks:=⟨rfl,rfl,rfl,A7 _,λ_ _ _=>rfl⟩;cases l with
 |st _=>cases hr|mp _=>cases hr|nil=>
  have hx:xs=[]:=hr;subst hx;have hv:v= .slice none 0 0:=hv;subst hv;have hUS:=Any.unsafeString_none L X;have hSD:(Builtin.unsafeSliceData_ #[(ρ.t 37)] (ρ.t 127) #[.slice none 0 0]).run P w.drew= .ok (.pointer none) w.drew:=rfl
  go_enter L.f169,Body.n169_ntmps ρ
  go_wp2
  go_region_o
  all_goals (go_wp2;go_ret;exact⟨rfl,hb,rfl,hdrew⟩)
 |arr g off len cap sz=>
  have hr0:=hr;obtain⟨rfl,rfl,rfl,hc,hcm,cur,fz,hg,hfz,hcs,htk⟩:=hr;have hv:v= .slice (some ⟨g,0,none⟩) xs.length cap:=hv;subst hv;have hgd:w.drew.heap[g]? =some (.cells cur (ρ.t 5) fz):=hg;by_cases hx0:xs=[]
  .subst hx0;have hUS:=Any.unsafeString_none L X;by_cases hc0:cap=0
   .subst hc0;have hSD:(Builtin.unsafeSliceData_ #[(ρ.t 37)] (ρ.t 127) #[.slice (some ⟨g,0,none⟩) 0 0]).run P w.drew= .ok (.pointer (some ⟨w.drew.heap.size,0,none⟩)) (w.drew.alloc (.view ⟨g,0,none⟩ (ρ.t 5))):=
     Lib.run_unsafeSliceData_zero w.drew _ _ (ρ.t 5) L.t127 ⟨g,0,none⟩ 0 ((ρ.t 5),cur.size) (by simp[World.shape?,hgd])
    have hal:(w.drew.alloc (.view ⟨g,0,none⟩ (ρ.t 5))).heap[b]? =some (.cells #[p,.slice (some ⟨g,0,none⟩) 0 0] (ρ.t 72) (0,0)):=(heap_alloc_old w.drew _ hlt).trans hb;have c2:(w.drew.alloc (.view ⟨g,0,none⟩ (ρ.t 5))).cell? ⟨b,1,none⟩=some (.slice (some ⟨g,0,none⟩) 0 0):=by rw[Lib.cell_of_heap hal];rfl
    have c3:(w.alloc (.view ⟨g,0,none⟩ (ρ.t 5))).drew.cell? ⟨b,1,none⟩=some (.slice (some ⟨g,0,none⟩) 0 0):=c2;have c0:w.cell? ⟨b,1,none⟩=some (.slice (some ⟨g,0,none⟩) 0 0):=c1;have hglt:g<w.heap.size:=(N8.1 hg).1;have fin:∀w',w' =w.drew.alloc (.view ⟨g,0,none⟩ (ρ.t 5))->w'.heap[b]? =some (.cells #[p,.slice (some ⟨g,0,none⟩) 0 0] (ρ.t 72) (0,0))/\yQ w'.heap (ρ.t 5) [] (.arr g 0 0 0 1)/\OthB w w' [g]:=λw' e=>by subst e;exact⟨hal,CS (λk hk=>by simp[Loc.blks]at hk;subst hk;exact heap_alloc_old w.drew _ hglt) hr0,⟨rfl,rfl,rfl,D5,λk hk _=>heap_alloc_old w.drew _ hk⟩⟩
    go_enter L.f169,Body.n169_ntmps ρ
    go_wp2
    go_region_o
    all_goals (go_wp2;go_ret;exact⟨rfl,fin _ rfl⟩)
   .have hSD:(Builtin.unsafeSliceData_ #[(ρ.t 37)] (ρ.t 127) #[.slice (some ⟨g,0,none⟩) 0 cap]).run P w.drew= .ok (.pointer (some ⟨g,0,none⟩)) w.drew:=
     Lib.run_unsafeSliceData_row _ _ _ _ _ _ hc0
    clear hc0
    go_enter L.f169,Body.n169_ntmps ρ
    go_wp2
    go_region_o
    all_goals (go_wp2;go_ret;exact⟨rfl,hb,hr0,hdrew⟩)
  .have hl0:xs.length≠0:=by simpa using hx0
   have hSD:(Builtin.unsafeSliceData_ #[(ρ.t 37)] (ρ.t 127) #[.slice (some ⟨g,0,none⟩) xs.length cap]).run P w.drew= .ok (.pointer (some ⟨g,0,none⟩)) w.drew:=
    Lib.run_unsafeSliceData_row _ _ _ _ _ _ o5
   have hown:w.ownsRowF 0 (ρ.t 5) 1 (.slice (some ⟨g,0,none⟩) xs.length cap) xs.length (xs.map λc=>Value.int .u8 (c.toNat:Int)):=⟨D5,.inr ⟨g,cap,cur,fz,rfl,aU _,hg,o5,hc,hcm,o5,by rw[dG];exact htk⟩⟩;have hUS:(Builtin.unsafeString_ #[(ρ.t 127),(ρ.t 3)] (ρ.t 9) #[.pointer (some ⟨g,0,none⟩),.int .i64 xs.length]).run P w.drew= .ok (.string ⟨xs.toArray⟩) (w.drew.freeze ⟨g,0,none⟩ xs.length):=by refine Lib.run_unsafeString_row w.drew (ρ.t 127) (ρ.t 3) (ρ.t 9) (ρ.t 5) L.t127 X.cellsByte g cur.size (by simp[World.shape?,hgd]) xs hx0 o5 (by unfold maxLen at hcm;omega) ?_;intro j x hx;exact hown.cells (g:=g) rfl j (.int .u8 x.toNat) (by simp[hx])
   have hA:Lib.BuilderAtF (ρ.t 72) (ρ.t 5) 0 b p (Lib.byteCells xs) w.drew:=⟨aU _,_,hb,by rw[Lib.byteCells_length];exact hown,λe=>hnb (by simp[Loc.blks];simpa[Value.ownBlock]using e.symm)⟩;have hF:=hA.froze (g:=g) (cap:=cap) (by rw[Lib.byteCells_length];exact c1);rw[Lib.byteCells_length]at hF;have hgb:b≠g:=λe=>hnb (by simp[Loc.blks,e]);have fin:∀w',w' =w.drew.freeze ⟨g,0,none⟩ xs.length->w'.heap[b]? =some (.cells #[p,.slice (some ⟨g,0,none⟩) xs.length cap] (ρ.t 72) (0,0))/\yQ w'.heap (ρ.t 5) xs (.arr g 0 xs.length cap 1)/\OthB w w' [g]:=λw' e=>by
    subst e;obtain⟨_,v2,hb2,ho2,_⟩:=hF;have ho:∀k,k≠g->(w.drew.freeze ⟨g,0,none⟩ xs.length).heap[k]? =w.heap[k]?:=λk hk=>by
     unfold World.freeze;split
     .rfl
     .simp only[lG];rw[if_neg (λe=>hk e.symm)];rfl
    have hbb:=ho b hgb;rw[hb2,hb]at hbb;simp only[F8,Obj.cells.injEq,and_true,Array.mk.injEq,G8,true_and]at hbb;have hv2:v2= .slice (some ⟨g,0,none⟩) xs.length cap:=by simpa using hbb
    subst hv2;refine⟨hb2,?_,⟨by unfold World.freeze;split<;>rfl,by unfold World.freeze;split<;>rfl,by unfold World.freeze;split<;>rfl,?_,λk _ hk=>ho k (by simpa using hk)⟩⟩
    .rw[Lib.byteCells_length]at ho2;rcases ho2.2 with⟨h,_⟩|⟨g',cap',cur',fz',e,_,h1,h2,h3,h4,h5,h6⟩
     .cases h
     .simp only[pX,F8,iK,and_true]at e;obtain⟨rfl,_,rfl⟩:=e;exact⟨rfl,rfl,rfl,h3,h4,cur',fz',h1,o5,o5,by rw[dG]at h6;exact h6⟩
    .unfold World.freeze;split<;>simp
   go_enter L.f169,Body.n169_ntmps ρ
   go_wp2
   go_region_o
   all_goals (go_wp2;go_ret;exact⟨rfl,fin _ rfl⟩)
def iq(x ys:List UInt8):Option (Int×Unit×List UInt8):=if x.length+ys.length<=1073741824 then some (ys.length,(),x++ys)else none
def Lj(x:List UInt8):Option (Int×List UInt8):=some (x.length,x)
def vC(x:List UInt8):Option (List UInt8×List UInt8):=if x.length<=1073741824 then some (x,x)else none
theorem ZO{gl:List (Nat×(t:Ty)×List t.den)}(L:Lays.n170 P ρ):
  ik P gl (ρ.f 170) ⟨[(false,.sbx (ρ.t 72) (ρ.t 5))],[(false,.dat (.int .i64))],[(false,.sbx (ρ.t 72) (ρ.t 5))],λx=>Lj x⟩:=by
 intro w ok O vals xs r hok hO hO2 hgl hrel hdv hF;have hF:some ((xs.length:Int),xs)=some r:=hF;cases hF;obtain⟨v0,cs0,rfl,hg,h1⟩:=hrel;have hg:cs0=[v0]:=hg;subst hg;obtain⟨b,a,v,l,e,hb,ha,hv,hr,rfl⟩:=h1;simp only[G8,and_true]at e;subst e;refine(a7W L hb hv hr).mono ?_;rintro e w' ⟨rfl,rfl⟩;refine⟨_,ok,b::l.blks,[.int .i64 xs.length],[.pointer (some ⟨b,0,none⟩)],[],rfl,Frame'.refl _ _,λ_ _ h=>h,λk t hk=>⟨hok k t hk,.inl hk⟩,by simpa using hO,λk hk=>?_,⟨rfl,rfl⟩,⟨_,rfl,rfl,rfl⟩,?_⟩
 .rw[E5]at hk;exact⟨(hO2 k hk).1,(hO2 k hk).2,.inr hk⟩
 .refine⟨.int .i64 xs.length,[.int .i64 xs.length],[.pointer (some ⟨b,0,none⟩)],[],b::l.blks,rfl,rfl,rfl,⟨rfl,rfl⟩,?_⟩;exact⟨_,_,rfl,rfl,⟨b,a,v,l,rfl,hb,ha,hv,hr,rfl⟩⟩
theorem Ui{gl:List (Nat×(t:Ty)×List t.den)}(L:Lays.n169 P ρ)(X:Builder.Extra P ρ):
  ik P gl (ρ.f 169) ⟨[(false,.sbx (ρ.t 72) (ρ.t 5))],[(false,.dat .str)],[(false,.sbx (ρ.t 72) (ρ.t 5))],λx=>vC x⟩:=by
 intro w ok O vals xs r hok hO hO2 hgl hrel hdv hF;have hF:vC xs=some r:=hF;unfold vC at hF;split at hF
 case isFalse=>cases hF
 rename_i hmax;cases hF;obtain⟨v0,cs0,rfl,hg,h1⟩:=hrel;have hg:cs0=[v0]:=hg;subst hg;obtain⟨b,a,v,l,e,hb,ha,hv,hr,rfl⟩:=h1;simp only[G8,and_true]at e;subst e;have hnd:(b::l.blks).Nodup:=by simpa using hO
 refine(ZL L X hb hv hr o5 (eG.1 hnd).1).mono ?_;rintro e w' ⟨rfl,hb',hr',ho⟩;refine⟨_,ok,b::l.blks,[.string ⟨xs.toArray⟩],[.pointer (some ⟨b,0,none⟩)],[],rfl,⟨ho.os,ho.tape,ho.output,ho.size,λk hk hn=>ho.block k hk (λh=>hn (by simp[h]))⟩,λ_ _ h=>h,λk t hk=>⟨iD (hok k t hk) ho.size,.inl hk⟩,by simpa using hO,λk hk=>?_,⟨rfl,rfl⟩,⟨_,rfl,rfl,rfl⟩,?_⟩
 .rw[E5]at hk;exact⟨(hO2 k hk).1,iD (hO2 k hk).2 ho.size,.inr hk⟩
 .refine⟨.string ⟨xs.toArray⟩,[.string ⟨xs.toArray⟩],[.pointer (some ⟨b,0,none⟩)],[],b::l.blks,rfl,rfl,rfl,⟨rfl,rfl⟩,?_⟩;exact⟨_,_,rfl,rfl,⟨b,a,v,l,rfl,hb',ha,hv,hr',rfl⟩⟩
end Go.GP
namespace Go.GP
open Go.ChangeShapes Go.WideShapes Go.RowKit
def xh(s p:List UInt8):Option Bool:=some (Lib.hasPrefix s p)
def DN(s:List UInt8)(c:Int):Option Int:=some (Lib.indexByte s c.toNat.toUInt8)
def Kq(s:List UInt8):Bool:=s.all λb=>Nat.blt b.toNat 128
def wG(s c:List UInt8):Option Int:=bif Nat.blt s.length 4294967281&&Nat.blt c.length 4294967281&&Kq s&&Kq c then some (Lib.indexAny s c)else none
theorem b3d{h:Array Obj}{ok:Nat->Ty->Prop}{vals:List Value}{O:List Nat}{x:List UInt8×List UInt8}(hrel:sZ h ok [(false,.dat .str),(false,.dat .str)] x vals O):vals=[.string ⟨x.1.toArray⟩,.string ⟨x.2.toArray⟩]/\O=[]:=by obtain⟨v,cs,vs',O1,O2,rfl,rfl,h1,⟨h2,rfl⟩,v2,cs2,rfl,h3,h4,rfl⟩:=hrel;have h1:cs=[v]:=h1;subst h1;have h3:cs2=[v2]:=h3;subst h3;have h2:[v]=[.string ⟨x.1.toArray⟩]:=h2;have h4:[v2]=[.string ⟨x.2.toArray⟩]:=h4;obtain rfl:=(U0 h2).1;obtain rfl:=(U0 h4).1;exact⟨rfl,rfl⟩
variable {P:Program}{f:Nat}
theorem Qb{gl:List (Nat×(t:Ty)×List t.den)}
  (hC:∀(s p:ByteArray) (w:World),Calls P f #[.string s,.string p] w λe w' =>e= .returned (.bool (Lib.hasPrefix s.data.toList p.data.toList))/\w' =w):
  ik P gl f ⟨[(false,.dat .str),(false,.dat .str)],[(false,.dat .bool)],[],λx=>xh x.1 x.2⟩:=by
 intro w ok O vals x r hlt _ _ _ hrel hdv hfn;obtain⟨rfl,rfl⟩:=b3d hrel;cases hfn;refine(hC ⟨x.1.toArray⟩ ⟨x.2.toArray⟩ w).mono λe w' ⟨he,hw⟩=>?_;subst he;subst hw;exact En (P:=P) (t:=.bool) (x:=Lib.hasPrefix x.1 x.2) (ps:=[(false,.dat .str),(false,.dat .str)]) (vals:=[_,_]) ⟨rfl,rfl,rfl,A7 _,λ_ _=>rfl⟩ hlt ⟨rfl,rfl⟩ rfl
theorem Qc{gl:List (Nat×(t:Ty)×List t.den)}
  (hC:∀(s:ByteArray) (c:Int) (w:World),Calls P f #[.string s,.int .u8 c] w λe w' =>e= .returned (.int .i64 (Lib.indexByte s.data.toList c.toNat.toUInt8))/\w' =w):
  ik P gl f ⟨[(false,.dat .str),(false,.dat (.int .u8))],[(false,.dat (.int .i64))],[],λx=>DN x.1 x.2⟩:=by
 intro w ok O vals x r hlt _ _ _ hrel hdv hfn;obtain⟨v,cs,vs',O1,O2,rfl,rfl,h1,⟨h2,rfl⟩,v2,cs2,rfl,h3,h4,rfl⟩:=hrel;have h1:cs=[v]:=h1;subst h1;have h3:cs2=[v2]:=h3;subst h3;have h2:[v]=[.string ⟨x.1.toArray⟩]:=h2;have h4:[v2]=[.int .u8 x.2]:=h4;obtain rfl:=(U0 h2).1;obtain rfl:=(U0 h4).1;cases hfn;refine(hC ⟨x.1.toArray⟩ x.2 w).mono λe w' ⟨he,hw⟩=>?_;subst he;subst hw;exact En (P:=P) (t:=.int .i64) (x:=Lib.indexByte x.1 x.2.toNat.toUInt8) (ps:=[(false,.dat .str),(false,.dat (.int .u8))]) (vals:=[_,_]) ⟨rfl,rfl,rfl,A7 _,λ_ _=>rfl⟩ hlt ⟨rfl,rfl⟩ rfl
theorem OZ{s:List UInt8}(h:Kq s=true):∀(j:Nat) b,s[j]? =some b->b.toNat<128:=λj b hb=>by have:=kC.1 h b (wJ hb);rwa[cZ]at this
theorem RZ{gl:List (Nat×(t:Ty)×List t.den)}
  (hC:∀(s c:ByteArray) (w:World),s.size<4294967281->c.size<4294967281->(∀(j:Nat) b,s.data.toList[j]? =some b->b.toNat<128)->(∀(j:Nat) b,c.data.toList[j]? =some b->b.toNat<128)->
   Calls P f #[.string s,.string c] w λe w' =>e= .returned (.int .i64 (Lib.indexAny s.data.toList c.data.toList))/\Below w.heap.size w w'):
  ik P gl f ⟨[(false,.dat .str),(false,.dat .str)],[(false,.dat (.int .i64))],[],λx=>wG x.1 x.2⟩:=by
 intro w ok O vals x r hlt _ _ _ hrel hdv hfn;obtain⟨rfl,rfl⟩:=b3d hrel;simp only[wG]at hfn;cases hc:(Nat.blt x.1.length 4294967281&&Nat.blt x.2.length 4294967281&&Kq x.1&&Kq x.2)
 .rw[hc]at hfn;cases hfn
 .rw[hc]at hfn;cases hfn;simp only[A8,cZ]at hc;obtain⟨⟨⟨h1,h2⟩,h3⟩,h4⟩:=hc;refine(hC ⟨x.1.toArray⟩ ⟨x.2.toArray⟩ w (by simpa[ByteArray.size]using h1) (by simpa[ByteArray.size]using h2) (OZ h3) (OZ h4)).mono λe w' ⟨he,hw⟩=>?_;subst he;exact En (P:=P) (t:=.int .i64) (x:=Lib.indexAny x.1 x.2) (ps:=[(false,.dat .str),(false,.dat .str)]) (vals:=[_,_]) hw hlt ⟨rfl,rfl⟩ rfl
end Go.GP
namespace Go.GP
open Go.Shelf Go.RowKit Go.Proofs
structure Lw (P:Program) (ρ:Ren):Prop where
 mixed:P.follows Departure.mixedOrders=true
 f166:P.funcs[ρ.f 166]? =some (Body.n166 ρ)
 t72:P.underlying (ρ.t 72)=some (.struct #[{ name:= "addr",type:=ρ.t 70,offset:=0,embedded:=false,tag:= "",pkgPath:= "strings",byteOffset:=0 },{ name:= "buf",type:=ρ.t 37,offset:=1,embedded:=false,tag:= "",pkgPath:= "strings",byteOffset:=8 }])
 a72:∀w:World,(isAgg (ρ.t 72)).run P w= .ok true w
 z72:∀w:World,(sizeOf (ρ.t 72)).run P w= .ok 2 w
 v72:∀w:World,(zeroValue (ρ.t 72)).run P w= .ok (.agg #[.pointer none,.slice none 0 0]) w
 t70:P.underlying (ρ.t 70)=some (.pointer (ρ.t 72))
 a70:∀w:World,(isAgg (ρ.t 70)).run P w= .ok false w
 z70:∀w:World,(sizeOf (ρ.t 70)).run P w= .ok 1 w
 v70:∀w:World,(zeroValue (ρ.t 70)).run P w= .ok (.pointer none) w
 t37:P.underlying (ρ.t 37)=some (.slice (ρ.t 5))
 a37:∀w:World,(isAgg (ρ.t 37)).run P w= .ok false w
 z37:∀w:World,(sizeOf (ρ.t 37)).run P w= .ok 1 w
 v37:∀w:World,(zeroValue (ρ.t 37)).run P w= .ok (.slice none 0 0) w
 t3:P.underlying (ρ.t 3)=some (.int .i64)
 a3:∀w:World,(isAgg (ρ.t 3)).run P w= .ok false w
 z3:∀w:World,(sizeOf (ρ.t 3)).run P w= .ok 1 w
 v3:∀w:World,(zeroValue (ρ.t 3)).run P w= .ok (.int .i64 0) w
 t9:P.underlying (ρ.t 9)=some (.string)
 a9:∀w:World,(isAgg (ρ.t 9)).run P w= .ok false w
 z9:∀w:World,(sizeOf (ρ.t 9)).run P w= .ok 1 w
 v9:∀w:World,(zeroValue (ρ.t 9)).run P w= .ok (.string ⟨#[]⟩) w
 t4:P.underlying (ρ.t 4)=some (.bool)
 a4:∀w:World,(isAgg (ρ.t 4)).run P w= .ok false w
 z4:∀w:World,(sizeOf (ρ.t 4)).run P w= .ok 1 w
 v4:∀w:World,(zeroValue (ρ.t 4)).run P w= .ok (.bool false) w
 t164:P.underlying (ρ.t 164)=some (.unsafePointer)
 a164:∀w:World,(isAgg (ρ.t 164)).run P w= .ok false w
 z164:∀w:World,(sizeOf (ρ.t 164)).run P w= .ok 1 w
 v164:∀w:World,(zeroValue (ρ.t 164)).run P w= .ok (.pointer none) w
 e240:∀args w,(callFunc (ρ.f 240) args).run P w= .ok (.enter (ρ.f 240) args) w
 used:∀(b:Nat) (w:World),w.cell? ⟨b,0,none⟩=some (.pointer (some ⟨b,0,none⟩))->Calls P (ρ.f 240) #[.pointer (some ⟨b,0,none⟩)] w λe w' =>e= .returned (.tuple #[])/\w' =w
 fresh:∀(b:Nat) (w:World),w.cell? ⟨b,0,none⟩=some (.pointer none)->w.shape? b=some (ρ.t 72,2)->w.frozen? ⟨b,0,none⟩=false->Calls P (ρ.f 240) #[.pointer (some ⟨b,0,none⟩)] w λe w' =>e= .returned (.tuple #[])/\w' =w.setCell ⟨b,0,none⟩ (.pointer (some ⟨b,0,none⟩))
variable {P:Program} {ρ:Ren}
theorem Lw.check(L:Lw P ρ){b:Nat}{w:World}{a v:Value}(hb:w.heap[b]? =some (.cells #[a,v] (ρ.t 72) (0,0)))(ha:a= .pointer none\/a= .pointer (some ⟨b,0,none⟩)):
  Calls P (ρ.f 240) #[.pointer (some ⟨b,0,none⟩)] w λe w' =>e= .returned (.tuple #[])/\w'.heap[b]? =some (.cells #[.pointer (some ⟨b,0,none⟩),v] (ρ.t 72) (0,0))/\w'.heap.size=w.heap.size/\OthB w w' [b]:=by
 have c0:w.cell? ⟨b,0,none⟩=some a:=by rw[Lib.cell_of_heap hb];rfl
 rcases ha with rfl|rfl
 .refine(L.fresh b w c0 (by simp[World.shape?,hb]) (Lib.frozen_of_heap hb 0)).mono ?_;rintro e w' ⟨rfl,rfl⟩;refine⟨rfl,?_,by simp[World.setCell],⟨rfl,rfl,rfl,by simp[World.setCell],λk _ hk=>Below.heap_setCell _ _ _ _ (λe=>hk (by simp[e]))⟩⟩;rw[setCell_eq_setRow w b 0 _ _ _ _ hb];exact setRow_heap w b _ _ _ _ hb
 .refine(L.used b w c0).mono ?_;rintro e w' ⟨rfl,rfl⟩;exact⟨rfl,hb,rfl,⟨rfl,rfl,rfl,A7 _,λ_ _ _=>rfl⟩⟩
set_option maxHeartbeats 2000000 in
set_option maxRecDepth 100000 in
theorem ZN(L:Lw P ρ)(X:Builder.Extra P ρ){b:Nat}{w:World}{a v:Value}{l:Loc}{xs ys:List UInt8}(hb:w.heap[b]? =some (.cells #[a,v] (ρ.t 72) (0,0)))(ha:a= .pointer none\/a= .pointer (some ⟨b,0,none⟩))
  (hv:l.view none v) (hr:yQ w.heap (ρ.t 5) xs l) (hlen:xs.length+ys.length<=140737488355328) (hnb:b∉l.blks):
  Calls P (ρ.f 166) #[.pointer (some ⟨b,0,none⟩),.string ⟨ys.toArray⟩] w λe w' =>e= .returned (.tuple #[.int .i64 ys.length,.nilIface])/\
   ∃v' l',w'.heap[b]? =some (.cells #[.pointer (some ⟨b,0,none⟩),v'] (ρ.t 72) (0,0))/\l'.view none v' /\yQ w'.heap (ρ.t 5) (xs++ys) l' /\b∉l'.blks/\(∀k∈l'.blks,k∈l.blks\/w.heap.size<=k)/\OthB w w' (b::l.blks):=by
 obtain⟨i0,hi,hz0,hz1,hz2⟩:=info_parts X.infoByte;have mixed:=L.mixed;have t72:=L.t72;have a72:=L.a72;have z72:=L.z72;have v72:=L.v72;have u72:=run_underlying L.t72;have t70:=L.t70;have a70:=L.a70;have z70:=L.z70;have v70:=L.v70;have u70:=run_underlying L.t70;have t37:=L.t37;have a37:=L.a37;have z37:=L.z37;have v37:=L.v37;have u37:=run_underlying L.t37;have t3:=L.t3;have a3:=L.a3;have z3:=L.z3;have v3:=L.v3;have u3:=run_underlying L.t3;have t9:=L.t9;have a9:=L.a9;have z9:=L.z9;have v9:=L.v9;have u9:=run_underlying L.t9;have t4:=L.t4;have a4:=L.a4;have z4:=L.z4;have v4:=L.v4;have u4:=run_underlying L.t4;have t164:=L.t164;have a164:=L.a164;have z164:=L.z164;have v164:=L.v164;have u164:=run_underlying L.t164;have t5:=X.t5;have a5:=X.a5;have z5:=X.z5;have v5:=X.v5;have u5:=run_underlying X.t5;have e240:=L.e240;have hlt:b<w.heap.size:=(N8.1 hb).1
 go_enter L.f166,Body.n166_ntmps ρ
 go_wp2_with (go_at_fn (ρ.f 240);refine(L.check hb ha).mono ?_)
 rintro e w1 ⟨rfl,hb1,hs1,ho1⟩;have c0:w1.cell? ⟨b,0,none⟩=some (.pointer (some ⟨b,0,none⟩)):=by rw[Lib.cell_of_heap hb1];rfl
 have c1:w1.cell? ⟨b,1,none⟩=some v:=by rw[Lib.cell_of_heap hb1];rfl
 have hr1:yQ w1.heap (ρ.t 5) xs l:=CS (λk hk=>ho1.block k (a6e hr k hk) (λe=>hnb (by simp at e;rw[←e];exact hk))) hr
 go_wp2_with (at_builtin;refine ZM rfl _ _ (ρ.t 37) (ρ.t 9) rfl L.t37 L.t9 hi hz0 hz1 hz2 rfl rfl hv hr1 hlen ?_)
 intro v' w2 l' hv' hr' hbl ho2;have hb2:w2.heap[b]? =some (.cells #[.pointer (some ⟨b,0,none⟩),v] (ρ.t 72) (0,0)):=by rw[ho2.block b o5 hnb];exact hb1
 have d0:w2.cell? ⟨b,0,none⟩=some (.pointer (some ⟨b,0,none⟩)):=by rw[Lib.cell_of_heap hb2];rfl
 have d1:w2.cell? ⟨b,1,none⟩=some v:=by rw[Lib.cell_of_heap hb2];rfl
 have f1:w2.frozen? ⟨b,1,none⟩=false:=Lib.frozen_of_heap hb2 1;have hnb' :b∉l'.blks:=λh=>(hbl b h).elim hnb (λh=>by omega);have hone:=oI hv';obtain⟨ao,n',cap,rfl⟩:∃ao n' cap,v' = .slice ao n' cap:=by
  cases l' with
  |nil=>exact⟨_,_,_,hv'⟩|st _=>cases hr'|mp _=>cases hr'|arr g off len cap sz=>exact⟨_,_,_,hv'⟩
 go_wp2
 go_ret2
 refine⟨by simp[ByteArray.size],_,l',?_,hv',CS (λk hk=>Below.heap_setCell _ _ _ _ (λe=>hnb' (by have e:k=b:=e;rw[←e];exact hk))) hr',hnb',λk hk=>(hbl k hk).elim .inl (λh=> .inr o5),?_⟩
 .rw[setCell_eq_setRow w2 b 1 _ _ _ _ hb2];exact setRow_heap w2 b _ _ _ _ hb2
 .refine⟨ho2.os.trans ho1.os,ho2.tape.trans ho1.tape,ho2.output.trans ho1.output,?_,λk hk hn=>?_⟩
  .have:=ho2.size;simp[World.setCell];omega
  .simp only[C9,not_or]at hn;rw[Below.heap_setCell _ _ _ _ (λe=>hn.1 e),ho2.block k o5 hn.2,ho1.block k hk (by simpa using hn.1)]
theorem Uj{gl:List (Nat×(t:Ty)×List t.den)}(L:Lw P ρ)(X:Builder.Extra P ρ):
  ik P gl (ρ.f 166) ⟨[(false,.sbx (ρ.t 72) (ρ.t 5)),(false,.dat .str)],[(false,.dat (.int .i64)),(false,.cell none)],[(false,.sbx (ρ.t 72) (ρ.t 5))],λx=>iq x.1 x.2⟩:=by
 intro w ok O vals x r hok hO hO2 hgl hrel hdv hF;obtain⟨xs,ys⟩:=x;have hF:iq xs ys=some r:=hF;unfold iq at hF;split at hF
 case isFalse=>cases hF
 rename_i hmax;cases hF;obtain⟨v0,cs0,vs',O1,O2,rfl,rfl,hg,h1,hrest⟩:=hrel;obtain⟨v1,cs1,rfl,hg1,h2,rfl⟩:=hrest;have hg:cs0=[v0]:=hg;have hg1:cs1=[v1]:=hg1;subst hg;subst hg1;have h2:[v1]=[Value.string ⟨ys.toArray⟩]:=h2;simp only[G8,and_true]at h2;subst h2;obtain⟨b,a,v,l,e,hb,ha,hv,hr,rfl⟩:=h1;simp only[G8,and_true]at e;subst e;have hnd:(b::l.blks).Nodup:=by simpa using hO
 have hnb:=(eG.1 hnd).1;refine(ZN L X hb ha hv hr (show xs.length+ys.length<=140737488355328 by omega) hnb).mono ?_;rintro e w' ⟨rfl,v',l',hb',hv',hr',hnb',hbl,ho⟩;have hlt:b<w.heap.size:=(N8.1 hb).1;have hlt' :b<w'.heap.size:=(N8.1 hb').1;have hnd' :(b::l'.blks).Nodup:=eG.2 ⟨hnb',Loc.blks_nodup l'⟩;refine⟨_,ok,b::l'.blks,[.int .i64 ys.length,.nilIface],[.pointer (some ⟨b,0,none⟩)],[],rfl,⟨ho.os,ho.tape,ho.output,ho.size,λk hk hn=>ho.block k hk (by simpa using hn)⟩,λ_ _ h=>h,λk t hk=>⟨iD (hok k t hk) ho.size,.inl hk⟩,by simpa using hnd',?_,⟨rfl,rfl⟩,⟨_,rfl,rfl,rfl⟩,?_⟩
 .intro k hk;rw[E5]at hk;rcases C9.1 hk with rfl|hk
  .exact⟨(hO2 k D5).1,hlt',.inr D5⟩
  .refine⟨λt hkt=>?_,a6e hr' k hk,?_⟩
   .rcases hbl k hk with h|h
    .exact(hO2 k (by simp[h])).1 t hkt
    .have:=hok k t hkt;omega
   .rcases hbl k hk with h|h
    .exact .inr (by simp[h])
    .exact .inl h
 .refine⟨.int .i64 ys.length,[.int .i64 ys.length],[.nilIface,.pointer (some ⟨b,0,none⟩)],[],b::l'.blks,rfl,rfl,rfl,⟨rfl,rfl⟩,?_⟩;refine⟨.nilIface,[.nilIface],[.pointer (some ⟨b,0,none⟩)],[],b::l'.blks,rfl,rfl,rfl,⟨_,rfl,rfl,(λh=>nomatch h),(λ_ h=>nomatch h),rfl⟩,?_⟩;exact⟨_,_,rfl,rfl,⟨b,_,v',l',rfl,hb',.inr rfl,hv',hr',rfl⟩⟩
end Go.GP
namespace Go.GP
open Go.ChangeShapes Go.WideShapes Go.RowKit
def zT(s c:List UInt8):Option (List UInt8×List UInt8×Bool):=if s.length<4294967281 then some (Lib.cut s c)else none
variable {g:Nat}
theorem a4x{h:Array Obj}{ok:Nat->Ty->Prop}{m:Mp}{k:IntKind}{n:Int}{T:TypeId}{f:Nat×Nat}(hok:ok g (.any (some k)))(hh:h[g]? =some (.cells #[.int k n] T f)):
  GK ⟨h,ok,m⟩ g (.any (some k)) [()]:=by
 refine⟨hok,⟨_,_,_,hh,rfl⟩,λi x hi=>?_⟩;cases i with
 |zero=>exact⟨[.int k n],jO hh 0 1 D5,.int k n,rfl,rfl,n,rfl⟩|succ i=>simp at hi
theorem a2G{w:World}{ok:Nat->Ty->Prop}{m:Mp}{k:IntKind}(h:GK ⟨w.heap,ok,m⟩ g (.any (some k)) [()]):∃n,w.cell? ⟨g,0,none⟩=some (.int k n):=by
 obtain⟨_,_,h2⟩:=h;obtain⟨es,he,v,rfl,_,n,rfl⟩:=h2 0 () rfl;obtain⟨c,T,f,hb,hn,e⟩:=uf he;refine⟨n,?_⟩;have hn:1<=c.size:=by simpa[Ty.size]using hn
 have h0:c[0]? =some (.int k n):=by have:=congrArg (λl=>l[0]?) e;simp only[Nat.zero_mul,jQ,Ty.size,fU,jU (show 0<1 by omega)]at this;rw[Y9]at this;exact this.symm
 have hb:w.heap[g]? =some (.cells c T f):=hb;simp only[World.cell?,hb,ja,h0];rfl
theorem a2u{P:Program}{f g:Nat}{gl:List (Nat×(t:Ty)×List t.den)}
  (hC:∀(s sep:ByteArray) (m:Int) (w:World) (hs:s.size<4294967281) (hm:w.cell? ⟨g,0,none⟩=some (.int .i64 m)),
   Calls P f #[.string s,.string sep] w λe w' =>e= .returned (.tuple #[.string ⟨(Lib.cut s.data.toList sep.data.toList).1.toArray⟩,.string ⟨(Lib.cut s.data.toList sep.data.toList).2.1.toArray⟩,.bool (Lib.cut s.data.toList sep.data.toList).2.2])/\∃n,w' =w.drewN n)
  (hgl:dO gl g=some ⟨.any (some .i64),[()]⟩):
  ik P gl f ⟨[(false,.dat .str),(false,.dat .str)],[(false,.dat .str),(false,.dat .str),(false,.dat .bool)],[],λx=>zT x.1 x.2⟩:=by
 intro w ok O vals x r hlt hnd hO hgls hrel hdv hfn;obtain⟨rfl,rfl⟩:=b3d hrel;simp only[zT]at hfn;split at hfn
 .rename_i hl;cases hfn;obtain⟨m,hm⟩:=a2G (hgls g _ hgl);refine(hC ⟨x.1.toArray⟩ ⟨x.2.toArray⟩ m w (by simpa[ByteArray.size]using hl) hm).mono λe w' ⟨he,n,hw⟩=>?_;subst he;subst hw;exact⟨_,ok,[],[.string ⟨(Lib.cut x.1 x.2).1.toArray⟩,.string ⟨(Lib.cut x.1 x.2).2.1.toArray⟩,.bool (Lib.cut x.1 x.2).2.2],[],[],rfl,⟨rfl,rfl,rfl,A7 _,λ_ _ _=>rfl⟩,λ_ _ h=>h,λb t h=>⟨hlt b t h,.inl h⟩,
   by simp,D5,⟨rfl,rfl⟩,⟨rfl,rfl⟩,_,_,_,[],[],rfl,rfl,rfl,⟨rfl,rfl⟩,_,_,_,[],[],rfl,rfl,rfl,⟨rfl,rfl⟩,_,_,rfl,rfl,rfl,rfl⟩
 .cases hfn
end Go.GP
