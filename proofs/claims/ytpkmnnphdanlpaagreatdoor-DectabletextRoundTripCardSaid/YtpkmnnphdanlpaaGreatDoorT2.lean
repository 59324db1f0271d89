import Derived.Test.YtpkmnnphdanlpaaGreatDoorT1
import Derived.Shelf.Strings.BuilderF
import Derived.Shelf.Strings.IndexAnyAll
set_option linter.all false
namespace Go.GP
open Go.Shelf Go.RowKit Go.Proofs
structure OthB (w w' :World) (ks:List Nat):Prop where
 os:w'.os=w.os
 tape:w'.tape=w.tape
 output:w'.output=w.output
 size:w.heap.size<=w'.heap.size
 block:∀k,k<w.heap.size->k∉ks->w'.heap[k]? =w.heap[k]?
theorem OthB.trans{a b c:World}{ks:List Nat}(h:OthB a b ks)(k:OthB b c ks):OthB a c ks:=
 ⟨k.os.trans h.os,k.tape.trans h.tape,k.output.trans h.output,jJ h.size k.size,λi hi hn=>(k.block i (gI hi h.size) hn).trans (h.block i hi hn)⟩
variable {xs:List UInt8}{l:Loc}
theorem a4H{h:Array Obj}{te:Nat}(hr:xM h te xs l):∀b∈l.blks,b<h.size:=by
 intro b hb;cases l with
 |nil=>simp[Loc.blks]at hb|st b=>cases hr|mp b=>cases hr|arr g off len cap sz=>simp[Loc.blks]at hb;subst hb;obtain⟨_,_,_,_,_,cur,fz,h6,_⟩:=hr;exact(J6.1 h6).1
variable {w:World}
theorem YC{P:Program}{t u ty e:TypeId}{i:TypeInfo}(ht:P.underlying t=some (.slice e))(hu:P.underlying u=some .string)(hi:P.info? e=some i)(hz:i.zero=some (.int .u8 0))
  (hsize:i.size=1) (hby:i.bytes=1) {v:Value} {l:Loc} {xs ys:List UInt8} (hv:l.view none v) (hr:xM w.heap e xs l) (hmax:xs.length+ys.length<=140737488355328):
  ∃v' w' l',(Builtin.append_ #[t,u] ty #[v,.string ⟨ys.toArray⟩]).run P w= .ok v' w' /\l'.view none v' /\xM w'.heap e (xs++ys) l' /\(∀b∈l'.blks,b∈l.blks\/w.heap.size<=b)/\OthB w w' l.blks:=by
 have hys:(⟨ys.toArray⟩:ByteArray).size=ys.length:=by simp[ByteArray.size]
 have hsc:Lib.strCells ⟨ys.toArray⟩=ys.map λc=>Value.int .u8 (c.toNat:Int):=rfl;have hback:∀{B:Nat} {h:Array Obj} {w' :World} {v' :Value} {zs:List UInt8} {n:Nat},n=zs.length->w'.ownsRowF B e 1 v' n (zs.map λc=>Value.int .u8 (c.toNat:Int))->∃l',l'.view none v' /\xM w'.heap e zs l' /\∀b∈l'.blks,B<=b:=by
  intro B h w' v' zs n hn ho;rcases ho.2 with⟨rfl,h0⟩|⟨g,cap,cur,fz,rfl,hB,hg,hfz,hc,hcm,hcs,htk⟩
  .exact⟨.nil,rfl,(Y4.1 (hn▸h0)),λb hb=>by simp[Loc.blks]at hb⟩
  .exact⟨.arr g 0 n cap 1,rfl,⟨rfl,rfl,hn,hc,hcm,cur,fz,hg,l7,l7,by rw[bU]at htk;exact htk⟩,λb hb=>by simp[Loc.blks]at hb;subst hb;exact hB⟩
 cases l with
 |st b=>cases hr|mp b=>cases hr|nil=>have hr:xs=[]:=hr;subst hr;have hv:v= .slice none 0 0:=hv;subst hv;obtain⟨v',w',h1,h2,h3,h4⟩:=Lib.run_append_own_stringF (P:=P) w w.heap.size t u ty e i ht hu hi hz hsize hby (.slice none 0 0) 0 [] ⟨rfl,.inl ⟨rfl,rfl⟩⟩ ⟨ys.toArray⟩ (by rw[hys];simp at hmax;unfold maxLen;omega) (by rw[hys];simpa using hmax) (C9 _);rw[hsc,H7,hys,fE]at h2;obtain⟨l',g1,g2,g3⟩:=hback (h:=w'.heap) rfl h2;exact⟨v',w',l',h1,g1,by simpa using g2,λb hb=> .inr (g3 b hb),⟨h3.os,h3.tape,h3.output,h3.size,λk hk _=>h3.block k hk (by simp[Value.ownBlock])⟩⟩
 |arr g off len cap sz=>
  obtain⟨rfl,rfl,rfl,hc,hcm,cur,fz,hg,hfz,hcs,htk⟩:=hr;have hv:v= .slice (some ⟨g,0,none⟩) xs.length cap:=hv;subst hv;by_cases hroom:xs.length+ys.length<=cap
  .have hrun:=Lib.run_append_room_stringF (P:=P) w t u ty e i ht hu hi hsize g xs.length cap cur fz hg hfz ⟨ys.toArray⟩ (by rw[hys];exact hroom) (by rw[hys];omega);rw[hys,hsc]at hrun;refine⟨_,_,.arr g 0 (xs.length+ys.length) cap 1,hrun,rfl,⟨rfl,rfl,A7,hroom,hcm,_,fz,setRow_heap w g cur _ e _ hg,l7,?_,?_⟩,λb hb=> .inl hb,⟨rfl,rfl,rfl,A7,λk _ hk=>setRow_other w g k _ (λe=>hk (by simp[Loc.blks,e]))⟩⟩
   .simp only[ax,E8,gp,Y5,ak,O7];omega
   .rw[htk,E9,←E9,←gY];rw[show xs.length+ys.length=((xs++ys).map λc=>Value.int .u8 (c.toNat:Int)).length by simp];exact eF
  .have holds:∀(j:Nat) (u:Value),(xs.map λc=>Value.int .u8 (c.toNat:Int))[j]? =some u->w.cell? ((⟨g,0,none⟩:Addr).add j)=some u:=λj u hj=>by
    have ho:w.ownsRowF 0 e 1 (.slice (some ⟨g,0,none⟩) xs.length cap) xs.length (xs.map λc=>Value.int .u8 (c.toNat:Int)):=⟨A7,.inr ⟨g,cap,cur,fz,rfl,bI _,hg,l7,hc,hcm,l7,by rw[bU];exact htk⟩⟩;exact ho.cells (g:=g) rfl j u hj
   have hrun:=Lib.run_append_grow_string (P:=P) w t u ty e i (.int .u8 0) ht hu hi hz ⟨g,0,none⟩ xs.length cap (xs.map λc=>Value.int .u8 (c.toNat:Int)) (by rw[hsize];simp) holds ⟨ys.toArray⟩ (by rw[hys];omega) (by rw[hys];omega) (by rw[hby,hys];exact growslice_fits l7 l7);rw[hys,hsc]at hrun;have hge:=grownCap_ge w (xs.length+ys.length) cap e;have hcm2:grownCap w (xs.length+ys.length) cap e<=maxLen:=grownCap_le_maxLen w (xs.length+ys.length) cap e (by unfold maxLen;omega);refine⟨_,_,.arr w.heap.size 0 (xs.length+ys.length) _ 1,hrun,rfl,⟨rfl,rfl,A7,hge,hcm2,_,(0,0),heap_alloc_new w.drew _,bI _,?_,?_⟩,λb hb=> .inr (by simp[Loc.blks]at hb;omega),⟨rfl,rfl,rfl,A7,λk hk _=>heap_alloc_old w.drew _ hk⟩⟩
   .have hz1:(Value.int IntKind.u8 0).cells.size=1:=rfl;simp only[Array.size_append,ax,size_zeroCells,hz1,O7];omega
   .simp only[Array.toList_append,E9];rw[←E9,←gY];rw[show xs.length+ys.length=((xs++ys).map λc=>Value.int .u8 (c.toNat:Int)).length by simp];exact eF
theorem YE{P:Program}{ops:Array Oper}{rest:List Oper}{o:Oper}{a:Act}{Q:Exit->Act->World->Prop}{w:World}(hgd:o.guard=none)(sl x:Operand)(t u:TypeId)
  (ho:o.op= .call { callee:=.builtin .append,args:=#[sl,x],argTypes:=#[t,u] }) {e:TypeId} {i:TypeInfo} (ht:P.underlying t=some (.slice e)) (hu:P.underlying u=some .string) (hi:P.info? e=some i) (hz:i.zero=some (.int .u8 0))
  (hsize:i.size=1) (hby:i.bytes=1) {v:Value} {l:Loc} {xs ys:List UInt8} (hs:a.eval sl=v) (hx:a.eval x= .string ⟨ys.toArray⟩) (hv:l.view none v) (hr:xM w.heap e xs l) (hmax:xs.length+ys.length<=140737488355328)
  (h:∀v' w' l',l'.view none v' ->xM w'.heap e (xs++ys) l' ->(∀b∈l'.blks,b∈l.blks\/w.heap.size<=b)->OthB w w' l.blks->wpList P ops Q rest (a.put o.dst v') w'):wpList P ops Q (o::rest) a w:=by
 refine wpList_plain hgd λK hK=>?_;obtain⟨v',w',l',h1,h2,h3,h4,h5⟩:=YC (ty:=o.type) ht hu hi hz hsize hby hv hr hmax;unfold Oper.wp execOp;simp only[ho,resolve,invoke,builtin,G8,U8,G9,List.map_toArray,jb,nI,hs,hx,h1];exact hK _ _ (h v' w' l' h2 h3 h4 h5)
variable {P:Program} {ρ:Ren}
set_option maxHeartbeats 2000000 in
set_option maxRecDepth 100000 in
set_option maxHeartbeats 2000000 in
set_option maxRecDepth 100000 in
theorem a6i(L:Lays.n170 P ρ){b:Nat}{a v:Value}(hb:w.heap[b]? =some (.cells #[a,v] (ρ.t 72) (0,0)))(hv:l.view none v)(hr:xM w.heap (ρ.t 5) xs l):
  Calls P (ρ.f 170) #[.pointer (some ⟨b,0,none⟩)] w λe w' =>e= .returned (.int .i64 xs.length)/\w' =w:=by
 obtain⟨ao,cap,rfl⟩:∃ao cap,v= .slice ao xs.length cap:=by
  cases l with
  |nil=>have h:xs=[]:=hr;subst h;exact⟨_,_,hv⟩|st _=>cases hr|mp _=>cases hr|arr g off len cap sz=>obtain⟨_,_,rfl,_⟩:=hr;exact⟨_,_,hv⟩
 have c1:w.cell? ⟨b,1,none⟩=some (.slice ao xs.length cap):=by rw[Lib.cell_of_heap hb];rfl
 have mixed:=L.mixed;have t72:=L.t72;have a72:=L.a72;have z72:=L.z72;have v72:=L.v72;have u72:=run_underlying L.t72;have t70:=L.t70;have a70:=L.a70;have z70:=L.z70;have v70:=L.v70;have u70:=run_underlying L.t70;have t37:=L.t37;have a37:=L.a37;have z37:=L.z37;have v37:=L.v37;have u37:=run_underlying L.t37;have t3:=L.t3;have a3:=L.a3;have z3:=L.z3;have v3:=L.v3;have u3:=run_underlying L.t3
 go_enter L.f170,Body.n170_ntmps ρ
 go_wp2
 go_ret
 exact⟨rfl,rfl⟩
set_option maxHeartbeats 2000000 in
set_option maxRecDepth 100000 in
theorem YD(L:Lays.n169 P ρ)(X:Builder.Extra P ρ){b:Nat}{p v:Value}(hb:w.heap[b]? =some (.cells #[p,v] (ρ.t 72) (0,0)))
  (hv:l.view none v) (hr:xM w.heap (ρ.t 5) xs l) (hlen:xs.length<=140737488355328) (hnb:b∉l.blks):
  Calls P (ρ.f 169) #[.pointer (some ⟨b,0,none⟩)] w λe w' =>e= .returned (.string ⟨xs.toArray⟩)/\w'.heap[b]? =some (.cells #[p,v] (ρ.t 72) (0,0))/\xM w'.heap (ρ.t 5) xs l/\OthB w w' l.blks:=by
 have mixed:=L.mixed;have t72:=L.t72;have a72:=L.a72;have z72:=L.z72;have v72:=L.v72;have u72:=run_underlying L.t72;have t70:=L.t70;have a70:=L.a70;have z70:=L.z70;have v70:=L.v70;have u70:=run_underlying L.t70;have t37:=L.t37;have a37:=L.a37;have z37:=L.z37;have v37:=L.v37;have u37:=run_underlying L.t37;have t127:=L.t127;have a127:=L.a127;have z127:=L.z127;have v127:=L.v127;have u127:=run_underlying L.t127;have t3:=L.t3;have a3:=L.a3;have z3:=L.z3;have v3:=L.v3;have u3:=run_underlying L.t3;have t9:=L.t9;have a9:=L.a9;have z9:=L.z9;have v9:=L.v9;have u9:=run_underlying L.t9;have t5:=X.t5;have a5:=X.a5;have z5:=X.z5;have v5:=X.v5;have u5:=run_underlying X.t5;have hlt:b<w.heap.size:=(J6.1 hb).1;have c1:w.drew.cell? ⟨b,1,none⟩=some v:=by have:w.drew.heap[b]? =some (.cells #[p,v] (ρ.t 72) (0,0)):=hb;rw[Lib.cell_of_heap this];rfl
 have hdrew:OthB w w.drew l.blks:=⟨rfl,rfl,rfl,C9 _,λ_ _ _=>rfl⟩;cases l with
 |st _=>cases hr|mp _=>cases hr|nil=>
  have hx:xs=[]:=hr;subst hx;have hv:v= .slice none 0 0:=hv;subst hv;have hUS:=Any.unsafeString_none L X;have hSD:(Builtin.unsafeSliceData_ #[(ρ.t 37)] (ρ.t 127) #[.slice none 0 0]).run P w.drew= .ok (.pointer none) w.drew:=rfl
  go_enter L.f169,Body.n169_ntmps ρ
  go_wp2
  go_region_o
  all_goals (go_wp2;go_ret;exact⟨rfl,hb,rfl,hdrew⟩)
 |arr g off len cap sz=>
  have hr0:=hr;obtain⟨rfl,rfl,rfl,hc,hcm,cur,fz,hg,hfz,hcs,htk⟩:=hr;have hv:v= .slice (some ⟨g,0,none⟩) xs.length cap:=hv;subst hv;have hgd:w.drew.heap[g]? =some (.cells cur (ρ.t 5) fz):=hg;by_cases hx0:xs=[]
  .subst hx0;have hUS:=Any.unsafeString_none L X;by_cases hc0:cap=0
   .subst hc0;have hSD:(Builtin.unsafeSliceData_ #[(ρ.t 37)] (ρ.t 127) #[.slice (some ⟨g,0,none⟩) 0 0]).run P w.drew= .ok (.pointer (some ⟨w.drew.heap.size,0,none⟩)) (w.drew.alloc (.view ⟨g,0,none⟩ (ρ.t 5))):=
     Lib.run_unsafeSliceData_zero w.drew _ _ (ρ.t 5) L.t127 ⟨g,0,none⟩ 0 ((ρ.t 5),cur.size) (by simp[World.shape?,hgd])
    have hal:(w.drew.alloc (.view ⟨g,0,none⟩ (ρ.t 5))).heap[b]? =some (.cells #[p,.slice (some ⟨g,0,none⟩) 0 0] (ρ.t 72) (0,0)):=(heap_alloc_old w.drew _ hlt).trans hb;have c2:(w.drew.alloc (.view ⟨g,0,none⟩ (ρ.t 5))).cell? ⟨b,1,none⟩=some (.slice (some ⟨g,0,none⟩) 0 0):=by rw[Lib.cell_of_heap hal];rfl
    have c3:(w.alloc (.view ⟨g,0,none⟩ (ρ.t 5))).drew.cell? ⟨b,1,none⟩=some (.slice (some ⟨g,0,none⟩) 0 0):=c2;have c0:w.cell? ⟨b,1,none⟩=some (.slice (some ⟨g,0,none⟩) 0 0):=c1;have hglt:g<w.heap.size:=(J6.1 hg).1;have fin:∀w',w' =w.drew.alloc (.view ⟨g,0,none⟩ (ρ.t 5))->w'.heap[b]? =some (.cells #[p,.slice (some ⟨g,0,none⟩) 0 0] (ρ.t 72) (0,0))/\xM w'.heap (ρ.t 5) [] (.arr g 0 0 0 1)/\OthB w w' [g]:=λw' e=>by subst e;exact⟨hal,AU (λk hk=>by simp[Loc.blks]at hk;subst hk;exact heap_alloc_old w.drew _ hglt) hr0,⟨rfl,rfl,rfl,A7,λk hk _=>heap_alloc_old w.drew _ hk⟩⟩
    go_enter L.f169,Body.n169_ntmps ρ
    go_wp2
    go_region_o
    all_goals (go_wp2;go_ret;exact⟨rfl,fin _ rfl⟩)
   .have hSD:(Builtin.unsafeSliceData_ #[(ρ.t 37)] (ρ.t 127) #[.slice (some ⟨g,0,none⟩) 0 cap]).run P w.drew= .ok (.pointer (some ⟨g,0,none⟩)) w.drew:=
     Lib.run_unsafeSliceData_row _ _ _ _ _ _ hc0
    clear hc0
    go_enter L.f169,Body.n169_ntmps ρ
    go_wp2
    go_region_o
    all_goals (go_wp2;go_ret;exact⟨rfl,hb,hr0,hdrew⟩)
  .have hl0:xs.length≠0:=by simpa using hx0
   have hSD:(Builtin.unsafeSliceData_ #[(ρ.t 37)] (ρ.t 127) #[.slice (some ⟨g,0,none⟩) xs.length cap]).run P w.drew= .ok (.pointer (some ⟨g,0,none⟩)) w.drew:=
    Lib.run_unsafeSliceData_row _ _ _ _ _ _ l7
   have hown:w.ownsRowF 0 (ρ.t 5) 1 (.slice (some ⟨g,0,none⟩) xs.length cap) xs.length (xs.map λc=>Value.int .u8 (c.toNat:Int)):=⟨A7,.inr ⟨g,cap,cur,fz,rfl,bI _,hg,l7,hc,hcm,l7,by rw[bU];exact htk⟩⟩;have hUS:(Builtin.unsafeString_ #[(ρ.t 127),(ρ.t 3)] (ρ.t 9) #[.pointer (some ⟨g,0,none⟩),.int .i64 xs.length]).run P w.drew= .ok (.string ⟨xs.toArray⟩) (w.drew.freeze ⟨g,0,none⟩ xs.length):=by refine Lib.run_unsafeString_row w.drew (ρ.t 127) (ρ.t 3) (ρ.t 9) (ρ.t 5) L.t127 X.cellsByte g cur.size (by simp[World.shape?,hgd]) xs hx0 l7 (by unfold maxLen at hcm;omega) ?_;intro j x hx;exact hown.cells (g:=g) rfl j (.int .u8 x.toNat) (by simp[hx])
   have hA:Lib.BuilderAtF (ρ.t 72) (ρ.t 5) 0 b p (Lib.byteCells xs) w.drew:=⟨bI _,_,hb,by rw[Lib.byteCells_length];exact hown,λe=>hnb (by simp[Loc.blks];simpa[Value.ownBlock]using e.symm)⟩;have hF:=hA.froze (g:=g) (cap:=cap) (by rw[Lib.byteCells_length];exact c1);rw[Lib.byteCells_length]at hF;have hgb:b≠g:=λe=>hnb (by simp[Loc.blks,e]);have fin:∀w',w' =w.drew.freeze ⟨g,0,none⟩ xs.length->w'.heap[b]? =some (.cells #[p,.slice (some ⟨g,0,none⟩) xs.length cap] (ρ.t 72) (0,0))/\xM w'.heap (ρ.t 5) xs (.arr g 0 xs.length cap 1)/\OthB w w' [g]:=λw' e=>by
    subst e;obtain⟨_,v2,hb2,ho2,_⟩:=hF;have ho:∀k,k≠g->(w.drew.freeze ⟨g,0,none⟩ xs.length).heap[k]? =w.heap[k]?:=λk hk=>by
     unfold World.freeze;split
     .rfl
     .simp only[kY];rw[if_neg (λe=>hk e.symm)];rfl
    have hbb:=ho b hgb;rw[hb2,hb]at hbb;simp only[G5,Obj.cells.injEq,and_true,Array.mk.injEq,G6,true_and]at hbb;have hv2:v2= .slice (some ⟨g,0,none⟩) xs.length cap:=by simpa using hbb
    subst hv2;refine⟨hb2,?_,⟨by unfold World.freeze;split<;>rfl,by unfold World.freeze;split<;>rfl,by unfold World.freeze;split<;>rfl,?_,λk _ hk=>ho k (by simpa using hk)⟩⟩
    .rw[Lib.byteCells_length]at ho2;rcases ho2.2 with⟨h,_⟩|⟨g',cap',cur',fz',e,_,h1,h2,h3,h4,h5,h6⟩
     .cases h
     .simp only[Value.slice.injEq,G5,kz,and_true]at e;obtain⟨rfl,_,rfl⟩:=e;exact⟨rfl,rfl,rfl,h3,h4,cur',fz',h1,l7,l7,by rw[bU]at h6;exact h6⟩
    .unfold World.freeze;split<;>simp
   go_enter L.f169,Body.n169_ntmps ρ
   go_wp2
   go_region_o
   all_goals (go_wp2;go_ret;exact⟨rfl,fin _ rfl⟩)
def lV(x ys:List UInt8):Option (Int×Unit×List UInt8):=if x.length+ys.length<=1073741824 then some (ys.length,(),x++ys)else none
def zU(x:List UInt8):Option (Int×List UInt8):=some (x.length,x)
def wL(x:List UInt8):Option (List UInt8×List UInt8):=if x.length<=1073741824 then some (x,x)else none
theorem YG{gl:List (Nat×(t:Ty)×List t.den)}(L:Lays.n170 P ρ):
  gz P gl (ρ.f 170) ⟨[(false,.sbx (ρ.t 72) (ρ.t 5))],[(false,.dat (.int .i64))],[(false,.sbx (ρ.t 72) (ρ.t 5))],λx=>zU x⟩:=by
 intro w ok O vals xs r hok hO hO2 hgl hrel hF;have hF:some ((xs.length:Int),xs)=some r:=hF;cases hF;obtain⟨v0,cs0,rfl,hg,h1⟩:=hrel;have hg:cs0=[v0]:=hg;subst hg;obtain⟨b,a,v,l,e,hb,ha,hv,hr,rfl⟩:=h1;simp only[G6,and_true]at e;subst e;refine(a6i L hb hv hr).mono ?_;rintro e w' ⟨rfl,rfl⟩;refine⟨_,ok,b::l.blks,[.int .i64 xs.length],[.pointer (some ⟨b,0,none⟩)],[],rfl,Frame'.refl _ _,λ_ _ h=>h,λk t hk=>⟨hok k t hk,.inl hk⟩,by simpa using hO,λk hk=>?_,⟨rfl,rfl⟩,⟨_,rfl,rfl,rfl⟩,?_⟩
 .rw[E5]at hk;exact⟨(hO2 k hk).1,(hO2 k hk).2,.inr hk⟩
 .refine⟨.int .i64 xs.length,[.int .i64 xs.length],[.pointer (some ⟨b,0,none⟩)],[],b::l.blks,rfl,rfl,rfl,⟨rfl,rfl⟩,?_⟩;exact⟨_,_,rfl,rfl,⟨b,a,v,l,rfl,hb,ha,hv,hr,rfl⟩⟩
theorem Sl{gl:List (Nat×(t:Ty)×List t.den)}(L:Lays.n169 P ρ)(X:Builder.Extra P ρ):
  gz P gl (ρ.f 169) ⟨[(false,.sbx (ρ.t 72) (ρ.t 5))],[(false,.dat .str)],[(false,.sbx (ρ.t 72) (ρ.t 5))],λx=>wL x⟩:=by
 intro w ok O vals xs r hok hO hO2 hgl hrel hF;have hF:wL xs=some r:=hF;unfold wL at hF;split at hF
 case isFalse=>cases hF
 rename_i hmax;cases hF;obtain⟨v0,cs0,rfl,hg,h1⟩:=hrel;have hg:cs0=[v0]:=hg;subst hg;obtain⟨b,a,v,l,e,hb,ha,hv,hr,rfl⟩:=h1;simp only[G6,and_true]at e;subst e;have hnd:(b::l.blks).Nodup:=by simpa using hO
 refine(YD L X hb hv hr l7 (dF.1 hnd).1).mono ?_;rintro e w' ⟨rfl,hb',hr',ho⟩;refine⟨_,ok,b::l.blks,[.string ⟨xs.toArray⟩],[.pointer (some ⟨b,0,none⟩)],[],rfl,⟨ho.os,ho.tape,ho.output,ho.size,λk hk hn=>ho.block k hk (λh=>hn (by simp[h]))⟩,λ_ _ h=>h,λk t hk=>⟨gI (hok k t hk) ho.size,.inl hk⟩,by simpa using hO,λk hk=>?_,⟨rfl,rfl⟩,⟨_,rfl,rfl,rfl⟩,?_⟩
 .rw[E5]at hk;exact⟨(hO2 k hk).1,gI (hO2 k hk).2 ho.size,.inr hk⟩
 .refine⟨.string ⟨xs.toArray⟩,[.string ⟨xs.toArray⟩],[.pointer (some ⟨b,0,none⟩)],[],b::l.blks,rfl,rfl,rfl,⟨rfl,rfl⟩,?_⟩;exact⟨_,_,rfl,rfl,⟨b,a,v,l,rfl,hb',ha,hv,hr',rfl⟩⟩
end Go.GP
namespace Go.GP
open Go.ChangeShapes Go.WideShapes Go.RowKit
def iC(s p:List UInt8):Option Bool:=some (Lib.hasPrefix s p)
def BN(s:List UInt8)(c:Int):Option Int:=some (Lib.indexByte s c.toNat.toUInt8)
def xZ(s t:List UInt8):Option Int:=match t with
 |[c]=>some (Lib.indexByte s c)|_=>none
def IG(s:List UInt8):Bool:=s.all λb=>Nat.blt b.toNat 128
def vg(s c:List UInt8):Option Int:=bif Nat.blt s.length 4294967281&&Nat.blt c.length 4294967281&&IG s&&IG c then some (Lib.indexAny s c)else none
theorem b1q{h:Array Obj}{ok:Nat->Ty->Prop}{vals:List Value}{O:List Nat}{x:List UInt8×List UInt8}(hrel:rF h ok [(false,.dat .str),(false,.dat .str)] x vals O):vals=[.string ⟨x.1.toArray⟩,.string ⟨x.2.toArray⟩]/\O=[]:=by obtain⟨v,cs,vs',O1,O2,rfl,rfl,h1,⟨h2,rfl⟩,v2,cs2,rfl,h3,h4,rfl⟩:=hrel;have h1:cs=[v]:=h1;subst h1;have h3:cs2=[v2]:=h3;subst h3;have h2:[v]=[.string ⟨x.1.toArray⟩]:=h2;have h4:[v2]=[.string ⟨x.2.toArray⟩]:=h4;obtain rfl:=(P5 h2).1;obtain rfl:=(P5 h4).1;exact⟨rfl,rfl⟩
variable {P:Program}{f:Nat}
theorem Og{gl:List (Nat×(t:Ty)×List t.den)}
  (hC:∀(s p:ByteArray) (w:World),Calls P f #[.string s,.string p] w λe w' =>e= .returned (.bool (Lib.hasPrefix s.data.toList p.data.toList))/\w' =w):
  gz P gl f ⟨[(false,.dat .str),(false,.dat .str)],[(false,.dat .bool)],[],λx=>iC x.1 x.2⟩:=by
 intro w ok O vals x r hlt _ _ _ hrel hfn;obtain⟨rfl,rfl⟩:=b1q hrel;cases hfn;refine(hC ⟨x.1.toArray⟩ ⟨x.2.toArray⟩ w).mono λe w' ⟨he,hw⟩=>?_;subst he;subst hw;exact Ak (P:=P) (t:=.bool) (x:=Lib.hasPrefix x.1 x.2) (ps:=[(false,.dat .str),(false,.dat .str)]) (vals:=[_,_]) ⟨rfl,rfl,rfl,C9 _,λ_ _=>rfl⟩ hlt ⟨rfl,rfl⟩ rfl
theorem Vg{gl:List (Nat×(t:Ty)×List t.den)}
  (hC:∀(s:ByteArray) (c:UInt8) (w:World),Calls P f #[.string s,.string ⟨#[c]⟩] w λe w' =>e= .returned (.int .i64 (Lib.indexByte s.data.toList c))/\w' =w):
  gz P gl f ⟨[(false,.dat .str),(false,.dat .str)],[(false,.dat (.int .i64))],[],λx=>xZ x.1 x.2⟩:=by
 intro w ok O vals x r hlt _ _ _ hrel hfn;obtain⟨rfl,rfl⟩:=b1q hrel;simp only[xZ]at hfn;split at hfn
 .rename_i c hx;cases hfn;rw[hx];refine(hC ⟨x.1.toArray⟩ c w).mono λe w' ⟨he,hw⟩=>?_;subst he;subst hw;exact Ak (P:=P) (t:=.int .i64) (x:=Lib.indexByte x.1 c) (ps:=[(false,.dat .str),(false,.dat .str)]) (vals:=[_,_]) ⟨rfl,rfl,rfl,C9 _,λ_ _=>rfl⟩ hlt ⟨rfl,rfl⟩ rfl
 .cases hfn
theorem Oh{gl:List (Nat×(t:Ty)×List t.den)}
  (hC:∀(s:ByteArray) (c:Int) (w:World),Calls P f #[.string s,.int .u8 c] w λe w' =>e= .returned (.int .i64 (Lib.indexByte s.data.toList c.toNat.toUInt8))/\w' =w):
  gz P gl f ⟨[(false,.dat .str),(false,.dat (.int .u8))],[(false,.dat (.int .i64))],[],λx=>BN x.1 x.2⟩:=by
 intro w ok O vals x r hlt _ _ _ hrel hfn;obtain⟨v,cs,vs',O1,O2,rfl,rfl,h1,⟨h2,rfl⟩,v2,cs2,rfl,h3,h4,rfl⟩:=hrel;have h1:cs=[v]:=h1;subst h1;have h3:cs2=[v2]:=h3;subst h3;have h2:[v]=[.string ⟨x.1.toArray⟩]:=h2;have h4:[v2]=[.int .u8 x.2]:=h4;obtain rfl:=(P5 h2).1;obtain rfl:=(P5 h4).1;cases hfn;refine(hC ⟨x.1.toArray⟩ x.2 w).mono λe w' ⟨he,hw⟩=>?_;subst he;subst hw;exact Ak (P:=P) (t:=.int .i64) (x:=Lib.indexByte x.1 x.2.toNat.toUInt8) (ps:=[(false,.dat .str),(false,.dat (.int .u8))]) (vals:=[_,_]) ⟨rfl,rfl,rfl,C9 _,λ_ _=>rfl⟩ hlt ⟨rfl,rfl⟩ rfl
theorem Nj{s:List UInt8}(h:IG s=true):∀(j:Nat) b,s[j]? =some b->b.toNat<128:=λj b hb=>by have:=bV.1 h b (yw hb);rwa[bf]at this
theorem Qn{gl:List (Nat×(t:Ty)×List t.den)}
  (hC:∀(s c:ByteArray) (w:World),s.size<4294967281->c.size<4294967281->(∀(j:Nat) b,s.data.toList[j]? =some b->b.toNat<128)->(∀(j:Nat) b,c.data.toList[j]? =some b->b.toNat<128)->
   Calls P f #[.string s,.string c] w λe w' =>e= .returned (.int .i64 (Lib.indexAny s.data.toList c.data.toList))/\Below w.heap.size w w'):
  gz P gl f ⟨[(false,.dat .str),(false,.dat .str)],[(false,.dat (.int .i64))],[],λx=>vg x.1 x.2⟩:=by
 intro w ok O vals x r hlt _ _ _ hrel hfn;obtain⟨rfl,rfl⟩:=b1q hrel;simp only[vg]at hfn;cases hc:(Nat.blt x.1.length 4294967281&&Nat.blt x.2.length 4294967281&&IG x.1&&IG x.2)
 .rw[hc]at hfn;cases hfn
 .rw[hc]at hfn;cases hfn;simp only[A8,bf]at hc;obtain⟨⟨⟨h1,h2⟩,h3⟩,h4⟩:=hc;refine(hC ⟨x.1.toArray⟩ ⟨x.2.toArray⟩ w (by simpa[ByteArray.size]using h1) (by simpa[ByteArray.size]using h2) (Nj h3) (Nj h4)).mono λe w' ⟨he,hw⟩=>?_;subst he;exact Ak (P:=P) (t:=.int .i64) (x:=Lib.indexAny x.1 x.2) (ps:=[(false,.dat .str),(false,.dat .str)]) (vals:=[_,_]) hw hlt ⟨rfl,rfl⟩ rfl
end Go.GP
namespace Go.GP
open Go.Shelf Go.RowKit Go.Proofs
structure Lw (P:Program) (ρ:Ren):Prop where
 mixed:P.follows Departure.mixedOrders=true
 f166:P.funcs[ρ.f 166]? =some (Body.n166 ρ)
 t72:P.underlying (ρ.t 72)=some (.struct #[{ name:= "addr",type:=ρ.t 70,offset:=0,embedded:=false,tag:= "",pkgPath:= "strings",byteOffset:=0 },{ name:= "buf",type:=ρ.t 37,offset:=1,embedded:=false,tag:= "",pkgPath:= "strings",byteOffset:=8 }])
 a72:∀w:World,(isAgg (ρ.t 72)).run P w= .ok true w
 z72:∀w:World,(sizeOf (ρ.t 72)).run P w= .ok 2 w
 v72:∀w:World,(zeroValue (ρ.t 72)).run P w= .ok (.agg #[.pointer none,.slice none 0 0]) w
 t70:P.underlying (ρ.t 70)=some (.pointer (ρ.t 72))
 a70:∀w:World,(isAgg (ρ.t 70)).run P w= .ok false w
 z70:∀w:World,(sizeOf (ρ.t 70)).run P w= .ok 1 w
 v70:∀w:World,(zeroValue (ρ.t 70)).run P w= .ok (.pointer none) w
 t37:P.underlying (ρ.t 37)=some (.slice (ρ.t 5))
 a37:∀w:World,(isAgg (ρ.t 37)).run P w= .ok false w
 z37:∀w:World,(sizeOf (ρ.t 37)).run P w= .ok 1 w
 v37:∀w:World,(zeroValue (ρ.t 37)).run P w= .ok (.slice none 0 0) w
 t3:P.underlying (ρ.t 3)=some (.int .i64)
 a3:∀w:World,(isAgg (ρ.t 3)).run P w= .ok false w
 z3:∀w:World,(sizeOf (ρ.t 3)).run P w= .ok 1 w
 v3:∀w:World,(zeroValue (ρ.t 3)).run P w= .ok (.int .i64 0) w
 t9:P.underlying (ρ.t 9)=some (.string)
 a9:∀w:World,(isAgg (ρ.t 9)).run P w= .ok false w
 z9:∀w:World,(sizeOf (ρ.t 9)).run P w= .ok 1 w
 v9:∀w:World,(zeroValue (ρ.t 9)).run P w= .ok (.string ⟨#[]⟩) w
 t4:P.underlying (ρ.t 4)=some (.bool)
 a4:∀w:World,(isAgg (ρ.t 4)).run P w= .ok false w
 z4:∀w:World,(sizeOf (ρ.t 4)).run P w= .ok 1 w
 v4:∀w:World,(zeroValue (ρ.t 4)).run P w= .ok (.bool false) w
 t164:P.underlying (ρ.t 164)=some (.unsafePointer)
 a164:∀w:World,(isAgg (ρ.t 164)).run P w= .ok false w
 z164:∀w:World,(sizeOf (ρ.t 164)).run P w= .ok 1 w
 v164:∀w:World,(zeroValue (ρ.t 164)).run P w= .ok (.pointer none) w
 e240:∀args w,(callFunc (ρ.f 240) args).run P w= .ok (.enter (ρ.f 240) args) w
 used:∀(b:Nat) (w:World),w.cell? ⟨b,0,none⟩=some (.pointer (some ⟨b,0,none⟩))->Calls P (ρ.f 240) #[.pointer (some ⟨b,0,none⟩)] w λe w' =>e= .returned (.tuple #[])/\w' =w
 fresh:∀(b:Nat) (w:World),w.cell? ⟨b,0,none⟩=some (.pointer none)->w.shape? b=some (ρ.t 72,2)->w.frozen? ⟨b,0,none⟩=false->Calls P (ρ.f 240) #[.pointer (some ⟨b,0,none⟩)] w λe w' =>e= .returned (.tuple #[])/\w' =w.setCell ⟨b,0,none⟩ (.pointer (some ⟨b,0,none⟩))
variable {P:Program} {ρ:Ren}
theorem Lw.check(L:Lw P ρ){b:Nat}{w:World}{a v:Value}(hb:w.heap[b]? =some (.cells #[a,v] (ρ.t 72) (0,0)))(ha:a= .pointer none\/a= .pointer (some ⟨b,0,none⟩)):
  Calls P (ρ.f 240) #[.pointer (some ⟨b,0,none⟩)] w λe w' =>e= .returned (.tuple #[])/\w'.heap[b]? =some (.cells #[.pointer (some ⟨b,0,none⟩),v] (ρ.t 72) (0,0))/\w'.heap.size=w.heap.size/\OthB w w' [b]:=by
 have c0:w.cell? ⟨b,0,none⟩=some a:=by rw[Lib.cell_of_heap hb];rfl
 rcases ha with rfl|rfl
 .refine(L.fresh b w c0 (by simp[World.shape?,hb]) (Lib.frozen_of_heap hb 0)).mono ?_;rintro e w' ⟨rfl,rfl⟩;refine⟨rfl,?_,by simp[World.setCell],⟨rfl,rfl,rfl,by simp[World.setCell],λk _ hk=>Below.heap_setCell _ _ _ _ (λe=>hk (by simp[e]))⟩⟩;rw[setCell_eq_setRow w b 0 _ _ _ _ hb];exact setRow_heap w b _ _ _ _ hb
 .refine(L.used b w c0).mono ?_;rintro e w' ⟨rfl,rfl⟩;exact⟨rfl,hb,rfl,⟨rfl,rfl,rfl,C9 _,λ_ _ _=>rfl⟩⟩
set_option maxHeartbeats 2000000 in
set_option maxRecDepth 100000 in
theorem YF(L:Lw P ρ)(X:Builder.Extra P ρ){b:Nat}{w:World}{a v:Value}{l:Loc}{xs ys:List UInt8}(hb:w.heap[b]? =some (.cells #[a,v] (ρ.t 72) (0,0)))(ha:a= .pointer none\/a= .pointer (some ⟨b,0,none⟩))
  (hv:l.view none v) (hr:xM w.heap (ρ.t 5) xs l) (hlen:xs.length+ys.length<=140737488355328) (hnb:b∉l.blks):
  Calls P (ρ.f 166) #[.pointer (some ⟨b,0,none⟩),.string ⟨ys.toArray⟩] w λe w' =>e= .returned (.tuple #[.int .i64 ys.length,.nilIface])/\
   ∃v' l',w'.heap[b]? =some (.cells #[.pointer (some ⟨b,0,none⟩),v'] (ρ.t 72) (0,0))/\l'.view none v' /\xM w'.heap (ρ.t 5) (xs++ys) l' /\b∉l'.blks/\(∀k∈l'.blks,k∈l.blks\/w.heap.size<=k)/\OthB w w' (b::l.blks):=by
 obtain⟨i0,hi,hz0,hz1,hz2⟩:=info_parts X.infoByte;have mixed:=L.mixed;have t72:=L.t72;have a72:=L.a72;have z72:=L.z72;have v72:=L.v72;have u72:=run_underlying L.t72;have t70:=L.t70;have a70:=L.a70;have z70:=L.z70;have v70:=L.v70;have u70:=run_underlying L.t70;have t37:=L.t37;have a37:=L.a37;have z37:=L.z37;have v37:=L.v37;have u37:=run_underlying L.t37;have t3:=L.t3;have a3:=L.a3;have z3:=L.z3;have v3:=L.v3;have u3:=run_underlying L.t3;have t9:=L.t9;have a9:=L.a9;have z9:=L.z9;have v9:=L.v9;have u9:=run_underlying L.t9;have t4:=L.t4;have a4:=L.a4;have z4:=L.z4;have v4:=L.v4;have u4:=run_underlying L.t4;have t164:=L.t164;have a164:=L.a164;have z164:=L.z164;have v164:=L.v164;have u164:=run_underlying L.t164;have t5:=X.t5;have a5:=X.a5;have z5:=X.z5;have v5:=X.v5;have u5:=run_underlying X.t5;have e240:=L.e240;have hlt:b<w.heap.size:=(J6.1 hb).1
 go_enter L.f166,Body.n166_ntmps ρ
 go_wp2_with (go_at_fn (ρ.f 240);refine(L.check hb ha).mono ?_)
 rintro e w1 ⟨rfl,hb1,hs1,ho1⟩;have c0:w1.cell? ⟨b,0,none⟩=some (.pointer (some ⟨b,0,none⟩)):=by rw[Lib.cell_of_heap hb1];rfl
 have c1:w1.cell? ⟨b,1,none⟩=some v:=by rw[Lib.cell_of_heap hb1];rfl
 have hr1:xM w1.heap (ρ.t 5) xs l:=AU (λk hk=>ho1.block k (a4H hr k hk) (λe=>hnb (by simp at e;rw[←e];exact hk))) hr
 go_wp2_with (at_builtin;refine YE rfl _ _ (ρ.t 37) (ρ.t 9) rfl L.t37 L.t9 hi hz0 hz1 hz2 rfl rfl hv hr1 hlen ?_)
 intro v' w2 l' hv' hr' hbl ho2;have hb2:w2.heap[b]? =some (.cells #[.pointer (some ⟨b,0,none⟩),v] (ρ.t 72) (0,0)):=by rw[ho2.block b l7 hnb];exact hb1
 have d0:w2.cell? ⟨b,0,none⟩=some (.pointer (some ⟨b,0,none⟩)):=by rw[Lib.cell_of_heap hb2];rfl
 have d1:w2.cell? ⟨b,1,none⟩=some v:=by rw[Lib.cell_of_heap hb2];rfl
 have f1:w2.frozen? ⟨b,1,none⟩=false:=Lib.frozen_of_heap hb2 1;have hnb' :b∉l'.blks:=λh=>(hbl b h).elim hnb (λh=>by omega);have hone:=nC hv';obtain⟨ao,n',cap,rfl⟩:∃ao n' cap,v' = .slice ao n' cap:=by
  cases l' with
  |nil=>exact⟨_,_,_,hv'⟩|st _=>cases hr'|mp _=>cases hr'|arr g off len cap sz=>exact⟨_,_,_,hv'⟩
 go_wp2
 go_ret2
 refine⟨by simp[ByteArray.size],_,l',?_,hv',AU (λk hk=>Below.heap_setCell _ _ _ _ (λe=>hnb' (by have e:k=b:=e;rw[←e];exact hk))) hr',hnb',λk hk=>(hbl k hk).elim .inl (λh=> .inr l7),?_⟩
 .rw[setCell_eq_setRow w2 b 1 _ _ _ _ hb2];exact setRow_heap w2 b _ _ _ _ hb2
 .refine⟨ho2.os.trans ho1.os,ho2.tape.trans ho1.tape,ho2.output.trans ho1.output,?_,λk hk hn=>?_⟩
  .have:=ho2.size;simp[World.setCell];omega
  .simp only[D6,not_or]at hn;rw[Below.heap_setCell _ _ _ _ (λe=>hn.1 e),ho2.block k l7 hn.2,ho1.block k hk (by simpa using hn.1)]
theorem Sr{gl:List (Nat×(t:Ty)×List t.den)}(L:Lw P ρ)(X:Builder.Extra P ρ):
  gz P gl (ρ.f 166) ⟨[(false,.sbx (ρ.t 72) (ρ.t 5)),(false,.dat .str)],[(false,.dat (.int .i64)),(false,.cell none)],[(false,.sbx (ρ.t 72) (ρ.t 5))],λx=>lV x.1 x.2⟩:=by
 intro w ok O vals x r hok hO hO2 hgl hrel hF;obtain⟨xs,ys⟩:=x;have hF:lV xs ys=some r:=hF;unfold lV at hF;split at hF
 case isFalse=>cases hF
 rename_i hmax;cases hF;obtain⟨v0,cs0,vs',O1,O2,rfl,rfl,hg,h1,hrest⟩:=hrel;obtain⟨v1,cs1,rfl,hg1,h2,rfl⟩:=hrest;have hg:cs0=[v0]:=hg;have hg1:cs1=[v1]:=hg1;subst hg;subst hg1;have h2:[v1]=[Value.string ⟨ys.toArray⟩]:=h2;simp only[G6,and_true]at h2;subst h2;obtain⟨b,a,v,l,e,hb,ha,hv,hr,rfl⟩:=h1;simp only[G6,and_true]at e;subst e;have hnd:(b::l.blks).Nodup:=by simpa using hO
 have hnb:=(dF.1 hnd).1;refine(YF L X hb ha hv hr (show xs.length+ys.length<=140737488355328 by omega) hnb).mono ?_;rintro e w' ⟨rfl,v',l',hb',hv',hr',hnb',hbl,ho⟩;have hlt:b<w.heap.size:=(J6.1 hb).1;have hlt' :b<w'.heap.size:=(J6.1 hb').1;have hnd' :(b::l'.blks).Nodup:=dF.2 ⟨hnb',Loc.blks_nodup l'⟩;refine⟨_,ok,b::l'.blks,[.int .i64 ys.length,.nilIface],[.pointer (some ⟨b,0,none⟩)],[],rfl,⟨ho.os,ho.tape,ho.output,ho.size,λk hk hn=>ho.block k hk (by simpa using hn)⟩,λ_ _ h=>h,λk t hk=>⟨gI (hok k t hk) ho.size,.inl hk⟩,by simpa using hnd',?_,⟨rfl,rfl⟩,⟨_,rfl,rfl,rfl⟩,?_⟩
 .intro k hk;rw[E5]at hk;rcases D6.1 hk with rfl|hk
  .exact⟨(hO2 k A7).1,hlt',.inr A7⟩
  .refine⟨λt hkt=>?_,a4H hr' k hk,?_⟩
   .rcases hbl k hk with h|h
    .exact(hO2 k (by simp[h])).1 t hkt
    .have:=hok k t hkt;omega
   .rcases hbl k hk with h|h
    .exact .inr (by simp[h])
    .exact .inl h
 .refine⟨.int .i64 ys.length,[.int .i64 ys.length],[.nilIface,.pointer (some ⟨b,0,none⟩)],[],b::l'.blks,rfl,rfl,rfl,⟨rfl,rfl⟩,?_⟩;refine⟨.nilIface,[.nilIface],[.pointer (some ⟨b,0,none⟩)],[],b::l'.blks,rfl,rfl,rfl,⟨_,rfl,rfl,(λh=>nomatch h),(λ_ h=>nomatch h),rfl⟩,?_⟩;exact⟨_,_,rfl,rfl,⟨b,_,v',l',rfl,hb',.inr rfl,hv',hr',rfl⟩⟩
end Go.GP
