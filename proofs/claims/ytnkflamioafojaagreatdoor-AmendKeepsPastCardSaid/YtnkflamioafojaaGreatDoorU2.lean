import Derived.Test.YtnkflamioafojaaGreatDoorU1
import Derived.Shelf.Strings.BuilderF
import Derived.Shelf.Strings.IndexAnyAll
import Derived.Lib.IndexMore
import Derived.Shelf.Strings.Split
import Derived.Lib.FrozenHead2
set_option linter.all false
namespace Go.GP
open Go.Shelf Go.RowKit Go.Proofs
structure OthB (w w' :World) (ks:d4K):Prop where
 os:w'.os=w.os
 tape:w'.tape=w.tape
 output:w'.output=w.output
 size:w.heap.size<=w'.heap.size
 block:∀k,k<w.heap.size->k∉ks->w'.heap[k]? =w.heap[k]?
theorem OthB.trans{a b c:World}{ks:d4K}(h:OthB a b ks)(k:OthB b c ks):OthB a c ks:=
 ⟨k.os.trans h.os,k.tape.trans h.tape,k.output.trans h.output,aU h.size k.size,λi hi hn=>(k.block i (gK hi h.size) hn).trans (h.block i hi hn)⟩
variable {xs:d4H}{l:Loc}
theorem ZZ{h:Array Obj}{te:Nat}(hr:vV h te xs l):∀b∈l.blks,b<h.size:=by
 intro b hb;cases l with
 |nil=>simp[Loc.blks]at hb|st b=>cases hr|mp b=>cases hr|arr g off len cap sz=>simp[Loc.blks]at hb;subst hb;obtain⟨_,_,_,_,_,cur,fz,h6,_⟩:=hr;exact(J6.1 h6).1
variable {w:World}
theorem a5T{P:Program}{t u ty e:TypeId}{i:TypeInfo}(ht:P.underlying t=some (.slice e))(hu:P.underlying u=some .string)(hi:P.info? e=some i)(hz:i.zero=some (.int .u8 0))
  (hsize:i.size=1) (hby:i.bytes=1) {v:Value} {l:Loc} {xs ys:d4H} (hv:l.view none v) (hr:vV w.heap e xs l) (hmax:xs.length+ys.length<=140737488355328):
  ∃v' w' l',(Builtin.append_ #[t,u] ty #[v,.string ⟨ys.toArray⟩]).run P w= .ok v' w' /\l'.view none v' /\vV w'.heap e (xs++ys) l' /\(∀b∈l'.blks,b∈l.blks\/w.heap.size<=b)/\OthB w w' l.blks:=by
 have hys:(⟨ys.toArray⟩:ByteArray).size=ys.length:=by simp[ByteArray.size]
 have hsc:Lib.strCells ⟨ys.toArray⟩=ys.map λc=>Value.int .u8 (c.toNat:Int):=rfl;have hback:∀{B:Nat} {h:Array Obj} {w' :World} {v' :Value} {zs:d4H} {n:Nat},n=zs.length->w'.ownsRowF B e 1 v' n (zs.map λc=>Value.int .u8 (c.toNat:Int))->∃l',l'.view none v' /\vV w'.heap e zs l' /\∀b∈l'.blks,B<=b:=by
  intro B h w' v' zs n hn ho;rcases ho.2 with⟨rfl,h0⟩|⟨g,cap,cur,fz,rfl,hB,hg,hfz,hc,hcm,hcs,htk⟩
  .exact⟨.nil,rfl,(O7.1 (hn▸h0)),λb hb=>by simp[Loc.blks]at hb⟩
  .exact⟨.arr g 0 n cap 1,rfl,⟨rfl,rfl,hn,hc,hcm,cur,fz,hg,o5,o5,by rw[bY]at htk;exact htk⟩,λb hb=>by simp[Loc.blks]at hb;subst hb;exact hB⟩
 cases l with
 |st b=>cases hr|mp b=>cases hr|nil=>have hr:xs=[]:=hr;subst hr;have hv:v= .slice none 0 0:=hv;subst hv;obtain⟨v',w',h1,h2,h3,h4⟩:=Lib.run_append_own_stringF (P:=P) w w.heap.size t u ty e i ht hu hi hz hsize hby (.slice none 0 0) 0 [] ⟨rfl,.inl ⟨rfl,rfl⟩⟩ ⟨ys.toArray⟩ (by rw[hys];simp at hmax;unfold maxLen;omega) (by rw[hys];simpa using hmax) (E8 _);rw[hsc,J9,hys,iq]at h2;obtain⟨l',g1,g2,g3⟩:=hback (h:=w'.heap) rfl h2;exact⟨v',w',l',h1,g1,by simpa using g2,λb hb=> .inr (g3 b hb),⟨h3.os,h3.tape,h3.output,h3.size,λk hk _=>h3.block k hk (by simp[Value.ownBlock])⟩⟩
 |arr g off len cap sz=>
  obtain⟨rfl,rfl,rfl,hc,hcm,cur,fz,hg,hfz,hcs,htk⟩:=hr;have hv:v= .slice (some ⟨g,0,none⟩) xs.length cap:=hv;subst hv;by_cases hroom:xs.length+ys.length<=cap
  .have hrun:=Lib.run_append_room_stringF (P:=P) w t u ty e i ht hu hi hsize g xs.length cap cur fz hg hfz ⟨ys.toArray⟩ (by rw[hys];exact hroom) (by rw[hys];omega);rw[hys,hsc]at hrun;refine⟨_,_,.arr g 0 (xs.length+ys.length) cap 1,hrun,rfl,⟨rfl,rfl,A7,hroom,hcm,_,fz,setRow_heap w g cur _ e _ hg,o5,?_,?_⟩,λb hb=> .inl hb,⟨rfl,rfl,rfl,A7,λk _ hk=>setRow_other w g k _ (λe=>hk (by simp[Loc.blks,e]))⟩⟩
   .simp only[bC,I9,fB,kX,bT,H9];omega
   .rw[htk,G5,←G5,←bJ];rw[show xs.length+ys.length=((xs++ys).map λc=>Value.int .u8 (c.toNat:Int)).length by simp];exact List.take_left
  .have holds:∀(j:Nat) (u:Value),(xs.map λc=>Value.int .u8 (c.toNat:Int))[j]? =some u->w.cell? ((⟨g,0,none⟩:Addr).add j)=some u:=λj u hj=>by
    have ho:w.ownsRowF 0 e 1 (.slice (some ⟨g,0,none⟩) xs.length cap) xs.length (xs.map λc=>Value.int .u8 (c.toNat:Int)):=⟨A7,.inr ⟨g,cap,cur,fz,rfl,gX _,hg,o5,hc,hcm,o5,by rw[bY];exact htk⟩⟩;exact ho.cells (g:=g) rfl j u hj
   have hrun:=Lib.run_append_grow_string (P:=P) w t u ty e i (.int .u8 0) ht hu hi hz ⟨g,0,none⟩ xs.length cap (xs.map λc=>Value.int .u8 (c.toNat:Int)) (by rw[hsize];simp) holds ⟨ys.toArray⟩ (by rw[hys];omega) (by rw[hys];omega) (by rw[hby,hys];exact growslice_fits o5 o5);rw[hys,hsc]at hrun;have hge:=grownCap_ge w (xs.length+ys.length) cap e;have hcm2:grownCap w (xs.length+ys.length) cap e<=maxLen:=grownCap_le_maxLen w (xs.length+ys.length) cap e (by unfold maxLen;omega);refine⟨_,_,.arr w.heap.size 0 (xs.length+ys.length) _ 1,hrun,rfl,⟨rfl,rfl,A7,hge,hcm2,_,(0,0),heap_alloc_new w.drew _,gX _,?_,?_⟩,λb hb=> .inr (by simp[Loc.blks]at hb;omega),⟨rfl,rfl,rfl,A7,λk hk _=>heap_alloc_old w.drew _ hk⟩⟩
   .have hz1:(Value.int IntKind.u8 0).cells.size=1:=rfl;simp only[qO,bC,size_zeroCells,hz1,H9];omega
   .simp only[oK,G5];rw[←G5,←bJ];rw[show xs.length+ys.length=((xs++ys).map λc=>Value.int .u8 (c.toNat:Int)).length by simp];exact List.take_left
theorem a5V{P:Program}{ops:Array Oper}{rest:List Oper}{o:Oper}{a:Act}{Q:Exit->Act->World->Prop}{w:World}(hgd:o.guard=none)(sl x:Operand)(t u:TypeId)
  (ho:o.op= .call { callee:=.builtin .append,args:=#[sl,x],argTypes:=#[t,u] }) {e:TypeId} {i:TypeInfo} (ht:P.underlying t=some (.slice e)) (hu:P.underlying u=some .string) (hi:P.info? e=some i) (hz:i.zero=some (.int .u8 0))
  (hsize:i.size=1) (hby:i.bytes=1) {v:Value} {l:Loc} {xs ys:d4H} (hs:a.eval sl=v) (hx:a.eval x= .string ⟨ys.toArray⟩) (hv:l.view none v) (hr:vV w.heap e xs l) (hmax:xs.length+ys.length<=140737488355328)
  (h:∀v' w' l',l'.view none v' ->vV w'.heap e (xs++ys) l' ->(∀b∈l'.blks,b∈l.blks\/w.heap.size<=b)->OthB w w' l.blks->wpList P ops Q rest (a.put o.dst v') w'):wpList P ops Q (o::rest) a w:=by
 refine wpList_plain hgd λK hK=>?_;obtain⟨v',w',l',h1,h2,h3,h4,h5⟩:=a5T (ty:=o.type) ht hu hi hz hsize hby hv hr hmax;unfold Oper.wp execOp;simp only[ho,resolve,invoke,builtin,I4,au,J5,List.map_toArray,bW,jy,hs,hx,h1];exact hK _ _ (h v' w' l' h2 h3 h4 h5)
variable {P:Program} {ρ:Ren}
set_option maxHeartbeats 2000000 in
set_option maxRecDepth 100000 in
set_option maxHeartbeats 2000000 in
set_option maxRecDepth 100000 in
theorem b6R(L:Lays.n170 P ρ){b:Nat}{a v:Value}(hb:w.heap[b]? =some (.cells #[a,v] (ρ.t 72) (0,0)))(hv:l.view none v)(hr:vV w.heap (ρ.t 5) xs l):
  Calls P (ρ.f 170) #[.pointer (some ⟨b,0,none⟩)] w λe w' =>e= .returned (.int .i64 xs.length)/\w' =w:=by
 obtain⟨ao,cap,rfl⟩:∃ao cap,v= .slice ao xs.length cap:=by
  cases l with
  |nil=>have h:xs=[]:=hr;subst h;exact⟨_,_,hv⟩|st _=>cases hr|mp _=>cases hr|arr g off len cap sz=>obtain⟨_,_,rfl,_⟩:=hr;exact⟨_,_,hv⟩
 have c1:w.cell? ⟨b,1,none⟩=some (.slice ao xs.length cap):=by rw[Lib.cell_of_heap hb];rfl
 have mixed:=L.mixed;have t72:=L.t72;have a72:=L.a72;have z72:=L.z72;have v72:=L.v72;have u72:=run_underlying L.t72;have t70:=L.t70;have a70:=L.a70;have z70:=L.z70;have v70:=L.v70;have u70:=run_underlying L.t70;have t37:=L.t37;have a37:=L.a37;have z37:=L.z37;have v37:=L.v37;have u37:=run_underlying L.t37;have t3:=L.t3;have a3:=L.a3;have z3:=L.z3;have v3:=L.v3;have u3:=run_underlying L.t3
 go_enter L.f170,Body.n170_ntmps ρ
 go_wp2
 go_ret
 exact⟨rfl,rfl⟩
set_option maxHeartbeats 2000000 in
set_option maxRecDepth 100000 in
theorem a5U(L:Lays.n169 P ρ)(X:Builder.Extra P ρ){b:Nat}{p v:Value}(hb:w.heap[b]? =some (.cells #[p,v] (ρ.t 72) (0,0)))
  (hv:l.view none v) (hr:vV w.heap (ρ.t 5) xs l) (hlen:xs.length<=140737488355328) (hnb:b∉l.blks):
  Calls P (ρ.f 169) #[.pointer (some ⟨b,0,none⟩)] w λe w' =>e= .returned (.string ⟨xs.toArray⟩)/\w'.heap[b]? =some (.cells #[p,v] (ρ.t 72) (0,0))/\vV w'.heap (ρ.t 5) xs l/\OthB w w' l.blks:=by
 have mixed:=L.mixed;have t72:=L.t72;have a72:=L.a72;have z72:=L.z72;have v72:=L.v72;have u72:=run_underlying L.t72;have t70:=L.t70;have a70:=L.a70;have z70:=L.z70;have v70:=L.v70;have u70:=run_underlying L.t70;have t37:=L.t37;have a37:=L.a37;have z37:=L.z37;have v37:=L.v37;have u37:=run_underlying L.t37;have t127:=L.t127;have a127:=L.a127;have z127:=L.z127;have v127:=L.v127;have u127:=run_underlying L.t127;have t3:=L.t3;have a3:=L.a3;have z3:=L.z3;have v3:=L.v3;have u3:=run_underlying L.t3;have t9:=L.t9;have a9:=L.a9;have z9:=L.z9;have v9:=L.v9;have u9:=run_underlying L.t9;have t5:=X.t5;have a5:=X.a5;have z5:=X.z5;have v5:=X.v5;have u5:=run_underlying X.t5;have hlt:b<w.heap.size:=(J6.1 hb).1;have c1:w.drew.cell? ⟨b,1,none⟩=some v:=by have:w.drew.heap[b]? =some (.cells #[p,v] (ρ.t 72) (0,0)):=hb;rw[Lib.cell_of_heap this];rfl
 have hdrew:OthB w w.drew l.blks:=⟨rfl,rfl,rfl,E8 _,λ_ _ _=>rfl⟩;cases l with
 |st _=>cases hr|mp _=>cases hr|nil=>
  have hx:xs=[]:=hr;subst hx;have hv:v= .slice none 0 0:=hv;subst hv;have hUS:=Any.unsafeString_none L X;have hSD:(Builtin.unsafeSliceData_ #[(ρ.t 37)] (ρ.t 127) #[.slice none 0 0]).run P w.drew= .ok (.pointer none) w.drew:=rfl
  go_enter L.f169,Body.n169_ntmps ρ
  go_wp2
  go_region_o
  all_goals (go_wp2;go_ret;exact⟨rfl,hb,rfl,hdrew⟩)
 |arr g off len cap sz=>
  have hr0:=hr;obtain⟨rfl,rfl,rfl,hc,hcm,cur,fz,hg,hfz,hcs,htk⟩:=hr;have hv:v= .slice (some ⟨g,0,none⟩) xs.length cap:=hv;subst hv;have hgd:w.drew.heap[g]? =some (.cells cur (ρ.t 5) fz):=hg;by_cases hx0:xs=[]
  .subst hx0;have hUS:=Any.unsafeString_none L X;by_cases hc0:cap=0
   .subst hc0;have hSD:(Builtin.unsafeSliceData_ #[(ρ.t 37)] (ρ.t 127) #[.slice (some ⟨g,0,none⟩) 0 0]).run P w.drew= .ok (.pointer (some ⟨w.drew.heap.size,0,none⟩)) (w.drew.alloc (.view ⟨g,0,none⟩ (ρ.t 5))):=
     Lib.run_unsafeSliceData_zero w.drew _ _ (ρ.t 5) L.t127 ⟨g,0,none⟩ 0 ((ρ.t 5),cur.size) (by simp[World.shape?,hgd])
    have hal:(w.drew.alloc (.view ⟨g,0,none⟩ (ρ.t 5))).heap[b]? =some (.cells #[p,.slice (some ⟨g,0,none⟩) 0 0] (ρ.t 72) (0,0)):=(heap_alloc_old w.drew _ hlt).trans hb;have c2:(w.drew.alloc (.view ⟨g,0,none⟩ (ρ.t 5))).cell? ⟨b,1,none⟩=some (.slice (some ⟨g,0,none⟩) 0 0):=by rw[Lib.cell_of_heap hal];rfl
    have c3:(w.alloc (.view ⟨g,0,none⟩ (ρ.t 5))).drew.cell? ⟨b,1,none⟩=some (.slice (some ⟨g,0,none⟩) 0 0):=c2;have c0:w.cell? ⟨b,1,none⟩=some (.slice (some ⟨g,0,none⟩) 0 0):=c1;have hglt:g<w.heap.size:=(J6.1 hg).1;have fin:∀w',w' =w.drew.alloc (.view ⟨g,0,none⟩ (ρ.t 5))->w'.heap[b]? =some (.cells #[p,.slice (some ⟨g,0,none⟩) 0 0] (ρ.t 72) (0,0))/\vV w'.heap (ρ.t 5) [] (.arr g 0 0 0 1)/\OthB w w' [g]:=λw' e=>by subst e;exact⟨hal,yL (λk hk=>by simp[Loc.blks]at hk;subst hk;exact heap_alloc_old w.drew _ hglt) hr0,⟨rfl,rfl,rfl,A7,λk hk _=>heap_alloc_old w.drew _ hk⟩⟩
    go_enter L.f169,Body.n169_ntmps ρ
    go_wp2
    go_region_o
    all_goals (go_wp2;go_ret;exact⟨rfl,fin _ rfl⟩)
   .have hSD:(Builtin.unsafeSliceData_ #[(ρ.t 37)] (ρ.t 127) #[.slice (some ⟨g,0,none⟩) 0 cap]).run P w.drew= .ok (.pointer (some ⟨g,0,none⟩)) w.drew:=
     Lib.run_unsafeSliceData_row _ _ _ _ _ _ hc0
    clear hc0
    go_enter L.f169,Body.n169_ntmps ρ
    go_wp2
    go_region_o
    all_goals (go_wp2;go_ret;exact⟨rfl,hb,hr0,hdrew⟩)
  .have hl0:xs.length≠0:=by simpa using hx0
   have hSD:(Builtin.unsafeSliceData_ #[(ρ.t 37)] (ρ.t 127) #[.slice (some ⟨g,0,none⟩) xs.length cap]).run P w.drew= .ok (.pointer (some ⟨g,0,none⟩)) w.drew:=
    Lib.run_unsafeSliceData_row _ _ _ _ _ _ o5
   have hown:w.ownsRowF 0 (ρ.t 5) 1 (.slice (some ⟨g,0,none⟩) xs.length cap) xs.length (xs.map λc=>Value.int .u8 (c.toNat:Int)):=⟨A7,.inr ⟨g,cap,cur,fz,rfl,gX _,hg,o5,hc,hcm,o5,by rw[bY];exact htk⟩⟩;have hUS:(Builtin.unsafeString_ #[(ρ.t 127),(ρ.t 3)] (ρ.t 9) #[.pointer (some ⟨g,0,none⟩),.int .i64 xs.length]).run P w.drew= .ok (.string ⟨xs.toArray⟩) (w.drew.freeze ⟨g,0,none⟩ xs.length):=by refine Lib.run_unsafeString_row w.drew (ρ.t 127) (ρ.t 3) (ρ.t 9) (ρ.t 5) L.t127 X.cellsByte g cur.size (by simp[World.shape?,hgd]) xs hx0 o5 (by unfold maxLen at hcm;omega) ?_;intro j x hx;exact hown.cells (g:=g) rfl j (.int .u8 x.toNat) (by simp[hx])
   have hA:Lib.BuilderAtF (ρ.t 72) (ρ.t 5) 0 b p (Lib.byteCells xs) w.drew:=⟨gX _,_,hb,by rw[Lib.byteCells_length];exact hown,λe=>hnb (by simp[Loc.blks];simpa[Value.ownBlock]using e.symm)⟩;have hF:=hA.froze (g:=g) (cap:=cap) (by rw[Lib.byteCells_length];exact c1);rw[Lib.byteCells_length]at hF;have hgb:b≠g:=λe=>hnb (by simp[Loc.blks,e]);have fin:∀w',w' =w.drew.freeze ⟨g,0,none⟩ xs.length->w'.heap[b]? =some (.cells #[p,.slice (some ⟨g,0,none⟩) xs.length cap] (ρ.t 72) (0,0))/\vV w'.heap (ρ.t 5) xs (.arr g 0 xs.length cap 1)/\OthB w w' [g]:=λw' e=>by
    subst e;obtain⟨_,v2,hb2,ho2,_⟩:=hF;have ho:∀k,k≠g->(w.drew.freeze ⟨g,0,none⟩ xs.length).heap[k]? =w.heap[k]?:=λk hk=>by
     unfold World.freeze;split
     .rfl
     .simp only[rP];rw[if_neg (λe=>hk e.symm)];rfl
    have hbb:=ho b hgb;rw[hb2,hb]at hbb;simp only[H7,Obj.cells.injEq,and_true,Array.mk.injEq,H6,true_and]at hbb;have hv2:v2= .slice (some ⟨g,0,none⟩) xs.length cap:=by simpa using hbb
    subst hv2;refine⟨hb2,?_,⟨by unfold World.freeze;split<;>rfl,by unfold World.freeze;split<;>rfl,by unfold World.freeze;split<;>rfl,?_,λk _ hk=>ho k (by simpa using hk)⟩⟩
    .rw[Lib.byteCells_length]at ho2;rcases ho2.2 with⟨h,_⟩|⟨g',cap',cur',fz',e,_,h1,h2,h3,h4,h5,h6⟩
     .cases h
     .simp only[qU,H7,jf,and_true]at e;obtain⟨rfl,_,rfl⟩:=e;exact⟨rfl,rfl,rfl,h3,h4,cur',fz',h1,o5,o5,by rw[bY]at h6;exact h6⟩
    .unfold World.freeze;split<;>simp
   go_enter L.f169,Body.n169_ntmps ρ
   go_wp2
   go_region_o
   all_goals (go_wp2;go_ret;exact⟨rfl,fin _ rfl⟩)
def GR(x ys:d4H):Option (Int×Unit×d4H):=if x.length+ys.length<=1073741824 then some (ys.length,(),x++ys)else none
def Ti(x:d4H):Option (Int×d4H):=some (x.length,x)
def EC(x:d4H):Option (d4H×d4H):=if x.length<=1073741824 then some (x,x)else none
theorem a5X{gl:List (Nat×(t:Ty)×List t.den)}(L:Lays.n170 P ρ):
  dH P gl (ρ.f 170) ⟨[(false,.sbx (ρ.t 72) (ρ.t 5))],[(false,.dat (.int .i64))],[(false,.sbx (ρ.t 72) (ρ.t 5))],λx=>Ti x⟩:=by
 intro w ok O vals xs r hok hO hO2 hgl hrel hdv hF;have hF:some ((xs.length:Int),xs)=some r:=hF;cases hF;obtain⟨v0,cs0,rfl,hg,h1⟩:=hrel;have hg:cs0=[v0]:=hg;subst hg;obtain⟨b,a,v,l,e,hb,ha,hv,hr,rfl⟩:=h1;simp only[H6,and_true]at e;subst e;refine(b6R L hb hv hr).mono ?_;rintro e w' ⟨rfl,rfl⟩;refine⟨_,ok,b::l.blks,[.int .i64 xs.length],[.pointer (some ⟨b,0,none⟩)],[],rfl,Frame'.refl _ _,λ_ _ h=>h,λk t hk=>⟨hok k t hk,.inl hk⟩,by simpa using hO,λk hk=>?_,⟨rfl,rfl⟩,⟨_,rfl,rfl,rfl⟩,?_⟩
 .rw[G7]at hk;exact⟨(hO2 k hk).1,(hO2 k hk).2,.inr hk⟩
 .refine⟨.int .i64 xs.length,[.int .i64 xs.length],[.pointer (some ⟨b,0,none⟩)],[],b::l.blks,rfl,rfl,rfl,⟨rfl,rfl⟩,?_⟩;exact⟨_,_,rfl,rfl,⟨b,a,v,l,rfl,hb,ha,hv,hr,rfl⟩⟩
theorem E_{gl:List (Nat×(t:Ty)×List t.den)}(L:Lays.n169 P ρ)(X:Builder.Extra P ρ):
  dH P gl (ρ.f 169) ⟨[(false,.sbx (ρ.t 72) (ρ.t 5))],[(false,.dat .str)],[(false,.sbx (ρ.t 72) (ρ.t 5))],λx=>EC x⟩:=by
 intro w ok O vals xs r hok hO hO2 hgl hrel hdv hF;have hF:EC xs=some r:=hF;unfold EC at hF;split at hF
 case isFalse=>cases hF
 rename_i hmax;cases hF;obtain⟨v0,cs0,rfl,hg,h1⟩:=hrel;have hg:cs0=[v0]:=hg;subst hg;obtain⟨b,a,v,l,e,hb,ha,hv,hr,rfl⟩:=h1;simp only[H6,and_true]at e;subst e;have hnd:(b::l.blks).Nodup:=by simpa using hO
 refine(a5U L X hb hv hr o5 (az.1 hnd).1).mono ?_;rintro e w' ⟨rfl,hb',hr',ho⟩;refine⟨_,ok,b::l.blks,[.string ⟨xs.toArray⟩],[.pointer (some ⟨b,0,none⟩)],[],rfl,⟨ho.os,ho.tape,ho.output,ho.size,λk hk hn=>ho.block k hk (λh=>hn (by simp[h]))⟩,λ_ _ h=>h,λk t hk=>⟨gK (hok k t hk) ho.size,.inl hk⟩,by simpa using hO,λk hk=>?_,⟨rfl,rfl⟩,⟨_,rfl,rfl,rfl⟩,?_⟩
 .rw[G7]at hk;exact⟨(hO2 k hk).1,gK (hO2 k hk).2 ho.size,.inr hk⟩
 .refine⟨.string ⟨xs.toArray⟩,[.string ⟨xs.toArray⟩],[.pointer (some ⟨b,0,none⟩)],[],b::l.blks,rfl,rfl,rfl,⟨rfl,rfl⟩,?_⟩;exact⟨_,_,rfl,rfl,⟨b,a,v,l,rfl,hb',ha,hv,hr',rfl⟩⟩
end Go.GP
namespace Go.GP
open Go.ChangeShapes Go.WideShapes Go.RowKit
def Ej(s p:d4H):d4L:=some (Lib.hasPrefix s p)
def Jz(s:d4H)(c:Int):d4M:=some (Lib.indexByte s c.toNat.toUInt8)
def Yi(s:d4H):Bool:=s.all λb=>Nat.blt b.toNat 128
def FM(s c:d4H):d4M:=bif Nat.blt s.length 4294967281&&Nat.blt c.length 4294967281&&Yi s&&Yi c then some (Lib.indexAny s c)else none
theorem b6o{h:Array Obj}{ok:Nat->Ty->Prop}{vals:d4J}{O:d4K}{x:d4H×d4H}(hrel:vU h ok [(false,.dat .str),(false,.dat .str)] x vals O):vals=[.string ⟨x.1.toArray⟩,.string ⟨x.2.toArray⟩]/\O=[]:=by obtain⟨v,cs,vs',O1,O2,rfl,rfl,h1,⟨h2,rfl⟩,v2,cs2,rfl,h3,h4,rfl⟩:=hrel;have h1:cs=[v]:=h1;subst h1;have h3:cs2=[v2]:=h3;subst h3;have h2:[v]=[.string ⟨x.1.toArray⟩]:=h2;have h4:[v2]=[.string ⟨x.2.toArray⟩]:=h4;obtain rfl:=(X4 h2).1;obtain rfl:=(X4 h4).1;exact⟨rfl,rfl⟩
variable {P:Program}{f:Nat}
theorem Xp{gl:List (Nat×(t:Ty)×List t.den)}
  (hC:∀(s p:ByteArray) (w:World),Calls P f #[.string s,.string p] w λe w' =>e= .returned (.bool (Lib.hasPrefix s.data.toList p.data.toList))/\w' =w):
  dH P gl f ⟨[(false,.dat .str),(false,.dat .str)],[(false,.dat .bool)],[],λx=>Ej x.1 x.2⟩:=by
 intro w ok O vals x r hlt _ _ _ hrel hdv hfn;obtain⟨rfl,rfl⟩:=b6o hrel;cases hfn;refine(hC ⟨x.1.toArray⟩ ⟨x.2.toArray⟩ w).mono λe w' ⟨he,hw⟩=>?_;subst he;subst hw;exact Hz (P:=P) (t:=.bool) (x:=Lib.hasPrefix x.1 x.2) (ps:=[(false,.dat .str),(false,.dat .str)]) (vals:=[_,_]) ⟨rfl,rfl,rfl,E8 _,λ_ _=>rfl⟩ hlt ⟨rfl,rfl⟩ rfl
theorem Xq{gl:List (Nat×(t:Ty)×List t.den)}
  (hC:∀(s:ByteArray) (c:Int) (w:World),Calls P f #[.string s,.int .u8 c] w λe w' =>e= .returned (.int .i64 (Lib.indexByte s.data.toList c.toNat.toUInt8))/\w' =w):
  dH P gl f ⟨[(false,.dat .str),(false,.dat (.int .u8))],[(false,.dat (.int .i64))],[],λx=>Jz x.1 x.2⟩:=by
 intro w ok O vals x r hlt _ _ _ hrel hdv hfn;obtain⟨v,cs,vs',O1,O2,rfl,rfl,h1,⟨h2,rfl⟩,v2,cs2,rfl,h3,h4,rfl⟩:=hrel;have h1:cs=[v]:=h1;subst h1;have h3:cs2=[v2]:=h3;subst h3;have h2:[v]=[.string ⟨x.1.toArray⟩]:=h2;have h4:[v2]=[.int .u8 x.2]:=h4;obtain rfl:=(X4 h2).1;obtain rfl:=(X4 h4).1;cases hfn;refine(hC ⟨x.1.toArray⟩ x.2 w).mono λe w' ⟨he,hw⟩=>?_;subst he;subst hw;exact Hz (P:=P) (t:=.int .i64) (x:=Lib.indexByte x.1 x.2.toNat.toUInt8) (ps:=[(false,.dat .str),(false,.dat (.int .u8))]) (vals:=[_,_]) ⟨rfl,rfl,rfl,E8 _,λ_ _=>rfl⟩ hlt ⟨rfl,rfl⟩ rfl
theorem Wq{s:d4H}(h:Yi s=true):∀(j:Nat) b,s[j]? =some b->b.toNat<128:=λj b hb=>by have:=nN.1 h b (mM hb);rwa[gq]at this
theorem YY{gl:List (Nat×(t:Ty)×List t.den)}
  (hC:∀(s c:ByteArray) (w:World),s.size<4294967281->c.size<4294967281->(∀(j:Nat) b,s.data.toList[j]? =some b->b.toNat<128)->(∀(j:Nat) b,c.data.toList[j]? =some b->b.toNat<128)->
   Calls P f #[.string s,.string c] w λe w' =>e= .returned (.int .i64 (Lib.indexAny s.data.toList c.data.toList))/\Below w.heap.size w w'):
  dH P gl f ⟨[(false,.dat .str),(false,.dat .str)],[(false,.dat (.int .i64))],[],λx=>FM x.1 x.2⟩:=by
 intro w ok O vals x r hlt _ _ _ hrel hdv hfn;obtain⟨rfl,rfl⟩:=b6o hrel;simp only[FM]at hfn;cases hc:(Nat.blt x.1.length 4294967281&&Nat.blt x.2.length 4294967281&&Yi x.1&&Yi x.2)
 .rw[hc]at hfn;cases hfn
 .rw[hc]at hfn;cases hfn;simp only[D5,gq]at hc;obtain⟨⟨⟨h1,h2⟩,h3⟩,h4⟩:=hc;refine(hC ⟨x.1.toArray⟩ ⟨x.2.toArray⟩ w (by simpa[ByteArray.size]using h1) (by simpa[ByteArray.size]using h2) (Wq h3) (Wq h4)).mono λe w' ⟨he,hw⟩=>?_;subst he;exact Hz (P:=P) (t:=.int .i64) (x:=Lib.indexAny x.1 x.2) (ps:=[(false,.dat .str),(false,.dat .str)]) (vals:=[_,_]) hw hlt ⟨rfl,rfl⟩ rfl
end Go.GP
namespace Go.GP
open Go.Shelf Go.RowKit Go.Proofs
structure Lw (P:Program) (ρ:Ren):Prop where
 mixed:P.follows Departure.mixedOrders=true
 f166:P.funcs[ρ.f 166]? =some (Body.n166 ρ)
 t72:P.underlying (ρ.t 72)=some (.struct #[{ name:= "addr",type:=ρ.t 70,offset:=0,embedded:=false,tag:= "",pkgPath:= "strings",byteOffset:=0 },{ name:= "buf",type:=ρ.t 37,offset:=1,embedded:=false,tag:= "",pkgPath:= "strings",byteOffset:=8 }])
 a72:∀w:World,(isAgg (ρ.t 72)).run P w= .ok true w
 z72:∀w:World,(sizeOf (ρ.t 72)).run P w= .ok 2 w
 v72:∀w:World,(zeroValue (ρ.t 72)).run P w= .ok (.agg #[.pointer none,.slice none 0 0]) w
 t70:P.underlying (ρ.t 70)=some (.pointer (ρ.t 72))
 a70:∀w:World,(isAgg (ρ.t 70)).run P w= .ok false w
 z70:∀w:World,(sizeOf (ρ.t 70)).run P w= .ok 1 w
 v70:∀w:World,(zeroValue (ρ.t 70)).run P w= .ok (.pointer none) w
 t37:P.underlying (ρ.t 37)=some (.slice (ρ.t 5))
 a37:∀w:World,(isAgg (ρ.t 37)).run P w= .ok false w
 z37:∀w:World,(sizeOf (ρ.t 37)).run P w= .ok 1 w
 v37:∀w:World,(zeroValue (ρ.t 37)).run P w= .ok (.slice none 0 0) w
 t3:P.underlying (ρ.t 3)=some (.int .i64)
 a3:∀w:World,(isAgg (ρ.t 3)).run P w= .ok false w
 z3:∀w:World,(sizeOf (ρ.t 3)).run P w= .ok 1 w
 v3:∀w:World,(zeroValue (ρ.t 3)).run P w= .ok (.int .i64 0) w
 t9:P.underlying (ρ.t 9)=some (.string)
 a9:∀w:World,(isAgg (ρ.t 9)).run P w= .ok false w
 z9:∀w:World,(sizeOf (ρ.t 9)).run P w= .ok 1 w
 v9:∀w:World,(zeroValue (ρ.t 9)).run P w= .ok (.string ⟨#[]⟩) w
 t4:P.underlying (ρ.t 4)=some (.bool)
 a4:∀w:World,(isAgg (ρ.t 4)).run P w= .ok false w
 z4:∀w:World,(sizeOf (ρ.t 4)).run P w= .ok 1 w
 v4:∀w:World,(zeroValue (ρ.t 4)).run P w= .ok (.bool false) w
 t164:P.underlying (ρ.t 164)=some (.unsafePointer)
 a164:∀w:World,(isAgg (ρ.t 164)).run P w= .ok false w
 z164:∀w:World,(sizeOf (ρ.t 164)).run P w= .ok 1 w
 v164:∀w:World,(zeroValue (ρ.t 164)).run P w= .ok (.pointer none) w
 e240:∀args w,(callFunc (ρ.f 240) args).run P w= .ok (.enter (ρ.f 240) args) w
 used:∀(b:Nat) (w:World),w.cell? ⟨b,0,none⟩=some (.pointer (some ⟨b,0,none⟩))->Calls P (ρ.f 240) #[.pointer (some ⟨b,0,none⟩)] w λe w' =>e= .returned (.tuple #[])/\w' =w
 fresh:∀(b:Nat) (w:World),w.cell? ⟨b,0,none⟩=some (.pointer none)->w.shape? b=some (ρ.t 72,2)->w.frozen? ⟨b,0,none⟩=false->Calls P (ρ.f 240) #[.pointer (some ⟨b,0,none⟩)] w λe w' =>e= .returned (.tuple #[])/\w' =w.setCell ⟨b,0,none⟩ (.pointer (some ⟨b,0,none⟩))
variable {P:Program} {ρ:Ren}
theorem Lw.check(L:Lw P ρ){b:Nat}{w:World}{a v:Value}(hb:w.heap[b]? =some (.cells #[a,v] (ρ.t 72) (0,0)))(ha:a= .pointer none\/a= .pointer (some ⟨b,0,none⟩)):
  Calls P (ρ.f 240) #[.pointer (some ⟨b,0,none⟩)] w λe w' =>e= .returned (.tuple #[])/\w'.heap[b]? =some (.cells #[.pointer (some ⟨b,0,none⟩),v] (ρ.t 72) (0,0))/\w'.heap.size=w.heap.size/\OthB w w' [b]:=by
 have c0:w.cell? ⟨b,0,none⟩=some a:=by rw[Lib.cell_of_heap hb];rfl
 rcases ha with rfl|rfl
 .refine(L.fresh b w c0 (by simp[World.shape?,hb]) (Lib.frozen_of_heap hb 0)).mono ?_;rintro e w' ⟨rfl,rfl⟩;refine⟨rfl,?_,by simp[World.setCell],⟨rfl,rfl,rfl,by simp[World.setCell],λk _ hk=>Below.heap_setCell _ _ _ _ (λe=>hk (by simp[e]))⟩⟩;rw[setCell_eq_setRow w b 0 _ _ _ _ hb];exact setRow_heap w b _ _ _ _ hb
 .refine(L.used b w c0).mono ?_;rintro e w' ⟨rfl,rfl⟩;exact⟨rfl,hb,rfl,⟨rfl,rfl,rfl,E8 _,λ_ _ _=>rfl⟩⟩
set_option maxHeartbeats 2000000 in
set_option maxRecDepth 100000 in
theorem a5W(L:Lw P ρ)(X:Builder.Extra P ρ){b:Nat}{w:World}{a v:Value}{l:Loc}{xs ys:d4H}(hb:w.heap[b]? =some (.cells #[a,v] (ρ.t 72) (0,0)))(ha:a= .pointer none\/a= .pointer (some ⟨b,0,none⟩))
  (hv:l.view none v) (hr:vV w.heap (ρ.t 5) xs l) (hlen:xs.length+ys.length<=140737488355328) (hnb:b∉l.blks):
  Calls P (ρ.f 166) #[.pointer (some ⟨b,0,none⟩),.string ⟨ys.toArray⟩] w λe w' =>e= .returned (.tuple #[.int .i64 ys.length,.nilIface])/\
   ∃v' l',w'.heap[b]? =some (.cells #[.pointer (some ⟨b,0,none⟩),v'] (ρ.t 72) (0,0))/\l'.view none v' /\vV w'.heap (ρ.t 5) (xs++ys) l' /\b∉l'.blks/\(∀k∈l'.blks,k∈l.blks\/w.heap.size<=k)/\OthB w w' (b::l.blks):=by
 obtain⟨i0,hi,hz0,hz1,hz2⟩:=info_parts X.infoByte;have mixed:=L.mixed;have t72:=L.t72;have a72:=L.a72;have z72:=L.z72;have v72:=L.v72;have u72:=run_underlying L.t72;have t70:=L.t70;have a70:=L.a70;have z70:=L.z70;have v70:=L.v70;have u70:=run_underlying L.t70;have t37:=L.t37;have a37:=L.a37;have z37:=L.z37;have v37:=L.v37;have u37:=run_underlying L.t37;have t3:=L.t3;have a3:=L.a3;have z3:=L.z3;have v3:=L.v3;have u3:=run_underlying L.t3;have t9:=L.t9;have a9:=L.a9;have z9:=L.z9;have v9:=L.v9;have u9:=run_underlying L.t9;have t4:=L.t4;have a4:=L.a4;have z4:=L.z4;have v4:=L.v4;have u4:=run_underlying L.t4;have t164:=L.t164;have a164:=L.a164;have z164:=L.z164;have v164:=L.v164;have u164:=run_underlying L.t164;have t5:=X.t5;have a5:=X.a5;have z5:=X.z5;have v5:=X.v5;have u5:=run_underlying X.t5;have e240:=L.e240;have hlt:b<w.heap.size:=(J6.1 hb).1
 go_enter L.f166,Body.n166_ntmps ρ
 go_wp2_with (go_at_fn (ρ.f 240);refine(L.check hb ha).mono ?_)
 rintro e w1 ⟨rfl,hb1,hs1,ho1⟩;have c0:w1.cell? ⟨b,0,none⟩=some (.pointer (some ⟨b,0,none⟩)):=by rw[Lib.cell_of_heap hb1];rfl
 have c1:w1.cell? ⟨b,1,none⟩=some v:=by rw[Lib.cell_of_heap hb1];rfl
 have hr1:vV w1.heap (ρ.t 5) xs l:=yL (λk hk=>ho1.block k (ZZ hr k hk) (λe=>hnb (by simp at e;rw[←e];exact hk))) hr
 go_wp2_with (at_builtin;refine a5V rfl _ _ (ρ.t 37) (ρ.t 9) rfl L.t37 L.t9 hi hz0 hz1 hz2 rfl rfl hv hr1 hlen ?_)
 intro v' w2 l' hv' hr' hbl ho2;have hb2:w2.heap[b]? =some (.cells #[.pointer (some ⟨b,0,none⟩),v] (ρ.t 72) (0,0)):=by rw[ho2.block b o5 hnb];exact hb1
 have d0:w2.cell? ⟨b,0,none⟩=some (.pointer (some ⟨b,0,none⟩)):=by rw[Lib.cell_of_heap hb2];rfl
 have d1:w2.cell? ⟨b,1,none⟩=some v:=by rw[Lib.cell_of_heap hb2];rfl
 have f1:w2.frozen? ⟨b,1,none⟩=false:=Lib.frozen_of_heap hb2 1;have hnb' :b∉l'.blks:=λh=>(hbl b h).elim hnb (λh=>by omega);have hone:=nU hv';obtain⟨ao,n',cap,rfl⟩:∃ao n' cap,v' = .slice ao n' cap:=by
  cases l' with
  |nil=>exact⟨_,_,_,hv'⟩|st _=>cases hr'|mp _=>cases hr'|arr g off len cap sz=>exact⟨_,_,_,hv'⟩
 go_wp2
 go_ret2
 refine⟨by simp[ByteArray.size],_,l',?_,hv',yL (λk hk=>Below.heap_setCell _ _ _ _ (λe=>hnb' (by have e:k=b:=e;rw[←e];exact hk))) hr',hnb',λk hk=>(hbl k hk).elim .inl (λh=> .inr o5),?_⟩
 .rw[setCell_eq_setRow w2 b 1 _ _ _ _ hb2];exact setRow_heap w2 b _ _ _ _ hb2
 .refine⟨ho2.os.trans ho1.os,ho2.tape.trans ho1.tape,ho2.output.trans ho1.output,?_,λk hk hn=>?_⟩
  .have:=ho2.size;simp[World.setCell];omega
  .simp only[D6,not_or]at hn;rw[Below.heap_setCell _ _ _ _ (λe=>hn.1 e),ho2.block k o5 hn.2,ho1.block k hk (by simpa using hn.1)]
theorem F_{gl:List (Nat×(t:Ty)×List t.den)}(L:Lw P ρ)(X:Builder.Extra P ρ):
  dH P gl (ρ.f 166) ⟨[(false,.sbx (ρ.t 72) (ρ.t 5)),(false,.dat .str)],[(false,.dat (.int .i64)),(false,.cell none)],[(false,.sbx (ρ.t 72) (ρ.t 5))],λx=>GR x.1 x.2⟩:=by
 intro w ok O vals x r hok hO hO2 hgl hrel hdv hF;obtain⟨xs,ys⟩:=x;have hF:GR xs ys=some r:=hF;unfold GR at hF;split at hF
 case isFalse=>cases hF
 rename_i hmax;cases hF;obtain⟨v0,cs0,vs',O1,O2,rfl,rfl,hg,h1,hrest⟩:=hrel;obtain⟨v1,cs1,rfl,hg1,h2,rfl⟩:=hrest;have hg:cs0=[v0]:=hg;have hg1:cs1=[v1]:=hg1;subst hg;subst hg1;have h2:[v1]=[Value.string ⟨ys.toArray⟩]:=h2;simp only[H6,and_true]at h2;subst h2;obtain⟨b,a,v,l,e,hb,ha,hv,hr,rfl⟩:=h1;simp only[H6,and_true]at e;subst e;have hnd:(b::l.blks).Nodup:=by simpa using hO
 have hnb:=(az.1 hnd).1;refine(a5W L X hb ha hv hr (show xs.length+ys.length<=140737488355328 by omega) hnb).mono ?_;rintro e w' ⟨rfl,v',l',hb',hv',hr',hnb',hbl,ho⟩;have hlt:b<w.heap.size:=(J6.1 hb).1;have hlt' :b<w'.heap.size:=(J6.1 hb').1;have hnd' :(b::l'.blks).Nodup:=az.2 ⟨hnb',Loc.blks_nodup l'⟩;refine⟨_,ok,b::l'.blks,[.int .i64 ys.length,.nilIface],[.pointer (some ⟨b,0,none⟩)],[],rfl,⟨ho.os,ho.tape,ho.output,ho.size,λk hk hn=>ho.block k hk (by simpa using hn)⟩,λ_ _ h=>h,λk t hk=>⟨gK (hok k t hk) ho.size,.inl hk⟩,by simpa using hnd',?_,⟨rfl,rfl⟩,⟨_,rfl,rfl,rfl⟩,?_⟩
 .intro k hk;rw[G7]at hk;rcases D6.1 hk with rfl|hk
  .exact⟨(hO2 k A7).1,hlt',.inr A7⟩
  .refine⟨λt hkt=>?_,ZZ hr' k hk,?_⟩
   .rcases hbl k hk with h|h
    .exact(hO2 k (by simp[h])).1 t hkt
    .have:=hok k t hkt;omega
   .rcases hbl k hk with h|h
    .exact .inr (by simp[h])
    .exact .inl h
 .refine⟨.int .i64 ys.length,[.int .i64 ys.length],[.nilIface,.pointer (some ⟨b,0,none⟩)],[],b::l'.blks,rfl,rfl,rfl,⟨rfl,rfl⟩,?_⟩;refine⟨.nilIface,[.nilIface],[.pointer (some ⟨b,0,none⟩)],[],b::l'.blks,rfl,rfl,rfl,⟨_,rfl,rfl,(λh=>nomatch h),(λ_ h=>nomatch h),rfl⟩,?_⟩;exact⟨_,_,rfl,rfl,⟨b,_,v',l',rfl,hb',.inr rfl,hv',hr',rfl⟩⟩
end Go.GP
namespace Go.GP
open Go.ChangeShapes Go.WideShapes Go.RowKit
def Qa(s c:d4H):Option (d4H×d4H×Bool):=if s.length<4294967281 then some (Lib.cut s c)else none
variable {g:Nat}
theorem b2j{h:Array Obj}{ok:Nat->Ty->Prop}{m:Mp}{k:IntKind}{n:Int}{T:TypeId}{f:Nat×Nat}(hok:ok g (.any (some k)))(hh:h[g]? =some (.cells #[.int k n] T f)):
  NY ⟨h,ok,m⟩ g (.any (some k)) [()]:=by
 refine⟨hok,⟨_,_,_,hh,rfl⟩,λi x hi=>?_⟩;cases i with
 |zero=>exact⟨[.int k n],jM hh 0 1 A7,.int k n,rfl,rfl,n,rfl⟩|succ i=>simp at hi
theorem a0F{w:World}{ok:Nat->Ty->Prop}{m:Mp}{k:IntKind}(h:NY ⟨w.heap,ok,m⟩ g (.any (some k)) [()]):∃n,w.cell? ⟨g,0,none⟩=some (.int k n):=by
 obtain⟨_,_,h2⟩:=h;obtain⟨es,he,v,rfl,_,n,rfl⟩:=h2 0 () rfl;obtain⟨c,T,f,hb,hn,e⟩:=rF he;refine⟨n,?_⟩;have hn:1<=c.size:=by simpa[Ty.size]using hn
 have h0:c[0]? =some (.int k n):=by have:=congrArg (λl=>l[0]?) e;simp only[Nat.zero_mul,mY,Ty.size,ji,eG (show 0<1 by omega)]at this;rw[aP]at this;exact this.symm
 have hb:w.heap[g]? =some (.cells c T f):=hb;simp only[World.cell?,hb,sU,h0];rfl
theorem a9T{P:Program}{f g:Nat}{gl:List (Nat×(t:Ty)×List t.den)}
  (hC:∀(s sep:ByteArray) (m:Int) (w:World) (hs:s.size<4294967281) (hm:w.cell? ⟨g,0,none⟩=some (.int .i64 m)),
   Calls P f #[.string s,.string sep] w λe w' =>e= .returned (.tuple #[.string ⟨(Lib.cut s.data.toList sep.data.toList).1.toArray⟩,.string ⟨(Lib.cut s.data.toList sep.data.toList).2.1.toArray⟩,.bool (Lib.cut s.data.toList sep.data.toList).2.2])/\∃n,w' =w.drewN n)
  (hgl:fP gl g=some ⟨.any (some .i64),[()]⟩):
  dH P gl f ⟨[(false,.dat .str),(false,.dat .str)],[(false,.dat .str),(false,.dat .str),(false,.dat .bool)],[],λx=>Qa x.1 x.2⟩:=by
 intro w ok O vals x r hlt hnd hO hgls hrel hdv hfn;obtain⟨rfl,rfl⟩:=b6o hrel;simp only[Qa]at hfn;split at hfn
 .rename_i hl;cases hfn;obtain⟨m,hm⟩:=a0F (hgls g _ hgl);refine(hC ⟨x.1.toArray⟩ ⟨x.2.toArray⟩ m w (by simpa[ByteArray.size]using hl) hm).mono λe w' ⟨he,n,hw⟩=>?_;subst he;subst hw;exact⟨_,ok,[],[.string ⟨(Lib.cut x.1 x.2).1.toArray⟩,.string ⟨(Lib.cut x.1 x.2).2.1.toArray⟩,.bool (Lib.cut x.1 x.2).2.2],[],[],rfl,⟨rfl,rfl,rfl,E8 _,λ_ _ _=>rfl⟩,λ_ _ h=>h,λb t h=>⟨hlt b t h,.inl h⟩,
   by simp,A7,⟨rfl,rfl⟩,⟨rfl,rfl⟩,_,_,_,[],[],rfl,rfl,rfl,⟨rfl,rfl⟩,_,_,_,[],[],rfl,rfl,rfl,⟨rfl,rfl⟩,_,_,rfl,rfl,rfl,rfl⟩
 .cases hfn
end Go.GP
namespace Go.GP
open Go.Shelf Go.RowKit Go.Proofs
variable {w:World}
theorem a3n{P:Program}{t ty e:TypeId}{i:TypeInfo}(ht:P.underlying t=some (.slice e))(hi:P.info? e=some i)(hz:i.zero=some (.int .u8 0))
  (hsize:i.size=1) (hby:i.bytes=1) {v:Value} {l:Loc} {xs:d4H} {y:UInt8} (hv:l.view none v) (hr:vV w.heap e xs l) (hmax:xs.length+1<=140737488355328)
  {ad:Addr} (hx:w.cell? ad=some (.int .u8 (y.toNat:Int))):
  ∃v' w' l',(Builtin.append_ #[t,t] ty #[v,.slice (some ad) 1 1]).run P w= .ok v' w' /\l'.view none v' /\vV w'.heap e (xs++[y]) l' /\(∀b∈l'.blks,b∈l.blks\/w.heap.size<=b)/\OthB w w' l.blks:=by
 have hnews:∀j u,([Value.int .u8 (y.toNat:Int)])[j]? =some u->w.cell? (ad.add j)=some u:=by
  intro j u hj;match j,hj with
  |0,hj=>simp at hj;subst hj;obtain⟨a,b,c⟩:=ad;simpa[Addr.add]using hx
 have h1:∀u∈[Value.int .u8 (y.toNat:Int)],u.oneCell' =true:=by intro u hu;simp at hu;subst hu;rfl
 cases l with
 |st b=>cases hr|mp b=>cases hr|nil=>
  have hr:xs=[]:=hr;subst hr;have hv:v= .slice none 0 0:=hv;subst hv;obtain⟨v',w',r1,r2,r3,r4⟩:=run_append_ownF (P:=P) w w.heap.size t ty e i (.int .u8 0) 1 1 ht hi hz hsize hby rfl F8 (.slice none 0 0) 0 [] ⟨rfl,.inl ⟨rfl,rfl⟩⟩ ad 1 1 [.int .u8 (y.toNat:Int)] rfl hnews h1 (by unfold maxLen;omega) o5 (E8 _);rcases r2.2 with⟨_,h0⟩|⟨g,cap,cur,fz,rfl,hB,hg,hfz,hc,hcm,hcs,htk⟩
  .omega
  .refine⟨_,w',.arr g 0 1 cap 1,r1,by simp[Loc.view],⟨rfl,rfl,rfl,by simpa using hc,hcm,cur,fz,hg,by simpa using hfz,by simpa using hcs,by simpa using htk⟩,λb hb=> .inr (by simp[Loc.blks]at hb;subst hb;exact hB),⟨r3.os,r3.tape,r3.output,r3.size,λk hk _=>r3.block k hk (by simp[Value.ownBlock])⟩⟩
 |arr g off len cap sz=>
  obtain⟨rfl,rfl,rfl,hc,hcm,cur,fz,hg,hfz,hcs,htk⟩:=hr;have hv:v= .slice (some ⟨g,0,none⟩) xs.length cap:=hv;subst hv;by_cases hroom:xs.length+1<=cap
  .have hrun:=run_append_roomF (P:=P) w t ty e i ht hi g xs.length cap cur fz hg (by rw[hsize];omega) ad 1 1 [.int .u8 (y.toNat:Int)] (by rw[hsize];rfl) hnews h1 hroom (by rw[hsize];simp;omega);rw[hsize,bY]at hrun;refine⟨_,_,.arr g 0 (xs.length+1) cap 1,hrun,rfl,⟨rfl,rfl,A7,hroom,hcm,_,fz,setRow_heap w g cur _ e _ hg,o5,?_,?_⟩,λb hb=> .inl hb,⟨rfl,rfl,rfl,A7,λk _ hk=>setRow_other w g k _ (λe=>hk (by simp[Loc.blks,e]))⟩⟩
   .simp only[bC,I9,fB,kX,bT,H8,fQ];omega
   .rw[htk];rw[show xs.length+1=((xs++[y]).map λc=>Value.int .u8 (c.toNat:Int)).length by simp];rw[bJ];exact List.take_left
  .have holds:∀(j:Nat) (u:Value),(xs.map λc=>Value.int .u8 (c.toNat:Int))[j]? =some u->w.cell? ((⟨g,0,none⟩:Addr).add j)=some u:=λj u hj=>by
    have ho:w.ownsRowF 0 e 1 (.slice (some ⟨g,0,none⟩) xs.length cap) xs.length (xs.map λc=>Value.int .u8 (c.toNat:Int)):=⟨A7,.inr ⟨g,cap,cur,fz,rfl,gX _,hg,o5,hc,hcm,o5,by rw[bY];exact htk⟩⟩;exact ho.cells (g:=g) rfl j u hj
   have hrun:=run_append_grow (P:=P) w t ty e i (.int .u8 0) ht hi hz ⟨g,0,none⟩ xs.length cap (xs.map λc=>Value.int .u8 (c.toNat:Int)) (by rw[hsize];simp) holds ad 1 1 [.int .u8 (y.toNat:Int)] (by rw[hsize];rfl) hnews o5 o5 (by rw[hby];exact growslice_fits o5 o5);have hge:=grownCap_ge w (xs.length+1) cap e;have hcm2:grownCap w (xs.length+1) cap e<=maxLen:=grownCap_le_maxLen w (xs.length+1) cap e (by unfold maxLen;omega);refine⟨_,_,.arr w.heap.size 0 (xs.length+1) _ 1,hrun,rfl,⟨rfl,rfl,A7,hge,hcm2,_,(0,0),heap_alloc_new w.drew _,gX _,?_,?_⟩,λb hb=> .inr (by simp[Loc.blks]at hb;omega),⟨rfl,rfl,rfl,A7,λk hk _=>heap_alloc_old w.drew _ hk⟩⟩
   .have hz1:(Value.int IntKind.u8 0).cells.size=1:=rfl;simp only[qO,bC,size_zeroCells,hz1,H9,H8,fQ];omega
   .simp only[oK,G5];rw[←G5];rw[show xs.length+1=((xs++[y]).map λc=>Value.int .u8 (c.toNat:Int)).length by simp];rw[show(xs.map λc=>Value.int .u8 (c.toNat:Int))++[.int .u8 (y.toNat:Int)]=(xs++[y]).map λc=>Value.int .u8 (c.toNat:Int) by simp];exact List.take_left
theorem a3o{P:Program}{ops:Array Oper}{rest:List Oper}{o:Oper}{a:Act}{Q:Exit->Act->World->Prop}{w:World}(hgd:o.guard=none)(sl x:Operand)(t:TypeId)
  (ho:o.op= .call { callee:=.builtin .append,args:=#[sl,x],argTypes:=#[t,t] }) {e:TypeId} {i:TypeInfo} (ht:P.underlying t=some (.slice e)) (hi:P.info? e=some i) (hz:i.zero=some (.int .u8 0))
  (hsize:i.size=1) (hby:i.bytes=1) {v:Value} {l:Loc} {xs:d4H} {y:UInt8} {ad:Addr} (hs:a.eval sl=v) (hx:a.eval x= .slice (some ad) 1 1) (hv:l.view none v) (hr:vV w.heap e xs l) (hmax:xs.length+1<=140737488355328)
  (hc:w.cell? ad=some (.int .u8 (y.toNat:Int)))
  (h:∀v' w' l',l'.view none v' ->vV w'.heap e (xs++[y]) l' ->(∀b∈l'.blks,b∈l.blks\/w.heap.size<=b)->OthB w w' l.blks->wpList P ops Q rest (a.put o.dst v') w'):wpList P ops Q (o::rest) a w:=by
 refine wpList_plain hgd λK hK=>?_;obtain⟨v',w',l',h1,h2,h3,h4,h5⟩:=a3n (ty:=o.type) ht hi hz hsize hby hv hr hmax hc;unfold Oper.wp execOp;simp only[ho,resolve,invoke,builtin,I4,au,J5,List.map_toArray,bW,jy,hs,hx,h1];exact hK _ _ (h v' w' l' h2 h3 h4 h5)
variable {P:Program} {ρ:Ren}
set_option maxHeartbeats 2000000 in
set_option maxRecDepth 100000 in
theorem a9O(L:Lw P ρ)(X:Builder.Extra P ρ)(f167:P.funcs[ρ.f 167]? =some (Body.n167 ρ)){b:Nat}{a v:Value}{l:Loc}{xs:d4H}{y:UInt8}(hb:w.heap[b]? =some (.cells #[a,v] (ρ.t 72) (0,0)))(ha:a= .pointer none\/a= .pointer (some ⟨b,0,none⟩))
  (hv:l.view none v) (hr:vV w.heap (ρ.t 5) xs l) (hlen:xs.length+1<=140737488355328) (hnb:b∉l.blks):
  Calls P (ρ.f 167) #[.pointer (some ⟨b,0,none⟩),.int .u8 (y.toNat:Int)] w λe w' =>e= .returned .nilIface/\
   ∃v' l',w'.heap[b]? =some (.cells #[.pointer (some ⟨b,0,none⟩),v'] (ρ.t 72) (0,0))/\l'.view none v' /\vV w'.heap (ρ.t 5) (xs++[y]) l' /\b∉l'.blks/\(∀k∈l'.blks,k∈l.blks\/w.heap.size<=k)/\OthB w w' (b::l.blks):=by
 obtain⟨i0,hi,hz0,hz1,hz2⟩:=info_parts X.infoByte;have mixed:=L.mixed;have t72:=L.t72;have a72:=L.a72;have z72:=L.z72;have v72:=L.v72;have u72:=run_underlying L.t72;have t70:=L.t70;have a70:=L.a70;have z70:=L.z70;have v70:=L.v70;have u70:=run_underlying L.t70;have t37:=L.t37;have a37:=L.a37;have z37:=L.z37;have v37:=L.v37;have u37:=run_underlying L.t37;have t3:=L.t3;have a3:=L.a3;have z3:=L.z3;have v3:=L.v3;have u3:=run_underlying L.t3;have t9:=L.t9;have a9:=L.a9;have z9:=L.z9;have v9:=L.v9;have u9:=run_underlying L.t9;have t4:=L.t4;have a4:=L.a4;have z4:=L.z4;have v4:=L.v4;have u4:=run_underlying L.t4;have t164:=L.t164;have a164:=L.a164;have z164:=L.z164;have v164:=L.v164;have u164:=run_underlying L.t164;have t5:=X.t5;have a5:=X.a5;have z5:=X.z5;have v5:=X.v5;have u5:=run_underlying X.t5;have e240:=L.e240;have hlt:b<w.heap.size:=(J6.1 hb).1
 go_enter f167,Body.n167_ntmps ρ
 go_wp2_with (go_at_fn (ρ.f 240);refine(L.check hb ha).mono ?_)
 rintro e w1 ⟨rfl,hb1,hs1,ho1⟩;have c0:w1.cell? ⟨b,0,none⟩=some (.pointer (some ⟨b,0,none⟩)):=by rw[Lib.cell_of_heap hb1];rfl
 have c1:w1.cell? ⟨b,1,none⟩=some v:=by rw[Lib.cell_of_heap hb1];rfl
 have hr1:vV w1.heap (ρ.t 5) xs l:=yL (λk hk=>ho1.block k (ZZ hr k hk) (λe=>hnb (by simp at e;rw[←e];exact hk))) hr;have hr2:vV (w1.alloc (.cells #[.int .u8 (y.toNat:Int)] (ρ.t 5))).heap (ρ.t 5) xs l:=yL (λk hk=>Lib.alloc_old w1 _ k (ZZ hr1 k hk)) hr1
 go_wp2_with (at_builtin;refine a3o (y:=y) (ad:=⟨w.heap.size,0,none⟩) rfl _ _ (ρ.t 37) rfl L.t37 hi hz0 hz1 hz2 rfl rfl hv hr2 hlen (by rw[←hs1];simp) ?_)
 intro v' w2 l' hv' hr' hbl ho2;have hlt1:b<w1.heap.size:=o5;have hb2:w2.heap[b]? =some (.cells #[.pointer (some ⟨b,0,none⟩),v] (ρ.t 72) (0,0)):=by rw[ho2.block b aH hnb,Lib.alloc_old w1 _ b hlt1];exact hb1
 have d0:w2.cell? ⟨b,0,none⟩=some (.pointer (some ⟨b,0,none⟩)):=by rw[Lib.cell_of_heap hb2];rfl
 have d1:w2.cell? ⟨b,1,none⟩=some v:=by rw[Lib.cell_of_heap hb2];rfl
 have f1:w2.frozen? ⟨b,1,none⟩=false:=Lib.frozen_of_heap hb2 1;have hbl' :∀k∈l'.blks,k∈l.blks\/w.heap.size<=k:=λk hk=>by
  rcases hbl k hk with h|h
  .exact .inl h
  .have h2:w.heap.size+1<=k:=by first|exact h|simpa using h|simpa[hs1]using h
   exact .inr o5
 have hnb' :b∉l'.blks:=λh=>(hbl' b h).elim hnb (λh=>by omega);have hone:=nU hv';obtain⟨ao,n',cap,rfl⟩:∃ao n' cap,v' = .slice ao n' cap:=by
  cases l' with
  |nil=>exact⟨_,_,_,hv'⟩|st _=>cases hr'|mp _=>cases hr'|arr g off len cap sz=>exact⟨_,_,_,hv'⟩
 go_wp2
 go_ret
 refine⟨rfl,_,l',?_,hv',yL (λk hk=>Below.heap_setCell _ _ _ _ (λe=>hnb' (by have e:k=b:=e;rw[←e];exact hk))) hr',hnb',hbl',?_⟩
 .rw[setCell_eq_setRow w2 b 1 _ _ _ _ hb2];exact setRow_heap w2 b _ _ _ _ hb2
 .refine⟨ho2.os.trans ho1.os,ho2.tape.trans ho1.tape,ho2.output.trans ho1.output,?_,λk hk hn=>?_⟩
  .have:=ho2.size;simp[World.setCell]at this ⊢;omega
  .simp only[D6,not_or]at hn;rw[Below.heap_setCell _ _ _ _ (λe=>hn.1 e),ho2.block k aH hn.2,Lib.alloc_old w1 _ k o5,ho1.block k hk (by simpa using hn.1)]
theorem c3w{n:Int}(n0:0<=n)(n1:n<=255):((n.toNat.toUInt8.toNat:Nat):Int)=n:=by
 have h1:n.toNat<256:=o5;have h2:n.toNat.toUInt8.toNat=n.toNat:=by simp[Nat.toUInt8,UInt8.toNat_ofNat];omega
 rw[h2];omega
def JS(xs:d4H)(n:Int):Option (Unit×d4H):=bif Nat.ble (xs.length+1) 1073741824&&decide (0<=n)&&decide (n<=255)then some ((),xs++[n.toNat.toUInt8])else none
theorem a1x{gl:List (Nat×(t:Ty)×List t.den)}(L:Lw P ρ)(X:Builder.Extra P ρ)(f167:P.funcs[ρ.f 167]? =some (Body.n167 ρ)):
  dH P gl (ρ.f 167) ⟨[(false,.sbx (ρ.t 72) (ρ.t 5)),(false,.dat (.int .u8))],[(false,.cell none)],[(false,.sbx (ρ.t 72) (ρ.t 5))],λx=>JS x.1 x.2⟩:=by
 intro w ok O vals x r hok hO hO2 hgl hrel hdv hF;obtain⟨xs,n⟩:=x;have hF:JS xs n=some r:=hF;unfold JS at hF;cases hc:(Nat.ble (xs.length+1) 1073741824&&decide (0<=n)&&decide (n<=255))<;>rw[hc]at hF
 .cases hF
 simp only[D5,decide_eq_true_eq,Nat.ble_eq]at hc;obtain⟨⟨hmax,n0⟩,n1⟩:=hc;have n0:(0:Int)<=n:=n0;have n1:n<=(255:Int):=n1;cases hF;obtain⟨v0,cs0,vs',O1,O2,rfl,rfl,hg,h1,hrest⟩:=hrel;obtain⟨v1,cs1,rfl,hg1,h2,rfl⟩:=hrest;have hg:cs0=[v0]:=hg;have hg1:cs1=[v1]:=hg1;subst hg;subst hg1;have h2:[v1]=[Value.int .u8 n]:=h2;simp only[H6,and_true]at h2;subst h2;obtain⟨b,a,v,l,e,hb,ha,hv,hr,rfl⟩:=h1;simp only[H6,and_true]at e;subst e;have hnd:(b::l.blks).Nodup:=by simpa using hO
 have hnb:=(az.1 hnd).1;have hn:((n.toNat.toUInt8.toNat:Nat):Int)=n:=c3w n0 n1;have key:=a9O L X f167 (y:=n.toNat.toUInt8) hb ha hv hr (show xs.length+1<=140737488355328 by omega) hnb;rw[hn]at key;refine key.mono ?_;rintro e w' ⟨rfl,v',l',hb',hv',hr',hnb',hbl,ho⟩;have hlt:b<w.heap.size:=(J6.1 hb).1;have hlt' :b<w'.heap.size:=(J6.1 hb').1;have hnd' :(b::l'.blks).Nodup:=az.2 ⟨hnb',Loc.blks_nodup l'⟩;refine⟨_,ok,b::l'.blks,[.nilIface],[.pointer (some ⟨b,0,none⟩)],[],rfl,⟨ho.os,ho.tape,ho.output,ho.size,λk hk hn=>ho.block k hk (by simpa using hn)⟩,λ_ _ h=>h,λk t hk=>⟨gK (hok k t hk) ho.size,.inl hk⟩,by simpa using hnd',?_,⟨rfl,rfl⟩,⟨_,rfl,rfl,rfl⟩,?_⟩
 .intro k hk;rw[G7]at hk;rcases D6.1 hk with rfl|hk
  .exact⟨(hO2 k A7).1,hlt',.inr A7⟩
  .refine⟨λt hkt=>?_,ZZ hr' k hk,?_⟩
   .rcases hbl k hk with h|h
    .exact(hO2 k (by simp[h])).1 t hkt
    .have:=hok k t hkt;omega
   .rcases hbl k hk with h|h
    .exact .inr (by simp[h])
    .exact .inl h
 .refine⟨.nilIface,[.nilIface],[.pointer (some ⟨b,0,none⟩)],[],b::l'.blks,rfl,rfl,rfl,⟨_,rfl,rfl,(λh=>nomatch h),(λ_ h=>nomatch h),rfl⟩,?_⟩;exact⟨_,_,rfl,rfl,⟨b,_,v',l',rfl,hb',.inr rfl,hv',hr',rfl⟩⟩
def Le(s t:d4H):d4M:=match t with
 |[c]=>some ((Lib.countByte s c:Nat):Int)|_=>none
theorem a1F{f:Nat}{gl:List (Nat×(t:Ty)×List t.den)}
  (hC:∀(s:ByteArray) (c:UInt8) (w:World),Calls P f #[.string s,.string ⟨#[c]⟩] w λe w' =>e= .returned (.int .i64 (Lib.countByte s.data.toList c))/\w' =w):
  dH P gl f ⟨[(false,.dat .str),(false,.dat .str)],[(false,.dat (.int .i64))],[],λx=>Le x.1 x.2⟩:=by
 intro w ok O vals x r hlt _ _ _ hrel hdv hfn;obtain⟨rfl,rfl⟩:=b6o hrel;simp only[Le]at hfn;split at hfn
 .rename_i c hx;cases hfn;rw[hx];refine(hC ⟨x.1.toArray⟩ c w).mono λe w' ⟨he,hw⟩=>?_;subst he;subst hw;exact Hz (P:=P) (t:=.int .i64) (x:=((Lib.countByte x.1 c:Nat):Int)) (ps:=[(false,.dat .str),(false,.dat .str)]) (vals:=[_,_]) ⟨rfl,rfl,rfl,E8 _,λ_ _=>rfl⟩ hlt ⟨rfl,rfl⟩ rfl
 .cases hfn
def Qb(s c:d4H):Option (List d4H):=if s.length<4294967281/\1<=c.length then some (Lib.split s c)else none
theorem a5u{f g:Nat}{gl:List (Nat×(t:Ty)×List t.den)}{T:TypeId}
  (hC:∀(s sep:ByteArray) (m:Int) (w:World) (hs:s.size<4294967281) (hm:w.cell? ⟨g,0,none⟩=some (.int .i64 m)) (h1:1<=sep.size),
   Calls P f #[.string s,.string sep] w λe w' =>e= .returned (.slice (some ⟨w.heap.size,0,none⟩) (Lib.countB s sep+1) (Lib.countB s sep+1))/\w' =w.alloc (.cells ((Lib.splitB sep 0 (Lib.countB s sep) s).map Value.string).toArray T))
  (hgl:fP gl g=some ⟨.any (some .i64),[()]⟩):
  dH P gl f ⟨[(false,.dat .str),(false,.dat .str)],[(false,.own .str)],[],λx=>Qb x.1 x.2⟩:=by
 intro w ok O vals x r hlt hnd hO hgls hrel hdv hfn;obtain⟨rfl,rfl⟩:=b6o hrel;simp only[Qb]at hfn;split at hfn
 .rename_i hl;cases hfn;obtain⟨m,hm⟩:=a0F (hgls g _ hgl);have h1:1<=(⟨x.2.toArray⟩:ByteArray).size:=by simpa[ByteArray.size]using hl.2
  refine(hC ⟨x.1.toArray⟩ ⟨x.2.toArray⟩ m w (by simpa[ByteArray.size]using hl.1) hm h1).mono λe w' ⟨he,hw⟩=>?_;have hlen:=Lib.splitB_all ⟨x.2.toArray⟩ h1 0 (Lib.countB ⟨x.1.toArray⟩ ⟨x.2.toArray⟩) ⟨x.1.toArray⟩ rfl;have hmap:Lib.split x.1 x.2=(Lib.splitB ⟨x.2.toArray⟩ 0 (Lib.countB ⟨x.1.toArray⟩ ⟨x.2.toArray⟩) ⟨x.1.toArray⟩).map λb=>b.data.toList:=by rw[Lib.splitB_data];rfl
  generalize hS:Lib.splitB ⟨x.2.toArray⟩ 0 (Lib.countB ⟨x.1.toArray⟩ ⟨x.2.toArray⟩) ⟨x.1.toArray⟩=S at*;have hlS:(Lib.split x.1 x.2).length=S.length:=by rw[hmap,H9]
  rw[←hlen]at he;subst he;subst hw;refine⟨_,ok,[w.heap.size],[.slice (some ⟨w.heap.size,0,none⟩) S.length S.length],[],[],rfl,⟨rfl,rfl,rfl,A7,λb hb _=>Lib.alloc_old w _ b hb⟩,λ_ _ h=>h,λb t h=>⟨by have:=hlt b t h;simp;omega,.inl h⟩,
   by simp,λb hb=>?_,⟨rfl,rfl⟩,⟨rfl,rfl⟩,⟨_,_,rfl,rfl,yK.2 ⟨.arr w.heap.size 0 S.length S.length 1,_,rfl,rfl,⟨rfl,rfl,hlS.symm,E8 _,(S.map Value.string).toArray,T,(0,0),heap_alloc_new w _,.inl rfl,A7,λi y hi=>?_⟩,rfl⟩⟩⟩
  .simp only[G7,X5]at hb;subst hb;exact⟨λt ht=>by have:=hlt _ t ht;omega,A7,.inl (E8 _)⟩
  .rw[hmap,S9]at hi;obtain⟨z,hz,rfl⟩:=iF.1 hi;have hiz:=(aO.1 hz).1;refine⟨[.string z],?_,rfl⟩;have:=jM (h:=(w.alloc (.cells (S.map Value.string).toArray T)).heap) (blk:=w.heap.size) (c:=(S.map Value.string).toArray) (T:=T) (f:=(0,0)) (heap_alloc_new w _) (0+i*1) 1 aH;rw[this];congr 1;apply ai;intro j;cases j with
   |zero=>simp[hz]|succ j=>simp[aG]
 .cases hfn
end Go.GP
