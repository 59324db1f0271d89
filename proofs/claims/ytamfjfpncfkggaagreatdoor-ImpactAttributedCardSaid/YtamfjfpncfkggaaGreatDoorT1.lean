import Derived.Test.YtamfjfpncfkggaaGreatDoorT0
import Derived.Laws.MakeOwn
import Derived.ArgAppend
import Derived.MapKept
import Derived.WideKeyRuns
import Derived.Orders
import Derived.LoopN
import Derived.Laws.StructEq
import Derived.ChangeSame
import Derived.Carry
import Derived.SizedLaws
import Derived.Deep.DeepHandedRow
import Derived.Lib.LaidTab
import Derived.Lib.ItoaNum
import Derived.Lib.ItoaMem
import Derived.Lib.Repeat
import Derived.Sort.Grow
import Derived.Lib.SlicesCompact
import Derived.Lib.Bytealg
import Derived.Sort.Row
set_option linter.all false
namespace Go.GP
def af (h:Array Obj) (ok:Nat→Ty→Prop) (t:Ty) (xs:List t.den) (cs:List Value):Prop:=
 cs.length=xs.length*t.size∧∀i x,xs[i]? =some x→rep h ok t x ((cs.drop (i*t.size)).take t.size)
theorem af.nil {h:Array Obj} {ok:Nat→Ty→Prop} {t:Ty} :af h ok t [] []:=⟨by simp,fun i x hi=>by simp at hi⟩
theorem af.append {h:Array Obj} {ok:Nat→Ty→Prop} {t:Ty} {xs ys:List t.den} {cs ds:List Value} (hx:af h ok t xs cs) (hy:af h ok t ys ds):af h ok t (xs++ys) (cs++ds):=by
 refine⟨by simp[hx.1,hy.1,Nat.add_mul],fun i x hi=>?_⟩
 by_cases hlt:i<xs.length
 ·rw[List.getElem?_append_left hlt]at hi
  have h1:=hx.2 i x hi
  have hle:(i+1)*t.size≤cs.length:=by rw[hx.1];exact Nat.mul_le_mul_right _ (by omega)
  rw[Nat.add_mul,Nat.one_mul]at hle
  rw[List.drop_append_of_le_length (by omega),List.take_append_of_le_length (by simp;omega)]
  exact h1
 ·rw[List.getElem?_append_right (by omega)]at hi
  have h1:=hy.2 _ x hi
  have hle:cs.length≤i*t.size:=by rw[hx.1];exact Nat.mul_le_mul_right _ (by omega)
  rw[List.drop_append,List.drop_eq_nil_of_le hle,List.nil_append]
  have:i*t.size -cs.length=(i -xs.length)*t.size:=by rw[hx.1,Nat.sub_mul]
  rw[this];exact h1
theorem af.one {h:Array Obj} {ok:Nat→Ty→Prop} {t:Ty} {x:t.den} {cs:List Value} (hr:rep h ok t x cs):af h ok t [x] cs:=by
 refine⟨by simp[au hr],fun i y hi=>?_⟩
 have:i=0:=by
  have:=(J7.1 hi).1;simp at this;exact this
 subst this
 simp at hi;subst hi
 have:(List.drop (0*t.size) cs).take t.size=cs:=by simp[←au hr]
 rw[this];exact hr
theorem af.mono {h h' :Array Obj} {ok ok' :Nat→Ty→Prop} {t:Ty} {xs:List t.den} {cs:List Value} (hok:∀b t,ok b t→ok' b t) (hh:∀b t,ok b t→h'[b]? =h[b]?) (hr:af h ok t xs cs):af h' ok' t xs cs:=
 ⟨hr.1,fun i x hi=>Y0 hok hh (hr.2 i x hi)⟩
theorem af.rep_all {h:Array Obj} {ok:Nat→Ty→Prop} {t:Ty} {x:t.den} {cs:List Value} (hr:rep h ok t x cs):∀n,af h ok t (List.replicate n x) ((List.replicate n cs).flatten)
 | 0=>by simpa using af.nil
 | n+1=>by
  have:=(af.one hr).append (af.rep_all hr n)
  simpa[List.replicate_succ]using this
theorem af.one_cell {h:Array Obj} {ok:Nat→Ty→Prop} {t:Ty} :∀{xs:List t.den} {cs:List Value},af h ok t xs cs→∀v∈cs,v.oneCell' =true
 | [],cs,hr=>by have:=hr.1;simp at this;simp[this]
 | x::xs,cs,hr=>by
  intro v hv
  have h0:=hr.2 0 x rfl
  simp only[Nat.zero_mul,List.drop_zero]at h0
  have hl:=hr.1
  simp only[List.length_cons,Nat.add_mul,Nat.one_mul]at hl
  have hrest:af h ok t xs (cs.drop t.size):=by
   refine⟨by simp;omega,fun i y hi=>?_⟩
   have:=hr.2 (i+1) y (by simpa using hi)
   rw[List.drop_drop]
   rwa[show t.size+i*t.size=(i+1)*t.size by rw[Nat.add_mul];omega]
  rw[←List.take_append_drop t.size cs]at hv
  rcases List.mem_append.1 hv with hv | hv
  ·exact mY h0 v hv
  ·exact af.one_cell hrest v hv
theorem af.arrOk {C:Cx} {t:Ty} {xs:List t.den} {cs:List Value} (h0:t.isEnt=false) (hr:af C.h C.ok t xs cs) {blk off cap:Nat} {c:Array Value} {T:TypeId} (hb:C.h[blk]? =some (.cells c T (0,0)))
  (hcap:xs.length≤cap) (hfit:off+cap*t.size≤c.size) (he:(c.toList.drop off).take (xs.length*t.size)=cs):Go.GP.arrOk C t xs (.arr blk off xs.length cap t.size):=by
 refine⟨h0,rfl,rfl,hcap,c,T,hb,hfit,fun i x hi=>?_⟩
 have hlt:=(J7.1 hi).1
 have hle:(i+1)*t.size≤xs.length*t.size:=Nat.mul_le_mul_right _ (by omega)
 rw[Nat.add_mul,Nat.one_mul]at hle
 have hle2:xs.length*t.size≤cap*t.size:=Nat.mul_le_mul_right _ hcap
 refine⟨_,fM hb _ _ (by omega),?_⟩
 have h1:=hr.2 i x hi
 rw[←he,List.drop_take,List.take_take,List.drop_drop]at h1
 rwa[Nat.min_eq_left (by omega)]at h1
theorem Qa {C:Cx} {t:Ty} {xs:List t.den} {blk off len cap sz:Nat} (h:arrOk C t xs (.arr blk off len cap sz)):
  ∃c T,C.h[blk]? =some (.cells c T (0,0))∧sz=t.size∧len=xs.length∧len≤cap∧off+cap*sz≤c.size∧af C.h C.ok t xs ((c.toList.drop off).take (len*sz)):=by
 obtain⟨_,rfl,rfl,h3,c,T,hb,hf,hx⟩:=h
 refine⟨c,T,hb,rfl,rfl,h3,hf,?_,fun i x hi=>?_⟩
 ·have:xs.length*t.size≤cap*t.size:=Nat.mul_le_mul_right _ h3
  simp;omega
 ·obtain⟨es,he,hr⟩:=hx i x hi
  obtain⟨c',T',f',hb',hn',rfl⟩:=lY he
  rw[hb]at hb';cases hb'
  have hlt:=(J7.1 hi).1
  have hle:(i+1)*t.size≤xs.length*t.size:=Nat.mul_le_mul_right _ (by omega)
  rw[Nat.add_mul,Nat.one_mul]at hle
  rw[List.drop_take,List.take_take,List.drop_drop,Nat.min_eq_left (by omega)]
  exact hr
def nC (h:Array Obj) (ok:Nat→Ty→Prop) (m:M) (xs:List m.den) (cs:List Value) (Os:List (List Nat)):Prop:=
 cs.length=xs.length*m.size∧Os.length=xs.length∧∀i x,xs[i]? =some x→∃O,Os[i]? =some O∧gI h ok m none x ((cs.drop (i*m.size)).take m.size) O
theorem nC.nil {h:Array Obj} {ok:Nat→Ty→Prop} {m:M} :nC h ok m [] [] []:=⟨by simp,rfl,fun i x hi=>by simp at hi⟩
theorem nC.append {h:Array Obj} {ok:Nat→Ty→Prop} {t:M} {xs ys:List t.den} {cs ds:List Value} {Os Ps:List (List Nat)} (hx:nC h ok t xs cs Os) (hy:nC h ok t ys ds Ps):nC h ok t (xs++ys) (cs++ds) (Os++Ps):=by
 refine⟨by simp[hx.1,hy.1,Nat.add_mul],by simp[hx.2.1,hy.2.1],fun i x hi=>?_⟩
 by_cases hlt:i<xs.length
 ·rw[List.getElem?_append_left hlt]at hi
  obtain⟨O,hO,h1⟩:=hx.2.2 i x hi
  have hle:(i+1)*t.size≤cs.length:=by rw[hx.1];exact Nat.mul_le_mul_right _ (by omega)
  rw[Nat.add_mul,Nat.one_mul]at hle
  rw[List.drop_append_of_le_length (by omega),List.take_append_of_le_length (by simp;omega)]
  exact⟨O,by rw[List.getElem?_append_left (by rw[hx.2.1];exact hlt)];exact hO,h1⟩
 ·rw[List.getElem?_append_right (by omega)]at hi
  obtain⟨O,hO,h1⟩:=hy.2.2 _ x hi
  have hle:cs.length≤i*t.size:=by rw[hx.1];exact Nat.mul_le_mul_right _ (by omega)
  rw[List.drop_append,List.drop_eq_nil_of_le hle,List.nil_append]
  have:i*t.size -cs.length=(i -xs.length)*t.size:=by rw[hx.1,Nat.sub_mul]
  rw[this];exact⟨O,by rw[List.getElem?_append_right (by rw[hx.2.1];omega),hx.2.1];exact hO,h1⟩
theorem nC.one {h:Array Obj} {ok:Nat→Ty→Prop} {t:M} {x:t.den} {cs:List Value} {O:List Nat} (hr:gI h ok t none x cs O):nC h ok t [x] cs [O]:=by
 refine⟨by simp[Z4 hr],rfl,fun i y hi=>?_⟩
 have:i=0:=by
  have:=(J7.1 hi).1;simp at this;exact this
 subst this
 simp at hi;subst hi
 have:(List.drop (0*t.size) cs).take t.size=cs:=by simp[←Z4 hr]
 rw[this];exact⟨O,rfl,hr⟩
theorem nC.mono {h h' :Array Obj} {ok ok' :Nat→Ty→Prop} {t:M} {xs:List t.den} {cs:List Value} {Os:List (List Nat)} (hok:∀b t,ok b t→ok' b t) (hh:∀b t,ok b t→h'[b]? =h[b]?) (hO:∀b∈Os.flatten,h'[b]? =h[b]?) (hr:nC h ok t xs cs Os):nC h' ok' t xs cs Os:=
 ⟨hr.1,hr.2.1,fun i x hi=>by
  obtain⟨O,h1,h2⟩:=hr.2.2 i x hi
  exact⟨O,h1,bK hok hh (fun b hb=>hO b (List.mem_flatten.2 ⟨O,dG h1,hb⟩)) h2⟩⟩
theorem nC.rep_all {h:Array Obj} {ok:Nat→Ty→Prop} {t:M} {x:t.den} {cs:List Value} (hr:gI h ok t none x cs []):∀n,nC h ok t (List.replicate n x) ((List.replicate n cs).flatten) (List.replicate n [])
 | 0=>by simpa using nC.nil
 | n+1=>by
  have:=(nC.one hr).append (nC.rep_all hr n)
  simpa[List.replicate_succ]using this
theorem nC.one_cell {h:Array Obj} {ok:Nat→Ty→Prop} {t:M} :∀{xs:List t.den} {cs:List Value} {Os:List (List Nat)},nC h ok t xs cs Os→∀v∈cs,v.oneCell' =true
 | [],cs,_,hr=>by have:=hr.1;simp at this;simp[this]
 | x::xs,cs,Os,hr=>by
  intro v hv
  obtain⟨O,hO,h0⟩:=hr.2.2 0 x rfl
  simp only[Nat.zero_mul,List.drop_zero]at h0
  have hl:=hr.1
  simp only[List.length_cons,Nat.add_mul,Nat.one_mul]at hl
  have hl2:=hr.2.1
  simp only[List.length_cons]at hl2
  have hrest:nC h ok t xs (cs.drop t.size) (Os.drop 1):=by
   refine⟨by simp;omega,by simp;omega,fun i y hi=>?_⟩
   obtain⟨O',hO',this⟩:=hr.2.2 (i+1) y (by simpa using hi)
   rw[List.drop_drop]
   refine⟨O',by rw[List.getElem?_drop,Nat.add_comm];exact hO',?_⟩
   rwa[show t.size+i*t.size=(i+1)*t.size by rw[Nat.add_mul];omega]
  rw[←List.take_append_drop t.size cs]at hv
  rcases List.mem_append.1 hv with hv | hv
  ·exact mX h0 v hv
  ·exact nC.one_cell hrest v hv
theorem nC.arrs {h:Array Obj} {ok:Nat→Ty→Prop} {t:M} {xs:List t.den} {cs:List Value} {Os:List (List Nat)} (hr:nC h ok t xs cs Os) {blk off cap:Nat} {c:Array Value} {T:TypeId} (hb:h[blk]? =some (.cells c T (0,0)))
  (hcap:xs.length≤cap) (hfit:off+cap*t.size≤c.size) (he:(c.toList.drop off).take (xs.length*t.size)=cs):tZ h t.size (fun _ x es O=>gI h ok t none x es O) xs Os (.arr blk off xs.length cap t.size):=by
 refine⟨rfl,rfl,hcap,hr.2.1,c,T,hb,hfit,fun i x hi=>?_⟩
 have hlt:=(J7.1 hi).1
 have hle:(i+1)*t.size≤xs.length*t.size:=Nat.mul_le_mul_right _ (by omega)
 rw[Nat.add_mul,Nat.one_mul]at hle
 have hle2:xs.length*t.size≤cap*t.size:=Nat.mul_le_mul_right _ hcap
 obtain⟨O,hO,h1⟩:=hr.2.2 i x hi
 refine⟨_,O,hO,fM hb _ _ (by omega),?_⟩
 rw[←he,List.drop_take,List.take_take,List.drop_drop]at h1
 rwa[Nat.min_eq_left (by omega)]at h1
theorem Uo {h:Array Obj} {ok:Nat→Ty→Prop} {t:M} {xs:List t.den} {Os:List (List Nat)} {blk off len cap sz:Nat} (k:tZ h t.size (fun _ x es O=>gI h ok t none x es O) xs Os (.arr blk off len cap sz)):
  ∃c T,h[blk]? =some (.cells c T (0,0))∧sz=t.size∧len=xs.length∧len≤cap∧off+cap*sz≤c.size∧nC h ok t xs ((c.toList.drop off).take (len*sz)) Os:=by
 obtain⟨rfl,rfl,h3,h7,c,T,hb,hf,hx⟩:=k
 refine⟨c,T,hb,rfl,rfl,h3,hf,?_,h7,fun i x hi=>?_⟩
 ·have:xs.length*t.size≤cap*t.size:=Nat.mul_le_mul_right _ h3
  simp;omega
 ·obtain⟨es,O,hO,he,hr⟩:=hx i x hi
  obtain⟨c',T',f',hb',hn',rfl⟩:=lY he
  rw[hb]at hb';cases hb'
  have hlt:=(J7.1 hi).1
  have hle:(i+1)*t.size≤xs.length*t.size:=Nat.mul_le_mul_right _ (by omega)
  rw[Nat.add_mul,Nat.one_mul]at hle
  rw[List.drop_take,List.take_take,List.drop_drop,Nat.min_eq_left (by omega)]
  exact⟨O,hO,hr⟩
theorem a3i {α β:Type} (e:α=β) (e' :List α=List β):cast e' []=[]:=by subst e;rfl
theorem Pg {h:Array Obj} {ok:Nat→Ty→Prop} {C:Cx} :∀(m:M) (he:m.el=true) {zs:List V} {cs r:List Value},rep h ok m.ty m.ty.zero cs→aF C zs (cs++r)→Ju m zs=true→gI h ok m none (m.zero he) cs []
 | .dat t,_,_,_,_,hr,_,_=>⟨hr,rfl⟩
 | .unit,_,_,_,_,hr,_,_=>⟨hr,rfl⟩
 | .own t,he,zs,cs,r,hr,hz,hn=>by
  have ht:t.isEnt=false:=by simpa[M.el]using he
  obtain⟨a,cap,rfl,_⟩:=(uk ht).1 hr
  unfold Ju at hn
  split at hn
  ·obtain⟨v,r',e,h1,_⟩:=hz
   simp only[List.cons_append,List.nil_append,List.cons.injEq]at e
   obtain⟨rfl,rfl⟩:=e
   exact⟨_,rfl,rfl,.nil,h1,⟨rfl,ht⟩,rfl⟩
  ·cases hn
 | .owns t,he,zs,cs,r,hr,hz,hn=>by
  obtain⟨a,cap,rfl,_⟩:=(uk (M.ty_ent (m:=t) (by simpa[M.el]using he))).1 hr
  unfold Ju at hn
  split at hn
  ·obtain⟨v,r',e,h1,_⟩:=hz
   simp only[List.cons_append,List.nil_append,List.cons.injEq]at e
   obtain⟨rfl,rfl⟩:=e
   have he' :t.el=true:=by simpa[M.el]using he
   refine qA.2 ⟨he',.nil,_,[],rfl,h1,⟨?_,rfl⟩,rfl⟩
   exact a3i (M.denEq t he').symm _
  ·cases hn
 | .pair p q,he,zs,cs,r,hr,hz,hn=>by
  obtain⟨c,d,rfl,h1,h2⟩:=hr
  have he' :p.el=true∧q.el=true:=by simpa[M.el]using he
  have hp:=au h1
  rw[M.ty_size he'.1]at hp
  unfold Ju at hn
  split at hn
  ·rename_i r' hd
   obtain⟨_,rfl⟩:=MB _ _ _ hd
   cases hb:Ju p zs <;> rw[hb]at hn
   ·cases hn
   ·have a1:=Pg p he'.1 (r:=d++r) h1 (by simpa using hz) hb
    have hz' :=og p.size hz
    rw[show(c++d++r).drop p.size=d++r by rw[←hp,List.append_assoc,List.drop_left]]at hz'
    have a2:=Pg q he'.2 (r:=r) h2 hz' hn
    refine⟨c,d,[],[],rfl,rfl,?_,?_⟩
    ·have:=Hl (M.denEq p he'.1).symm (M.denEq q he'.2).symm (M.denEq (.pair p q) he).symm (p.ty.zero,q.ty.zero)
     exact(congrArg (fun z:p.den×q.den=>gI h ok p none z.1 c []) this).mpr a1
    ·have:=Hl (M.denEq p he'.1).symm (M.denEq q he'.2).symm (M.denEq (.pair p q) he).symm (p.ty.zero,q.ty.zero)
     exact(congrArg (fun z:p.den×q.den=>gI h ok q none z.2 d []) this).mpr a2
  ·cases hn
 | .box _,he,_,_,_,_,_,_=>by simp[M.el]at he
 | .ownb _,he,_,_,_,_,_,_=>by simp[M.el]at he
 | .cell _,he,_,_,_,_,_,_=>by simp[M.el]at he
 | .rp _,he,_,_,_,_,_,_=>by simp[M.el]at he
 | .fn _ _,he,_,_,_,_,_,_=>by simp[M.el]at he
 | .ifc _ _,he,_,_,_,_,_,_=>by simp[M.el]at he
theorem AV (z:Array Value):∀n,(madeCells z (n*z.size)).toList=(List.replicate n z.toList).flatten:=by
 intro n
 rcases Nat.eq_zero_or_pos z.size with h0 | h0
 ·have:z=#[]:=by simpa using h0
  subst this
  simp[madeCells]
 induction n with
 | zero=>simp[madeCells]
 | succ n ih=>
  rw[List.replicate_succ',List.flatten_append,←ih]
  simp only[madeCells,Array.toList_map,Array.toList_range,List.flatten_cons,List.flatten_nil,List.append_nil]
  rw[Nat.add_mul,Nat.one_mul,List.range_add,List.map_append,List.map_map]
  congr 1
  apply List.ext_getElem
  ·simp
  ·intro i h1 h2
   simp at h1 h2
   simp[Nat.mod_eq_of_lt h1,Nat.add_mod,h1,getElem!_pos]
theorem Ee {E:Env} {t e:Nat} {u:Ty} (h:yF E t=some (e,u)):u.isEnt=false:=by
 unfold yF at h
 split at h <;> try (cases h;done)
 split at h <;> try (cases h;done)
 split at h <;> try (cases h;done)
 split at h <;> try (cases h;done)
 rename_i u' _
 cases hu:u'.isEnt
 ·revert h
  generalize (Nat.beq _ _&&Nat.ble _ _)=b
  cases b <;> simp[hu]
  rintro _ rfl;exact hu
 ·simp[hu]at h
theorem wL {X:Fx} (H:FxOk X) {t e:Nat} {u:Ty} (h:yF X.E t=some (e,u)):
  ∃j z inf,X.P.underlying t=some (.slice e)∧TiOk X.P e j∧X.P.info? e=some inf∧inf.size=u.size∧j.size=u.size∧inf.bytes≤65536∧inf.zero=some z∧rep #[] (fun _ _=>False) u u.zero z.cells.toList:=by
 unfold yF at h
 cases hi:Y3 X.E.tt t with
 | none=>simp[hi]at h
 | some i=>
  have htd:=(H.tt t i hi).td
  simp only[hi]at h
  cases hd:i.td <;> simp only[hd]at h <;> try (simp at h;done)
  rename_i e'
  rw[hd]at htd
  cases hj:Y3 X.E.tt e' with
  | none=>simp[hj]at h
  | some j=>
   simp only[hj]at h
   cases hy:j.ty with
   | none=>simp[hy]at h
   | some u' =>
    simp only[hy]at h
    cases hb:(Nat.beq u'.size j.size&&Nat.ble j.bytes 65536&&!u'.isEnt)
    ·simp only[hb,cond_false]at h;cases h
    ·simp only[hb,cond_true,Option.some.injEq,Prod.mk.injEq]at h
     obtain⟨rfl,rfl⟩:=h
     simp only[Bool.and_eq_true]at hb
     have h1:=aV hb.1.1
     have h2:=Nat.le_of_ble_eq_true hb.1.2
     obtain⟨inf,a1,a2,a3,a4,a5⟩:=(H.tt e' j hj).info
     obtain⟨b1,z,b2,b3⟩:=a5 u' hy
     exact⟨j,z,inf,htd,H.tt _ _ hj,a1,by omega,by omega,by omega,b2,b3⟩
section
variable {X:Fx} {cl ch:Nat} {S:Sm} {m:Mp} {ok:Nat→Ty→Prop} {a:Act} {w:World} {o:Oper}
theorem Rf {C:Cx} {t:Ty} {x:t.den} {cs:List Value} (h:rep #[] (fun _ _=>False) t x cs):rep C.h C.ok t x cs:=
 Y0 (fun _ _ h=>h.elim) (fun _ _ h=>h.elim) h
theorem xW (H:FxOk X) {q:Nat} {v vv:V} {Q:Unit→Sm→Prop}
  (hK:∀n,n=H5 q o.dst→CB*q≤n→n+64≤CB*q+CB→S (BOX+n)= .undef→(Z9 X.E o.dst vv).post (upd S (BOX+n) v) Q):
  (qC (H5 q o.dst) v (Z9 X.E o.dst vv)).post S Q:=by
 refine qx fun hn=>?_
 cases hd:o.dst with
 | none=>
  have hin:=jq H (q:=q) none (fun t h=>by cases h)
  rw[hd]at hn
  have:=hK (H5 q none) (by rw[hd]) hin.1 hin.2 hn
  rwa[hd]at this
 | some t=>
  cases hb:QP X.E t with
  | false=>unfold Z9;simp only[hb,cond_false];trivial
  | true=>
   have hin:=jq H (q:=q) (some t) (fun t' h=>by cases h;exact(sH hb).1)
   rw[hd]at hn
   have:=hK (H5 q (some t)) (by rw[hd]) hin.1 hin.2 hn
   rwa[hd]at this
theorem a1S (H:FxOk X) {q:Nat} {v vv u:V} {Q:Unit→Sm→Prop}
  (hK:∀n,n=H5 q o.dst→CB*q≤n→n+64≤CB*q+CB→S (BOX+n)= .undef→(Cmd.set (BOX+(GZ+n)) u (Z9 X.E o.dst vv)).post (upd S (BOX+n) v) Q):
  (qC (H5 q o.dst) v (.set (BOX+(GZ+H5 q o.dst)) u (Z9 X.E o.dst vv))).post S Q:=by
 refine qx fun hn=>?_
 cases hd:o.dst with
 | none=>
  have hin:=jq H (q:=q) none (fun t h=>by cases h)
  rw[hd]at hn
  have:=hK (H5 q none) (by rw[hd]) hin.1 hin.2 hn
  rwa[hd]at this
 | some t=>
  cases hb:QP X.E t with
  | false=>refine dX ?_;unfold Z9;simp only[hb,cond_false];trivial
  | true=>
   have hin:=jq H (q:=q) (some t) (fun t' h=>by cases h;exact(sH hb).1)
   rw[hd]at hn
   have:=hK (H5 q (some t)) (by rw[hd]) hin.1 hin.2 hn
   rwa[hd]at this
theorem XN (R:Rel X cl ch S m ok a w) {w1:World} (hos:w1.os=w.os) (htp:w1.tape=w.tape) (hout:w1.output=w.output) (hh:w1.heap=w.heap)
  {u:Ty} (ht:u.isEnt=false) {xs:List u.den} {cs:List Value} {e:TypeId} {c:Array Value} {cap n:Nat} (hr:af w.heap ok u xs cs)
  (hcap:xs.length≤cap) (hfit:cap*u.size≤c.size) (he:c.toList.take (xs.length*u.size)=cs) (hcl:cl≤n) (hch:n<ch) (hn:S (BOX+n)= .undef):
  Rel X cl ch (upd S (BOX+n) (.barr u xs)) (fG m n (.arr w.heap.size 0 xs.length cap u.size) []) ok a (w1.alloc (.cells c e)):=by
 have R1:Rel X cl ch S m ok a w1:=R.same hos htp hout hh
 have hblk:(w1.alloc (.cells c e)).heap[w.heap.size]? =some (.cells c e (0,0)):=by rw[←hh];exact heap_alloc_new w1 _
 refine R1.new hn hcl hch (by simp) (by simp[J9,hh]) ⟨_,Y8 _ _ _ _,?_⟩
 refine af.arrOk (cs:=cs) ht (hr.mono (fun _ _ h=>h) (fun b t hb=>?_)) hblk hcap (by omega) (by simpa using he)
 have:=R.okLt b t hb
 show(w1.heap.push (.cells c e))[b]? =_
 rw[hh]
 exact oI _ _ this
theorem Iq (H:FxOk X) {q:Nat} (R:Rel X (CB*q) (CB*q+CB) S m ok a w) {w1:World} (hos:w1.os=w.os) (htp:w1.tape=w.tape) (hout:w1.output=w.output) (hh:w1.heap=w.heap)
  {u:Ty} (ht:u.isEnt=false) {xs:List u.den} {cs:List Value} {e:TypeId} {c:Array Value} {cap:Nat} (hr:af w.heap ok u xs cs)
  (hcap:xs.length≤cap) (hfit:cap*u.size≤c.size) (he:c.toList.take (xs.length*u.size)=cs) {w0:World} {m0:Mp} {ok0:Nat→Ty→Prop} (hm:∀k l,m0 k=some l→m k=some l) (hok:∀b t,ok0 b t→ok b t)
  (run:(execOp a.eval o).run X.P w0= .ok (.value (.slice (some ⟨w.heap.size,0,none⟩) xs.length cap)) (w1.alloc (.cells c e))):
  (qC (H5 q o.dst) (.barr u xs) (Z9 X.E o.dst (.own (H5 q o.dst) none))).post S (fun _ S' =>bM X (CB*q) (CB*q+CB) o a w0 m0 ok0 S'):=by
 refine xW H fun n e1 h1 h2 hn=>?_
 rw[←e1]
 clear e1
 generalize CB*q=Z at*
 have R' :=XN R hos htp hout hh ht (e:=e) hr hcap hfit he h1 (by show n<Z+1000000;change n+64≤Z+1000000 at h2;omega) hn
 refine oC H R' (fun k l h=>?_) hok ⟨_,Y8 _ _ _ _,rfl⟩ run
 by_cases ek:k=n
 ·subst ek
  have:=R.fresh k h1 hn
  have h3:=hm _ _ h
  rw[this]at h3;cases h3
 ·rw[dh _ _ _ ek];exact hm _ _ h
theorem Js (R:Rel X cl ch S m ok a w) {T:List Nat} (hT:Tk X S m ok w T) {w1:World} (hos:w1.os=w.os) (htp:w1.tape=w.tape) (hout:w1.output=w.output) (hh:w1.heap=w.heap)
  {md:M} (hel:md.el=true) {xs:List md.den} {cs:List Value} {Os:List (List Nat)} {e:TypeId} {c:Array Value} {cap n:Nat} (hr:nC w.heap ok md xs cs Os) (hnd:Os.flatten.Nodup) (hO:∀b∈Os.flatten,b∈T)
  (hcap:xs.length≤cap) (hfit:cap*md.size≤c.size) (he:c.toList.take (xs.length*md.size)=cs) (hcl:cl≤n) (hch:n<ch) (hn:S (BOX+n)= .undef):
  Rel X cl ch (upd S (BOX+n) (.barrs md xs none)) (fG m n (.arr w.heap.size 0 xs.length cap md.size) Os.flatten) ok a (w1.alloc (.cells c e)):=by
 have R1:Rel X cl ch S m ok a w1:=R.same hos htp hout hh
 have T1:Tk X S m ok w1 T:=⟨hT.nodup,fun b hb=>by rw[hh];exact hT.free b hb⟩
 have hblk:(w1.alloc (.cells c e)).heap[w.heap.size]? =some (.cells c e (0,0)):=by rw[←hh];exact heap_alloc_new w1 _
 have hold:∀b,b<w.heap.size→(w1.alloc (.cells c e)).heap[b]? =w.heap[b]?:=fun b hb=>by
  show(w1.heap.push (.cells c e))[b]? =_
  rw[hh]
  exact oI _ _ hb
 refine R1.newK T1 hn hcl hch (by simp) (by simp[J9,hh]) hnd hO ⟨hel,_,Os,Y8 _ _ _ _,?_,by simp⟩
 exact⟨nC.arrs (cs:=cs) (hr.mono (fun _ _ h=>h) (fun b t hb=>hold b (R.okLt b t hb)) (fun b hb=>hold b (hT.free b (hO b hb)).2.1)) hblk hcap (by omega) (by simpa using he),trivial⟩
theorem NM (H:FxOk X) {q:Nat} (R:Rel X (CB*q) (CB*q+CB) S m ok a w) {T:List Nat} (hT:Tk X S m ok w T) {w1:World} (hos:w1.os=w.os) (htp:w1.tape=w.tape) (hout:w1.output=w.output) (hh:w1.heap=w.heap)
  {md:M} (hel:md.el=true) {xs:List md.den} {cs:List Value} {Os:List (List Nat)} {e:TypeId} {c:Array Value} {cap:Nat} (hr:nC w.heap ok md xs cs Os) (hnd:Os.flatten.Nodup) (hO:∀b∈Os.flatten,b∈T)
  (hcap:xs.length≤cap) (hfit:cap*md.size≤c.size) (he:c.toList.take (xs.length*md.size)=cs) {w0:World} {m0:Mp} {ok0:Nat→Ty→Prop} (hm:∀k l,m0 k=some l→m k=some l) (hok:∀b t,ok0 b t→ok b t)
  (run:(execOp a.eval o).run X.P w0= .ok (.value (.slice (some ⟨w.heap.size,0,none⟩) xs.length cap)) (w1.alloc (.cells c e))):
  (qC (H5 q o.dst) (.barrs md xs none) (Z9 X.E o.dst (.own (H5 q o.dst) none))).post S (fun _ S' =>bM X (CB*q) (CB*q+CB) o a w0 m0 ok0 S'):=by
 refine xW H fun n e1 h1 h2 hn=>?_
 rw[←e1]
 clear e1
 generalize CB*q=Z at*
 have R' :=Js R hT hos htp hout hh (e:=e) hel hr hnd hO hcap hfit he h1 (by show n<Z+1000000;change n+64≤Z+1000000 at h2;omega) hn
 refine oC H R' (fun k l h=>?_) hok ⟨_,Y8 _ _ _ _,rfl⟩ run
 by_cases ek:k=n
 ·subst ek
  have:=R.fresh k h1 hn
  have h3:=hm _ _ h
  rw[this]at h3;cases h3
 ·rw[dh _ _ _ ek];exact hm _ _ h
theorem VE (H:FxOk X) {q:Nat} (R:Rel X (CB*q) (CB*q+CB) S m ok a w) {T:List Nat} (hT:Tk X S m ok w T) {w1:World} (hos:w1.os=w.os) (htp:w1.tape=w.tape) (hout:w1.output=w.output) (hh:w1.heap=w.heap)
  {md:M} (hel:md.el=true) {xs:List md.den} {cs:List Value} {Os:List (List Nat)} {e:TypeId} {c:Array Value} {cap:Nat} (hr:nC w.heap ok md xs cs Os) (hnd:Os.flatten.Nodup) (hO:∀b∈Os.flatten,b∈T)
  (hcap:xs.length≤cap) (hfit:cap*md.size≤c.size) (he:c.toList.take (xs.length*md.size)=cs) {w0:World} {m0:Mp} {ok0:Nat→Ty→Prop} (hm:∀k l,m0 k=some l→m k=some l) (hok:∀b t,ok0 b t→ok b t)
  (run:(execOp a.eval o).run X.P w0= .ok (.value (.slice (some ⟨w.heap.size,0,none⟩) xs.length cap)) (w1.alloc (.cells c e))):
  (qC (H5 q o.dst) (.barrs md xs none) (.set (BOX+(GZ+H5 q o.dst)) (.blen (o8 xs) md.size) (Z9 X.E o.dst (.own (H5 q o.dst) none)))).post S (fun _ S' =>bM X (CB*q) (CB*q+CB) o a w0 m0 ok0 S'):=by
 refine a1S H fun n e1 h1 h2 hn=>?_
 refine dX ?_
 rw[←e1]
 clear e1
 generalize CB*q=Z at*
 have R' :=Js R hT hos htp hout hh (e:=e) hel hr hnd hO hcap hfit he h1 (by show n<Z+1000000;change n+64≤Z+1000000 at h2;omega) hn
 refine oC H (R'.mark (dL _ _ _)) (fun k l h=>?_) hok ⟨_,Y8 _ _ _ _,rfl⟩ run
 by_cases ek:k=n
 ·subst ek
  have:=R.fresh k h1 hn
  have h3:=hm _ _ h
  rw[this]at h3;cases h3
 ·rw[dh _ _ _ ek];exact hm _ _ h
theorem SV (H:FxOk X) {q:Nat} (R:Rel X (CB*q) (CB*q+CB) S m ok a w) {t:TypeId} {l c:Operand} (ho:o.op= .makeSlice t l c):(V7 X.E q o).post S (fun _ S' =>bM X (CB*q) (CB*q+CB) o a w m ok S'):=by
 unfold V7
 simp only[ho]
 split
 ·rename_i md hom
  split <;> try trivial
  rename_i e u het
  obtain⟨j,z,inf,hu,hj,h1,h2,h3,h4,h5,h6⟩:=wL H het
  have hz:=au h6
  refine O7 R fun v hv=>?_
  split <;> try trivial
  rename_i k n
  refine az fun hc=>?_
  simp only[Bool.and_eq_true]at hc
  obtain⟨⟨hs,hsz⟩,hza⟩:=hc
  split <;> try trivial
  rename_i hel
  obtain⟨hel,rfl⟩:=hel
  refine ay fun xs hxs=>?_
  have hec:a.eval c=a.eval l:=by
   unfold OD at hs
   split at hs
   ·have:=aV hs
    subst this;rfl
   ·cases hs
  unfold jH at hxs
  split at hxs
  ·rename_i hh
   cases hxs
   have e1:=kE hv
   have e2:=hec.trans e1
   have hms:=M.ty_size hel
   have hby:(inf.bytes:Int)*n≤65536*1073741824:=by
    have:inf.bytes*n.toNat≤65536*1073741824:=Nat.mul_le_mul h4 (by omega)
    have e:(n.toNat:Int)=n:=by omega
    rw[←e,←Int.natCast_mul]
    generalize inf.bytes*n.toNat=p at*
    omega
   have hrun:=run_make (P:=X.P) w t e inf z hu h1 h5 k k n n hh.1 (Int.le_refl _) (by omega) (by omega)
   have hflat:=AV z.cells n.toNat
   have hzs:z.cells.size=md.ty.size:=by simpa using hz
   have hzero:gI w.heap ok md none (md.zero hel) z.cells.toList []:=by
    unfold a1d at hza
    rw[het]at hza
    simp only at hza
    cases hj2:Y3 X.E.tt e with
    | none=>rw[hj2]at hza;cases hza
    | some j2=>
     rw[hj2]at hza
     simp only at hza
     cases hb:Nat.beq j2.zero.length j2.size <;> rw[hb]at hza
     ·cases hza
     ·obtain⟨inf2,a1,a2,a3,a4,a5⟩:=(H.tt e j2 hj2).info
      rw[h1]at a1;cases a1
      obtain⟨z2,b1,b2⟩:=a4 (aV hb)
      rw[h5]at b1;cases b1
      exact Pg md hel (r:=[]) (Rf (C:=⟨w.heap,ok,m⟩) h6) (by simpa using b2) hza
   refine VE H R (T:=[]) Tk.nil rfl rfl rfl rfl (cs:=(List.replicate n.toNat z.cells.toList).flatten) (c:=madeCells z.cells (n.toNat*inf.size)) (cap:=n.toNat) (e:=e) hel (nC.rep_all hzero _) (by simp) (by simp) (by simp) (by simp[size_madeCells,h2,hms]) ?_ (fun _ _ h=>h) (fun _ _ h=>h) (w1:=w) ?_
   ·rw[h2,←hzs,hflat]
    rw[List.take_of_length_le (by simp[List.length_flatten,hzs,hms])]
   ·simp[execOp,ho,e1,e2,hrun]
  ·cases hxs
 split <;> try trivial
 rename_i e u het
 obtain⟨j,z,inf,hu,hj,h1,h2,h3,h4,h5,h6⟩:=wL H het
 have hz:=au h6
 have key:∀{k k' :IntKind} {n n' :Int},a.eval l= .int k n→a.eval c= .int k' n' →0≤n→n≤n' →n' ≤1073741824→
   (qC (H5 q o.dst) (.barr u (List.replicate n.toNat u.zero)) (Z9 X.E o.dst (.own (H5 q o.dst) none))).post S (fun _ S' =>bM X (CB*q) (CB*q+CB) o a w m ok S'):=fun {k k' n n'} e1 e2 g0 g1 g2=>by
  have hby:(inf.bytes:Int)*n' ≤65536*1073741824:=by
   have:inf.bytes*n'.toNat≤65536*1073741824:=Nat.mul_le_mul h4 (by omega)
   have e:(n'.toNat:Int)=n' :=by omega
   rw[←e,←Int.natCast_mul]
   generalize inf.bytes*n'.toNat=p at*
   omega
  have hrun:=run_make (P:=X.P) w t e inf z hu h1 h5 k k' n n' g0 g1 (by omega) (by omega)
  have hflat:=AV z.cells n'.toNat
  have hzs:z.cells.size=u.size:=by simpa using hz
  refine Iq H R rfl rfl rfl rfl (Ee het) (cs:=(List.replicate n.toNat z.cells.toList).flatten) (c:=madeCells z.cells (n'.toNat*inf.size)) (cap:=n'.toNat) (e:=e) (af.rep_all (Rf (C:=⟨w.heap,ok,m⟩) h6) _) (by simp;omega) (by simp[size_madeCells,h2]) ?_ (fun _ _ h=>h) (fun _ _ h=>h) (w1:=w) ?_
  ·rw[h2,←hzs,hflat]
   have:n'.toNat=n.toNat+(n'.toNat -n.toNat):=by omega
   rw[this,←List.replicate_append_replicate,List.flatten_append,List.take_append_of_le_length (by simp[List.length_flatten]),List.take_of_length_le (by simp[List.length_flatten])]
  ·simp[execOp,ho,e1,e2,hrun]
 refine O7 R fun v hv=>?_
 split <;> try trivial
 rename_i k n
 cases hs:OD l c
 ·simp only[cond_false]
  refine O7 R fun v' hv' =>?_
  split <;> try trivial
  rename_i k' n'
  refine⟨fun hr=>ay fun xs hxs=>?_,fun _=>trivial⟩
  have hr' :=of_decide_eq_true (show decide (0≤n∧n≤n' ∧n' ≤1073741824)=true from hr)
  unfold jH at hxs
  split at hxs
  ·cases hxs
   exact key (kE hv) (kE hv') hr'.1 hr'.2.1 hr'.2.2
  ·cases hxs
 ·simp only[cond_true]
  refine ay fun xs hxs=>?_
  have hec:a.eval c=a.eval l:=by
   unfold OD at hs
   split at hs
   ·have:=aV hs
    subst this;rfl
   ·cases hs
  unfold jH at hxs
  split at hxs
  ·rename_i hh
   cases hxs
   exact key (kE hv) (hec.trans (kE hv)) hh.1 (Int.le_refl _) hh.2
  ·cases hxs
end
end Go.GP
namespace Go.GP
theorem xN:∀(vs:List Value) (k off:Nat) (cs:Array Value),off+k+vs.length≤cs.size→
  (vs.zipIdx k).foldl (fun cs (x:Value×Nat)=>cs.setIfInBounds (off+x.2) x.1) cs=(U8 (off+k) vs cs.toList).toArray
 | [],k,off,cs,h=>by simp[U8]
 | v::vs,k,off,cs,h=>by
  simp only[List.zipIdx_cons,List.foldl_cons]
  rw[xN vs (k+1) off (cs.setIfInBounds (off+k) v) (by simp only[List.length_cons]at h;rw[Array.size_setIfInBounds];omega)]
  congr 1
  simp only[List.length_cons]at h
  have hsz:cs.toList.length=cs.size:=rfl
  apply List.ext_getElem?
  intro i
  rw[jE (by rw[Array.toList_setIfInBounds,List.length_set];omega),jE (by rw[List.length_cons];omega)]
  simp only[Array.toList_setIfInBounds,List.length_cons,List.getElem?_set]
  by_cases h1:i<off+k
  ·rw[if_pos (show i<off+(k+1) by omega),if_pos h1,if_neg (show ¬off+k=i by omega)]
  ·rw[if_neg h1]
   by_cases h2:i=off+k
   ·subst h2
    rw[if_pos (show off+k<off+(k+1) by omega),if_pos rfl,if_pos (show off+k<cs.toList.length by omega),if_pos (show off+k<off+k+(vs.length+1) by omega)]
    simp
   ·rw[if_neg (show ¬i<off+(k+1) by omega)]
    by_cases h3:i<off+(k+1)+vs.length
    ·rw[if_pos h3,if_pos (show i<off+k+(vs.length+1) by omega)]
     rw[show i -(off+k)=(i -(off+(k+1)))+1 by omega]
     simp
    ·rw[if_neg h3,if_neg (show ¬i<off+k+(vs.length+1) by omega),if_neg (show ¬off+k=i by omega)]
theorem Ue (v:Value) (off:Nat) (cs:Array Value) (h:off+v.cells.size≤cs.size):
  v.cells.zipIdx.foldl (fun cs (c,j)=>cs.setIfInBounds (off+j) c) cs=(U8 off v.cells.toList cs.toList).toArray:=by
 have:=xN v.cells.toList 0 off cs (by simpa using h)
 rw[Nat.add_zero]at this
 rw[←this,←Array.foldl_toList,Array.toList_zipIdx]
theorem Qo {place:Nat→Option (Nat×Nat)} {cs:Array Value} {i off size:Nat} {v:Value} {rest:List (Nat×Value)} (hp:place i=some (off,size)) (hs:v.cells.size=size) (hf:off+v.cells.size≤cs.size):
  Instr.fill place cs ((i,v)::rest)=Instr.fill place (U8 off v.cells.toList cs.toList).toArray rest:=by
 have h2:¬(v.cells.size≠size∨off+v.cells.size>cs.size):=by omega
 simp only[Instr.fill,hp]
 rw[if_neg (by simpa using h2),Ue v off cs hf]
theorem ML {size:Nat} :∀(vs:List Value) (n:Nat) (cs:Array Value),(∀v∈vs,v.cells.size=size)→cs.size=(n+vs.length)*size→
  Instr.fill (fun i=>some (i*size,size)) cs ((List.range' n vs.length).zip vs)=some (cs.toList.take (n*size)++vs.flatMap (fun v=>v.cells.toList)).toArray
 | [],n,cs,_,h=>by
  simp only[List.length_nil,Nat.add_zero]at h
  have:cs.toList.take (n*size)=cs.toList:=List.take_of_length_le (by rw[←h];exact Nat.le_refl _)
  simp[Instr.fill,this]
 | v::vs,n,cs,hv,h=>by
  have h1:=hv v (by simp)
  simp only[List.length_cons]at h
  have e1:(n+(vs.length+1))*size=n*size+size+vs.length*size:=by rw[Nat.add_mul,Nat.add_mul];omega
  simp only[List.length_cons,List.range'_succ,List.zip_cons_cons]
  rw[Qo (off:=n*size) (size:=size) rfl h1 (by omega)]
  rw[ML vs (n+1) _ (fun u hu=>hv u (by simp[hu])) (by
   have:=oQ (p:=n*size) (us:=v.cells.toList) (L:=cs.toList) (by simp;omega)
   simp only[List.size_toArray,this]
   rw[Nat.add_mul,Nat.add_mul];simp;omega)]
  congr 2
  simp only[List.flatMap_cons]
  rw[←List.append_assoc]
  congr 1
  unfold U8
  have hsz:cs.toList.length=cs.size:=rfl
  have h1' :v.cells.toList.length=size:=h1
  rw[Nat.add_mul,Nat.one_mul,List.take_append_of_le_length (by rw[List.length_append,List.length_take,h1'];omega)]
  rw[List.take_of_length_le (by rw[List.length_append,List.length_take,h1'];omega)]
theorem BA {P:Program} {w:World} {t e:TypeId} {inf:TypeInfo} {z:Value} {n sz:Nat} {parts:Array (Nat×Value)} {F:Array Value} (hu:P.underlying t=some (.slice e)) (hi:P.info? e=some inf) (hs:inf.size=sz) (hz:inf.zero=some z)
  (hle:n*sz≤16777216) (hf:∀cs:Array Value,cs.size=n*sz→Instr.fill (fun i=>some (i*sz,sz)) cs parts.toList=some F):
  (Instr.buildSlice t n parts).run P w= .ok (.slice (some ⟨w.heap.size,0,none⟩) n n) (w.alloc (.cells F e)):=by
 subst hs
 have hsz:(sizeOf e).run P w= .ok inf.size w:=by simp[sizeOf,typeInfo,hi]
 have hnle:¬(n*inf.size>2^24):=by show ¬(n*inf.size>16777216);omega
 unfold Instr.buildSlice
 simp only[Sem.run_bind,run_underlying hu,Result.andThen_ok,hsz,if_neg hnle]
 generalize n*inf.size=N at*
 have fin:∀zero:Array Value,((match Instr.fill (fun i=>some (i*inf.size,inf.size)) ((Array.range N).map (zero[·% zero.size]!)) parts.toList with
   | some cells=>(do pure (Value.slice (some (←newRow e cells)) n n):Sem Value)
   | _=>stuck "buildSlice: a part of the wrong size"):Sem Value).run P w= .ok (.slice (some ⟨w.heap.size,0,none⟩) n n) (w.alloc (.cells F e)):=fun zero=>by
  rw[hf _ (by simp)]
  simp[newRow]
 by_cases hn:N=0
 ·rw[if_pos hn]
  simp only[Sem.run_bind,Sem.run_pure,Result.andThen_ok]
  exact fin _
 ·rw[if_neg hn]
  have hzv:(zeroValue e).run P w= .ok z w:=by simp[zeroValue,typeInfo,hi,hz]
  simp only[Sem.run_bind,hzv,Sem.run_pure,Result.andThen_ok]
  exact fin _
section
variable {X:Fx} {cl ch:Nat} {S:Sm} {m:Mp} {ok:Nat→Ty→Prop} {a:Act} {w:World} {o:Oper}
theorem zC {α:Type} {Q:α→Sm→Prop} (u:Ty):∀(is:List Nat) (vs:List V) {us:List Value} (n k:Nat) {K:List u.den→Cmd α} {S:Sm} {ok:Nat→Ty→Prop} (R:Rel X cl ch S m ok a w) (hl:is.length=us.length)
  (hv:aY ⟨w.heap,ok,m⟩ vs us)
  (hK:∀S' ok' xs,Rel X cl ch S' m ok' a w→(∀b t,ok b t→ok' b t)→us.length=k→is=List.range' n us.length→(∀v∈us,v.cells.size=u.size)→xs.length=us.length→af w.heap ok' u xs (us.flatMap fun v=>v.cells.toList)→(K xs).post S' Q),
  (pW u (is.zip vs) n k K).post S Q
 | [],vs,us,n,k,K,S,ok,R,hl,hv,hK=>by
  have:us=[]:=by cases us <;> simp at hl ⊢
  subst this
  simp only[List.zip_nil_left]
  cases k with
  | zero=>unfold pW;exact hK S ok [] R (fun _ _ h=>h) rfl rfl (by simp) rfl af.nil
  | succ k=>unfold pW;trivial
 | i::is,vs,us,n,k,K,S,ok,R,hl,hv,hK=>by
  cases us with
  | nil=>simp at hl
  | cons x us=>
  cases vs with
  | nil=>simp[aY]at hv
  | cons v vs=>
  obtain⟨x',r,e,h1,h2⟩:=hv
  simp only[List.cons.injEq]at e
  obtain⟨rfl,rfl⟩:=e
  simp only[List.zip_cons_cons]
  cases k with
  | zero=>unfold pW;trivial
  | succ k=>
  unfold pW
  refine Y4 fun hi=>lZ h1 fun cs hcs=>?_
  have hi' :=aV hi
  subst hi'
  refine uO (T:=[]) u R Tk.nil hcs fun S1 ok1 y q ws ws' R1 T1 k1 s1 e1 g1 l1=>?_
  cases q with
  | cons _ _=>trivial
  | nil=>
  simp only[aF]at l1
  subst l1
  simp only[List.append_nil]at e1
  refine zC u is vs (i+1) k R1 (by simpa using hl) (Bl k1 h2) fun S2 ok2 ys R2 k2 c1 c2 c3 c4 c5=>?_
  refine hK S2 ok2 (y::ys) R2 (fun b t h=>k2 b t (k1 b t h)) (by simp[c1]) ?_ ?_ (by simp[c4]) ?_
  ·simp[List.range'_succ,c2]
  ·intro z hz
   rcases List.mem_cons.1 hz with rfl | hz
   ·have:=au g1;rw[←e1]at this;simpa using this
   ·exact c3 z hz
  ·have:=(af.one (Y0 k2 (fun _ _ _=>rfl) g1)).append c5
   simpa[e1]using this
theorem xH {α:Type} {Q:α→Sm→Prop} (md:M):∀(is:List Nat) (vs:List V) {us:List Value} (n k:Nat) {K:List md.den→Cmd α} {S:Sm} {ok:Nat→Ty→Prop} {T:List Nat} (R:Rel X cl ch S m ok a w) (hT:Tk X S m ok w T) (hl:is.length=us.length)
  (hv:aY ⟨w.heap,ok,m⟩ vs us)
  (hK:∀S' ok' xs Os,Rel X cl ch S' m ok' a w→Tk X S' m ok' w (T++Os.flatten)→(∀b t,ok b t→ok' b t)→us.length=k→is=List.range' n us.length→(∀v∈us,v.cells.size=md.size)→xs.length=us.length→nC w.heap ok' md xs (us.flatMap fun v=>v.cells.toList) Os→(K xs).post S' Q),
  (lX md (is.zip vs) n k K).post S Q
 | [],vs,us,n,k,K,S,ok,T,R,hT,hl,hv,hK=>by
  have:us=[]:=by cases us <;> simp at hl ⊢
  subst this
  simp only[List.zip_nil_left]
  cases k with
  | zero=>unfold lX;exact hK S ok [] [] R (by simpa using hT) (fun _ _ h=>h) rfl rfl (by simp) rfl nC.nil
  | succ k=>unfold lX;trivial
 | i::is,vs,us,n,k,K,S,ok,T,R,hT,hl,hv,hK=>by
  cases us with
  | nil=>simp at hl
  | cons x us=>
  cases vs with
  | nil=>simp[aY]at hv
  | cons v vs=>
  obtain⟨x',r,e,h1,h2⟩:=hv
  simp only[List.cons.injEq]at e
  obtain⟨rfl,rfl⟩:=e
  simp only[List.zip_cons_cons]
  cases k with
  | zero=>unfold lX;trivial
  | succ k=>
  unfold lX
  refine az fun hi=>lZ h1 fun cs hcs=>?_
  have hi' :=aV hi
  subst hi'
  refine uY md R hT hcs fun S1 ok1 y q ws ws' O R1 T1 k1 s1 e1 g1 l1=>?_
  cases q with
  | cons _ _=>trivial
  | nil=>
  simp only[aF]at l1
  subst l1
  simp only[List.append_nil]at e1
  refine xH md is vs (i+1) k R1 T1 (by simpa using hl) (Bl k1 h2) fun S2 ok2 ys Os R2 T2 k2 c1 c2 c3 c4 c5=>?_
  refine hK S2 ok2 (y::ys) (O::Os) R2 (by simpa[List.append_assoc]using T2) (fun b t h=>k2 b t (k1 b t h)) (by simp[c1]) ?_ ?_ (by simp[c4]) ?_
  ·simp[List.range'_succ,c2]
  ·intro z hz
   rcases List.mem_cons.1 hz with rfl | hz
   ·have:=Z4 g1;rw[←e1]at this;simpa using this
   ·exact c3 z hz
  ·have:=(nC.one (bK k2 (fun _ _ _=>rfl) (fun _ _=>rfl) g1)).append c5
   simpa[e1]using this
theorem PH (H:FxOk X) {q:Nat} (R:Rel X (CB*q) (CB*q+CB) S m ok a w) {t:TypeId} {n:Nat} {ps:Array (Nat×Operand)} (ho:o.op= .buildSlice t n ps):(V7 X.E q o).post S (fun _ S' =>bM X (CB*q) (CB*q+CB) o a w m ok S'):=by
 unfold V7
 simp only[ho]
 split <;> try trivial
 rename_i e u het
 obtain⟨j,z,inf,hu,hj,h1,h2,h3,h4,h5,h6⟩:=wL H het
 have hz:=au h6
 refine Y4 fun hle=>fZ R _ fun vs hvs=>?_
 have hle' :n*u.size≤16777216:=Nat.le_of_ble_eq_true hle
 split
 rotate_left
 ·rename_i md hom
  refine az fun hc=>?_
  simp only[Bool.and_eq_true]at hc
  have hms:=aV hc.1
  refine xH md _ vs 0 n (T:=[]) R Tk.nil (by simp) hvs fun S' ok' xs Os R' T' k c1 c2 c3 c4 c5=>?_
  rw[List.nil_append]at T'
  simp only[List.length_map]at c1 c2
  have hparts:(ps.map fun(i,x)=>(i,a.eval x)).toList=(List.range' 0 ((ps.toList.map (·.2)).map a.eval).length).zip ((ps.toList.map (·.2)).map a.eval):=by
   simp only[List.length_map]
   rw[←c2]
   simp[List.zip_map',List.zip_map,Array.toList_map,Function.comp_def]
  have hxl:xs.length=n:=by rw[c4];simpa using c1
  have hflat:=c5.1
  have hcl:((ps.toList.map (·.2)).map a.eval).length=n:=by simpa using c1
  have hfill:∀cs:Array Value,cs.size=n*u.size→Instr.fill (fun i=>some (i*u.size,u.size)) cs (ps.map fun(i,x)=>(i,a.eval x)).toList=some ((((ps.toList.map (·.2)).map a.eval).flatMap fun v=>v.cells.toList)).toArray:=fun cs hcs=>by
   rw[hparts,ML _ 0 cs (by rw[←hms];exact c3) (by rw[hcl,hcs];simp)]
   simp
  refine NM (w1:=w) (e:=e) (cap:=xs.length) H R' T' rfl rfl rfl rfl hc.2 c5 T'.nodup (fun _ h=>h) (Nat.le_refl _) (by rw[←hflat];simp) (c:=((((ps.toList.map (·.2)).map a.eval).flatMap fun v=>v.cells.toList)).toArray) (List.take_of_length_le (by rw[hflat];exact Nat.le_refl _)) (fun _ _ h=>h) k ?_
  have hrun:=BA (w:=w) (n:=n) hu h1 h2 h5 hle' hfill
  simp only[execOp,ho,Sem.run_bind,hrun,Result.andThen_ok,Sem.run_pure,hxl]
 refine zC u _ vs 0 n R (by simp) hvs fun S' ok' xs R' k c1 c2 c3 c4 c5=>?_
 have hsz:(sizeOf e).run X.P w= .ok u.size w:=by simp[sizeOf,typeInfo,h1,h2]
 simp only[List.length_map]at c1 c2
 have hparts:(ps.map fun(i,x)=>(i,a.eval x)).toList=(List.range' 0 ((ps.toList.map (·.2)).map a.eval).length).zip ((ps.toList.map (·.2)).map a.eval):=by
  simp only[List.length_map]
  rw[←c2]
  simp[List.zip_map',List.zip_map,Array.toList_map,Function.comp_def]
 have hxl:xs.length=n:=by rw[c4];simpa using c1
 have hflat:=c5.1
 have hcl:((ps.toList.map (·.2)).map a.eval).length=n:=by simpa using c1
 have hfill:∀cs:Array Value,cs.size=n*u.size→Instr.fill (fun i=>some (i*u.size,u.size)) cs (ps.map fun(i,x)=>(i,a.eval x)).toList=some ((((ps.toList.map (·.2)).map a.eval).flatMap fun v=>v.cells.toList)).toArray:=fun cs hcs=>by
  rw[hparts,ML _ 0 cs c3 (by rw[hcl,hcs];simp)]
  simp
 refine Iq (w1:=w) (e:=e) (cap:=xs.length) H R' rfl rfl rfl rfl (Ee het) c5 (Nat.le_refl _) (by rw[←hflat];simp) (c:=((((ps.toList.map (·.2)).map a.eval).flatMap fun v=>v.cells.toList)).toArray) (List.take_of_length_le (by rw[hflat];exact Nat.le_refl _)) (fun _ _ h=>h) k ?_
 have hrun:=BA (w:=w) (n:=n) hu h1 h2 h5 hle' hfill
 simp only[execOp,ho,Sem.run_bind,hrun,Result.andThen_ok,Sem.run_pure,hxl]
theorem KZ {E:Env} :∀{fs:List (Nat×Nat)},Zk E fs=true→∀p∈fs,∃i,Y3 E.tt p.1=some i
 | [],_,p,hp=>by cases hp
 | (t,o)::r,h,p,hp=>by
  unfold Zk at h
  cases hi:Y3 E.tt t with
  | none=>simp[hi]at h
  | some i=>
   simp only[hi]at h
   rcases List.mem_cons.1 hp with rfl | hp
   ·exact⟨i,hi⟩
   ·exact KZ h p hp
def FX (P:Program) (fields:Array Field):List (Nat×Nat):=fields.toList.map fun f=>(f.offset,((P.info? f.type).map (·.size)).getD 0)
theorem JA {P:Program} :∀(fs:List Field),(∀f∈fs,∃i,P.info? f.type=some i)→
  fs.mapM (fun f=>(P.info? f.type).map fun i=>(f.offset,i.size))=some (fs.map fun f=>(f.offset,((P.info? f.type).map (·.size)).getD 0))
 | [],_=>by simp
 | f::fs,h=>by
  obtain⟨i,hi⟩:=h f (by simp)
  rw[List.mapM_cons,JA fs (fun g hg=>h g (by simp[hg]))]
  simp[hi]
theorem yh {α:Type} {Q:α→Sm→Prop} (H:FxOk X) {t:Nat} {fields:Array Field} (hu:X.P.underlying t=some (.struct fields)):
  ∀(is:List Nat) (vs:List V) {us:List Value} {cs:List V} {arr:Array Value} {K:List V→Cmd α} (hl:is.length=us.length) (hv:aY ⟨w.heap,ok,m⟩ vs us) (hc:aF ⟨w.heap,ok,m⟩ cs arr.toList)
  (hK:∀cs' arr',Instr.fill ((FX X.P fields).toArray[·]?) arr (is.zip us)=some arr' →aF ⟨w.heap,ok,m⟩ cs' arr'.toList→(K cs').post S Q),(tX X.E t (is.zip vs) cs K).post S Q
 | [],vs,us,cs,arr,K,hl,hv,hc,hK=>by
  simp only[List.zip_nil_left]
  unfold tX
  exact hK cs arr (by simp[Instr.fill]) hc
 | i::is,vs,us,cs,arr,K,hl,hv,hc,hK=>by
  cases us with
  | nil=>simp at hl
  | cons x us=>
  cases vs with
  | nil=>simp[aY]at hv
  | cons v vs=>
  obtain⟨x',r,e,h1,h2⟩:=hv
  simp only[List.cons.injEq]at e
  obtain⟨rfl,rfl⟩:=e
  simp only[List.zip_cons_cons]
  unfold tX
  split <;> try trivial
  rename_i off n ag hf
  obtain⟨fields',fld,j,hu',hfl,hoff,hj,hn,hn0,_⟩:=xx H hf
  rw[hu]at hu';cases hu'
  obtain⟨inf,i1,i2,_⟩:=hj.info
  refine lZ h1 fun ws hws=>Y4 fun hb=>uK off ws cs fun hle=>?_
  have hb' :=aV hb
  have hL:=fD hc
  have hLw:=fD hws
  have hxs:x.cells.size=n:=by simp at hLw;omega
  have hpl:((FX X.P fields).toArray[i]?)=some (off,n):=by
   have hfl' :fields.toList[i]? =some fld:=by simpa using hfl
   simp[FX,hfl,i1,i2,hoff,hn]
  refine yh H hu is vs (arr:=(U8 off x.cells.toList arr.toList).toArray) (by simpa using hl) h2 (by simpa using xe hws hc) fun cs' arr' hfill hrel=>?_
  refine hK cs' arr' ?_ hrel
  rw[List.zip_cons_cons,Qo (place:=fun k=>(FX X.P fields).toArray[k]?) (cs:=arr) hpl hxs (by simp at hL;omega)]
  exact hfill
theorem a4z (H:FxOk X) (R:Rel X cl ch S m ok a w) {t:TypeId} {ps:Array (Nat×Operand)} {q:Nat} (ho:o.op= .build t ps):(V7 X.E q o).post S (fun _ S' =>bM X cl ch o a w m ok S'):=by
 unfold V7
 simp only[ho]
 refine ji H fun i hi=>?_
 split <;> try trivial
 rename_i fs htd'
 have htd:=hi.td
 rw[htd']at htd
 obtain⟨fields,hu,hfs⟩:=htd
 refine Y4 fun hb=>fZ R _ fun vs hvs=>?_
 simp only[Bool.and_eq_true]at hb
 obtain⟨inf,h1,h2,h3,h4,h5⟩:=hi.info
 obtain⟨z,hz1,hz2⟩:=h4 (aV hb.2)
 refine yh H hu _ vs (us:=(ps.toList.map (·.2)).map a.eval) (arr:=z.cells) (by simp) hvs (Oo hz2) fun cs' arr' hfill hrel=>?_
 refine O9 H R (v:=.agg cs') (x:=.agg arr') ⟨arr',rfl,hrel⟩ ?_
 have hparts:(ps.map fun(i,x)=>(i,a.eval x)).toList=(ps.toList.map (·.1)).zip ((ps.toList.map (·.2)).map a.eval):=by
  simp[List.zip_map',List.zip_map,Array.toList_map,Function.comp_def]
 have hmap:=JA (P:=X.P) fields.toList (fun f hf=>by
  obtain⟨i',hi'⟩:=KZ hb.1 (f.type,f.offset) (by rw[←hfs];exact List.mem_map.2 ⟨f,hf,rfl⟩)
  obtain⟨inf',q1,_⟩:=(H.tt _ _ hi').info
  exact⟨inf',q1⟩)
 have hbuilt:X.P.built t (ps.map fun(i,x)=>(i,a.eval x)).toList=some arr' :=by
  unfold Program.built
  simp only[h1,hu,hz1,hmap]
  rw[hparts];exact hfill
 have:=run_build (P:=X.P) w t _ arr' hbuilt
 simp only[execOp,ho,Sem.run_bind,this,Result.andThen_ok,Sem.run_pure]
end
end Go.GP
namespace Go.GP
def wu (h:Array Obj) (sz:Nat) (v:Value) (n:Nat) (es:List Value):Prop:=
 es.length=n*sz∧((n=0∧∃ad cap,v= .slice ad 0 cap)∨∃blk off cap,v= .slice (some ⟨blk,off,none⟩) n cap∧0<n∧Y1 h blk off (n*sz)=some es)
theorem a8x {h:Array Obj} {ok:Nat→Ty→Prop} {t:Ty} {ys:List t.den} {v:Value} (ht:t.isEnt=false) (hr:rep h ok (.sl t) ys [v]):∃es,wu h t.size v ys.length es∧af h ok t ys es:=by
 obtain⟨ad,cap,e,hc,hel⟩:=(uk ht).1 hr
 simp only[List.cons.injEq,and_true]at e
 subst e
 rcases Nat.eq_zero_or_pos ys.length with h0 | h0
 ·have:ys=[]:=List.length_eq_zero_iff.1 h0
  subst this
  exact⟨[],⟨by simp,.inl ⟨rfl,ad,cap,rfl⟩⟩,af.nil⟩
 ·obtain⟨y,hy⟩:∃y,ys[ys.length -1]? =some y:=by
   refine⟨ys[ys.length -1]'(by omega),?_⟩
   exact Y6 _
  obtain⟨blk,off,es,rfl,hok,he,hr⟩:=hel _ y hy
  obtain⟨c,T,f,hb,hn,_⟩:=lY he
  have hle:off+ys.length*t.size≤c.size:=by
   have:ys.length*t.size=(ys.length -1)*t.size+t.size:=by
    conv=>lhs;rw[show ys.length=(ys.length -1)+1 by omega,Nat.add_mul,Nat.one_mul]
   omega
  refine⟨(c.toList.drop off).take (ys.length*t.size),⟨by simp;omega,.inr ⟨blk,off,cap,rfl,h0,fM hb _ _ hle⟩⟩,by simp;omega,fun i x hi=>?_⟩
  obtain⟨blk',off',es',ha',hok',he',hr'⟩:=hel i x hi
  simp only[Option.some.injEq,Addr.mk.injEq,and_true]at ha'
  obtain⟨rfl,rfl⟩:=ha'
  obtain⟨c',T',f',hb',hn',rfl⟩:=lY he'
  rw[hb]at hb';cases hb'
  have hlt:=(J7.1 hi).1
  have hle2:(i+1)*t.size≤ys.length*t.size:=Nat.mul_le_mul_right _ (by omega)
  rw[Nat.add_mul,Nat.one_mul]at hle2
  rw[List.drop_take,List.take_take,List.drop_drop,Nat.min_eq_left (by omega)]
  exact hr'
theorem OX {C:Cx} {t:Ty} {xs:List t.den} {l:Loc} {v:Value} (ht:t.isEnt=false) (ha:arrOk C t xs l) (hv:l.view none v):∃es,wu C.h t.size v xs.length es∧af C.h C.ok t xs es:=by
 cases l with
 | st b=>cases ha
 | mp b=>exact absurd ha.1 (by simp[ht])
 | nil=>
  obtain⟨ha,_⟩:=ha;subst ha
  simp only[Loc.view]at hv;subst hv
  exact⟨[],⟨by simp,.inl ⟨rfl,none,0,rfl⟩⟩,af.nil⟩
 | arr blk off len cap sz=>
  obtain⟨c,T,hb,rfl,rfl,hc,hf,hr⟩:=Qa ha
  simp only[Loc.view]at hv;subst hv
  have hle:xs.length*t.size≤cap*t.size:=Nat.mul_le_mul_right _ hc
  refine⟨_,⟨hr.1,?_⟩,hr⟩
  rcases Nat.eq_zero_or_pos xs.length with h0 | h0
  ·exact .inl ⟨h0,_,cap,by rw[h0]⟩
  ·exact .inr ⟨blk,off,cap,rfl,h0,fM hb _ _ (by omega)⟩
theorem lU {P:Program} {w w' :World} {sz n:Nat} {v:Value} {es:List Value} (h:wu w.heap sz v n es) (hh:w'.heap=w.heap):(Builtin.firstCells sz n v).run P w' = .ok es.toArray w' :=by
 obtain⟨hl,h⟩:=h
 rcases h with⟨rfl,ad,cap,rfl⟩ | ⟨blk,off,cap,rfl,hn,hc⟩
 ·have:es=[]:=List.length_eq_zero_iff.1 (by simpa using hl)
  subst this
  cases ad with
  | none=>simp[Builtin.firstCells]
  | some b=>
   have:=run_loadCells_list (P:=P) w' b [] (fun j v h=>by simp at h)
   simp[Builtin.firstCells]
   simpa using this
 ·refine run_firstCells_some w' sz n _ _ cap es hl fun j u hu=>?_
  rw[Addr.add_lit]
  exact pg (w:=w') (by rw[hh];exact hc) hu
theorem wu.lenOf {P:Program} {h:Array Obj} {sz n:Nat} {v:Value} {es:List Value} (hs:wu h sz v n es) (w:World):(Builtin.lenOf v).run P w= .ok n w:=by
 rcases hs.2 with⟨rfl,ad,cap,rfl⟩ | ⟨blk,off,cap,rfl,hn,hc⟩ <;> rfl
section runs
variable {P:Program} {w:World} {t ty e:TypeId} {i:TypeInfo} {z:Value}
theorem DR (ht:P.underlying t=some (.slice e)) (hi:P.info? e=some i) {blk off len cap n:Nat} {c:Array Value} {T:TypeId} (hb:w.heap[blk]? =some (.cells c T (0,0))) {v:Value} {es:List Value} (hv:wu w.heap i.size v n es)
  (h1:∀u∈es,u.oneCell' =true) (hroom:len+n≤cap) (hfit:off+cap*i.size≤c.size):
  (Builtin.append_ #[t,t] ty #[.slice (some ⟨blk,off,none⟩) len cap,v]).run P w= .ok (.slice (some ⟨blk,off,none⟩) (len+n) cap) (w.setRow blk (U8 (off+len*i.size) es c.toList).toArray):=by
 have hle:(len+n)*i.size≤cap*i.size:=Nat.mul_le_mul_right _ hroom
 rw[Nat.add_mul,←hv.1]at hle
 have hf:=lU (P:=P) (w' :=w) hv rfl
 have hst:=run_storeCells_at P blk (off+len*i.size) T es 0 c w hb (by omega) h1
 simp only[Nat.add_zero]at hst
 simp[Builtin.append_,run_underlying ht,sizeOf,typeInfo,hi,hv.lenOf,hroom,hf,Addr.add_lit,hst,U8]
theorem zO (ht:P.underlying t=some (.slice e)) (hi:P.info? e=some i) {v:Value} {es:List Value} (hv:wu w.heap i.size v 0 es):
  (Builtin.append_ #[t,t] ty #[.slice none 0 0,v]).run P w= .ok (.slice none 0 0) w:=by
 have hf:=lU (P:=P) (w' :=w) hv rfl
 simp[Builtin.append_,run_underlying ht,sizeOf,typeInfo,hi,hv.lenOf,hf]
theorem Bz (ht:P.underlying t=some (.slice e)) (hi:P.info? e=some i) (hz:i.zero=some z) (hby:i.bytes≤65536) {s v:Value} {sAd:Option Addr} {len cap n:Nat} {olds es:List Value} (hse:s= .slice sAd len cap)
  (hs:wu w.heap i.size s len olds) (hv:wu w.heap i.size v n es) (hg:cap<len+n) (hmax:len+n≤1073741824):
  (Builtin.append_ #[t,t] ty #[s,v]).run P w= .ok (.slice (some ⟨w.heap.size,0,none⟩) (len+n) (grownCap w (len+n) cap e))
   (w.drew.alloc (.cells ((olds++es).toArray++Builtin.zeroCells z.cells (grownCap w (len+n) cap e -(len+n))) e)):=by
 subst hse
 have hn:¬(len+n≤cap):=by omega
 have h63' :¬(9223372036854775807<((len:Int)+(n:Int))):=by omega
 have hb2:(len+n)*i.bytes≤1073741824*65536:=Nat.mul_le_mul hmax hby
 have h48' :¬(281474976710656<Builtin.nextslicecap (len+n) cap*i.bytes):=by
  have:=growslice_fits hg (show(len+n)*i.bytes≤140737488355328 by omega)
  omega
 have hf:=lU (P:=P) (w' :=w.drew) hv rfl
 have hfo:=lU (P:=P) (w' :=w.drew) hs rfl
 simp[Builtin.append_,run_underlying ht,sizeOf,typeInfo,zeroValue,hi,hz,hv.lenOf,hn,h63',h48',Question.forced,hf,hfo,newRow,grownCap]
 generalize Builtin.zeroCells _ _=Z
 congr 2
 apply Array.ext'
 simp
end runs
section
variable {X:Fx} {cl ch:Nat} {S:Sm} {m:Mp} {ok:Nat→Ty→Prop} {a:Act} {w:World} {o:Oper}
theorem PO {α:Type} {Q:α→Sm→Prop} (R:Rel X cl ch S m ok a w) {u:Ty} (ht:u.isEnt=false) {y:V} {vy:Value} {K:List u.den→Cmd α} (hy:fE ⟨w.heap,ok,m⟩ y vy)
  (hK:∀ys es,wu w.heap u.size vy ys.length es→af w.heap ok u ys es→(K ys).post S Q):(a2j u y K).post S Q:=by
 unfold a2j
 split <;> try trivial
 ·have hy' :vy= .slice none 0 0:=hy
  subst hy'
  simp only[ht,cond_false]
  exact hK [] [] ⟨by simp,.inl ⟨rfl,none,0,rfl⟩⟩ af.nil
 ·obtain⟨ad,c,rfl,_⟩:=(show ∃a c,vy=Value.slice a 0 c∧a.isNone=_ from hy)
  simp only[ht,cond_false]
  exact hK [] [] ⟨by simp,.inl ⟨rfl,ad,c,rfl⟩⟩ af.nil
 ·rename_i t' xs
  refine aA fun e=>?_
  subst e
  obtain⟨es,h1,h2⟩:=a8x ht (show rep w.heap ok (.sl t') xs [vy]from hy)
  exact hK xs es h1 h2
 ·rename_i bx vw
  obtain⟨l,hm,hv⟩:=hy
  refine ae ?_
  split <;> try trivial
  ·rename_i t' xs hS
   obtain⟨l',hm',ha⟩:=R.own_arr hS
   simp only at hm
   rw[hm]at hm';cases hm'
   refine aA fun e=>?_
   subst e
   obtain⟨a1,a2,_⟩:=yu ha hv
   obtain⟨es,h1,h2⟩:=OX ht a1 a2
   exact hK _ es h1 h2
  ·rename_i t' xs hS
   obtain⟨l',hm',ha,_⟩:=R.own_frz hS
   simp only at hm
   rw[hm]at hm';cases hm'
   refine aA fun e=>?_
   subst e
   obtain⟨a1,a2,_⟩:=yu ha hv
   obtain⟨es,h1,h2⟩:=OX ht a1 a2
   exact hK _ es h1 h2
theorem Ji {α:Type} {Q:α→Sm→Prop} {T:List Nat} (R:Rel X cl ch S m ok a w) (hT:Tk X S m ok w T) {md:M} {y:V} {vy:Value} {K:List md.den→List V→Cmd α} (hy:fE ⟨w.heap,ok,m⟩ y vy)
  (hK:∀S' ok' ys r O,Rel X cl ch S' m ok' a w→Tk X S' m ok' w (T++O)→(∀b t,ok b t→ok' b t)→X8 S S' →gI w.heap ok' (.owns md) none ys [vy] O→(K ys r).post S' Q):
  (exM sD (.owns md) [y] K).post S Q:=by
 have key:oN ⟨w.heap,ok,m⟩ y vy→vy.oneCell' =true→(exM sD (.owns md) [y] K).post S Q:=fun h1 h2=>by
  refine uY (.owns md) R hT (vs:=[vy]) ⟨vy,[],rfl,h1,h2,rfl⟩ fun S' ok' ys r us us' O R' T' k s e hr l=>?_
  have:us=[vy]:=by
   obtain⟨v,e',_⟩:=hr
   subst e'
   simp at e;simp[e.1]
  subst this
  exact hK S' ok' ys r O R' T' k s hr
 cases y <;> try (unfold exM;trivial)
 ·exact key hy (by have h:vy= .slice none 0 0:=hy;subst h;rfl)
 ·refine key hy ?_
  obtain⟨l,_,hv⟩:=hy
  exact jm hv
theorem Ru {h:Array Obj} {ok:Nat→Ty→Prop} {md:M} {xs:List md.den} {Os:List (List Nat)} {l:Loc} {v:Value} (ha:tZ h md.size (fun _ x es O=>gI h ok md none x es O) xs Os l) (hv:l.view none v):∃es,wu h md.size v xs.length es∧nC h ok md xs es Os:=by
 cases l with
 | st b=>cases ha
 | mp b=>cases ha
 | nil=>
  obtain⟨rfl,rfl⟩:=ha
  simp only[Loc.view]at hv;subst hv
  exact⟨[],⟨by simp,.inl ⟨rfl,none,0,rfl⟩⟩,nC.nil⟩
 | arr blk off len cap sz=>
  obtain⟨c,T,hb,rfl,rfl,hc,hf,hr⟩:=Uo ha
  simp only[Loc.view]at hv;subst hv
  have hle:xs.length*md.size≤cap*md.size:=Nat.mul_le_mul_right _ hc
  refine⟨_,⟨hr.1,?_⟩,hr⟩
  rcases Nat.eq_zero_or_pos xs.length with h0 | h0
  ·exact .inl ⟨h0,_,cap,by rw[h0]⟩
  ·exact .inr ⟨blk,off,cap,rfl,h0,fM hb _ _ (by omega)⟩
theorem Ih {α:Type} {xs ys zs:List α} (h:dE xs ys=some zs):xs.length+ys.length≤1073741824∧zs=xs++ys:=by
 unfold dE at h
 split at h
 ·cases h;exact⟨by assumption,rfl⟩
 ·cases h
theorem BR (z:Array Value) (n:Nat):(Builtin.zeroCells z n).size=n*z.size:=by simp[Builtin.zeroCells]
theorem Dq (H:FxOk X) {q:Nat} (R:Rel X (CB*q) (CB*q+CB) S m ok a w) {u:Ty} (ht:u.isEnt=false) {t e:TypeId} {j:TI} {z:Value} {inf:TypeInfo} (hu:X.P.underlying t=some (.slice e)) (h1:X.P.info? e=some inf) (h2:inf.size=u.size) (h4:inf.bytes≤65536)
  (h5:inf.zero=some z) (hz:z.cells.size=u.size) {xs ys:List u.den} {s v:Value} {sAd:Option Addr} {cap:Nat} {olds es:List Value} (hse:s= .slice sAd xs.length cap)
  (hs:wu w.heap u.size s xs.length olds) (hv:wu w.heap u.size v ys.length es) (r1:af w.heap ok u xs olds) (r2:af w.heap ok u ys es) (hg:cap<xs.length+ys.length) (hmax:xs.length+ys.length≤1073741824)
  (run:∀r w',(Builtin.append_ #[t,t] o.type #[s,v]).run X.P w= .ok r w' →(execOp a.eval o).run X.P w= .ok (.value r) w'):
  (qC (H5 q o.dst) (.barr u (xs++ys)) (Z9 X.E o.dst (.own (H5 q o.dst) none))).post S (fun _ S' =>bM X (CB*q) (CB*q+CB) o a w m ok S'):=by
 have hrun:=Bz (P:=X.P) (w:=w) (t:=t) (ty:=o.type) hu h1 h5 h4 (s:=s) (v:=v) hse (by rw[h2];exact hs) (by rw[h2];exact hv) hg hmax
 have hge:=grownCap_ge w (xs.length+ys.length) cap e
 have r:=r1.append r2
 rw[←List.length_append]at hrun hge
 refine Iq H R (w1:=w.drew) rfl rfl rfl rfl ht r hge ?_ ?_ (fun _ _ h=>h) (fun _ _ h=>h) (run _ _ hrun)
 ·have hl:=r.1
  simp only[Array.size_append,List.size_toArray,hl,BR,hz,←Nat.add_mul]
  exact Nat.mul_le_mul_right _ (by omega)
 ·have hl:=r.1
  simp only[Array.toList_append]
  rw[List.take_append_of_le_length (by rw[hl];exact Nat.le_refl _),←hl]
  exact List.take_length
theorem Dt (H:FxOk X) {q:Nat} (R:Rel X (CB*q) (CB*q+CB) S m ok a w) {u:Ty} (ht:u.isEnt=false) {t e:TypeId} {z:Value} {inf:TypeInfo} (hu:X.P.underlying t=some (.slice e)) (h1:X.P.info? e=some inf) (h2:inf.size=u.size) (h4:inf.bytes≤65536)
  (h5:inf.zero=some z) (hz:z.cells.size=u.size) {ys:List u.den} {s v:Value} {es:List Value} (hse:s= .slice none 0 0)
  (hv:wu w.heap u.size v ys.length es) (r2:af w.heap ok u ys es) (hmax:ys.length≤1073741824)
  (run:∀r w',(Builtin.append_ #[t,t] o.type #[s,v]).run X.P w= .ok r w' →(execOp a.eval o).run X.P w= .ok (.value r) w'):
  (qC (H5 q o.dst) (.barr u ys) (Z9 X.E o.dst (.own (H5 q o.dst) none))).post S (fun _ S' =>bM X (CB*q) (CB*q+CB) o a w m ok S'):=by
 rcases Nat.eq_zero_or_pos ys.length with h0 | h0
 ·have hy:ys=[]:=List.length_eq_zero_iff.1 h0
  subst hy
  have hrun:=zO (P:=X.P) (w:=w) (t:=t) (ty:=o.type) hu h1 (v:=v) (by rw[h2];exact hv)
  rw[←hse]at hrun
  refine xW H fun n e1 g1 g2 hn=>?_
  rw[←e1]
  clear e1
  generalize CB*q=Z at*
  have R' :Rel X Z (Z+CB) (upd S (BOX+n) (.barr u [])) (fG m n .nil []) ok a w:=by
   refine R.lay hn g1 (by show n<Z+1000000;change n+64≤Z+1000000 at g2;omega) (by simp) rfl rfl rfl (Nat.le_refl _) (fun _ _ _=>rfl) (by simp[J9]) (fun b hb=>by simp[J9]at hb) ⟨.nil,Y8 _ _ _ _,rfl,ht⟩
  refine oC H R' (fun k l h=>?_) (fun _ _ h=>h) ⟨.nil,Y8 _ _ _ _,hse⟩ (run _ _ hrun)
  by_cases ek:k=n
  ·subst ek
   have:=R.fresh k g1 hn
   rw[this]at h;cases h
  ·rw[dh _ _ _ ek];exact h
 ·have:=Dq (j:=⟨0,0,.bool,none,[]⟩) H R ht hu h1 h2 h4 h5 hz (xs:=[]) (ys:=ys) (s:=s) (v:=v) (sAd:=none) (cap:=0) (olds:=[]) (es:=es) hse ⟨by simp,.inl ⟨rfl,none,0,hse⟩⟩ hv af.nil r2 (by simpa using h0) (by simpa using hmax) run
  simpa using this
theorem Xa (H:FxOk X) {q:Nat} (R:Rel X (CB*q) (CB*q+CB) S m ok a w) {md:M} {t e:TypeId} {j:TI} {z:Value} {inf:TypeInfo} (hu:X.P.underlying t=some (.slice e)) (h1:X.P.info? e=some inf) (h2:inf.size=md.size) (h4:inf.bytes≤65536)
  (h5:inf.zero=some z) (hz:z.cells.size=md.size) {x y:V} {s v:Value} (hx:fE ⟨w.heap,ok,m⟩ x s) (hy:fE ⟨w.heap,ok,m⟩ y v)
  (run:∀r w',(Builtin.append_ #[t,t] o.type #[s,v]).run X.P w= .ok r w' →(execOp a.eval o).run X.P w= .ok (.value r) w'):
  (exM sD (.owns md) [y] fun ys _=>exM sD (.owns md) [x] fun xs _=>Cmd.opt (dE xs ys) fun zs=>qC (H5 q o.dst) (.barrs md zs none) (Z9 X.E o.dst (.own (H5 q o.dst) none))).post S (fun _ S' =>bM X (CB*q) (CB*q+CB) o a w m ok S'):=by
 refine Ji (T:=[]) R Tk.nil hy fun S1 ok1 ys _ O1 R1 T1 k1 s1 g1=>?_
 refine Ji R1 T1 (Dj k1 hx) fun S2 ok2 xs _ O2 R2 T2 k2 s2 g2=>?_
 have k12:∀b t,ok b t→ok2 b t:=fun b t h=>k2 b t (k1 b t h)
 have g1:=bK k2 (fun _ _ _=>rfl) (fun _ _=>rfl) g1
 obtain⟨hel,ly,vy,Oy,ey,hvy,hay,rfl⟩:=qA.1 g1
 obtain⟨_,lx,vx,Ox,ex,hvx,hax,rfl⟩:=qA.1 g2
 simp only[List.cons.injEq,and_true]at ey ex
 subst ey;subst ex
 refine ay fun zs hzs=>?_
 obtain⟨hmax,rfl⟩:=Ih hzs
 obtain⟨es,hv,ry⟩:=Ru hay hvy
 obtain⟨olds,hs,rx⟩:=Ru hax hvx
 have hnd2:=T2.nodup
 have rr:=rx.append ry
 have hT3:∀b∈(Ox++Oy).flatten,b∈[]++(ly.blks++Oy.flatten)++(lx.blks++Ox.flatten):=fun b hb=>by
  simp only[List.flatten_append,List.mem_append]at hb ⊢
  rcases hb with hb | hb
  ·exact .inr (.inr hb)
  ·exact .inl (.inr (.inr hb))
 have hnd3:(Ox++Oy).flatten.Nodup:=by
  rw[List.flatten_append]
  have h:=List.nodup_append.1 hnd2
  simp only[List.nil_append]at h
  refine List.nodup_append.2 ⟨(List.nodup_append.1 h.2.1).2.1,(List.nodup_append.1 h.1).2.1,fun p hp r hr e=>h.2.2 r (by simp[hr]) p (by simp[hp]) e.symm⟩
 have fresh:∀{sAd:Option Addr} {cap:Nat},s= .slice sAd xs.length cap→cap<xs.length+ys.length→(qC (H5 q o.dst) (.barrs md (xs++ys) none) (Z9 X.E o.dst (.own (H5 q o.dst) none))).post S2 (fun _ S' =>bM X (CB*q) (CB*q+CB) o a w m ok S'):=fun {sAd cap} hse hg=>by
  have hrun:=Bz (P:=X.P) (w:=w) (t:=t) (ty:=o.type) hu h1 h5 h4 (s:=s) (v:=v) hse (by rw[h2];exact hs) (by rw[h2];exact hv) hg hmax
  have hge:=grownCap_ge w (xs.length+ys.length) cap e
  rw[←List.length_append]at hrun hge
  refine NM H R2 T2 (w1:=w.drew) rfl rfl rfl rfl hel rr hnd3 hT3 hge ?_ ?_ (fun _ _ h=>h) k12 (run _ _ hrun)
  ·have hl:=rr.1
   simp only[Array.size_append,List.size_toArray,hl,BR,hz,←Nat.add_mul]
   exact Nat.mul_le_mul_right _ (by omega)
  ·have hl:=rr.1
   simp only[Array.toList_append]
   rw[List.take_append_of_le_length (by rw[hl];exact Nat.le_refl _),←hl]
   exact List.take_length
 cases lx with
 | st b=>cases hax
 | mp b=>cases hax
 | nil=>
  obtain⟨rfl,rfl⟩:=hax
  simp only[Loc.view]at hvx
  rcases Nat.eq_zero_or_pos ys.length with h0 | h0
  ·have hy0:ys=[]:=List.length_eq_zero_iff.1 h0
   subst hy0
   have hO0:Oy=[]:=List.length_eq_zero_iff.1 ry.2.1
   subst hO0
   have hrun:=zO (P:=X.P) (w:=w) (t:=t) (ty:=o.type) hu h1 (v:=v) (by rw[h2];exact hv)
   rw[←hvx]at hrun
   refine xW H fun n e1 g1 g2 hn=>?_
   rw[←e1]
   clear e1
   generalize CB*q=Z at*
   have R' :Rel X Z (Z+CB) (upd S2 (BOX+n) (.barrs md ([]++[]) none)) (fG m n .nil []) ok2 a w:=by
    refine R2.lay hn g1 (by show n<Z+1000000;change n+64≤Z+1000000 at g2;omega) (by simp) rfl rfl rfl (Nat.le_refl _) (fun _ _ _=>rfl) (by simp[J9]) (fun b hb=>by simp[J9]at hb) ⟨hel,.nil,[],Y8 _ _ _ _,⟨⟨rfl,rfl⟩,trivial⟩,by simp⟩
   refine oC H R' (fun k l h=>?_) k12 ⟨.nil,Y8 _ _ _ _,hvx⟩ (run _ _ hrun)
   by_cases ek:k=n
   ·subst ek
    have:=R2.fresh k g1 hn
    rw[this]at h;cases h
   ·rw[dh _ _ _ ek];exact h
  ·exact fresh (sAd:=none) (cap:=0) hvx (by simpa using h0)
 | arr blk off len cap sz=>
  obtain⟨c,T,hb,rfl,rfl,hcap,hfit,r1⟩:=Uo hax
  simp only[Loc.view]at hvx
  by_cases hroom:xs.length+ys.length≤cap
  ·have hrun:=DR (P:=X.P) (w:=w) (t:=t) (ty:=o.type) (off:=off) (cap:=cap) hu h1 hb (v:=v) (n:=ys.length) (es:=es) (by rw[h2];exact hv) ry.one_cell hroom (by rw[h2];exact hfit)
   rw[←hvx]at hrun
   obtain⟨q1,q2,q3,q4⟩:=T2.free blk (by simp[Loc.blks])
   have hle:(xs.length+ys.length)*md.size≤cap*md.size:=Nat.mul_le_mul_right _ hroom
   rw[Nat.add_mul]at hle
   have hesl:=hv.1
   have hcl:c.toList.length=c.size:=rfl
   have hsp:(U8 (off+xs.length*md.size) es c.toList).length=c.size:=by rw[oQ (by omega)];rfl
   have hblk:∀b∈(Ox++Oy).flatten,b≠blk:=fun b hbm e=>by
    subst e
    rw[List.flatten_append]at hbm
    have h:=List.nodup_append.1 hnd2
    simp only[List.nil_append]at h
    rcases List.mem_append.1 hbm with hbm | hbm
    ·exact(List.nodup_append.1 h.2.1).2.2 b (by simp[Loc.blks]) b hbm rfl
    ·exact h.2.2 b (by simp[hbm]) b (by simp[Loc.blks]) rfl
   refine xW H fun n e1 g1 g2 hn=>?_
   rw[←e1]
   clear e1
   generalize CB*q=Z at*
   have hoth:∀b,b≠blk→(w.setRow blk (U8 (off+xs.length*md.size) es c.toList).toArray).heap[b]? =w.heap[b]?:=fun b hb=>setRow_other w blk b _ hb
   have hown1:J9 (fG m n (.arr blk off (xs.length+ys.length) cap md.size) (Ox++Oy).flatten) n (.barrs md (xs++ys) none)=blk::(Ox++Oy).flatten:=by simp[J9]
   have R' :Rel X Z (Z+CB) (upd S2 (BOX+n) (.barrs md (xs++ys) none)) (fG m n (.arr blk off (xs.length+ys.length) cap md.size) (Ox++Oy).flatten) ok2 a (w.setRow blk (U8 (off+xs.length*md.size) es c.toList).toArray):=by
    refine R2.lay hn g1 (by show n<Z+1000000;change n+64≤Z+1000000 at g2;omega) (by simp) rfl rfl rfl (by simp) (fun b _ hne=>hoth b (fun e=>hne (by rw[hown1,e];simp))) (by rw[hown1];exact List.nodup_cons.2 ⟨fun h=>hblk blk h rfl,hnd3⟩) (fun b hbb=>?_) ⟨hel,_,Ox++Oy,Y8 _ _ _ _,?_,by simp⟩
    ·rw[hown1]at hbb
     obtain⟨q1,q2,q3,q4⟩:=T2.free b (by
      rcases List.mem_cons.1 hbb with rfl | h
      ·simp[Loc.blks]
      ·exact hT3 b h)
     exact⟨q1,by simpa using q2,q3,q4⟩
    ·refine⟨?_,trivial⟩
     have:=nC.arrs (h:=(w.setRow blk (U8 (off+xs.length*md.size) es c.toList).toArray).heap) (ok:=ok2) (cs:=((c.toList.drop off).take (xs.length*md.size))++es) (cap:=cap) (off:=off) ((r1.append ry).mono (fun _ _ h=>h) (fun b t hb=>hoth b (fun e=>q1 t (e▸hb))) (fun b hb=>hoth b (hblk b hb))) (setRow_heap w blk c _ T (0,0) hb) (by rw[List.length_append];exact hroom) (by rw[List.size_toArray,hsp];exact hfit) ?_
     ·rw[List.length_append]at this;exact this
     ·simp only[List.length_append,Nat.add_mul]
      rw[IX (n:=xs.length*md.size+ys.length*md.size) (by omega) (by omega)]
      unfold U8
      have hd:((c.toList.drop off).take (xs.length*md.size+ys.length*md.size)).drop (xs.length*md.size+es.length)=[]:=List.drop_eq_nil_of_le (by rw[List.length_take,List.length_drop];omega)
      rw[List.take_take,Nat.min_eq_left (Nat.le_add_right _ _),hd,List.append_nil]
   refine oC H R' (fun k l h=>?_) k12 ⟨_,Y8 _ _ _ _,rfl⟩ (run _ _ (by rw[h2]at hrun;exact hrun))
   by_cases ek:k=n
   ·subst ek
    have:=R2.fresh k g1 hn
    rw[this]at h;cases h
   ·rw[dh _ _ _ ek];exact h
  ·exact fresh hvx (by omega)
theorem a1Z (H:FxOk X) {q:Nat} (R:Rel X (CB*q) (CB*q+CB) S m ok a w) {c:Call} (ho:o.op= .call c) (hc:c.callee= .builtin .append):(V7 X.E q o).post S (fun _ S' =>bM X (CB*q) (CB*q+CB) o a w m ok S'):=by
 obtain⟨cal,args,ats⟩:=c
 simp only at hc;subst hc
 unfold V7
 simp only[ho]
 refine fZ R _ fun vs hvs=>?_
 split <;> try trivial
 rename_i t t' x y hat
 obtain⟨u1,r,he,hx,u2,r',he',hy,hr⟩:=hvs
 simp only[aY]at hr;subst hr
 rw[he']at he
 obtain⟨p,p',rfl,rfl,rfl⟩:=Vj he
 refine Y4 fun htt=>?_
 have htt' :=aV htt
 subst htt'
 have hats:ats=#[t,t]:=by
  obtain⟨l⟩:=ats
  simp only at hat
  rw[hat]
 have run:∀(s v:Value),a.eval p=s→a.eval p' =v→∀r w',(Builtin.append_ #[t,t] o.type #[s,v]).run X.P w= .ok r w' →(execOp a.eval o).run X.P w= .ok (.value r) w' :=fun s v e1 e2 r w' h=>by
  subst e1;subst e2
  simp[execOp,ho,resolve,invoke,builtin,hats,h]
 unfold Zp
 split
 ·trivial
 rename_i e u het
 obtain⟨j,z,inf,hu,hj,h1,h2,h3,h4,h5,h6⟩:=wL H het
 have hz:z.cells.size=u.size:=by have:=au h6;simpa using this
 split
 rotate_left
 ·rename_i md hom
  refine az fun hms=>?_
  have hms:=aV hms
  exact Xa (j:=j) H R hu h1 (by rw[h2,hms]) h4 h5 (by rw[hz,hms]) hx hy (run _ _ rfl rfl)
 have ht:=Ee het
 refine PO R ht hy fun ys es hv r2=>?_
 split <;> try trivial
 ·
  refine ay fun zs hzs=>?_
  obtain⟨hmax,rfl⟩:=Ih hzs
  have hx' :a.eval p= .slice none 0 0:=hx
  simp only[List.nil_append]
  exact Dt H R ht hu h1 h2 h4 h5 hz hx' hv r2 (by simpa using hmax) (run _ _ rfl rfl)
 ·rename_i bx vw
  obtain⟨loc,hm,hview⟩:=hx
  refine ae ?_
  split <;> try trivial
  rename_i u' xs hS
  refine aA fun eu=>?_
  subst eu
  refine ay fun zs hzs=>dX ?_
  obtain⟨hmax,rfl⟩:=Ih hzs
  obtain⟨loc',hm',ha⟩:=R.own_arr hS
  simp only at hm
  rw[hm]at hm';cases hm'
  have R1:=R.kill bx
  obtain⟨a1,a2,a3⟩:=yu ha hview
  generalize hl2:zy loc vw=l2 at*
  generalize aX vw xs=xs' at*
  cases l2 with
  | st b=>cases a1
  | mp b=>exact absurd a1.1 (by simp[ht])
  | nil=>
   obtain⟨a1,_⟩:=a1
   subst a1
   simp only[Loc.view]at a2
   simp only[List.nil_append]
   exact Dt H R1 ht hu h1 h2 h4 h5 hz a2 hv r2 (by simpa using hmax) (run _ _ rfl rfl)
  | arr blk off len cap sz=>
   obtain⟨c,T,hb,rfl,rfl,hcap,hfit,r1⟩:=Qa a1
   simp only[Loc.view]at a2
   simp only at hb r1
   by_cases hroom:xs'.length+ys.length≤cap
   ·
    have hrun:=DR (P:=X.P) (w:=w) (t:=t) (ty:=o.type) (off:=off) (cap:=cap) hu h1 hb (v:=a.eval p') (n:=ys.length) (es:=es) (by rw[h2];exact hv) r2.one_cell hroom (by rw[h2];exact hfit)
    rw[←a2]at hrun
    have hown:J9 m bx (S (BOX+bx))=[blk]:=by
     cases loc with
     | nil=>simp[Loc.blks]at a3
     | st _=>cases ha
     | mp b=>exact absurd ha.1 (by simp[ht])
     | arr b2 _ _ _ _=>simp[Loc.blks]at a3;simp[J9,hS,hm,a3]
    obtain⟨s1,s2,s3⟩:=R.sep bx blk (by rw[hown];simp)
    have hle:(xs'.length+ys.length)*u'.size≤cap*u'.size:=Nat.mul_le_mul_right _ hroom
    rw[Nat.add_mul]at hle
    have hel:=hv.1
    have hcl:c.toList.length=c.size:=rfl
    have hsp:(U8 (off+xs'.length*u'.size) es c.toList).length=c.size:=by rw[oQ (by omega)];rfl
    refine xW H fun n e1 g1 g2 hn=>?_
    rw[←e1]
    clear e1
    generalize CB*q=Z at*
    have hkeep:∀b t,ok b t→(w.setRow blk (U8 (off+xs'.length*u'.size) es c.toList).toArray).heap[b]? =w.heap[b]?:=fun b t hb=>setRow_other w blk b _ (fun e=>s1 t (e▸hb))
    have R' :Rel X Z (Z+CB) (upd (upd S (BOX+bx) .dead) (BOX+n) (.barr u' (xs' ++ys))) (fG m n (.arr blk off (xs'.length+ys.length) cap u'.size) []) ok a (w.setRow blk (U8 (off+xs'.length*u'.size) es c.toList).toArray):=by
     refine R1.lay hn g1 (by show n<Z+1000000;change n+64≤Z+1000000 at g2;omega) (by simp) rfl rfl rfl (by simp) (fun b _ hne=>?_) (by simp[J9]) (fun b hbb=>?_) ⟨_,Y8 _ _ _ _,?_⟩
     ·refine setRow_other w blk b _ (fun e=>hne ?_)
      subst e;simp[J9]
     ·simp[J9]at hbb
      subst hbb
      refine⟨s1,by simpa using s2,s3,fun k e=>?_⟩
      obtain⟨k1,k2⟩:=sJ rfl e
      exact k1 (R.inj k bx b k2 (by rw[hown];simp))
     ·rw[←List.length_append]
      refine af.arrOk ht (cs:=((c.toList.drop off).take (xs'.length*u'.size))++es) ((r1.append r2).mono (fun _ _ h=>h) hkeep) (setRow_heap w blk c _ T (0,0) hb) (by rw[List.length_append];exact hroom) (by rw[List.size_toArray,hsp];exact hfit) ?_
      simp only[List.length_append,Nat.add_mul]
      rw[IX (n:=xs'.length*u'.size+ys.length*u'.size) (by omega) (by omega)]
      unfold U8
      have hd:((c.toList.drop off).take (xs'.length*u'.size+ys.length*u'.size)).drop (xs'.length*u'.size+es.length)=[]:=List.drop_eq_nil_of_le (by rw[List.length_take,List.length_drop];omega)
      rw[List.take_take,Nat.min_eq_left (Nat.le_add_right _ _),hd,List.append_nil]
    refine oC H R' (fun k l h=>?_) (fun _ _ h=>h) ⟨_,Y8 _ _ _ _,rfl⟩ (run _ _ rfl rfl _ _ (by rw[h2]at hrun;exact hrun))
    ·by_cases ek:k=n
     ·subst ek
      have:=R1.fresh k g1 hn
      rw[this]at h;cases h
     ·rw[dh _ _ _ ek];exact h
   ·obtain⟨olds,q1,q2⟩:=OX (C:=⟨w.heap,ok,m⟩) ht a1 a2
    exact Dq (j:=j) H R1 ht hu h1 h2 h4 h5 hz a2 q1 hv q2 r2 (by omega) hmax (run _ _ rfl rfl)
end
def kz {α β:Type} (eq:α→α→Bool):List (α×β)→α→Option Nat
 | [],_=>none
 | p::r,k=>bif eq k p.1 then some 0 else(kz eq r k).map (·+1)
theorem Es {α β:Type} {eq:α→α→Bool} :∀{xs:List (α×β)} {k:α} {i:Nat},kz eq xs k=some i→∃p,xs[i]? =some p∧eq k p.1=true
 | [],_,_,h=>by cases h
 | p::r,k,i,h=>by
  unfold kz at h
  cases he:eq k p.1 <;> rw[he]at h
  ·simp only[cond_false,Option.map_eq_some_iff]at h
   obtain⟨j,h1,rfl⟩:=h
   obtain⟨q,h2,h3⟩:=Es h1
   exact⟨q,by simpa using h2,h3⟩
  ·cases h;exact⟨p,rfl,he⟩
theorem NF {α β:Type} (eq:α→α→Bool):∀(xs:List (α×β)) (k:α) (z:β),xU eq xs k z=(match kz eq xs k with | some i=>(match xs[i]? with | some p=>p.2 | none=>z) | none=>z)
 | [],_,_=>rfl
 | p::r,k,z=>by
  unfold xU kz
  cases he:eq k p.1
  ·simp only[cond_false]
   rw[NF eq r k z]
   cases kz eq r k <;> simp
  ·rfl
theorem a1O {α β:Type} (eq:α→α→Bool):∀(xs:List (α×β)) (k:α) (z:β),gG eq xs k z=(match kz eq xs k with | some i=>(match xs[i]? with | some p=>p.2 | none=>z) | none=>z):=
 NF eq
theorem NG {α β:Type} (eq:α→α→Bool):∀(xs:List (α×β)) (k:α),AZ eq xs k=(kz eq xs k).isSome
 | [],_=>rfl
 | p::r,k=>by
  unfold AZ kz
  cases he:eq k p.1
  ·simp only[cond_false]
   rw[NG eq r k]
   cases kz eq r k <;> simp
  ·rfl
theorem a1P {α β:Type} (eq:α→α→Bool):∀(xs:List (α×β)) (k:α),FD eq xs k=(kz eq xs k).isSome:=
 NG eq
theorem NK {α β:Type} (eq:α→α→Bool):∀(xs:List (α×β)) (k:α) (x:β),zJ eq xs k x=(match kz eq xs k with | some i=>xs.set i (k,x) | none=>xs++[(k,x)])
 | [],_,_=>rfl
 | p::r,k,x=>by
  unfold zJ kz
  cases he:eq k p.1
  ·simp only[cond_false]
   rw[NK eq r k x]
   cases kz eq r k <;> simp
  ·rfl
theorem QL {α β:Type} (eq:α→α→Bool):∀(xs:List (α×β)) (k:α) (x:β),qc eq xs k x=(match kz eq xs k with | some i=>xs.set i (k,x) | none=>xs++[(k,x)]):=
 NK eq
theorem Kz:∀{k:Ty} (hf:k.flat=true) (a b:k.den),keq k a b=true↔a=b
 | .bool,_,a,b=>by cases a <;> cases b <;> simp[keq,bZ]
 | .int _,_,a,b=>by simp[keq,ieq]
 | .str,_,a,b=>by simp[keq,seq]
 | .unit,_,a,b=>⟨fun _=>rfl,fun _=>rfl⟩
 | .prod p q,hf,a,b=>by
  simp only[Ty.flat,Bool.and_eq_true]at hf
  simp only[keq,V8,Bool.and_eq_true,Kz hf.1,Kz hf.2]
  exact⟨fun h=>Prod.ext h.1 h.2,fun h=>by subst h;exact⟨rfl,rfl⟩⟩
 | .sl _,hf,_,_=>by cases hf
 | .ent ..,hf,_,_=>by cases hf
theorem KN {h h' :Array Obj} {ok ok' :Nat→Ty→Prop} :∀{t:Ty} (hf:t.flat=true) {x:t.den} {c d:List Value},rep h ok t x c→rep h' ok' t x d→c=d
 | .bool,_,_,_,_,h1,h2=>by simp only[rep]at h1 h2;rw[h1,h2]
 | .int _,_,_,_,_,h1,h2=>by simp only[rep]at h1 h2;rw[h1,h2]
 | .str,_,_,_,_,h1,h2=>by simp only[rep]at h1 h2;rw[h1,h2]
 | .unit,_,_,_,_,h1,h2=>by simp only[rep]at h1 h2;rw[h1,h2]
 | .prod p q,hf,_,_,_,h1,h2=>by
  simp only[Ty.flat,Bool.and_eq_true]at hf
  obtain⟨a,b,rfl,a1,a2⟩:=h1
  obtain⟨a',b',rfl,b1,b2⟩:=h2
  rw[KN hf.1 a1 b1,KN hf.2 a2 b2]
 | .sl _,hf,_,_,_,_,_=>by cases hf
 | .ent ..,hf,_,_,_,_,_=>by cases hf
theorem TC {h h' :Array Obj} {ok ok' :Nat→Ty→Prop} :∀{t:Ty} (hf:t.flat=true) {x y:t.den} {c:List Value},rep h ok t x c→rep h' ok' t y c→x=y
 | .bool,_,_,_,_,h1,h2=>by simp only[rep]at h1 h2;rw[h1]at h2;simpa using h2
 | .int _,_,_,_,_,h1,h2=>by simp only[rep]at h1 h2;rw[h1]at h2;simpa using h2
 | .str,_,_,_,_,h1,h2=>by
  simp only[rep]at h1 h2
  rw[h1]at h2
  injection h2 with h2 _
  injection h2 with h2
  injection h2 with h2
  have:=congrArg Array.toList h2
  simpa using this
 | .unit,_,_,_,_,_,_=>rfl
 | .prod p q,hf,_,_,_,h1,h2=>by
  simp only[Ty.flat,Bool.and_eq_true]at hf
  obtain⟨a,b,rfl,a1,a2⟩:=h1
  obtain⟨a',b',e,b1,b2⟩:=h2
  obtain⟨rfl,rfl⟩:=List.append_inj e ((au a1).trans (au b1).symm)
  exact Prod.ext (TC hf.1 a1 b1) (TC hf.2 a2 b2)
 | .sl _,hf,_,_,_,_,_=>by cases hf
 | .ent ..,hf,_,_,_,_,_=>by cases hf
theorem IK {h:Array Obj} {ok:Nat→Ty→Prop} :∀{k:Ty} (hf:k.flat=true) {x:k.den} {c:List Value},rep h ok k x c→∀{sh:List Ty} {d:List Value},bz sh d→bz (k.leaves++sh) (c++d)
 | .bool,_,x,_,h1,_,_,hd=>by simp only[rep]at h1;subst h1;exact⟨_,_,rfl,hd⟩
 | .int _,_,x,_,h1,_,_,hd=>by simp only[rep]at h1;subst h1;exact⟨_,_,rfl,hd⟩
 | .str,_,x,_,h1,_,_,hd=>by simp only[rep]at h1;subst h1;exact⟨_,_,rfl,hd⟩
 | .unit,_,x,_,h1,_,_,hd=>by simp only[rep]at h1;subst h1;exact hd
 | .prod p q,hf,_,_,h1,_,_,hd=>by
  simp only[Ty.flat,Bool.and_eq_true]at hf
  obtain⟨a,b,rfl,a1,a2⟩:=h1
  simp only[Ty.leaves,List.append_assoc]
  exact IK hf.1 a1 (IK hf.2 a2 hd)
 | .sl _,hf,_,_,_,_,_,_=>by cases hf
 | .ent ..,hf,_,_,_,_,_,_=>by cases hf
theorem Rh:∀{a b:List Ty},IR a b=true→a=b
 | [],[],_=>rfl
 | [],_::_,h=>by cases h
 | _::_,[],h=>by cases h
 | a::r,b::q,h=>by
  unfold IR at h
  cases hb:Ty.beq a b <;> rw[hb]at h
  ·cases h
  ·rw[Ty.beq_eq hb,Rh (show IR r q=true from h)]
def tC (ag:Bool) (k:Ty) (x:k.den) (kv:Value):Prop:=gok ag kv∧rep #[] (fun _ _=>False) k x (jX ag kv)
theorem Xz {ag:Bool} {u v:Value} (hu:gok ag u) (hv:gok ag v) (h:jX ag u=jX ag v):u=v:=by
 cases ag
 ·simpa[jX]using h
 ·obtain⟨a,rfl⟩:=hu
  obtain⟨b,rfl⟩:=hv
  have:a.toList=b.toList:=h
  rw[Array.toList_inj.1 this]
theorem tC.det {ag:Bool} {k:Ty} (hf:k.flat=true) {x:k.den} {u v:Value} (h1:tC ag k x u) (h2:tC ag k x v):u=v:=
 Xz h1.1 h2.1 (KN hf h1.2 h2.2)
theorem DT:∀(v:Value),(∃b,v= .bool b)∨(∃k n,v= .int k n)∨(∃s,v= .string s)→∀n,Instr.sameBits n v v=true:=by
 rintro v (⟨b,rfl⟩ | ⟨k,n,rfl⟩ | ⟨s,rfl⟩) m <;> simp[Instr.sameBits,MapKept.bytes_beq]
theorem IJ {h:Array Obj} {ok:Nat→Ty→Prop} :∀{k:Ty} (hf:k.flat=true) {x:k.den} {c:List Value},rep h ok k x c→∀v∈c,(∃b,v= .bool b)∨(∃k n,v= .int k n)∨(∃s,v= .string s)
 | .bool,_,x,_,h1,v,hv=>by simp only[rep]at h1;subst h1;simp at hv;exact .inl ⟨_,hv⟩
 | .int _,_,x,_,h1,v,hv=>by simp only[rep]at h1;subst h1;simp at hv;exact .inr (.inl ⟨_,_,hv⟩)
 | .str,_,x,_,h1,v,hv=>by simp only[rep]at h1;subst h1;simp at hv;exact .inr (.inr ⟨_,hv⟩)
 | .unit,_,x,_,h1,v,hv=>by simp only[rep]at h1;subst h1;cases hv
 | .prod p q,hf,_,_,h1,v,hv=>by
  simp only[Ty.flat,Bool.and_eq_true]at hf
  obtain⟨a,b,rfl,a1,a2⟩:=h1
  rcases List.mem_append.1 hv with hv | hv
  ·exact IJ hf.1 a1 v hv
  ·exact IJ hf.2 a2 v hv
 | .sl _,hf,_,_,_,_,_=>by cases hf
 | .ent ..,hf,_,_,_,_,_=>by cases hf
theorem tC.stays {P:Program} {w:World} {ag:Bool} {k:Ty} (hf:k.flat=true) {x:k.den} {v:Value} (h:tC ag k x v):(Instr.keyThatStays v v).run P w= .ok v w:=by
 have hs:Instr.sameBits 10000 v v=true:=by
  have hc:=IJ hf h.2
  cases ag
  ·exact DT v (hc v (by simp[jX])) _
  ·obtain⟨arr,rfl⟩:=h.1
   show Instr.sameBits (9999+1) (.agg arr) (.agg arr)=true
   simp only[Instr.sameBits,beq_self_eq_true,Bool.true_and,List.all_eq_true]
   intro p hp
   obtain⟨i,hi,e⟩:=List.getElem_of_mem hp
   rw[List.getElem_zip]at e
   rw[←e]
   exact DT _ (hc _ (List.getElem_mem _)) _
 simp[Instr.keyThatStays,hs]
section
variable {X:Fx} {cl ch:Nat} {S:Sm} {m:Mp} {ok:Nat→Ty→Prop} {a:Act} {w:World} {T:List Nat} {o:Oper}
theorem Vf (H:FxOk X) {ke:Nat} {i:TI} (hi:TiOk X.P ke i) {k:Ty} (hk:Vd X.E ke i.td k=true) (hf:k.flat=true) {x:k.den} {u:Value} (hu:tC (U4 i.td) k x u) (w:World):
  (∀em,(Instr.checkKey em 10000 ke u).run X.P w= .ok () w)∧
  ∀{β:Type} (es:List MapEntry) (xs:List (k.den×β)),es.length=xs.length→(∀(j:Nat) (p:k.den×β),xs[j]? =some p→∃e:MapEntry,es[j]? =some e∧tC (U4 i.td) k p.1 e.key)→
   (Instr.findKey ke u es).run X.P w= .ok ((kz (keq k) xs x).bind fun j=>(es[j]?).map fun e=>(j,e.val)) w:=by
 have htd:=hi.td
 have scal:∀d,X.P.underlying ke=some d→U4 i.td=false→(∀y v,tC (U4 i.td) k y v→Instr.sameNow d u v=some (keq k x y))→
   ∀{β:Type} (es:List MapEntry) (xs:List (k.den×β)),es.length=xs.length→(∀(j:Nat) (p:k.den×β),xs[j]? =some p→∃e:MapEntry,es[j]? =some e∧tC (U4 i.td) k p.1 e.key)→
   (Instr.findKey ke u es).run X.P w= .ok ((kz (keq k) xs x).bind fun j=>(es[j]?).map fun e=>(j,e.val)) w:=by
  intro d hd _ hs β es xs hl he
  refine MapKept.run_findKey hd ?_
  have:∀(es:List MapEntry) (xs:List (k.den×β)) (n:Nat),es.length=xs.length→(∀(j:Nat) (p:k.den×β),xs[j]? =some p→∃e:MapEntry,es[j]? =some e∧tC (U4 i.td) k p.1 e.key)→
    Instr.findNow d u es n=some ((kz (keq k) xs x).bind fun j=>(es[j]?).map fun e=>(n+j,e.val)):=by
   intro es
   induction es with
   | nil=>
    intro xs n hl he
    cases xs with
    | nil=>rfl
    | cons _ _=>cases hl
   | cons e es ih=>
    intro xs n hl he
    cases xs with
    | nil=>cases hl
    | cons p xs=>
     obtain⟨e',h1,h2⟩:=he 0 p rfl
     simp only[List.getElem?_cons_zero,Option.some.injEq]at h1
     subst h1
     unfold Instr.findNow kz
     rw[hs _ _ h2]
     cases hq:keq k x p.1
     ·simp only[cond_false]
      rw[ih xs (n+1) (by simpa using hl) (fun j q hj=>by simpa using he (j+1) q (by simpa using hj))]
      cases kz (keq k) xs x with
      | none=>rfl
      | some j=>simp[Nat.add_assoc,Nat.add_comm 1 j]
     ·simp
  simpa using this es xs 0 hl he
 have one:∀{v:Value} {y:k.den},U4 i.td=false→tC (U4 i.td) k y v→rep #[] (fun _ _=>False) k y [v]:=fun ha h=>by
  have:=h.2;rw[ha]at this;exact this
 unfold Vd at hk
 split at hk
 ·rename_i htd'
  rw[htd']at htd
  have ha:U4 i.td=false:=by rw[htd'];rfl
  have hu1:=one ha hu
  simp only[rep,List.cons.injEq,and_true]at hu1
  subst hu1
  refine⟨fun em=>MapKept.run_checkKey htd (by simp[MapKept.IsKey]) em 9999,scal _ htd ha fun y v hv=>?_⟩
  have hv1:=one ha hv
  simp only[rep,List.cons.injEq,and_true]at hv1
  subst hv1
  rfl
 ·rename_i p q htd'
  have:=of_decide_eq_true hk
  subst this
  rw[htd']at htd
  have ha:U4 i.td=false:=by rw[htd'];rfl
  have hu1:=one ha hu
  simp only[rep,List.cons.injEq,and_true]at hu1
  subst hu1
  refine⟨fun em=>MapKept.run_checkKey htd (by simp[MapKept.IsKey]) em 9999,scal _ htd ha fun y v hv=>?_⟩
  have hv1:=one ha hv
  simp only[rep,List.cons.injEq,and_true]at hv1
  subst hv1
  simp[Instr.sameNow,keq,ieq]
  rfl
 ·rename_i htd'
  rw[htd']at htd
  have ha:U4 i.td=false:=by rw[htd'];rfl
  have hu1:=one ha hu
  simp only[rep,List.cons.injEq,and_true]at hu1
  subst hu1
  refine⟨fun em=>MapKept.run_checkKey htd (by simp[MapKept.IsKey]) em 9999,scal _ htd ha fun y v hv=>?_⟩
  have hv1:=one ha hv
  simp only[rep,List.cons.injEq,and_true]at hv1
  subst hv1
  simp only[Instr.sameNow,keq,seq,Option.some.injEq]
  rw[Bool.eq_iff_iff]
  simp[MapKept.bytes_beq]
 ·rename_i k _ _ fs htd'
  cases hkf:k.flat <;> rw[hkf]at hk
  ·cases hk
  simp only[cond_true]at hk
  cases hq:Y3 X.E.eqs ke with
  | none=>rw[hq]at hk;cases hk
  | some sh=>
  rw[hq]at hk
  have hsh:=Rh (show IR sh k.leaves=true from hk)
  subst hsh
  obtain⟨⟨fields,hund⟩,hks⟩:=(H.eqs ke _ hq).2
  have ha:U4 i.td=true:=by rw[htd'];rfl
  rw[ha]at hu
  obtain⟨xs0,rfl⟩:=hu.1
  have shp:∀{y:k.den} {arr:Array Value},tC true k y (.agg arr)→bz k.leaves arr.toList:=fun {y arr} h=>by
   have:=IK hf (show rep #[] (fun _ _=>False) k y arr.toList from h.2) (sh:=[]) (d:=[]) rfl
   simpa using this
  obtain⟨c1,c2⟩:=hks w xs0 (shp hu)
  refine⟨c1,fun {β} es xs hl he=>?_⟩
  rw[run_findKey_eq w (by rw[hund])]
  rw[ha]at he
  have:∀(es:List MapEntry) (xs:List (k.den×β)) (n:Nat),es.length=xs.length→(∀(j:Nat) (p:k.den×β),xs[j]? =some p→∃e:MapEntry,es[j]? =some e∧tC true k p.1 e.key)→
    (Instr.findAsking ke (.agg xs0) es n).run X.P w= .ok ((kz (keq k) xs x).bind fun j=>(es[j]?).map fun e=>(n+j,e.val)) w:=by
   intro es
   induction es with
   | nil=>
    intro xs n hl he
    cases xs with
    | nil=>rfl
    | cons _ _=>cases hl
   | cons e es ih=>
    intro xs n hl he
    cases xs with
    | nil=>cases hl
    | cons p xs=>
     obtain⟨e',h1,h2⟩:=he 0 p rfl
     simp only[List.getElem?_cons_zero,Option.some.injEq]at h1
     subst h1
     obtain⟨ys,hys⟩:=h2.1
     rw[hys]at h2
     obtain⟨r,hr,hre⟩:=c2 ys (shp h2)
     have hrq:r=keq k x p.1:=by
      rw[Bool.eq_iff_iff,hre,Kz hf]
      constructor
      ·intro h
       have h3:=h2.2
       rw[show jX true (Value.agg ys)=ys.toList from rfl,←h]at h3
       exact TC hf hu.2 h3
      ·intro h
       have h3:=h2.2
       rw[←h]at h3
       exact KN hf hu.2 h3
     subst hrq
     unfold Instr.findAsking kz
     simp only[hys,Sem.run_bind,hr,Result.andThen_ok]
     cases hq:keq k x p.1
     ·simp only[cond_false,Bool.false_eq_true,if_false]
      rw[ih xs (n+1) (by simpa using hl) (fun j q hj=>by simpa using he (j+1) q (by simpa using hj))]
      cases kz (keq k) xs x with
      | none=>rfl
      | some j=>simp[Nat.add_assoc,Nat.add_comm 1 j]
     ·simp
  simpa using this es xs 0 hl he
 ·cases hk
theorem Ej (H:FxOk X) {t:Nat} {M:MT} (h:FC X.E t=some M):X.P.underlying t=some (.map M.ke M.el)∧M.k.flat=true∧
  (∃i,TiOk X.P M.ke i∧Vd X.E M.ke i.td M.k=true∧M.ka=U4 i.td)∧(∃j,TiOk X.P M.el j∧j.ty=some M.v∧M.va=U4 j.td):=by
 unfold FC at h
 split at h <;> try (cases h;done)
 rename_i i hi
 split at h <;> try (cases h;done)
 rename_i ke el htd
 split at h <;> try (cases h;done)
 rename_i p q hp hq
 split at h <;> try (cases h;done)
 rename_i k v hk hv
 cases hc:(Vd X.E ke p.td k&&k.flat) <;> rw[hc]at h
 ·cases h
 ·simp only[cond_true,Option.some.injEq]at h
  subst h
  simp only[Bool.and_eq_true]at hc
  have h1:=(H.tt t i hi).td
  rw[htd]at h1
  exact⟨h1,hc.2,⟨p,H.tt _ p hp,hc.1,rfl⟩,⟨q,H.tt _ q hq,hv,rfl⟩⟩
theorem Hr {α:Type} {Q:α→Sm→Prop} {ag:Bool} {t:Ty} {v:V} {x:Value} {K:t.den→Cmd α} (R:Rel X cl ch S m ok a w) (hT:Tk X S m ok w T) (hv:fE ⟨w.heap,ok,m⟩ v x)
  (hK:∀S' ok' y,Rel X cl ch S' m ok' a w→Tk X S' m ok' w T→(∀b t,ok b t→ok' b t)→X8 S S' →gok ag x→rep w.heap ok' t y (jX ag x)→(K y).post S' Q):
  (a3l ag t v K).post S Q:=by
 unfold a3l
 refine wE hv fun cs us hg hl=>?_
 refine uO t R hT hl fun S1 ok1 y q us1 us' R1 T1 k1 s1 e1 h1 l1=>?_
 cases q with
 | cons _ _=>trivial
 | nil=>
 simp only[aF]at l1
 subst l1
 simp only[List.append_nil]at e1
 subst e1
 have hgc:gok ag x∧jX ag x=us:=by
  cases ag
  ·simp only[IE]at hg
   subst hg
   exact⟨mY h1 x (by simp),rfl⟩
  ·obtain⟨arr,rfl,rfl⟩:=hg
   exact⟨⟨arr,rfl⟩,rfl⟩
 refine hK _ _ _ R1 T1 k1 s1 hgc.1 ?_
 rw[hgc.2];exact h1
def zZ (h:Array Obj) (ok:Nat→Ty→Prop) (t:Ty) (xs:List t.den) (v:Value):Prop:=
 ∃mv,v= .map mv∧(mv=none→xs=[])∧∀blk,mv=some blk→∃(es:Array MapEntry) (ck:Nat),h[blk]? =some (.map es ck)∧es.size=(xs:List t.den).length∧
  ∀(i:Nat) (x:t.den),(xs:List t.den)[i]? =some x→∃e:MapEntry,es[i]? =some e∧EU t e∧rep h ok t x (qI t e)
theorem zZ.of_rep {h:Array Obj} {ok:Nat→Ty→Prop} {t:Ty} {xs:List t.den} {v:Value} (ht:t.isEnt=true) (hr:rep h ok (.sl t) xs [v]):zZ h ok t xs v:=by
 obtain⟨mv,e,h1,h2⟩:=(Yk ht).1 hr
 exact⟨mv,by simpa using e,h1,fun blk hb=>(h2 blk hb).2⟩
theorem zZ.of_arr {C:Cx} {t:Ty} {xs:List t.den} {l:Loc} {v:Value} (ht:t.isEnt=true) (ha:arrOk C t xs l) (hv:l.view none v):zZ C.h C.ok t xs v:=by
 cases l with
 | nil=>have:=ha.2;rw[ht]at this;cases this
 | st b=>cases ha
 | arr blk off len cap sz=>have:=ha.1;rw[ht]at this;cases this
 | mp b=>
  simp only[Loc.view]at hv
  subst hv
  exact⟨_,rfl,(fun h=>nomatch h),fun blk hb=>by cases hb;exact ha.2⟩
theorem Yd {α:Type} {Q:α→Sm→Prop} (R:Rel X cl ch S m ok a w) {u:Ty} (hu:u.isEnt=true) {v:V} {x:Value} {K:List u.den→Cmd α} (hv:fE ⟨w.heap,ok,m⟩ v x)
  (hK:∀xs,zZ w.heap ok u xs x→(K xs).post S Q):(a4M u v K).post S Q:=by
 unfold a4M
 split <;> try trivial
 ·refine aA fun e=>?_
  subst e
  exact hK _ (zZ.of_rep hu hv)
 ·rename_i bx
  obtain⟨l,hm,hvw⟩:=hv
  refine ae ?_
  split <;> try trivial
  ·rename_i t xs hS
   obtain⟨l',hm',ha⟩:=R.own_arr hS
   simp only at hm
   rw[hm]at hm';cases hm'
   refine aA fun e=>?_
   subst e
   exact hK _ (zZ.of_arr hu ha hvw)
  ·rename_i t xs hS
   obtain⟨l',hm',ha,_⟩:=R.own_frz hS
   simp only at hm
   rw[hm]at hm';cases hm'
   refine aA fun e=>?_
   subst e
   exact hK _ (zZ.of_arr hu ha hvw)
theorem Cm {h:Array Obj} {ok:Nat→Ty→Prop} {M:MT} {x:M.k.den×M.v.den} {e:MapEntry} (h1:EU M.ent e) (h2:rep h ok M.ent x (qI M.ent e)):
  gok M.ka e.key∧gok M.va e.val∧rep h ok M.k x.1 (jX M.ka e.key)∧rep h ok M.v x.2 (jX M.va e.val):=by
 obtain⟨g1,g2,g3⟩:=h1
 obtain⟨c,d,e1,r1,r2⟩:=h2
 obtain⟨rfl,rfl⟩:=List.append_inj (show jX M.ka e.key++jX M.va e.val=c++d from e1) (g3.trans (au r1).symm)
 exact⟨g1,g2,r1,r2⟩
theorem a3t {h:Array Obj} {ok:Nat→Ty→Prop} {M:MT} {x:M.k.den} {y:M.v.den} {e:MapEntry} (g1:gok M.ka e.key) (g2:gok M.va e.val) (r1:rep h ok M.k x (jX M.ka e.key)) (r2:rep h ok M.v y (jX M.va e.val)):
  EU M.ent e∧rep h ok M.ent (x,y) (qI M.ent e):=⟨⟨g1,g2,au r1⟩,_,_,rfl,r1,r2⟩
theorem Tz {C:Cx} {c:V} {v:Value} (h:oN C c v):Ol C c v:=by
 cases c <;> simp only[oN]at h <;> try exact h
 all_goals exact h.elim
theorem a5n {C:Cx} {ag:Bool} {cs:List V} {us:List Value} {x:Value} (hg:IE ag x us) (hl:aF C cs us):Ol C (mkV ag cs) x:=by
 cases ag
 ·simp only[IE]at hg;subst hg
  cases cs with
  | nil=>simp[aF]at hl
  | cons c r=>
   obtain⟨v,r',e,h1,h2,h3⟩:=hl
   simp at e;obtain⟨rfl,rfl⟩:=e
   cases r with
   | nil=>exact Tz h1
   | cons d r=>obtain⟨_,_,e,_⟩:=h3;cases e
 ·obtain⟨arr,rfl,rfl⟩:=hg
  exact⟨arr,rfl,hl⟩
theorem VZ {ag:Bool} {v:Value} (h:gok ag v):IE ag v (jX ag v):=by
 cases ag
 ·rfl
 ·obtain⟨arr,rfl⟩:=h;exact⟨arr,rfl,rfl⟩
theorem Kq {P:Program} {w:World} {t ke el:TypeId} {mv:Option Nat} {es:Array MapEntry} {key z:Value} {ok:Bool} (hund:P.underlying t=some (.map ke el))
  (hes:mv=none∧es=#[]∨∃r ck,mv=some r∧w.heap[r]? =some (.map es ck)) (hck:∀em,(Instr.checkKey em 10000 ke key).run P w= .ok () w) {r:Option (Nat×Value)}
  (hfind:(Instr.findKey ke key es.toList).run P w= .ok r w) (hz:(zeroValue el).run P w= .ok z w):
  (Instr.lookup t (.map mv) key ok).run P w= .ok (if ok then .tuple #[(r.map (·.2)).getD z,.bool r.isSome]else(r.map (·.2)).getD z) w:=by
 rcases hes with⟨rfl,rfl⟩ | ⟨b,ck,rfl,hb⟩
 ·simp only[Instr.lookup,Sem.run_bind,run_underlying hund,Result.andThen_ok,Sem.run_pure,hck,hfind]
  cases r with
  | none=>cases ok <;> simp[hz]
  | some p=>cases ok <;> simp
 ·simp only[Instr.lookup,Sem.run_bind,run_underlying hund,yN hb,Result.andThen_ok,Sem.run_pure,hck,hfind]
  cases r with
  | none=>cases ok <;> simp[hz]
  | some p=>cases ok <;> simp
theorem a2d (H:FxOk X) (R:Rel X cl ch S m ok a w) {t:TypeId} {x ix:Operand} {okk:Bool} {q:Nat} (ho:o.op= .lookup t x ix okk):(V7 X.E q o).post S (fun _ S' =>bM X cl ch o a w m ok S'):=by
 unfold V7
 simp only[ho]
 refine O7 R fun u hu=>O7 R fun kv hk=>?_
 unfold ZP
 cases hM:FC X.E t with
 | none=>trivial
 | some M=>
 obtain⟨hund,hf,⟨i,hi,hko,hka⟩,⟨j,hj,hjt,hva⟩⟩:=Ej H hM
 simp only[]
 refine Hr (T:=[]) R Tk.nil hk fun S1 ok1 key R1 T1 k1 s1 hg hr=>?_
 refine Yd R1 rfl (Dj k1 hu) fun xs hxs=>?_
 obtain⟨mv,hx,hnil,hmap⟩:=hxs
 have hkey:tC (U4 i.td) M.k key (a.eval ix):=by rw[←hka];exact⟨hg,qY hf hr⟩
 obtain⟨c1,c2⟩:=Vf H hi hko hf hkey w
 obtain⟨inf,hinf,_,_,_,hzero⟩:=hj.info
 obtain⟨_,z,hz,hzr⟩:=hzero _ hjt
 have hzrun:(zeroValue M.el).run X.P w= .ok z w:=by simp[zeroValue,typeInfo,hinf,hz]
 have hzg:gok M.va z∧rep w.heap ok1 M.v M.v.zero (jX M.va z):=by
  have hr0:rep w.heap ok1 M.v M.v.zero z.cells.toList:=Y0 (fun _ _ h=>h.elim) (fun _ _ h=>h.elim) hzr
  have hag:=hj.agg inf z hinf hz
  rw[←hva]at hag
  cases hva' :M.va
  ·have h1:=hag.2 hva'
   have hcz:z.cells.toList=[z]:=by cases z <;> first | rfl | cases h1
   rw[hcz]at hr0
   exact⟨h1,hr0⟩
  ·exact⟨hag.1 hva',hr0⟩
 have hE:∃es:Array MapEntry,(mv=none∧es=#[]∨∃r ck,mv=some r∧w.heap[r]? =some (.map es ck))∧es.size=xs.length∧
   ∀(i:Nat) (x:M.k.den×M.v.den),xs[i]? =some x→∃e:MapEntry,es[i]? =some e∧EU M.ent e∧rep w.heap ok1 M.ent x (qI M.ent e):=by
  cases mv with
  | none=>
   have:=hnil rfl
   subst this
   exact⟨#[],.inl ⟨rfl,rfl⟩,rfl,fun i x h=>by simp at h⟩
  | some blk=>
   obtain⟨es,ck,h1,h2,h3⟩:=hmap blk rfl
   exact⟨es,.inr ⟨blk,ck,rfl,h1⟩,h2,h3⟩
 obtain⟨es,hes,hsz,hent⟩:=hE
 have hfind:=c2 (β:=M.v.den) es.toList xs (by rw[Array.length_toList];exact hsz) (fun j p hp=>by
  obtain⟨e,h1,h2,h3⟩:=hent j p hp
  obtain⟨g1,g2,r1,r2⟩:=Cm h2 h3
  exact⟨e,by simpa using h1,by rw[←hka];exact⟨g1,qY hf r1⟩⟩)
 have run:=Kq (ok:=okk) hund hes c1 hfind hzrun
 have hval:∃val,(((kz (keq M.k) xs key).bind fun j=>(es.toList[j]?).map fun e=>(j,e.val)).map (·.2)).getD z=val∧gok M.va val∧
   rep w.heap ok1 M.v (gG (keq M.k) xs key M.v.zero) (jX M.va val)∧(((kz (keq M.k) xs key).bind fun j=>(es.toList[j]?).map fun e=>(j,e.val))).isSome=FD (keq M.k) xs key:=by
  rw[a1O,a1P]
  cases hfi:kz (keq M.k) xs key with
  | none=>exact⟨z,rfl,hzg.1,hzg.2,rfl⟩
  | some j=>
   obtain⟨p,hp,_⟩:=Es hfi
   obtain⟨e,h1,h2,h3⟩:=hent j p hp
   obtain⟨g1,g2,r1,r2⟩:=Cm h2 h3
   have h1' :es.toList[j]? =some e:=by simpa using h1
   refine⟨e.val,by rw[Option.bind_some,h1'];rfl,g2,?_,by rw[Option.bind_some,h1'];rfl⟩
   simp only[hp];exact r2
 obtain⟨val,e1,g,r,e2⟩:=hval
 rw[e1,e2]at run
 have hrel:=VZ g
 have hL:=iV (C:=⟨w.heap,ok1,m⟩) r
 cases okk
 ·simp only[cond_false]
  refine oC H R1 (fun _ _ h=>h) k1 (Gl hrel hL) ?_
  simp only[execOp,ho,hx,Sem.run_bind,run]
  rfl
 ·simp only[cond_true]
  refine oC H R1 (fun _ _ h=>h) k1 (v:=.tup _) (x:=.tuple #[val,.bool (FD (keq M.k) xs key)]) ⟨_,rfl,⟨_,_,rfl,a5n hrel hL,_,_,rfl,rfl,rfl⟩⟩ ?_
  simp only[execOp,ho,hx,Sem.run_bind,run]
  rfl
theorem Ya (H:FxOk X) {q:Nat} (R:Rel X (CB*q) (CB*q+CB) S m ok a w) {t:TypeId} {r:Option Operand} (ho:o.op= .makeMap t r):(V7 X.E q o).post S (fun _ S' =>bM X (CB*q) (CB*q+CB) o a w m ok S'):=by
 have go:((Instr.makeMap t (r.map a.eval)).run X.P w= .ok (.map (some w.heap.size)) (w.alloc (.map #[] 0)))→
   (AX X.E (H5 q o.dst) t fun v=>Z9 X.E o.dst v).post S (fun _ S' =>bM X (CB*q) (CB*q+CB) o a w m ok S'):=fun run=>by
  unfold AX
  cases hM:FC X.E t with
  | none=>trivial
  | some M=>
  refine Ip (l:=.mp w.heap.size) (obj:=.map #[] 0) (x:=.map (some w.heap.size)) H R (by simp) (by simp[J9]) (fun hn hc=>?_) ⟨.mp w.heap.size,by simp,rfl⟩ ?_
  ·exact⟨.mp w.heap.size,by simp,rfl,#[],0,heap_alloc_new w _,rfl,fun i x h=>by simp at h⟩
  ·simp only[execOp,ho,Sem.run_bind,run];rfl
 unfold V7
 simp only[ho]
 cases r with
 | none=>exact go (by simp[Instr.makeMap])
 | some hd=>
  refine O7 R fun v hv=>?_
  split <;> try trivial
  rename_i k n
  cases hM:FC X.E t with
  | none=>unfold AX;rw[hM];trivial
  | some M=>
  refine go ?_
  simp[Instr.makeMap,kE hv,run_underlying (Ej H hM).1,asInt,asIntOf]
theorem FU (H:FxOk X) (R:Rel X cl ch S m ok a w) {t:TypeId} {x ix y:Operand} {q:Nat} (ho:o.op= .mapUpdate t x ix y∨o.op= .insert t x ix y):(V7 X.E q o).post S (fun _ S' =>bM X cl ch o a w m ok S'):=by
 suffices h:((match o.dst with | none=>iO x fun m=>iO ix fun k=>iO y fun v=>TZ X.E t m k v | some _=> .fail:Cmd Unit)).post S (fun _ S' =>bM X cl ch o a w m ok S') by
  unfold V7
  rcases ho with ho | ho <;> simp only[ho] <;> exact h
 cases hd:o.dst with
 | some _=>trivial
 | none=>
 refine O7 R fun u hu=>O7 R fun kv hk=>O7 R fun yv hy=>?_
 unfold TZ
 cases hM:FC X.E t with
 | none=>trivial
 | some M=>
 obtain⟨hund,hf,⟨i,hi,hko,hka⟩,⟨j,hj,hjt,hva⟩⟩:=Ej H hM
 simp only[]
 refine Hr (T:=[]) R Tk.nil hk fun S1 ok1 key R1 T1 k1 s1 hg hr=>?_
 refine Hr R1 T1 (Dj k1 hy) fun S2 ok2 z R2 T2 k2 s2 hg2 hr2=>?_
 have hkey:tC (U4 i.td) M.k key (a.eval ix):=by rw[←hka];exact⟨hg,qY hf hr⟩
 obtain⟨c1,c2⟩:=Vf H hi hko hf hkey w
 split <;> try trivial
 rename_i bx
 obtain⟨l0,hm0,hvw⟩:=hu
 simp only at hm0
 refine ae ?_
 split <;> try trivial
 rename_i u xs hS
 refine aA fun e=>?_
 subst e
 refine dX ?_
 obtain⟨l,hm,ha⟩:=R2.own_arr hS
 rw[hm0]at hm;cases hm
 cases l0 with
 | nil=>exact absurd ha.2 (by simp[MT.ent,Ty.isEnt])
 | st b=>cases ha
 | arr blk off len cap sz=>exact absurd ha.1 (by simp[MT.ent,Ty.isEnt])
 | mp blk=>
 simp only[Loc.view]at hvw
 obtain⟨_,es,ck,hb,hsz,hent⟩:=ha
 simp only at hb hent
 have hown:J9 m bx (S2 (BOX+bx))=[blk]:=by rw[hS];simp[J9,hm0]
 have hsep:=R2.sep bx blk (by rw[hown];simp)
 have hfind:=c2 (β:=M.v.den) es.toList xs (by rw[Array.length_toList];exact hsz) (fun j p hp=>by
  obtain⟨e,h1,h2,h3⟩:=hent j p hp
  obtain⟨g1,g2,r1,r2⟩:=Cm h2 h3
  exact⟨e,by simpa using h1,by rw[←hka];exact⟨g1,qY hf r1⟩⟩)
 have fin:∀(es' :Array MapEntry) (ck' :Nat) (xs' :List (M.k.den×M.v.den)),xs' =qc (keq M.k) xs key z→
   (Instr.mapUpdate t (a.eval x) (a.eval ix) (a.eval y)).run X.P w= .ok () { w with heap:=w.heap.setIfInBounds blk (.map es' ck') }→es'.size=xs'.length→
   (∀(i:Nat) (x:M.k.den×M.v.den),xs'[i]? =some x→∃e:MapEntry,es'[i]? =some e∧EU M.ent e∧rep w.heap ok2 M.ent x (qI M.ent e))→
   bM X cl ch o a w m ok (upd S2 (BOX+bx) (.barr M.ent (qc (keq M.k) xs key z))):=by
  intro es' ck' xs' hxs' run hsz' hent'
  subst hxs'
  obtain⟨q1,q2⟩:=MapKept.heap_set (o' :=.map es' ck') hb
  have R3:Rel X cl ch (upd S2 (BOX+bx) (.barr M.ent (qc (keq M.k) xs key z))) m ok2 a { w with heap:=w.heap.setIfInBounds blk (.map es' ck') }:=by
   refine R2.mod (by rw[hown];simp[J9,hm0]) (by simp) rfl rfl rfl (by simp) (fun b hb=>q2 b (by rw[hown]at hb;simpa using hb)) ?_
   refine⟨.mp blk,hm0,rfl,es',ck',q1,hsz',fun i x hx=>?_⟩
   obtain⟨e,h1,h2,h3⟩:=hent' i x hx
   exact⟨e,h1,h2,Y0 (fun _ _ h=>h) (fun b t hb=>q2 b (fun e=>hsep.1 t (e▸hb))) h3⟩
  intro next Q hn
  unfold Oper.wp
  have e:(execOp a.eval o).run X.P w= .ok .skip { w with heap:=w.heap.setIfInBounds blk (.map es' ck') }:=by rcases ho with ho | ho <;> simp[execOp,ho,run]
  rw[e,Oper.upon_skip,hd]
  exact hn m ok2 a _ R3 (fun _ _ h=>h) (fun b t h=>k2 b t (k1 b t h))
 have hnew:∀n,EU M.ent { key:=a.eval ix,val:=a.eval y,born:=n }∧rep w.heap ok2 M.ent (key,z) (qI M.ent { key:=a.eval ix,val:=a.eval y,born:=n }):=fun n=>
  a3t (e:={ key:=a.eval ix,val:=a.eval y,born:=n }) hg hg2 (qY hf hr) hr2
 show bM X cl ch o a w m ok (upd S2 (BOX+bx) (.barr M.ent (qc (keq M.k) xs key z)))
 cases hfi:kz (keq M.k) xs key with
 | none=>
  rw[hfi]at hfind
  refine fin (es.push { key:=a.eval ix,val:=a.eval y,born:=ck }) (ck+1) (xs++[(key,z)]) (by rw[QL,hfi]) ?_ (by simp[hsz]) fun i x hx=>?_
  ·rw[hvw]
   simp only[Instr.mapUpdate,Sem.run_bind,run_underlying hund,yN hb,Result.andThen_ok,c1,hfind,Option.bind_none]
   exact MapKept.run_setObj_map _ hb
  ·rw[List.getElem?_append]at hx
   split at hx
   ·rename_i hlt
    obtain⟨e,h1,h2,h3⟩:=hent i x hx
    refine⟨e,?_,h2,Y0 (fun _ _ h=>h) (fun _ _ _=>rfl) h3⟩
    rw[Array.getElem?_push_lt (by omega)]
    rw[←h1,Array.getElem?_eq_getElem (by omega)]
   ·rename_i hge
    have hi0:i=xs.length:=by
     have:=(J7.1 hx).1
     simp at this;omega
    subst hi0
    simp at hx
    subst hx
    exact⟨_,by rw[←hsz];simp,hnew ck⟩
 | some j=>
  obtain⟨p,hp,hpk⟩:=Es hfi
  obtain⟨e,h1,h2,h3⟩:=hent j p hp
  obtain⟨g1,g2,r1,r2⟩:=Cm h2 h3
  have h1' :es.toList[j]? =some e:=by simpa using h1
  have hpe:=(Kz hf _ _).1 hpk
  have hke:e.key=a.eval ix:=tC.det hf (ag:=M.ka) (x:=key) ⟨g1,by rw[hpe];exact qY hf r1⟩ ⟨hg,qY hf hr⟩
  rw[hfi]at hfind
  simp only[Option.bind_some,h1',Option.map_some]at hfind
  refine fin (es.modify j fun e=> { e with key:=a.eval ix,val:=a.eval y }) ck (xs.set j (key,z)) (by rw[QL,hfi]) ?_ (by simp[hsz]) fun i x hx=>?_
  ·rw[hvw]
   simp only[Instr.mapUpdate,Sem.run_bind,run_underlying hund,yN hb,Result.andThen_ok,c1,hfind,h1,Option.map_some,Option.getD_some,hke,tC.stays (P:=X.P) (w:=w) hf hkey]
   exact MapKept.run_setObj_map _ hb
  ·rw[List.getElem?_set]at hx
   rw[Array.getElem?_modify]
   split at hx
   ·rename_i hij
    subst hij
    split at hx
    ·cases hx
     simp only[if_true,h1,Option.map_some]
     exact⟨_,rfl,hnew e.born⟩
    ·cases hx
   ·rename_i hij
    simp only[hij,if_false]
    obtain⟨e',a1,a2,a3⟩:=hent i x hx
    exact⟨e',a1,a2,Y0 (fun _ _ h=>h) (fun _ _ _=>rfl) a3⟩
end
end Go.GP
namespace Go.GP
theorem Rk:∀(n:Nat) (vs a b:List V),zl n vs=some (a,b)→vs=a++b∧a.length=n
 | 0,vs,a,b,h=>by simp[zl]at h;obtain⟨rfl,rfl⟩:=h;simp
 | n+1,[],a,b,h=>by simp[zl]at h
 | n+1,v::vs,a,b,h=>by
  unfold zl at h
  cases hs:zl n vs with
  | none=>simp[hs]at h
  | some p=>
   obtain⟨a',b'⟩:=p
   simp only[hs,Option.some.injEq,Prod.mk.injEq]at h
   obtain⟨rfl,rfl⟩:=h
   obtain⟨rfl,hl⟩:=Rk n vs _ _ hs
   exact⟨rfl,by simp[hl]⟩
theorem JG {C:Cx} :∀{a b:List V} {xs ys:List Value},a.length=xs.length→aY C (a++b) (xs++ys)→aY C a xs∧aY C b ys
 | [],b,xs,ys,hl,h=>by
  have:xs=[]:=by cases xs <;> simp at hl ⊢
  subst this
  exact⟨rfl,h⟩
 | c::a,b,xs,ys,hl,h=>by
  cases xs with
  | nil=>simp at hl
  | cons x xs=>
   obtain⟨v,r,e,h1,h2⟩:=h
   simp only[List.cons_append,List.cons.injEq]at e
   obtain⟨rfl,rfl⟩:=e
   obtain⟨h3,h4⟩:=JG (by simpa using hl) h2
   exact⟨⟨_,_,rfl,h1,h3⟩,h4⟩
theorem a0A {C:Cx} :∀{a:List V} {xs:List Value},xu a=false→aY C a xs→TA C a xs
 | [],xs,_,h=>h
 | c::a,xs,ht,⟨v,r,e,h1,h2⟩=>by
  have ht2:xu a=false:=by cases c <;> first | exact ht | (simp[xu]at ht)
  refine⟨v,r,e,?_,a0A ht2 h2⟩
  cases c <;> first | exact h1 | (simp[xu]at ht)
theorem a5s {C:Cx} {a:List V} {xs:List Value} {n:Nat} {v:Value} (ht:xu a=false) (h:aY C a xs) (hr:WX n v xs):fE C (a8z a) v:=by
 obtain⟨_,hv⟩:=hr
 cases a with
 | nil=>
  simp only[aY]at h;subst h
  simp only at hv;subst hv
  exact⟨_,rfl,rfl⟩
 | cons c a=>
  obtain⟨x,r,rfl,h1,h2⟩:=h
  cases a with
  | nil=>
   simp only[aY]at h2;subst h2
   simp only at hv;subst hv
   exact h1
  | cons d a=>
   obtain⟨y,r',rfl,h3,h4⟩:=h2
   simp only at hv;subst hv
   exact⟨_,rfl,a0A ht ⟨_,_,rfl,h1,_,_,rfl,h3,h4⟩⟩
theorem Lr {h:Array Obj} {ok ok' :Nat→Ty→Prop} :∀{ts:List Ty} {x:Jd ts} {vs:List Value},(∀b u,ok b u→Jv u ts=true→ok' b u)→uU h ok (IZ ts x) vs→uU h ok' (IZ ts x) vs
 | [],_,_,_,hr=>hr
 | [t],x,_,f,hr=>by
  obtain⟨v,r,e,⟨b,o,es,hv,hb,hc,hp⟩,h2⟩:=hr
  exact⟨v,r,e,⟨b,o,es,hv,f _ _ hb (by simp[Jv]),hc,pO (fun b u h k=>f b u h (by simp[Jv,k])) hp⟩,h2⟩
 | t::t' ::ts,x,_,f,hr=>by
  obtain⟨v,r,e,⟨b,o,es,hv,hb,hc,hp⟩,h2⟩:=hr
  exact⟨v,r,e,⟨b,o,es,hv,f _ _ hb (by simp[Jv]),hc,pO (fun b u h k=>f b u h (by simp[Jv,k])) hp⟩,Lr (ts:=t' ::ts) (fun b u h k=>f b u h (by rw[Jv,k];simp)) h2⟩
theorem PZ {h:Array Obj} {ok ok' :Nat→Ty→Prop} {m:Mp} {t:Ty} {xs:List t.den} {l:Loc} (f:∀b u,ok b u→Ty.occ u t=true→ok' b u) (hr:arrOk ⟨h,ok,m⟩ t xs l):arrOk ⟨h,ok',m⟩ t xs l:=by
 cases l with
 | nil=>exact hr
 | st b=>exact hr
 | mp b=>
  obtain⟨h1,es,ck,h2,h3,h4⟩:=hr
  refine⟨h1,es,ck,h2,h3,fun i y hi=>?_⟩
  obtain⟨e,a1,a2,a3⟩:=h4 i y hi
  exact⟨e,a1,a2,pO f a3⟩
 | arr blk off len cap sz=>
  obtain⟨h0,h1,h2,h3,c,T,h4,h5,h6⟩:=hr
  refine⟨h0,h1,h2,h3,c,T,h4,h5,fun i y hi=>?_⟩
  obtain⟨es,he,hp⟩:=h6 i y hi
  exact⟨es,he,pO f hp⟩
theorem vS {h:Array Obj} {ok ok' :Nat→Ty→Prop} :∀{m:M} {ho:Option Nat} {x:m.den} {cs:List Value} {O:List Nat},(∀b u,ok b u→m.occ u=true→ok' b u)→gI h ok m ho x cs O→gI h ok' m ho x cs O
 | .dat t,_,_,_,_,f,hr=>⟨pO f hr.1,hr.2⟩
 | .unit,_,_,_,_,_,hr=>hr
 | .pair a b,_,_,_,_,f,⟨c,d,O1,O2,e,eo,h1,h2⟩=>⟨c,d,O1,O2,e,eo,vS (fun b u h k=>f b u h (by simp[M.occ,k])) h1,vS (fun b u h k=>f b u h (by simp[M.occ,k])) h2⟩
 | .box m,_,_,_,_,f,⟨blk,arr,T,O',e,hh,hr,eo⟩=>⟨blk,arr,T,O',e,hh,vS f hr,eo⟩
 | .own t,ho,_,_,_,f,⟨v,e,h1,ha⟩=>by
  refine⟨v,e,h1,?_⟩
  split at ha
  ·exact ha
  ·obtain⟨l,hv,ha,hO⟩:=ha
   exact⟨l,hv,PZ f ha,hO⟩
 | .owns m,ho,_,_,_,f,⟨v,e,h1,ha⟩=>by
  refine⟨v,e,h1,?_⟩
  split at ha
  ·exact ha
  ·obtain⟨he,l,Os,hv,ha,hO⟩:=ha
   exact⟨he,l,Os,hv,wz (fun _ _=>rfl) (fun i x es O _ hr=>vS f hr) ha,hO⟩
 | .ownb t,_,_,_,_,f,⟨l,v,e,hv,ha,hO⟩=>⟨l,v,e,hv,PZ f ha,hO⟩
 | .rp t,_,_,_,_,f,⟨v,e,⟨b,o,es,hv,hb,hc,hp⟩,h2⟩=>⟨v,e,⟨b,o,es,hv,f _ _ hb (by simp[M.occ]),hc,pO (fun b u h k=>f b u h (by simp[M.occ,k])) hp⟩,h2⟩
 | .fn g ts,_,_,_,_,f,⟨vs,e,h1,h2⟩=>⟨vs,e,Lr f h1,h2⟩
 | .ifc t m,_,_,_,_,f,⟨u,e,h1⟩=>⟨u,e,vS f h1⟩
 | .cell _,_,_,_,_,_,h=>h
theorem Ot {h:Array Obj} {ok ok' :Nat→Ty→Prop} :∀{ms:List MG} {x:aK ms} {vs:List Value} {O:List Nat},(∀b u,ok b u→Bd u ms=true→ok' b u)→kS h ok ms x vs O→kS h ok' ms x vs O
 | [],_,_,_,_,e=>e
 | [m],_,_,_,f,⟨v,cs,e,hg,hr⟩=>⟨v,cs,e,hg,vS (fun b u h k=>f b u h (by simp[Bd,k])) hr⟩
 | m::m' ::r,_,_,_,f,⟨v,cs,vs',O1,O2,e,eo,hg,h1,h2⟩=>
  ⟨v,cs,vs',O1,O2,e,eo,hg,vS (fun b u h k=>f b u h (by simp[Bd,k])) h1,Ot (fun b u h k=>f b u h (by rw[Bd,k];simp)) h2⟩
theorem FN {u:Ty} :∀{a b:List MG},Bd u (a++b)=(Bd u a || Bd u b)
 | [],_=>rfl
 | m::a,b=>by simp[Bd,FN,Bool.or_assoc]
theorem QU:∀{fs:List (Nat×FSpec)} {f:Nat} {vs:List V} {s:FSpec},VP fs f vs=some s→(f,s)∈fs
 | [],_,_,_,h=>by simp[VP]at h
 | (g,s')::r,f,vs,s,h=>by
  unfold VP at h
  cases hb:(Nat.beq g f&&HY s'.ps vs)
  ·rw[hb]at h;exact List.mem_cons_of_mem _ (QU h)
  ·rw[hb]at h
   simp only[cond_true,Option.some.injEq]at h
   subst h
   simp only[Bool.and_eq_true]at hb
   have:=aV hb.1
   subst this
   exact List.mem_cons_self
theorem a9h {l l0:Loc} {v:Value} (h:l.view none v) (h0:l0.view none v) (hs:∀b o n c s b' o' n' c' s',l= .arr b o n c s→l0= .arr b' o' n' c' s' →s=s'):l=l0:=by
 cases l <;> cases l0 <;> simp only[Loc.view]at h h0
 ·rfl
 ·rw[h]at h0;cases h0
 ·rw[h]at h0;cases h0
 ·rw[h]at h0;cases h0
 ·rw[h]at h0
  simp only[Value.slice.injEq,Option.some.injEq,Addr.mk.injEq,and_true]at h0
  obtain⟨⟨rfl,rfl⟩,rfl,rfl⟩:=h0
  have:=hs _ _ _ _ _ _ _ _ _ _ rfl rfl
  subst this
  rfl
 ·rw[h]at h0;cases h0
 ·rw[h]at h0;cases h0
 ·rw[h]at h0;cases h0
 ·rw[h]at h0;cases h0;rfl
theorem DN {h:Array Obj} {ok:Nat→Ty→Prop} :∀{ms:List MG} {x:aK ms} {vs:List Value} {O:List Nat},kS h ok ms x vs O→vs.length=ms.length
 | [],_,_,_,e=>by simp[e.1]
 | [m],_,_,_,⟨v,cs,e,hg,hr⟩=>by simp[e]
 | m::m' ::r,_,_,_,⟨v,cs,vs',O1,O2,e,eo,hg,h1,h2⟩=>by
  have:=DN h2
  subst e;simp[this]
section
variable {X:Fx} {cl ch:Nat} {S:Sm} {m:Mp} {ok:Nat→Ty→Prop} {a:Act} {w:World} {o:Oper}
theorem X9 {α:Type} {Q:α→Sm→Prop} {h0:Array Obj} {ok0:Nat→Ty→Prop} {m0:Mp} :∀(ms:List MG) {vs:List V} {vals:List Value} {ws:List V} {os:List Value} {B:List Nat} {K:Cmd α} {S:Sm}
  (R:Rel X cl ch S m ok a w) (hm:∀k l,m0 k=some l→m k=some l) (hT:Tk X S m ok w B) (hv:aY ⟨h0,ok0,m0⟩ vs vals) (ho:pV w.heap ms vals os B) (hw:aY ⟨w.heap,ok,m⟩ ws os)
  (hK:∀S',Rel X cl ch S' m ok a w→K.post S' Q),(V6 ms vs ws K).post S Q
 | [],vs,vals,ws,os,B,K,S,R,hm,hT,hv,ho,hw,hK=>by
  cases vs with
  | cons _ _=>unfold V6;trivial
  | nil=>
   cases ws with
   | cons _ _=>unfold V6;trivial
   | nil=>unfold V6;exact hK S R
 | (g,.dat t)::ms,vs,vals,ws,os,B,K,S,R,hm,hT,hv,ho,hw,hK=>by
  cases vs with
  | nil=>unfold V6;trivial
  | cons v vs=>
   obtain⟨x,r,rfl,h1,h2⟩:=hv
   unfold V6
   exact X9 ms R hm hT h2 ho hw hK
 | (g,.own t)::ms,vs,vals,ws,os,B,K,S,R,hm,hT,hv,ho,hw,hK=>by
  cases vs with
  | nil=>unfold V6;trivial
  | cons v vs=>
   obtain⟨x,r,rfl,h1,h2⟩:=hv
   unfold V6
   exact X9 ms R hm hT h2 ho hw hK
 | (g,.pair p q)::ms,vs,vals,ws,os,B,K,S,R,hm,hT,hv,ho,hw,hK=>by
  cases vs with
  | nil=>unfold V6;trivial
  | cons v vs=>
   obtain⟨x,r,rfl,h1,h2⟩:=hv
   unfold V6
   exact X9 ms R hm hT h2 ho hw hK
 | (g,.unit)::ms,vs,vals,ws,os,B,K,S,R,hm,hT,hv,ho,hw,hK=>by
  cases vs with
  | nil=>unfold V6;trivial
  | cons v vs=>
   obtain⟨x,r,rfl,h1,h2⟩:=hv
   unfold V6
   exact X9 ms R hm hT h2 ho hw hK
 | (g,.cell _)::ms,vs,vals,ws,os,B,K,S,R,hm,hT,hv,ho,hw,hK=>by
  cases vs with
  | nil=>unfold V6;trivial
  | cons v vs=>
   obtain⟨x,r,rfl,h1,h2⟩:=hv
   unfold V6
   exact X9 ms R hm hT h2 ho hw hK
 | (g,.box md)::ms,vs,vals,ws,os,B,K,S,R,hm,hT,hv,ho,hw,hK=>by
  cases vs with
  | nil=>unfold V6;trivial
  | cons v0 vs=>
  cases v0 <;> try (unfold V6;trivial)
  case ptr bx off=>
  cases ws with
  | nil=>unfold V6;trivial
  | cons o0 ws=>
  cases o0 <;> try (unfold V6;trivial)
  case agg cs=>
   unfold V6
   refine ae ?_
   split <;> try trivial
   rename_i hS
   refine dX ?_
   obtain⟨x,r,rfl,h1,h2⟩:=hv
   obtain⟨y,r',rfl,h3,h4⟩:=hw
   obtain⟨b,arr,T,os',B',e1,hh,e2,rfl,ho'⟩:=ho
   simp only[List.cons.injEq]at e2
   obtain⟨rfl,rfl⟩:=e2
   obtain⟨blk,hmb,e3⟩:=h1
   subst e1
   simp only[Value.pointer.injEq,Option.some.injEq,Addr.mk.injEq,and_true]at e3
   obtain⟨rfl,rfl⟩:=e3
   obtain⟨arr',e4,hl⟩:=h3
   simp only[Value.agg.injEq]at e4
   subst e4
   have hmb' :=hm _ _ hmb
   obtain⟨R',T'⟩:=R.backV (n:=bx) (v:=.bcells cs) (O1:=[b]) (B:=B') (by simp) (by simpa using hT) (by simp[J9,hmb']) ⟨b,_,T,hmb',hh,hl⟩
   exact X9 ms R' hm T' h2 ho' h4 hK
 | (g,.ifc t (.box md))::ms,vs,vals,ws,os,B,K,S,R,hm,hT,hv,ho,hw,hK=>by
  cases vs with
  | nil=>unfold V6;trivial
  | cons v0 vs=>
  cases v0 <;> try (unfold V6;trivial)
  case ifc t' v1=>
  cases v1 <;> try (unfold V6;trivial)
  case ptr bx off=>
  cases ws with
  | nil=>unfold V6;trivial
  | cons o0 ws=>
  cases o0 <;> try (unfold V6;trivial)
  case agg cs=>
   unfold V6
   refine ae ?_
   split <;> try trivial
   rename_i hS
   refine dX ?_
   obtain⟨x,r,rfl,h1,h2⟩:=hv
   obtain⟨y,r',rfl,h3,h4⟩:=hw
   obtain⟨t2,b,arr,T,os',B',e1,hh,e2,rfl,ho'⟩:=ho
   simp only[List.cons.injEq]at e2
   obtain⟨rfl,rfl⟩:=e2
   obtain⟨u,e5,_,h1⟩:=h1
   obtain⟨blk,hmb,e3⟩:=h1
   subst e1;subst e3
   simp only[Value.iface.injEq,Value.pointer.injEq,Option.some.injEq,Addr.mk.injEq,and_true]at e5
   obtain⟨rfl,rfl,rfl⟩:=e5
   obtain⟨arr',e4,hl⟩:=h3
   simp only[Value.agg.injEq]at e4
   subst e4
   have hmb' :=hm _ _ hmb
   obtain⟨R',T'⟩:=R.backV (n:=bx) (v:=.bcells cs) (O1:=[b]) (B:=B') (by simp) (by simpa using hT) (by simp[J9,hmb']) ⟨b,_,T,hmb',hh,hl⟩
   exact X9 ms R' hm T' h2 ho' h4 hK
 | (g,.ownb t)::ms,vs,vals,ws,os,B,K,S,R,hm,hT,hv,ho,hw,hK=>by
  cases vs with
  | nil=>unfold V6;trivial
  | cons v0 vs=>
  obtain⟨x,r,rfl,h1,h2⟩:=hv
  obtain⟨os',rfl,ho'⟩:=ho
  cases v0 <;> try (unfold V6;trivial)
  case nl=>
   cases ws with
   | nil=>unfold V6;trivial
   | cons o0 ws=>
   cases o0 <;> try (unfold V6;trivial)
   case own nm vw=>
   cases vw with
   | some _=>unfold V6;trivial
   | none=>
   unfold V6
   obtain⟨y,r',e,h3,h4⟩:=hw
   simp only[List.cons.injEq]at e
   obtain⟨rfl,rfl⟩:=e
   refine dX ?_
   have T1:=Tk.kill R hT nm (bs:=[]) (fun b h=>by cases h) List.nodup_nil
   rw[List.append_nil]at T1
   exact X9 ms (R.kill nm) hm T1 h2 ho' h4 hK
  case own bx vw=>
   cases vw with
   | some _=>unfold V6;trivial
   | none=>
   cases ws with
   | nil=>unfold V6;trivial
   | cons o0 ws=>
   cases o0 <;> try (unfold V6;trivial)
   case own nm vw=>
   cases vw with
   | some _=>unfold V6;trivial
   | none=>
   unfold V6
   obtain⟨y,r',e,h3,h4⟩:=hw
   simp only[List.cons.injEq]at e
   obtain⟨rfl,rfl⟩:=e
   obtain⟨l0,hm0,hv0⟩:=h1
   obtain⟨l,hml,hvl⟩:=h3
   have hm0' :=hm _ _ hm0
   refine ae ?_
   split <;> try trivial
   rename_i u xs hS
   refine dX (ae ?_)
   split <;> try trivial
   rename_i t' hS2
   refine aA fun e=>?_
   subst e
   refine dX ?_
   obtain⟨l',hml',ha⟩:=R.own_arr hS
   simp only at hml
   rw[hml]at hml';cases hml'
   have R1:=R.kill nm
   have hob:J9 m nm (S (BOX+nm))=l.blks:=by
    rw[hS];cases l <;> first | (simp[J9,hml,Loc.blks];done) | cases ha
   have T1:=Tk.kill R hT nm (bs:=l.blks) (fun b h=>by rw[hob];exact h) (Loc.blks_nodup l)
   have hg:=R1.box bx
   rw[hS2]at hg
   obtain⟨l1,hm1,hsz⟩:=hg
   simp only at hm1
   rw[hm0']at hm1;cases hm1
   have hll:l=l0:=a9h hvl hv0 (fun b o n c s b' o' n' c' s' e1 e2=>by subst e1;rw[hsz _ _ _ _ _ e2];exact ha.2.1)
   subst hll
   obtain⟨R',T'⟩:=R1.backV (n:=bx) (v:=.barr u xs) (O1:=l.blks) (B:=B) (by simp) (T1.perm List.perm_append_comm) (by cases l <;> first | (simp[J9,hm0',Loc.blks];done) | cases ha) ⟨l,hm0',ha⟩
   exact X9 ms R' hm T' h2 ho' h4 hK
 | (g,.owns md)::ms,vs,vals,ws,os,B,K,S,R,hm,hT,hv,ho,hw,hK=>by
  cases vs with
  | nil=>unfold V6;trivial
  | cons v vs=>
   obtain⟨x,r,rfl,h1,h2⟩:=hv
   unfold V6
   exact X9 ms R hm hT h2 ho hw hK
 | (g,.rp t)::ms,vs,vals,ws,os,B,K,S,R,hm,hT,hv,ho,hw,hK=>by
  cases vs with
  | nil=>unfold V6;trivial
  | cons v vs=>
   obtain⟨x,r,rfl,h1,h2⟩:=hv
   unfold V6
   exact X9 ms R hm hT h2 ho hw hK
 | (g,.fn f ts)::ms,vs,vals,ws,os,B,K,S,R,hm,hT,hv,ho,hw,hK=>by
  cases vs with
  | nil=>unfold V6;trivial
  | cons v vs=>
   obtain⟨x,r,rfl,h1,h2⟩:=hv
   unfold V6
   exact X9 ms R hm hT h2 ho hw hK
 | (g,.ifc t (.dat u))::ms,vs,vals,ws,os,B,K,S,R,hm,hT,hv,ho,hw,hK=>by
  cases vs with
  | nil=>unfold V6;trivial
  | cons v vs=>
   obtain⟨x,r,rfl,h1,h2⟩:=hv
   unfold V6
   exact X9 ms R hm hT h2 ho hw hK
 | (g,.ifc t (.own u))::ms,vs,vals,ws,os,B,K,S,R,hm,hT,hv,ho,hw,hK=>by
  cases vs with
  | nil=>unfold V6;trivial
  | cons v vs=>
   obtain⟨x,r,rfl,h1,h2⟩:=hv
   unfold V6
   exact X9 ms R hm hT h2 ho hw hK
 | (g,.ifc t (.pair p q))::ms,vs,vals,ws,os,B,K,S,R,hm,hT,hv,ho,hw,hK=>by
  cases vs with
  | nil=>unfold V6;trivial
  | cons v vs=>
   obtain⟨x,r,rfl,h1,h2⟩:=hv
   unfold V6
   exact X9 ms R hm hT h2 ho hw hK
 | (g,.ifc t (.unit))::ms,vs,vals,ws,os,B,K,S,R,hm,hT,hv,ho,hw,hK=>by
  cases vs with
  | nil=>unfold V6;trivial
  | cons v vs=>
   obtain⟨x,r,rfl,h1,h2⟩:=hv
   unfold V6
   exact X9 ms R hm hT h2 ho hw hK
 | (g,.ifc t (.cell _))::ms,vs,vals,ws,os,B,K,S,R,hm,hT,hv,ho,hw,hK=>by
  cases vs with
  | nil=>unfold V6;trivial
  | cons v vs=>
   obtain⟨x,r,rfl,h1,h2⟩:=hv
   unfold V6
   exact X9 ms R hm hT h2 ho hw hK
 | (g,.ifc t (.owns md))::ms,vs,vals,ws,os,B,K,S,R,hm,hT,hv,ho,hw,hK=>by
  cases vs with
  | nil=>unfold V6;trivial
  | cons v vs=>
   obtain⟨x,r,rfl,h1,h2⟩:=hv
   unfold V6
   exact X9 ms R hm hT h2 ho hw hK
 | (g,.ifc t (.ownb u))::ms,vs,vals,ws,os,B,K,S,R,hm,hT,hv,ho,hw,hK=>by
  cases vs with
  | nil=>unfold V6;trivial
  | cons v vs=>
   obtain⟨x,r,rfl,h1,h2⟩:=hv
   unfold V6
   exact X9 ms R hm hT h2 ho hw hK
 | (g,.ifc t (.rp u))::ms,vs,vals,ws,os,B,K,S,R,hm,hT,hv,ho,hw,hK=>by
  cases vs with
  | nil=>unfold V6;trivial
  | cons v vs=>
   obtain⟨x,r,rfl,h1,h2⟩:=hv
   unfold V6
   exact X9 ms R hm hT h2 ho hw hK
 | (g,.ifc t (.fn f ts))::ms,vs,vals,ws,os,B,K,S,R,hm,hT,hv,ho,hw,hK=>by
  cases vs with
  | nil=>unfold V6;trivial
  | cons v vs=>
   obtain⟨x,r,rfl,h1,h2⟩:=hv
   unfold V6
   exact X9 ms R hm hT h2 ho hw hK
 | (g,.ifc t (.ifc t2 md))::ms,vs,vals,ws,os,B,K,S,R,hm,hT,hv,ho,hw,hK=>by
  cases vs with
  | nil=>unfold V6;trivial
  | cons v vs=>
   obtain⟨x,r,rfl,h1,h2⟩:=hv
   unfold V6
   exact X9 ms R hm hT h2 ho hw hK
theorem zi {P:Program} {w:World} {f:FuncId} {fn:Func} (hf:P.funcs[f]? =some fn) (hb:fn.body.isSome=true) (hn:(fn.name== "runtime.NumGoroutine")=false) (args:Array Value):
  (callFunc f args).run P w= .ok (.enter f args) w:=by
 have hb' :¬fn.body=none:=by intro e;rw[e]at hb;cases hb
 have hn' :¬fn.name= "runtime.NumGoroutine":=by intro e;rw[e]at hn;simp at hn
 simp[callFunc,hf,hn',hb']
theorem a1n (H:FxOk X) {q:Nat} (R:Rel X (CB*q) (CB*q+CB) S m ok a w) {h0:Array Obj} {ok0:Nat→Ty→Prop} {s:FSpec} {vs:List V} {vals:List Value} {r:aK (s.rs++s.outs)} {rs os:List Value} {O' B:List Nat} {v:Value}
  (hT:Tk X S m ok w (O' ++B)) (hv:aY ⟨h0,ok0,m⟩ vs vals) (hret:WX s.rs.length v rs) (ho:pV w.heap s.ps vals os B) (hr:kS w.heap ok (s.rs++s.outs) r (rs++os) O') {Q:Unit→Sm→Prop}
  (hK:∀S' m',Rel X (CB*q) (CB*q+CB) S' m' ok (a.put o.dst v) w→(∀k l,m k=some l→m' k=some l)→Q () S'):
  (Dy (s.rs++s.outs) r (H5 q o.dst) fun ws n' =>bif Nat.ble n' (H5 q o.dst+64)then(match zl s.rs.length ws with
    | some (a,o')=>bif xu a then .fail else V6 s.ps vs o' (Z9 X.E o.dst (a8z a))
    | none=> .fail)else .fail).post S Q:=by
 have hcl:CB*q≤H5 q o.dst:=by
  cases o.dst with
  | none=>exact Nat.le_add_right _ _
  | some t=>exact Nat.le_add_right _ _
 refine yG (T:=B) _ R hcl hT hr fun S1 m1 ws n1 ch1 R1 c1 T1 k1 s1 l1 e1=>Y4 fun hle=>?_
 have hle' :=Nat.le_of_ble_eq_true hle
 split <;> try trivial
 rename_i p p' hsp
 obtain⟨rfl,hpl⟩:=Rk _ _ _ _ hsp
 obtain⟨l2,l3⟩:=JG (by rw[hpl,hret.1]) l1
 cases ht:xu p
 ·simp only[cond_false]
  refine X9 s.ps R1 k1 T1 hv ho l3 fun S2 R2=>?_
  have hres:=a5s ht l2 hret
  cases hd:o.dst with
  | none=>
   have hin:=jq H (q:=q) none (fun t h=>by cases h)
   rw[hd]at hle' hK
   exact hK S2 m1 (R2.chmono (by generalize CB*q=Z at*;generalize H5 q none=N at*;omega)) k1
  | some t=>
   unfold Z9
   refine Y4 fun hb=>?_
   have hin:=jq H (q:=q) (some t) (fun t' h=>by cases h;exact(sH hb).1)
   rw[hd]at hle' hK
   have R3:Rel X (CB*q) (CB*q+CB) S2 m1 ok a w:=R2.chmono (by generalize CB*q=Z at*;generalize H5 q (some t)=N at*;omega)
   exact hK _ m1 (R3.put H.ntB hb hres) k1
 ·trivial
theorem ES (H:FxOk X) {q:Nat} (R:Rel X (CB*q) (CB*q+CB) S m ok a w) {f:FuncId} {vs:List V} {vals:List Value} (hvs:aY ⟨w.heap,ok,m⟩ vs vals)
  (run:∀fn,X.P.funcs[f]? =some fn→fn.body.isSome=true→(fn.name== "runtime.NumGoroutine")=false→(execOp a.eval o).run X.P w= .ok (.enter f vals.toArray) w):
  (Qd X.E q o.dst f vs).post S (fun _ S' =>bM X (CB*q) (CB*q+CB) o a w m ok S'):=by
 unfold Qd
 split
 ·trivial
 rename_i s hs
 have hmem:=QU hs
 have hF:=H.fs _ hmem
 obtain⟨fn,hf,hb,hnm⟩:=H.fn _ hmem
 have hrun:=run fn hf hb hnm
 refine yL (ln:=Sv s) (T:=[]) s.ps R Tk.nil hvs fun S1 ok1 x O R1 T1 k1 s1 hrel=>ay fun r hr=>?_
 simp only[List.nil_append]at T1
 generalize hokc:okL (Sv s) S1 m ok1=okc at hrel
 have c1:∀b t,ok1 b t→okc b t:=fun b t h=>by rw[←hokc];exact .inl h
 have hsep1:∀b t,ok1 b t→∀n,b∉J9 m n (S1 (BOX+n)):=fun b t h n e=>(R1.sep n b e).1 t h
 have hlt:∀b t,okc b t→b<w.heap.size:=fun b t h=>by
  rw[←hokc]at h
  rcases h with h | ⟨_,n,h,_⟩
  ·exact R1.okLt b t h
  ·exact(R1.sep n b h).2.1
 have hfree:∀b∈O,(∀t,¬okc b t)∧b<w.heap.size:=fun b hb=>by
  obtain⟨f1,f2,f3,f4⟩:=T1.free b hb
  refine⟨fun t h=>?_,f2⟩
  rw[←hokc]at h
  rcases h with h | ⟨_,n,h,_⟩
  ·exact f1 t h
  ·exact f4 n h
 have hC:=hF w okc O _ x r hlt T1.nodup hfree (fun g u hg=>by
  obtain⟨g1,g3,g2⟩:=R1.gl g u hg
  refine⟨c1 _ _ g1,g3,fun i y hi=>?_⟩
  obtain⟨es,he,hr⟩:=g2 i y hi
  exact⟨es,he,Y0 c1 (fun _ _ _=>rfl) hr⟩) hrel hr
 have hown:∀b,(w.heap.size≤b∨b∈O)→(X.w0.heap.size≤b∨b∈X.O)∧∀n,b∉J9 m n (S1 (BOX+n)):=fun b hb=>by
  rcases hb with hb | hb
  ·have:=R1.frame.size
   exact⟨.inl (by omega),fun n e=>by have:=(R1.sep n b e).2.1;omega⟩
  ·exact(T1.free b hb).2.2
 revert hC
 generalize hPost:(fun(e:Ending) (w' :World)=>∃v ok' O' rs os B,e= .returned v∧Frame' w w' O∧(∀b t,okc b t→ok' b t)∧(∀b t,ok' b t→b<w'.heap.size∧(okc b t∨w.heap.size≤b∨b∈O))∧
  (O' ++B).Nodup∧(∀b∈O' ++B,(∀t,¬ok' b t)∧b<w'.heap.size∧(w.heap.size≤b∨b∈O))∧
  WX s.rs.length v rs∧pV w'.heap s.ps vals os B∧kS w'.heap ok' (s.rs++s.outs) r (rs++os) O')=Post
 intro hC
 have hall:∀p: { p:Ending×World // Post p.1 p.2 },(Dy (s.rs++s.outs) r (H5 q o.dst) fun ws n' =>bif Nat.ble n' (H5 q o.dst+64)then(match zl s.rs.length ws with
   | some (a,o')=>bif xu a then .fail else V6 s.ps vs o' (Z9 X.E o.dst (a8z a))
   | none=> .fail)else .fail).post S1 (fun _ S' =>∃v m' okf,p.1.1= .returned v∧Rel X (CB*q) (CB*q+CB) S' m' okf (a.put o.dst v) p.1.2∧(∀k l,m k=some l→m' k=some l)∧(∀b t,ok b t→okf b t)):=by
  rintro⟨⟨e,w'⟩,hp⟩
  rw[←hPost]at hp
  obtain⟨v,ok',O',rs,os,B,rfl,fr,k2,hok',hnd,hfr,hret,houts,hrel'⟩:=hp
  have k3:∀b t,ok1 b t→(ok' b t∧∀n,b∉J9 m n (S1 (BOX+n))):=fun b t h=>⟨k2 b t (c1 b t h),hsep1 b t h⟩
  have R2:Rel X (CB*q) (CB*q+CB) S1 m (fun b t=>ok' b t∧∀n,b∉J9 m n (S1 (BOX+n))) a w' :=by
   refine R1.world fr.os fr.tape fr.output fr.size (fun b hb h=>fr.block b hb fun hO=>?_) k3 (fun b t h=>⟨(hok' b t h.1).1,?_⟩)
   ·obtain⟨f1,f2,f3,f4⟩:=T1.free b hO
    rcases h with⟨t,h⟩ | ⟨n,h⟩ | h
    ·exact f1 t h
    ·exact f4 n h
    ·exact h f3
   ·rcases(hok' b t h.1).2 with h' | h'
    ·rw[←hokc]at h'
     rcases h' with h' | ⟨_,n,h',_⟩
     ·exact .inl h'
     ·exact absurd h' (h.2 n)
    ·exact .inr (hown b h')
  have hrel2:kS w'.heap (fun b t=>ok' b t∧∀n,b∉J9 m n (S1 (BOX+n))) (s.rs++s.outs) r (rs++os) O' :=by
   refine Ot (fun b u h k=>⟨h,fun n e=>?_⟩) hrel'
   rcases(hok' b u h).2 with h' | h'
   ·rw[←hokc]at h'
    rcases h' with h' | ⟨hl,_⟩
    ·exact hsep1 b u h' n e
    ·rw[FN]at k
     unfold Sv at hl
     rw[k]at hl
     cases hl
   ·exact(hown b h').2 n e
  refine a1n H R2 (h0:=w.heap) (ok0:=ok) (vals:=vals) (rs:=rs) (os:=os) (O' :=O') (B:=B) (v:=v) ⟨hnd,fun b hb=>?_⟩ hvs hret houts hrel2 fun S' m' R' km=>⟨v,m',_,rfl,R',km,fun b t hb=>k3 b t (k1 b t hb)⟩
  obtain⟨g1,g2,g3⟩:=hfr b hb
  obtain⟨f2,f3⟩:=hown b g3
  exact⟨fun t h=>g1 t h.1,g2,f2,f3⟩
 refine sK ?_ (xY hall)
 intro _ S' hS' next Q hn
 unfold Oper.wp
 rw[hrun,Oper.upon_enter]
 refine Calls.mono hC fun e w' hp=>?_
 obtain⟨v,m',okf,he,R',km,kok⟩:=hS' ⟨(e,w'),hp⟩
 simp only at he;subst he
 exact hn m' okf _ w' R' km kok
theorem a8p (H:FxOk X) {q:Nat} (R:Rel X (CB*q) (CB*q+CB) S m ok a w) {c:Call} {f:FuncId} (ho:o.op= .call c) (hc:c.callee= .value (.func f)):(V7 X.E q o).post S (fun _ S' =>bM X (CB*q) (CB*q+CB) o a w m ok S'):=by
 obtain⟨cal,args,ats⟩:=c
 simp only at hc;subst hc
 unfold V7
 simp only[ho]
 refine fZ R _ fun vs hvs=>ES H R hvs fun fn hf hb hnm=>?_
 have:=zi (P:=X.P) (w:=w) hf hb hnm (args.map a.eval)
 have e:args.map a.eval=(args.toList.map a.eval).toArray:=by apply Array.ext';simp
 rw[e]at this
 simp[execOp,ho,resolve,Deferred.ofValue,Act.eval,invoke,e,this]
theorem yZ {C:Cx} :∀{a b:List V} {xs ys:List Value},aY C a xs→aY C b ys→aY C (a++b) (xs++ys)
 | [],_,_,_,h,k=>by simp only[aY]at h;subst h;exact k
 | c::a,b,_,_,⟨v,r,e,h1,h2⟩,k=>by subst e;exact⟨v,r++_,rfl,h1,yZ h2 k⟩
theorem Ou {C:Cx} :∀{caps:List ((t:Ty)×t.den)} {vs:List Value},uU C.h C.ok caps vs→aY C (caps.map b7s) vs
 | [],_,h=>h
 | c::cs,_,⟨v,r,e,h1,h2⟩=>⟨v,r,e,h1,Ou h2⟩
theorem a4A (H:FxOk X) {q:Nat} (R:Rel X (CB*q) (CB*q+CB) S m ok a w) {c:Call} {x:Operand} (ho:o.op= .call c) (hc:c.callee= .value x) (hx:∀f,x≠.func f):(V7 X.E q o).post S (fun _ S' =>bM X (CB*q) (CB*q+CB) o a w m ok S'):=by
 obtain⟨cal,args,ats⟩:=c
 simp only at hc;subst hc
 unfold V7
 simp only[ho]
 refine fZ R _ fun vs hvs=>?_
 refine O7 R fun u hu=>?_
 split <;> try trivial
 rename_i f caps
 obtain⟨cs,hv,hcaps⟩:=hu
 refine ES H R (yZ hvs (Ou hcaps)) fun fn hf hb hnm=>?_
 have:=zi (P:=X.P) (w:=w) hf hb hnm (args.map a.eval++cs)
 have e:args.map a.eval++cs=(args.toList.map a.eval++cs.toList).toArray:=by apply Array.ext';simp
 rw[e]at this
 simp[execOp,ho,resolve,Deferred.ofValue,hv,invoke,e,this]
theorem Eo:∀{l:List ((Nat×String)×Nat×Option Nat)} {t:Nat} {n:String} {r:Nat×Option Nat},NE l t n=some r→((t,n),r)∈l
 | [],_,_,_,h=>by simp[NE]at h
 | ((u,k),r')::l,t,n,r,h=>by
  unfold NE at h
  cases hb:(Nat.beq u t&&(k==n)) <;> rw[hb]at h
  ·exact List.mem_cons_of_mem _ (Eo h)
  ·simp only[cond_true,Option.some.injEq]at h
   subst h
   simp only[Bool.and_eq_true,beq_iff_eq]at hb
   have:=aV hb.1
   subst this
   rw[hb.2]
   exact List.mem_cons_self
theorem a2c (H:FxOk X) {q:Nat} (R:Rel X (CB*q) (CB*q+CB) S m ok a w) {c:Call} {x:Operand} {n:String} (ho:o.op= .call c) (hc:c.callee= .invoke x n):(V7 X.E q o).post S (fun _ S' =>bM X (CB*q) (CB*q+CB) o a w m ok S'):=by
 obtain⟨cal,args,ats⟩:=c
 simp only at hc;subst hc
 unfold V7
 simp only[ho]
 refine fZ R _ fun vs hvs=>O7 R fun u hu=>?_
 split <;> try trivial
 rename_i t v
 obtain⟨z,hz,hz1,hzv⟩:=hu
 have e2:(#[a.eval x]++args.map a.eval).extract 1 (#[a.eval x]++args.map a.eval).size=args.map a.eval:=by apply Array.ext';simp;exact List.take_of_length_le (Nat.le_of_eq (by rw[List.length_map];rfl))
 have e3:(#[a.eval x]++args.map a.eval)[0]? =some (a.eval x):=by rw[Array.getElem?_append_left (by show 0<1;omega)];rfl
 have e4:(args.map a.eval).extract 0 args.size=args.map a.eval:=by
  have h:args.size=(args.map a.eval).size:=by rw[Array.size_map]
  rw[h,Array.extract_size]
 have fin:∀(f:Nat) (r:Value) (fn:Func),X.P.funcs[f]? =some fn→fn.body.isSome=true→(fn.name== "runtime.NumGoroutine")=false→(method (X.P.types.size+Made.depth) t z n).run X.P w= .ok (f,r) w→
   (execOp a.eval o).run X.P w= .ok (.enter f (r::args.toList.map a.eval).toArray) w:=fun f r fn hf hb hnm hM=>by
  have:=zi (P:=X.P) (w:=w) hf hb hnm (#[r]++args.map a.eval)
  have e:#[r]++args.map a.eval=(r::args.toList.map a.eval).toArray:=by apply Array.ext';simp
  rw[←e]
  simp only[execOp,ho,resolve,Sem.run_bind,Sem.run_pure,Result.andThen_ok,invoke,e3]
  simp[hz,callMethod,hM,e4,this]
 split <;> try trivial
 ·rename_i f hmt
  have hM:=H.ms _ (Eo hmt)
  exact ES H R (vals:=z::args.toList.map a.eval) ⟨z,_,rfl,uD hzv,hvs⟩ fun fn hf hb hnm=>fin f z fn hf hb hnm (hM z w)
 ·rename_i f e0 hmt
  have hM:=H.ms _ (Eo hmt)
  refine yQ H R (uD hzv) fun v' u ad hv' hp hr=>?_
  refine ES H R (vals:=u::args.toList.map a.eval) ⟨u,_,rfl,hv',hvs⟩ fun fn hf hb hnm=>fin f u fn hf hb hnm ?_
  rw[hM z w ad hp,hr];rfl
end
end Go.GP
namespace Go.GP
section
variable {X:Fx} {S:Sm} {m:Mp} {ok:Nat→Ty→Prop} {a:Act} {w:World} {o:Oper}
theorem Lp {α:Type} {Q:α→Sm→Prop} {cl ch:Nat} :∀(ms:List MG) {vs:List V} {xs:List Value} {K:List ((t:Ty)×t.den)→Cmd α} {S:Sm} {ok:Nat→Ty→Prop} (R:Rel X cl ch S m ok a w)
  (hv:aY ⟨w.heap,ok,m⟩ vs xs)
  (hK:∀S' ok' cs,Rel X cl ch S' m ok' a w→(∀b t,ok b t→ok' b t)→uU w.heap ok' cs xs→(K cs).post S' Q),(rH ms vs K).post S Q
 | [],vs,xs,K,S,ok,R,hv,hK=>by
  cases vs with
  | cons _ _=>unfold rH;trivial
  | nil=>unfold rH;exact hK S ok [] R (fun _ _ h=>h) hv
 | (g,.rp t)::ms,vs,xs,K,S,ok,R,hv,hK=>by
  cases vs with
  | nil=>unfold rH;trivial
  | cons v vs=>
   obtain⟨x,r,rfl,h1,h2⟩:=hv
   unfold rH
   have key:oN ⟨w.heap,ok,m⟩ v x→(rpC t v fun x=>rH ms vs fun cs=>K (⟨t,x⟩::cs)).post S Q:=fun h1=>by
    refine Wp (T:=[]) t R Tk.nil h1 fun S1 ok1 y R1 T1 k1 s1 d1=>?_
    refine Lp ms R1 (Bl k1 h2) fun S2 ok2 cs R2 k2 d2=>?_
    exact hK S2 ok2 _ R2 (fun b t h=>k2 b t (k1 b t h)) ⟨x,r,rfl,Ci k2 (fun _ _ _=>rfl) d1,d2⟩
   cases v <;> first | exact key h1 | (unfold rpC;trivial)
 | (g,.dat t)::ms,vs,xs,K,S,ok,R,hv,hK=>by cases vs <;> (unfold rH;trivial)
 | (g,.own t)::ms,vs,xs,K,S,ok,R,hv,hK=>by cases vs <;> (unfold rH;trivial)
 | (g,.pair p q)::ms,vs,xs,K,S,ok,R,hv,hK=>by cases vs <;> (unfold rH;trivial)
 | (g,.unit)::ms,vs,xs,K,S,ok,R,hv,hK=>by cases vs <;> (unfold rH;trivial)
 | (g,.cell _)::ms,vs,xs,K,S,ok,R,hv,hK=>by cases vs <;> (unfold rH;trivial)
 | (g,.box p)::ms,vs,xs,K,S,ok,R,hv,hK=>by cases vs <;> (unfold rH;trivial)
 | (g,.owns p)::ms,vs,xs,K,S,ok,R,hv,hK=>by cases vs <;> (unfold rH;trivial)
 | (g,.ownb p)::ms,vs,xs,K,S,ok,R,hv,hK=>by cases vs <;> (unfold rH;trivial)
 | (g,.fn f ts)::ms,vs,xs,K,S,ok,R,hv,hK=>by cases vs <;> (unfold rH;trivial)
 | (g,.ifc t p)::ms,vs,xs,K,S,ok,R,hv,hK=>by cases vs <;> (unfold rH;trivial)
theorem VK (H:FxOk X) {q:Nat} (R:Rel X (CB*q) (CB*q+CB) S m ok a w) {f:FuncId} {first caps:Array Operand} (ho:o.op= .makeFunc (.func f) first caps):(V7 X.E q o).post S (fun _ S' =>bM X (CB*q) (CB*q+CB) o a w m ok S'):=by
 unfold V7
 simp only[ho]
 refine az fun hb=>?_
 have hb' :=aV hb
 have hf:first=#[]:=by simpa using hb'
 split <;> try trivial
 refine fZ R _ fun vs hvs=>Lp _ R hvs fun S' ok' cs R' k hc=>?_
 refine oC H R' (fun _ _ h=>h) k (v:=.clos f cs) (x:=.func (.func f) #[] (caps.map a.eval)) ⟨caps.map a.eval,rfl,by simpa using hc⟩ ?_
 simp[execOp,ho,Instr.makeFunc,hf]
theorem Iw (H:FxOk X) {q:Nat} (R:Rel X (CB*q) (CB*q+CB) S m ok a w) {t:TypeId} {x:Operand} (ho:o.op= .makeInterface t x):(V7 X.E q o).post S (fun _ S' =>bM X (CB*q) (CB*q+CB) o a w m ok S'):=by
 unfold V7
 simp only[ho]
 refine ji H fun i hi=>?_
 have htd:=hi.td
 have key:∀d,X.P.underlying t=some d→(∀ms,d≠.interface ms)→(iO x fun v=>(match v with
   | .b .. | .i .. | .s .. | .ptr ..=>Z9 X.E o.dst (.ifc t v)
   | _=> .fail:Cmd Unit)).post S (fun _ S' =>bM X (CB*q) (CB*q+CB) o a w m ok S'):=fun d hd hne=>by
  refine O7 R fun v hv=>?_
  have run:(execOp a.eval o).run X.P w= .ok (.value (.iface t (a.eval x))) w:=by
   simp only[execOp,ho,Instr.makeInterface,Sem.run_bind,run_underlying hd,Result.andThen_ok]
   cases d <;> first | rfl | exact absurd rfl (hne _)
  cases v <;> try trivial
  case b y=>exact O9 H R (v:=.ifc t (.b y)) ⟨_,rfl,by rw[IG hv];rfl,hv⟩ run
  case i k n=>exact O9 H R (v:=.ifc t (.i k n)) ⟨_,rfl,by rw[kE hv];rfl,hv⟩ run
  case s l=>exact O9 H R (v:=.ifc t (.s l)) ⟨_,rfl,by rw[ED hv];rfl,hv⟩ run
  case ptr bx off=>
   obtain⟨blk,h1,h2⟩:=hv
   exact O9 H R (v:=.ifc t (.ptr bx off)) ⟨_,rfl,by rw[h2];rfl,⟨blk,h1,h2⟩⟩ run
 cases htd' :i.td <;> rw[htd']at htd <;> try trivial
 all_goals exact key _ htd (fun _ e=>by cases e)
theorem PI (H:FxOk X) {q:Nat} (R:Rel X (CB*q) (CB*q+CB) S m ok a w) {xt t:TypeId} {x:Operand} {okk:Bool} (ho:o.op= .typeAssert x xt t okk):(V7 X.E q o).post S (fun _ S' =>bM X (CB*q) (CB*q+CB) o a w m ok S'):=by
 unfold V7
 simp only[ho]
 refine ji H fun i hi=>?_
 have htd:=hi.td
 have key:∀d,X.P.underlying t=some d→(∀ms,d≠.interface ms)→(iO x fun v=>(match v with
   | .ifc t' v=>bif Nat.beq t' t then Z9 X.E o.dst (bif okk then .tup [v,.b true]else v)else .fail
   | _=> .fail:Cmd Unit)).post S (fun _ S' =>bM X (CB*q) (CB*q+CB) o a w m ok S'):=fun d hd hne=>by
  refine O7 R fun v hv=>?_
  cases v <;> try trivial
  case ifc t' c=>
  obtain⟨u,hx,h1,hc⟩:=hv
  refine az fun hb=>?_
  have hb' :=aV hb
  subst hb'
  have run:(execOp a.eval o).run X.P w= .ok (.value (if okk then .tuple #[u,.bool true]else u)) w:=by
   simp only[execOp,ho,Instr.typeAssert,Sem.run_bind,run_underlying hd,Result.andThen_ok,hx]
   cases d <;> first | (simp;done) | exact absurd rfl (hne _)
  cases okk
  ·exact O9 H R (uD hc) run
  ·refine O9 H R (v:=.tup [c,.b true]) ⟨_,rfl,⟨_,_,rfl,?_,_,_,rfl,rfl,rfl⟩⟩ run
   cases c <;> first | exact hc | cases hc
 cases htd' :i.td <;> rw[htd']at htd <;> try trivial
 case struct fs=>obtain⟨fields,hu,_⟩:=htd;exact key _ hu (fun _ e=>by cases e)
 all_goals exact key _ htd (fun _ e=>by cases e)
theorem b4i (H:FxOk X) {q:Nat} (R:Rel X (CB*q) (CB*q+CB) S m ok a w) (o:Oper):(V7 X.E q o).post S (fun _ S' =>bM X (CB*q) (CB*q+CB) o a w m ok S'):=by
 have fin:∀{α:Type} {Q:α→Sm→Prop},(Cmd.fail:Cmd α).post S Q:=trivial
 cases ho:o.op
 case move x=>have h:=a0e H R (o:=o) (x:=x) (.inl ho);unfold V7;simp only[ho];exact h
 case assign x=>have h:=a0e H R (o:=o) (x:=x) (.inr ho);unfold V7;simp only[ho];exact h
 case pick c x y=>exact a8r H R ho
 case alloc t=>exact a4x H R ho
 case box t x=>exact b4j H R ho
 case build t ps=>exact a4z H R ho
 case buildSlice t n ps=>exact PH H R ho
 case load t x=>exact a8q H R ho
 case store t x y=>exact a4E H R ho
 case binOp op t x y yt=>exact a4y H R ho
 case unOp op t x=>exact a8s H R ho
 case convert s t x=>exact XY H R ho
 case makeSlice t l c=>exact SV H R ho
 case slice t x lo hi mx=>
  cases mx with
  | none=>exact a4D H R ho
  | some _=>unfold V7;simp only[ho];exact fin
 case fieldAddr t x f=>exact SQ H R ho
 case field t x f=>exact a4B H R ho
 case indexAddr t x ix=>exact SS H R ho
 case index t x ix=>exact a4C H R ho
 case extract x n=>exact XZ H R ho
 case nilCheck x=>exact VL H R ho
 case call c=>
  cases hc:c.callee
  case builtin b=>
   cases b
   case len=>exact b4l H R ho hc
   case append=>exact a1Z H R ho hc
   case min=>exact QR H R ho (.inl hc)
   case max=>exact QR H R ho (.inr hc)
   all_goals
    unfold V7
    simp only[ho]
    exact fZ R _ fun vs hvs=>by simp only[hc];exact fin
  case value f=>
   cases f
   case func f=>exact a8p H R ho hc
   all_goals exact a4A H R ho hc (fun f e=>by cases e)
  case invoke x n=>exact a2c H R ho hc
 case makeFunc f first caps=>
  cases f
  case func f=>exact VK H R ho
  all_goals
   unfold V7
   simp only[ho]
   exact fin
 case makeInterface t x=>exact Iw H R ho
 case typeAssert x xt t ok=>exact PI H R ho
 case makeMap t r=>exact Ya H R ho
 case lookup t x ix ok=>exact a2d H R ho
 case mapUpdate t x ix y=>exact FU H R (.inl ho)
 case insert t x ix y=>exact FU H R (.inr ho)
 all_goals
  unfold V7
  simp only[ho]
  exact fin
def Rz (X:Fx) (cl ch:Nat) (ops:Array Oper) (i:Nat) (a:Act) (w:World) (m:Mp) (ok:Nat→Ty→Prop) (S' :Sm):Prop:=
 ∀(next:Act→World→Prop) (Q:Exit→Act→World→Prop),
  (∀m' ok' a' w',Rel X cl ch S' m' ok' a' w' →(∀k l,m k=some l→m' k=some l)→(∀b t,ok b t→ok' b t)→next a' w')→wpOp X.P ops Q i next a w
theorem OO (H:FxOk X) {cl ch:Nat} (R:Rel X cl ch S m ok a w) {ops:Array Oper} {i:Nat} (hi:ops[i]? =some o) (hw:Region.wanted o (yielded ops a.tmps)=false):
  (Z9 X.E o.dst .un).post S (fun _ S' =>Rz X cl ch ops i a w m ok S'):=by
 have h:∀S',Rel X cl ch S' m ok (a.put o.dst Go.undef) w→Rz X cl ch ops i a w m ok S' :=fun S' R' next Q hn=>by
  unfold wpOp
  simp only[hi,hw,Bool.false_eq_true,if_false]
  exact hn m ok _ w R' (fun _ _ h=>h) (fun _ _ h=>h)
 unfold Z9
 cases hd:o.dst with
 | none=>rw[hd]at h;exact h S R
 | some d=>
  rw[hd]at h
  exact Y4 fun hb=>h _ (R.put H.ntB hb rfl)
theorem Px {tmps:Array Value} {t:Nat} {v:Value} (h:tmps.getD t Go.undef=v) (hv:v≠Go.undef):tmps[t]? =some v:=by
 rw[Array.getD_eq_getD_getElem?]at h
 cases hx:tmps[t]? with
 | none=>rw[hx]at h;exact absurd h.symm hv
 | some x=>rw[hx]at h;simpa using h
theorem a2x (H:FxOk X) {q:Nat} (R:Rel X (CB*q) (CB*q+CB) S m ok a w) {ops:Array Oper} {i:Nat} (hi:ops[i]? =some o):
  (fK X.E q ops.toList o).post S (fun _ S' =>Rz X (CB*q) (CB*q+CB) ops i a w m ok S'):=by
 have yes:Region.wanted o (yielded ops a.tmps)=true→(V7 X.E q o).post S (fun _ S' =>Rz X (CB*q) (CB*q+CB) ops i a w m ok S'):=fun hw=>by
  refine sK ?_ (b4i H R o)
  intro _ S' h next Q hn
  unfold wpOp
  simp only[hi,hw,if_true]
  exact .inl (h next Q hn)
 unfold fK
 cases hg:o.guard with
 | none=>exact yes (by simp[Region.wanted,hg])
 | some p=>
  obtain⟨j,want⟩:=p
  cases hj:ops.toList[j]? with
  | none=>simp only[hj];trivial
  | some p=>
   simp only[hj]
   have hj' :ops[j]? =some p:=by simpa using hj
   cases hd:p.dst with
   | none=>trivial
   | some t=>
    simp only[]
    refine Y4 fun hlt=>ae ?_
    have hsl:=R.slot t (DY hlt)
    have hyd:yielded ops a.tmps j=match a.tmps[t]? with | some (.bool b)=>some b | _=>none:=by
     unfold yielded;rw[hj'];simp only[Option.bind_some,hd];rfl
    split <;> try trivial
    ·rename_i y hS
     rw[hS]at hsl
     have hb:a.tmps.getD t Go.undef= .bool y:=hsl
     have hy:yielded ops a.tmps j=some y:=by
      rw[hyd,Px hb (by simp[Go.undef])]
     have hwt:Region.wanted o (yielded ops a.tmps)=(bif want then y else !y):=by
      unfold Region.wanted
      rw[hg]
      simp only[hy]
      cases want <;> cases y <;> rfl
     cases hc:(bif want then y else !y)
     ·simp only[cond_false]
      exact OO H R hi (hwt.trans hc)
     ·simp only[cond_true]
      exact yes (hwt.trans hc)
    ·rename_i hS
     rw[hS]at hsl
     have hb:a.tmps.getD t Go.undef=Go.undef:=hsl
     have hwt:Region.wanted o (yielded ops a.tmps)=false:=by
      unfold Region.wanted
      rw[hg]
      simp only[hyd]
      rw[Array.getD_eq_getD_getElem?]at hb
      cases hx:a.tmps[t]? with
      | none=>rfl
      | some x=>
       rw[hx]at hb
       simp only[Option.getD_some]at hb
       subst hb;rfl
     exact OO H R hi hwt
end
end Go.GP
namespace Go.GP
def Jf (E:Env) (q:Nat) (all l:List Oper) (S:Nat→Sm) (T:Nat→Tr):Prop:=
 ∀i o,l[i]? =some o→(fK E q all o).eval (S i) ([],[])=some ((),S (i+1),T i)
def a6j (s:Sm) (S:Nat→Sm):Nat→Sm | 0=>s | i+1=>S i
def a6k (t:Tr) (T:Nat→Tr):Nat→Tr | 0=>t | i+1=>T i
theorem Gf {R:Type} {t:Nat} {s:St} {K:St→Option R} {r:R} (h:KJ t s K=some r):∃s0,Y2 s0=Y2 s∧K s0=some r:=by
 unfold KJ at h
 rw[xO]at h
 split at h <;> try (simp at h;done)
 ·rename_i y hy
  have key:∀b:Bool,y=b→Y2 (.kv t (.b b)::s)=Y2 s:=fun b hb=>by
   subst hb
   rw[ZO]
   funext k
   by_cases e:k=t
   ·subst e;simp[hy]
   ·rw[U6 _ _ e]
  cases y
  ·exact⟨_,key false rfl,h⟩
  ·exact⟨_,key true rfl,h⟩
 ·exact⟨s,rfl,h⟩
theorem JK {R:Type} {E:Env} {q:Nat} {all:List Oper} :∀(l:List Oper) {s:St} {t:Trs} {K:St→Trs→Option R} {r:R},EF E q all l s t K=some r→
  ∃s' S T,S 0=Y2 s∧S l.length=Y2 s' ∧Jf E q all l S T∧K s' (((List.range l.length).map T).reverse++t)=some r
 | [],s,t,K,r,h=>⟨s,fun _=>Y2 s,fun _=>([],[]),rfl,rfl,fun i o hi=>by simp at hi,by simpa[EF]using h⟩
 | o::l,s,t,K,r,h=>by
  have key:∀s0,Y2 s0=Y2 s→(fK E q all o).runK s0 ([],[]) (fun _ s' tr=>EF E q all l s' (tr::t) K)=some r→
    ∃s' S T,S 0=Y2 s∧S (o::l).length=Y2 s' ∧Jf E q all (o::l) S T∧K s' (((List.range (o::l).length).map T).reverse++t)=some r:=fun s0 hs0 h=>by
   obtain⟨x,s1,tr,e,hk⟩:=gX h
   obtain⟨s',S,T,h0,h1,h2,h3⟩:=JK l hk
   refine⟨s',a6j (Y2 s) S,a6k tr T,rfl,h1,fun i o' hi=>?_,?_⟩
   ·cases i with
    | zero=>
     simp at hi;subst hi
     show(fK E q all o).eval (Y2 s) ([],[])=some ((),S 0,tr)
     rw[←hs0,e,h0]
    | succ i=>exact h2 i o' (by simpa using hi)
   ·rw[List.length_cons,List.range_succ_eq_map,List.map_cons,List.reverse_cons,List.append_assoc,List.map_map]
    exact h3
  unfold EF at h
  split at h
  ·exact key s rfl h
  ·obtain⟨s0,e,h⟩:=Gf h
   exact key s0 e h
theorem jD {α:Type} (T:Nat→α) (n:Nat):((List.range (n+1)).map T).reverse=T n::((List.range n).map T).reverse:=by
 rw[List.range_succ,List.map_append,List.reverse_append];rfl
theorem qi {a b:List Nat} (h:JY a b=true):∀k∈a,k∉b:=by
 induction a with
 | nil=>intro k hk;cases hk
 | cons x a ih=>
  unfold JY at h
  cases hm:vH x b
  ·simp only[hm,cond_false]at h
   intro k hk hkb
   rcases List.mem_cons.1 hk with rfl | hk
   ·have:∀(l:List Nat),vH k l=false→k∉l:=by
     intro l
     induction l with
     | nil=>intro _ h;cases h
     | cons y l ih=>
      intro hm hk
      unfold vH at hm
      cases hb:Nat.beq y k
      ·simp only[hb,cond_false]at hm
       rcases List.mem_cons.1 hk with rfl | hk
       ·simp at hb
       ·exact ih hm hk
      ·simp[hb]at hm
    exact this b hm hkb
   ·exact ih h k hk hkb
  ·simp[hm]at h
theorem Ny {k:Nat} :∀{l:List Nat},vH k l=true→k∈l
 | [],h=>by simp[vH]at h
 | y::l,h=>by
  unfold vH at h
  cases hb:Nat.beq y k
  ·simp only[hb,cond_false]at h
   exact List.mem_cons_of_mem _ (Ny h)
  ·have:=aV hb
   subst this;simp
def a2H (x y:Tr):Prop:=(∀k∈x.2,k∉y.1∧k∉y.2)∧∀k∈x.1,k∉y.2
theorem VJ {b:Bool} {x y:Tr} (h:XR b x y=true):b=true∨a2H x y:=by
 unfold XR at h
 cases b
 ·simp only[cond_false,Bool.and_eq_true]at h
  exact .inr ⟨fun k hk=>⟨qi h.1.1 k hk,qi h.1.2 k hk⟩,fun k hk=>qi h.2 k hk⟩
 ·exact .inl rfl
theorem FP {mask:Nat} {y:Tr} {T:Nat→Tr} :∀n,KH mask y ((List.range n).map T).reverse n=true→∀i,i<n→Nat.testBit mask i=true∨a2H (T i) y
 | 0,_,i,hi=>by omega
 | n+1,h,i,hi=>by
  rw[jD]at h
  unfold KH at h
  simp only[Nat.add_sub_cancel,Bool.and_eq_true]at h
  by_cases e:i=n
  ·subst e;exact VJ h.1
  ·exact FP n h.2 i (by omega)
theorem Jw {M:Nat→Nat} {T:Nat→Tr} :∀n,NT ((List.range n).map M).reverse ((List.range n).map T).reverse=true→∀i j,i<j→j<n→Nat.testBit (M j) i=true∨a2H (T i) (T j)
 | 0,_,i,j,_,hj=>by omega
 | n+1,h,i,j,hi,hj=>by
  rw[jD,jD]at h
  unfold NT at h
  simp only[Bool.and_eq_true,List.length_reverse,List.length_map,List.length_range]at h
  by_cases e:j=n
  ·subst e;exact FP j h.1 i hi
  ·exact Jw n h.2 i j hi (by omega)
theorem Zx {α:Type} {eq:α→α→Bool} (h:∀a b,eq a b=true→a=b):∀{l m:List α},a7Q eq l m=true→l=m
 | [],[],_=>rfl
 | [],_::_,e=>by cases e
 | _::_,[],e=>by cases e
 | a::l,b::m,e=>by
  simp only[a7Q,Bool.and_eq_true]at e
  rw[h _ _ e.1,Zx h e.2]
theorem Cf:∀{t:Ty} (a b:t.den),LV t a b=true→a=b
 | .bool,a,b,e=>YP e
 | .int _,a,b,e=>of_decide_eq_true e
 | .str,a,b,e=>of_decide_eq_true e
 | .sl t,a,b,e=>Zx (fun x y h=>Cf x y h) e
 | .prod p q,a,b,e=>by
  have e:(LV p a.1 b.1&&LV q a.2 b.2)=true:=e
  rw[Bool.and_eq_true]at e
  exact Prod.ext (Cf _ _ e.1) (Cf _ _ e.2)
 | .unit,a,b,e=>rfl
 | .ent _ _ p q,a,b,e=>by
  have e:(LV p a.1 b.1&&LV q a.2 b.2)=true:=e
  rw[Bool.and_eq_true]at e
  exact Prod.ext (Cf _ _ e.1) (Cf _ _ e.2)
theorem YX {R:Type} {a b:V} {K:Option R} {r:R} (h:a7m a b K=some r):a=b∧K=some r:=by
 unfold a7m at h
 rw[xO,xO]at h
 cases a with
 | i k n=>
  cases b with
  | i k' n' =>
   cases hk:decide (k=k')
   ·simp[hk]at h
   ·have e:=of_decide_eq_true hk
    subst e
    simp only[hk,cond_true]at h
    cases hi:ieq n n' <;> rw[hi]at h
    ·cases h
    ·have e:=of_decide_eq_true (show decide (n=n')=true from hi)
     subst e
     exact⟨rfl,h⟩
  | _=>cases h
 | sl t xs=>
  cases b with
  | sl u ys=>
   simp only[Ty.castL]at h
   by_cases e:u=t
   ·subst e
    simp only[dif_pos]at h
    cases hi:deq (.sl u) xs ys <;> rw[hi]at h
    ·cases h
    ·rw[Cf (t:=.sl u) xs ys hi]
     exact⟨rfl,h⟩
   ·rw[dif_neg e]at h;cases h
  | _=>cases h
 | b x=>
  cases b with
  | b y=>
   cases hi:bZ x y <;> simp only[hi,l7]at h
   ·cases h
   ·have e:x=y:=by simpa[bZ]using hi
    subst e
    exact⟨rfl,h⟩
  | _=>cases h
 | s x=>
  cases b with
  | s y=>
   cases hi:seq x y <;> simp only[hi,l7]at h
   ·cases h
   ·have e:x=y:=by simpa[seq]using hi
    subst e
    exact⟨rfl,h⟩
  | _=>cases h
 | _=>cases h
theorem BF:∀{a b:List Nat},BD a b=true→a=b
 | [],[],_=>rfl
 | [],_::_,h=>by cases h
 | _::_,[],h=>by cases h
 | a::l,b::m,h=>by
  unfold BD at h
  cases hb:Nat.beq a b
  ·simp[hb]at h
  ·simp only[hb,cond_true]at h
   rw[aV hb,BF h]
def Rp (E:Env) (q:Nat) (all:List Oper) (o:Oper) (tr:Tr) (v:V) (S:Sm):Prop:=
 ∃d S',o.dst=some d∧tr.2=[d]∧(fK E q all o).eval S ([],[])=some ((),S',tr)∧S' d=v
theorem Oj {R:Type} {E:Env} {q:Nat} {all:List Oper} {s:St} :∀{p:a1f} {K:Option R} {r:R},QX E q all s p K=some r→
  (∀x∈p,Rp E q all x.1 x.2.1 x.2.2 (Y2 s))∧K=some r
 | [],K,r,h=>⟨fun x hx=>by(cases hx),h⟩
 | (o,tr,v)::p,K,r,h=>by
  unfold QX at h
  obtain⟨x,s2,tr2,e,hk⟩:=gX h
  cases hd:o.dst with
  | none=>simp[hd]at hk
  | some d=>
   simp only[hd]at hk
   cases hc:(BD tr.1 tr2.1&&BD tr.2 tr2.2&&BD tr2.2 [d])
   ·simp[hc]at hk
   ·simp only[hc,cond_true]at hk
    simp only[Bool.and_eq_true]at hc
    obtain⟨⟨h1,h2⟩,h3⟩:=hc
    have h1:=BF h1
    have h2:=BF h2
    have h3:=BF h3
    have etr:tr=tr2:=Prod.ext h1 h2
    subst etr
    obtain⟨hv,hk⟩:=YX hk
    obtain⟨g1,g2⟩:=Oj hk
    refine⟨fun y hy=>?_,g2⟩
    rcases List.mem_cons.1 hy with rfl | hy
    ·exact⟨d,_,hd,h3,e,hv.symm⟩
    ·exact g1 y hy
theorem Gu {R:Type} {E:Env} {q:Nat} {all:List Oper} :∀(l:List Oper) {s:St} {t:Trs} {p:a1f} {K:St→Trs→Option R} {r:R},qZ E q all l s t p K=some r→
  ∃s' S T,S 0=Y2 s∧S l.length=Y2 s' ∧Jf E q all l S T∧K s' (((List.range l.length).map T).reverse++t)=some r∧
   (∀x∈p,∀j o',l[j]? =some o' →gu o' =true→Rp E q all x.1 x.2.1 x.2.2 (S (j+1)))∧
   (∀i j o o',i<j→l[i]? =some o→l[j]? =some o' →RV E o=true→gu o' =true→∃d,o.dst=some d∧Rp E q all o (T i) (S (i+1) d) (S (j+1)))
 | [],s,t,p,K,r,h=>⟨s,fun _=>Y2 s,fun _=>([],[]),rfl,rfl,fun i o hi=>by simp at hi,by simpa[qZ]using h,fun x _ j o' hj=>by simp at hj,fun i j o o' _ hi=>by simp at hi⟩
 | o::l,s,t,p,K,r,h=>by
  have key:∀s0,Y2 s0=Y2 s→(fK E q all o).runK s0 ([],[]) (fun _ s' tr=>bif gu o then QX E q all s' p (qZ E q all l s' (tr::t) p K)else qZ E q all l s' (tr::t) (NZ E o s' tr p) K)=some r→
    ∃s' S T,S 0=Y2 s∧S (o::l).length=Y2 s' ∧Jf E q all (o::l) S T∧K s' (((List.range (o::l).length).map T).reverse++t)=some r∧
   (∀x∈p,∀j o',(o::l)[j]? =some o' →gu o' =true→Rp E q all x.1 x.2.1 x.2.2 (S (j+1)))∧
   (∀i j o1 o',i<j→(o::l)[i]? =some o1→(o::l)[j]? =some o' →RV E o1=true→gu o' =true→∃d,o1.dst=some d∧Rp E q all o1 (T i) (S (i+1) d) (S (j+1))):=fun s0 hs0 h=>by
   obtain⟨x,s1,tr,e,hk⟩:=gX h
   have fin:∀p',(∀y∈p,y∈p')→(RV E o=true→gu o=false→∃d,o.dst=some d∧(o,tr,Y2 s1 d)∈p')→(gu o=true→∀y∈p,Rp E q all y.1 y.2.1 y.2.2 (Y2 s1))→qZ E q all l s1 (tr::t) p' K=some r→
     ∃s' S T,S 0=Y2 s∧S (o::l).length=Y2 s' ∧Jf E q all (o::l) S T∧K s' (((List.range (o::l).length).map T).reverse++t)=some r∧
   (∀x∈p,∀j o',(o::l)[j]? =some o' →gu o' =true→Rp E q all x.1 x.2.1 x.2.2 (S (j+1)))∧
   (∀i j o1 o',i<j→(o::l)[i]? =some o1→(o::l)[j]? =some o' →RV E o1=true→gu o' =true→∃d,o1.dst=some d∧Rp E q all o1 (T i) (S (i+1) d) (S (j+1))):=fun p' hp' hex hcall hk=>by
    obtain⟨s',S,T,h0,h1,h2,h3,h4,h5⟩:=Gu l hk
    refine⟨s',a6j (Y2 s) S,a6k tr T,rfl,h1,fun i o' hi=>?_,?_,fun y hy j o' hj hc=>?_,fun i j o1 o' hij hi hj he hc=>?_⟩
    ·cases i with
     | zero=>
      simp at hi;subst hi
      show(fK E q all o).eval (Y2 s) ([],[])=some ((),S 0,tr)
      rw[←hs0,e,h0]
     | succ i=>exact h2 i o' (by simpa using hi)
    ·rw[List.length_cons,List.range_succ_eq_map,List.map_cons,List.reverse_cons,List.append_assoc,List.map_map]
     exact h3
    ·cases j with
     | zero=>
      simp at hj;subst hj
      show Rp E q all y.1 y.2.1 y.2.2 (S 0)
      rw[h0]
      exact hcall hc y hy
     | succ j=>exact h4 y (hp' y hy) j o' (by simpa using hj) hc
    ·cases j with
     | zero=>omega
     | succ j=>
      cases i with
      | zero=>
       simp at hi;subst hi
       have hnc:gu o=false:=by
        unfold RV at he
        cases hcc:gu o
        ·rfl
        ·simp[hcc]at he
       obtain⟨d,hd,hm⟩:=hex he hnc
       refine⟨d,hd,?_⟩
       have:=h4 _ hm j o' (by simpa using hj) hc
       show Rp E q all o tr (S 0 d) (S (j+1))
       rw[h0]
       exact this
      | succ i=>exact h5 i j o1 o' (by omega) (by simpa using hi) (by simpa using hj) he hc
   cases hc:gu o
   ·simp only[hc,cond_false]at hk
    refine fin _ (fun y hy=>?_) (fun he _=>?_) (fun h=>by rw[hc]at h;cases h) hk
    ·unfold NZ
     cases hx:RV E o
     ·exact hy
     ·simp only[cond_true]
      cases hd:o.dst with
      | none=>exact hy
      | some d=>exact List.mem_cons_of_mem _ hy
    ·cases hd:o.dst with
     | none=>simp[RV,hd]at he
     | some d=>exact⟨d,rfl,by simp[NZ,he,hd]⟩
   ·simp only[hc,cond_true]at hk
    obtain⟨g1,g2⟩:=Oj hk
    exact fin p (fun _ h=>h) (fun _ h=>by rw[hc]at h;cases h) (fun _=>g1) g2
  unfold qZ at h
  split at h
  ·exact key s rfl h
  ·obtain⟨s0,e,h⟩:=Gf h
   exact key s0 e h
def Zf (ord:Nat→Nat→Prop) (ex:Nat→Nat→Prop) (T:Nat→Tr) (i j:Nat):Prop:=
 ord i j∨((∀k∈(T i).2,k∉(T j).1∧k∉(T j).2)∧((∀k∈(T i).1,k∉(T j).2)∨
  (ex i j∧(∀k∈(T i).2,k∉(T i).1)∧∀m,i<m→m<j→ord m j∨∀k∈(T i).1,k∉(T m).2)))
theorem NH {mask:Nat} {x:Tr} :∀{l:List (Nat×Tr)},ZW mask x l=true→∀y∈l,Nat.testBit mask y.1=true∨∀k∈x.1,k∉y.2.2
 | [],_,y,hy=>by cases hy
 | (m,z)::l,h,y,hy=>by
  unfold ZW at h
  simp only[Bool.and_eq_true,Bool.or_eq_true]at h
  rcases List.mem_cons.1 hy with rfl | hy
  ·exact h.1.imp id (fun h=>qi h)
  ·exact NH h.2 y hy
theorem DJ {E:Env} {all:List Oper} {mask:Nat} {y:Tr} {cy:Bool} {T:Nat→Tr} {N:Nat} :∀n (mids:List (Nat×Tr)),(∀m,n≤m→m<N→(m,T m)∈mids)→FO E all mask y cy ((List.range n).map T).reverse n mids=true→
  ∀i,i<n→Nat.testBit mask i=true∨((∀k∈(T i).2,k∉y.1∧k∉y.2)∧((∀k∈(T i).1,k∉y.2)∨((cy=true∧a3B E all i=true)∧(∀k∈(T i).2,k∉(T i).1)∧∀m,i<m→m<N→Nat.testBit mask m=true∨∀k∈(T i).1,k∉(T m).2)))
 | 0,_,_,_,i,hi=>by omega
 | n+1,mids,hm,h,i,hi=>by
  rw[jD]at h
  unfold FO at h
  simp only[Nat.add_sub_cancel,Bool.and_eq_true]at h
  by_cases e:i=n
  ·subst e
   have h:=h.1
   unfold a0d at h
   cases hb:Nat.testBit mask i
   ·simp only[hb,cond_false,Bool.and_eq_true]at h
    refine .inr ⟨fun k hk=>⟨qi h.1.1 k hk,qi h.1.2 k hk⟩,?_⟩
    have h2:=h.2
    cases hdj:JY (T i).1 y.2
    ·simp only[hdj,cond_false,Bool.and_eq_true]at h2
     exact .inr ⟨h2.1.1,qi h2.1.2,fun m h3 h4=>NH h2.2 _ (hm m (by omega) h4)⟩
    ·exact .inl (qi hdj)
   ·exact .inl rfl
  ·refine DJ n _ (fun m h1 h2=>?_) h.2 i (by omega)
   by_cases e2:m=n
   ·subst e2;simp
   ·exact List.mem_cons_of_mem _ (hm m (by omega) h2)
theorem FT {E:Env} {all:List Oper} {M:Nat→Nat} {T:Nat→Tr} :∀n,FQ E all ((List.range n).map M).reverse ((List.range n).map T).reverse=true→∀i j,i<j→j<n→
  Zf (fun i j=>Nat.testBit (M j) i=true) (fun i j=>RG all j=true∧a3B E all i=true) T i j
 | 0,_,i,j,_,hj=>by omega
 | n+1,h,i,j,hi,hj=>by
  rw[jD,jD]at h
  unfold FQ at h
  simp only[Bool.and_eq_true,List.length_reverse,List.length_map,List.length_range]at h
  by_cases e:j=n
  ·subst e;exact DJ (N:=j) j [] (fun m h1 h2=>by omega) h.1 i hi
  ·exact FT n h.2 i j hi (by omega)
theorem a4e {P:Nat→Prop} :∀(n:Nat),(∃j,j<n∧P j)→∃j,j<n∧P j∧∀m,j<m→m<n→¬P m
 | 0,⟨j,h,_⟩=>by omega
 | n+1,⟨j,h,hp⟩=>by
  by_cases e:P n
  ·exact⟨n,by omega,e,fun m h1 h2=>by omega⟩
  ·have:j≠n:=fun e2=>e (e2▸hp)
   obtain⟨j',h1,h2,h3⟩:=a4e n ⟨j,by omega,hp⟩
   refine⟨j',by omega,h2,fun m h4 h5=>?_⟩
   by_cases e2:m=n
   ·subst e2;exact e
   ·exact h3 m h4 (by omega)
theorem a2R {n:Nat} {c:Nat→Cmd Unit} {S:Nat→Sm} {T:Nat→Tr} (hs:∀i,i<n→(c i).eval (S i) ([],[])=some ((),S (i+1),T i)) {ord ex:Nat→Nat→Prop}
  (hc:∀i j,i<j→j<n→Zf ord ex T i j) (hex:∀i j,i<j→j<n→ex i j→∃S',(c i).eval (S (j+1)) ([],[])=some ((),S',T i)∧∀k∈(T i).2,S' k=S (i+1) k)
  {D:List Nat} {i:Nat} (hi:i<n) (hD:i∉D) (hlt:∀j∈D,j<n) (hp:∀j,ord j i→j∈D) (hdown:∀j∈D,∀k,ord k j→k∈D):
  (c i).eval (SD S T D n) ([],[])=some ((),SD S T (i::D) n,T i):=by
 have before:∀k,(k∈(T i).1∨k∈(T i).2)→∀j,j<i→k∈(T j).2→j∈D:=fun k hk j hj hw=>by
  rcases hc j i hj hi with h | ⟨h1,_⟩
  ·exact hp j h
  ·rcases hk with hk | hk
   ·exact absurd hk (h1 k hw).1
   ·exact absurd hk (h1 k hw).2
 have afterW:∀k,k∈(T i).2→∀j,i<j→j<n→k∈(T j).2→j∉D:=fun k hk j hj hjn hw hjD=>by
  rcases hc i j hj hjn with h | ⟨h1,h2⟩
  ·exact hD (hdown j hjD i h)
  ·exact(h1 k hk).2 hw
 have fin:∀S0 S1:Sm,(c i).eval S0 ([],[])=some ((),S1,T i)→(∀k∈(T i).2,S1 k=S (i+1) k)→(∀k∈(T i).1,SD S T D n k=S0 k)→(c i).eval (SD S T D n) ([],[])=some ((),SD S T (i::D) n,T i):=fun S0 S1 he hv hr=>by
  obtain⟨T',h1,_,h3,h4⟩:=pY he (SD S T D n) hr
  rw[h1]
  have:T' =SD S T (i::D) n:=by
   funext k
   by_cases hk:k∈(T i).2
   ·rw[h4 k hk (by simp),hv k hk]
    rw[KW (i::D) k (i+1) n (by omega) (fun j h1 h2 hw=>by
     simp only[List.mem_cons,not_or]
     exact⟨by omega,afterW k hk j (by omega) h2 hw⟩)]
    simp[SD,hk]
   ·rw[h3 k hk,Zh D i k hk]
  rw[this]
 by_cases hx:∃j,j<n∧(i<j∧j∈D∧∃k∈(T i).1,k∈(T j).2)
 ·obtain⟨j,hjn,⟨hij,hjD,k0,hk0,hk1⟩,hmax⟩:=a4e n hx
  rcases hc i j hij hjn with h | ⟨_,h2⟩
  ·exact absurd (hdown j hjD i h) hD
  ·rcases h2 with h2 | ⟨h3,h4,h5⟩
   ·exact absurd hk1 (h2 k0 hk0)
   ·obtain⟨S',he,hv⟩:=hex i j hij hjn h3
    refine fin (S (j+1)) S' he hv fun k hk=>?_
    rw[KW D k (j+1) n (by omega) (fun m g1 g2 hw hmD=>hmax m (by omega) g2 ⟨by omega,hmD,k,hk,hw⟩)]
    refine BV hs D k (j+1) (by omega) fun m hm hw=>?_
    rcases Nat.lt_trichotomy m i with g | g | g
    ·exact before k (.inl hk) m g hw
    ·subst g;exact absurd hk (h4 k hw)
    ·by_cases e:m=j
     ·subst e;exact hjD
     ·rcases h5 m g (by omega)with g2 | g2
      ·exact hdown j hjD m g2
      ·exact absurd hw (g2 k hk)
 ·refine fin (S i) (S (i+1)) (hs i hi) (fun _ _=>rfl) fun k hk=>?_
  rw[KW D k i n (by omega) (fun j h1 h2 hw hjD=>by
   by_cases e:j=i
   ·subst e;exact hD hjD
   ·exact hx ⟨j,h2,by omega,hjD,k,hk,hw⟩)]
  exact BV hs D k i (by omega) (before k (.inl hk))
def jR (e:Edge):Prop:=match e.ground with | .textOnly _=>False | .gcOnly _=>False | _=>True
theorem jR.binds {e:Edge} (h:jR e) (md:Region.Mode):Region.binds md e=true:=by
 unfold jR at h
 unfold Region.binds
 split <;> simp_all
theorem a1l {e:Edge} (h:Region.binds .any e=true):jR e:=by
 unfold Region.binds at h
 unfold jR
 split <;> simp_all
theorem xA {M:Nat→Nat} {n k:Nat} (hk:k<n):(((List.range n).map M).reverse).getD (n -1 -k) 0=M k:=by
 rw[jZ,List.getElem?_reverse (by simp;omega)]
 simp only[List.length_map,List.length_range,List.getElem?_map]
 rw[show n -1 -(n -1 -k)=k by omega]
 simp[hk]
theorem Ed {M:Nat→Nat} {n:Nat} :∀(es:List Edge) {m m' :Nat},Dx ((List.range n).map M).reverse n es m=some m' →
  (∀e∈es,jR e→e.on<n)∧∀j,Nat.testBit m' j=true→Nat.testBit m j=true∨∃e∈es,jR e∧(j=e.on∨Nat.testBit (M e.on) j=true)
 | [],m,m',h=>by simp[Dx]at h;subst h;exact⟨fun _ h=>absurd h (by simp),fun j hj=> .inl hj⟩
 | e::es,m,m',h=>by
  have plain:(bif Nat.blt e.on n then Dx ((List.range n).map M).reverse n es (m ||| 2^e.on ||| (((List.range n).map M).reverse).getD (n -1 -e.on) 0)else none)=some m' →jR e→
    (∀e' ∈e::es,jR e' →e'.on<n)∧∀j,Nat.testBit m' j=true→Nat.testBit m j=true∨∃e' ∈e::es,jR e' ∧(j=e'.on∨Nat.testBit (M e'.on) j=true):=fun h hp=>by
   cases hb:Nat.blt e.on n
   ·simp[hb]at h
   ·simp only[hb,cond_true]at h
    have hlt:=DY hb
    rw[xA hlt]at h
    obtain⟨h1,h2⟩:=Ed es h
    refine⟨fun e' he' hp' =>?_,fun j hj=>?_⟩
    ·rcases List.mem_cons.1 he' with rfl | he'
     ·exact hlt
     ·exact h1 e' he' hp'
    ·rcases h2 j hj with h3 | ⟨e',he',hp',h3⟩
     ·rw[Nat.testBit_or,Nat.testBit_or,Bool.or_eq_true,Bool.or_eq_true]at h3
      rcases h3 with(h3 | h3) | h3
      ·exact .inl h3
      ·rw[Nat.testBit_two_pow]at h3
       exact .inr ⟨e,by simp,hp,.inl (of_decide_eq_true h3).symm⟩
      ·exact .inr ⟨e,by simp,hp,.inr h3⟩
     ·exact .inr ⟨e',by simp[he'],hp',h3⟩
  have skip:Dx ((List.range n).map M).reverse n es m=some m' →¬jR e→
    (∀e' ∈e::es,jR e' →e'.on<n)∧∀j,Nat.testBit m' j=true→Nat.testBit m j=true∨∃e' ∈e::es,jR e' ∧(j=e'.on∨Nat.testBit (M e'.on) j=true):=fun h hp=>by
   obtain⟨h1,h2⟩:=Ed es h
   refine⟨fun e' he' hp' =>?_,fun j hj=>?_⟩
   ·rcases List.mem_cons.1 he' with rfl | he'
    ·exact absurd hp' hp
    ·exact h1 e' he' hp'
   ·rcases h2 j hj with h3 | ⟨e',he',hp',h3⟩
    ·exact .inl h3
    ·exact .inr ⟨e',by simp[he'],hp',h3⟩
  unfold Dx at h
  cases hg:e.ground <;> simp only[hg]at h
  case textOnly=>exact skip h (by simp[jR,hg])
  case gcOnly=>exact skip h (by simp[jR,hg])
  all_goals exact plain h (by simp[jR,hg])
theorem CZ:∀(l:List Oper) {n:Nat} {M:Nat→Nat} {ms:List Nat},Ti l n ((List.range n).map M).reverse=some ms→
  ∃M' :Nat→Nat,ms=((List.range (n+l.length)).map M').reverse∧(∀k,k<n→M' k=M k)∧
   ∀i o,l[i]? =some o→(∀e∈o.after.toList,jR e→e.on<n+i)∧∀j,Nat.testBit (M' (n+i)) j=true→∃e∈o.after.toList,jR e∧(j=e.on∨Nat.testBit (M' e.on) j=true)
 | [],n,M,ms,h=>by
  simp only[Ti,Option.some.injEq]at h
  subst h
  exact⟨M,rfl,fun _ _=>rfl,fun i o hi=>by simp at hi⟩
 | o::l,n,M,ms,h=>by
  unfold Ti at h
  cases he:Dx ((List.range n).map M).reverse n o.after.toList 0 with
  | none=>simp[he]at h
  | some m=>
   simp only[he]at h
   obtain⟨h1,h2⟩:=Ed _ he
   have hM:m::((List.range n).map M).reverse=((List.range (n+1)).map (fun k=>if k=n then m else M k)).reverse:=by
    rw[jD]
    simp only[if_true]
    congr 2
    apply List.map_congr_left
    intro k hk
    rw[if_neg]
    have:=List.mem_range.1 hk
    omega
   rw[hM]at h
   obtain⟨M',e1,e2,e3⟩:=CZ l h
   have hMn:M' n=m:=by rw[e2 n (by omega)];simp
   have hMk:∀k,k<n→M' k=M k:=fun k hk=>by rw[e2 k (by omega),if_neg (by omega)]
   refine⟨M',by rw[e1];congr 3;simp;omega,hMk,fun i o' hi=>?_⟩
   cases i with
   | zero=>
    simp at hi;subst hi
    refine⟨h1,fun j hj=>?_⟩
    rw[Nat.add_zero,hMn]at hj
    rcases h2 j hj with h3 | ⟨e,hem,hp,h3⟩
    ·simp at h3
    ·exact⟨e,hem,hp,by rwa[hMk _ (h1 e hem hp)]⟩
   | succ i=>
    have:=e3 i o' (by simpa using hi)
    rwa[show n+1+i=n+(i+1) by omega]at this
theorem NS:∀(n:Nat) {D:List Nat},D.Nodup→(∀x∈D,x<n)→D.length≤n
 | 0,D,_,h=>by
  cases D with
  | nil=>simp
  | cons x D=>have:=h x (by simp);omega
 | n+1,D,hD,h=>by
  by_cases hn:n∈D
  ·have h1:=NS n (D:=D.erase n) (hD.erase n) (fun x hx=>by
    have:=(hD.mem_erase_iff).1 hx
    have:=h x this.2
    omega)
   rw[List.length_erase_of_mem hn]at h1
   omega
  ·have h1:=NS n hD (fun x hx=>by
    have:=h x hx
    have:x≠n:=fun e=>hn (e▸hx)
    omega)
   omega
theorem a1Y {n:Nat} {D:List Nat} (hD:D.Nodup) (h:∀x∈D,x<n) (hl:n≤D.length):∀i,i<n→i∈D:=fun i hi=>by
 refine Classical.byContradiction fun hn=>?_
 have:=NS n (D:=i::D) (List.nodup_cons.2 ⟨hn,hD⟩) (fun x hx=>by
  rcases List.mem_cons.1 hx with rfl | hx
  ·exact hi
  ·exact h x hx)
 simp at this;omega
def DW (md:Region.Mode) (ops:Array Oper):Prop:=∃rk:Nat→Nat,∀i o,ops[i]? =some o→∀e∈o.after.toList,Region.binds md e=true→e.on<ops.size∧rk e.on<rk i
theorem JB:∀{es:List Edge},IA es=true→∀e∈es,jR e
 | [],_,e,he=>by cases he
 | e::es,h,e',he' =>by
  unfold IA at h
  have hp:jR e:=by cases hg:e.ground <;> simp[hg]at h <;> simp[jR,hg]
  have hr:IA es=true:=by cases hg:e.ground <;> simp[hg]at h <;> exact h
  rcases List.mem_cons.1 he' with rfl | he'
  ·exact hp
  ·exact JB hr e' he'
theorem DK:∀{l:List Oper},vK l=true→∀o∈l,∀e∈o.after.toList,jR e
 | [],_,o,ho=>by cases ho
 | o::l,h,o',ho' =>by
  unfold vK at h
  cases hp:IA o.after.toList
  ·simp[hp]at h
  ·simp only[hp,cond_true]at h
   rcases List.mem_cons.1 ho' with rfl | ho'
   ·exact JB hp
   ·exact DK h o' ho'
theorem JD {md:Region.Mode} {done:List Nat} :∀{es:List Edge},Ez md done es=true→∀e∈es,Region.binds md e=true→e.on∈done
 | [],_,e,he,_=>by cases he
 | e::es,h,e',he',hb=>by
  unfold Ez at h
  cases hc:(!Region.binds md e || vH e.on done)
  ·simp[hc]at h
  ·simp only[hc,cond_true]at h
   rcases List.mem_cons.1 he' with rfl | he'
   ·rw[hb]at hc
    simp at hc
    exact Ny hc
   ·exact JD h e' he' hb
theorem zF {md:Region.Mode} {done:List Nat} :∀{l:List Oper} {n i:Nat},mF md done l n=some i→∃o,l[i -n]? =some o∧n≤i∧i<n+l.length∧Ez md done o.after.toList=true
 | [],n,i,h=>by simp[mF]at h
 | o::l,n,i,h=>by
  unfold mF at h
  have rec' :mF md done l (n+1)=some i→∃o',(o::l)[i -n]? =some o' ∧n≤i∧i<n+(o::l).length∧Ez md done o'.after.toList=true:=fun h=>by
   obtain⟨o',h1,h2,h3,h4⟩:=zF h
   refine⟨o',?_,by omega,by simp;omega,h4⟩
   rw[show i -n=(i -(n+1))+1 by omega]
   simpa using h1
  cases hm:vH n done
  ·simp only[hm,cond_false]at h
   cases hr:Ez md done o.after.toList
   ·simp only[hr,cond_false]at h;exact rec' h
   ·simp only[hr,cond_true,Option.some.injEq]at h
    subst h
    exact⟨o,by simp,Nat.le_refl _,by simp,hr⟩
  ·simp only[hm,cond_true]at h;exact rec' h
theorem KY:∀{n:Nat} {d:List Nat},Zj n d=true→∀i,i<n→i∈d
 | 0,d,_,i,hi=>by omega
 | n+1,d,h,i,hi=>by
  unfold Zj at h
  simp only[Bool.and_eq_true]at h
  by_cases e:i=n
  ·subst e;exact Ny h.1
  ·exact KY h.2 i (by omega)
theorem xn {md:Region.Mode} {ops:Array Oper} :∀(k:Nat) {done:List Nat} {rk:Nat→Nat},TW md ops.toList k done=true→
  (∀x∈done,rk x<done.length)→(∀i∈done,∀o,ops[i]? =some o→∀e∈o.after.toList,Region.binds md e=true→e.on∈done∧e.on<ops.size∧rk e.on<rk i)→(∀x∈done,x<ops.size)→DW md ops
 | 0,done,rk,h,h1,h2,h3=>by
  have hall:=KY h
  simp only[Array.length_toList]at hall
  exact⟨rk,fun i o hi e he hb=>(h2 i (hall i (Array.getElem?_eq_some_iff.1 hi).1) o hi e he hb).2⟩
 | k+1,done,rk,h,h1,h2,h3=>by
  unfold TW at h
  cases hf:mF md done ops.toList 0 with
  | none=>simp[hf]at h
  | some n=>
   simp only[hf]at h
   obtain⟨o,e1,_,e2,e3⟩:=zF hf
   simp only[Nat.sub_zero,Array.getElem?_toList,Nat.zero_add,Array.length_toList]at e1 e2
   by_cases hn:n∈done
   ·refine xn k (rk:=rk) h (fun x hx=>?_) (fun i hi o' ho' e he hb=>?_) (fun x hx=>?_)
    ·rcases List.mem_cons.1 hx with rfl | hx
     ·have:=h1 x hn;simp;omega
     ·have:=h1 x hx;simp;omega
    ·have hi' :i∈done:=by rcases List.mem_cons.1 hi with rfl | hi;exact hn;exact hi
     obtain⟨g1,g2,g3⟩:=h2 i hi' o' ho' e he hb
     exact⟨by simp[g1],g2,g3⟩
    ·rcases List.mem_cons.1 hx with rfl | hx
     ·exact e2
     ·exact h3 x hx
   ·refine xn k (rk:=fun x=>if x=n then done.length else rk x) h (fun x hx=>?_) (fun i hi o' ho' e he hb=>?_) (fun x hx=>?_)
    ·show(if x=n then done.length else rk x)<_
     rcases List.mem_cons.1 hx with rfl | hx
     ·simp
     ·have:=h1 x hx
      rw[if_neg (show ¬x=n from fun e=>hn (by rw[←e];exact hx))]
      simp;omega
    ·show _∧_∧(if e.on=n then done.length else rk e.on)<(if i=n then done.length else rk i)
     rcases List.mem_cons.1 hi with rfl | hi
     ·rw[e1]at ho';cases ho'
      have hd:=JD e3 e he hb
      refine⟨by simp[hd],h3 _ hd,?_⟩
      rw[if_neg (show ¬e.on=i from fun e' =>hn (by rw[←e'];exact hd)),if_pos rfl]
      exact h1 _ hd
     ·obtain⟨g1,g2,g3⟩:=h2 i hi o' ho' e he hb
      refine⟨by simp[g1],g2,?_⟩
      rw[if_neg (show ¬e.on=n from fun e' =>hn (by rw[←e'];exact g1)),if_neg (show ¬i=n from fun e' =>hn (by rw[←e'];exact hi))]
      exact g3
    ·rcases List.mem_cons.1 hx with rfl | hx
     ·exact e2
     ·exact h3 x hx
end Go.GP
namespace Go.GP
section
variable {X:Fx} {q:Nat} {ops:Array Oper} {S:Nat→Sm} {T:Nat→Tr} {m0:Mp} {ok0:Nat→Ty→Prop} {Q:Exit→Act→World→Prop}
theorem LD (H:FxOk X) {i:Nat} {o:Oper} (hi:ops[i]? =some o) {S1 S2:Sm} {t:Tr} (he:(fK X.E q ops.toList o).eval S1 ([],[])=some ((),S2,t)) {m:Mp} {ok:Nat→Ty→Prop} {a:Act} {w:World}
  (R:Rel X (CB*q) (CB*q+CB) S1 m ok a w) {next:Act→World→Prop}
  (hn:∀m' ok' a' w',Rel X (CB*q) (CB*q+CB) S2 m' ok' a' w' →(∀k l,m k=some l→m' k=some l)→(∀b t,ok b t→ok' b t)→next a' w'):wpOp X.P ops Q i next a w:=
 kD (a2x H R hi) he next Q hn
theorem JV (H:FxOk X) (hc:Jf X.E q ops.toList ops.toList S T)
  (hQ:∀m' ok' a' w',Rel X (CB*q) (CB*q+CB) (S ops.size) m' ok' a' w' →(∀k l,m0 k=some l→m' k=some l)→(∀b t,ok0 b t→ok' b t)→Q .normal a' w'):
  ∀(n k:Nat) {m:Mp} {ok:Nat→Ty→Prop} {a:Act} {w:World},k+n=ops.size→Rel X (CB*q) (CB*q+CB) (S k) m ok a w→(∀k l,m0 k=some l→m k=some l)→(∀b t,ok0 b t→ok b t)→wpOps X.P ops Q (List.range' k n) a w
 | 0,k,m,ok,a,w,hk,R,hm,hok=>by
  have:k=ops.size:=by omega
  subst this
  exact hQ m ok a w R hm hok
 | n+1,k,m,ok,a,w,hk,R,hm,hok=>by
  rw[List.range'_succ,wpOps_cons]
  have hi:ops[k]? =some (ops[k]'(by omega)):=Array.getElem?_eq_getElem _
  refine LD H hi (hc k _ (by rw[Array.getElem?_toList];exact hi)) R fun m' ok' a' w' R' k1 k2=>?_
  exact JV H hc hQ n (k+1) (by omega) R' (fun k l h=>k1 k l (hm k l h)) (fun b t h=>k2 b t (hok b t h))
theorem a1i (H:FxOk X) {md:Region.Mode} (hc:Jf X.E q ops.toList ops.toList S T) {M:Nat→Nat}
  {ex:Nat→Nat→Prop} (hpair:∀i j,i<j→j<ops.size→Zf (fun i j=>Nat.testBit (M j) i=true) ex T i j)
  (hex:∀i j,i<j→j<ops.size→ex i j→∃S',(fK X.E q ops.toList (ops.getD i default)).eval (S (j+1)) ([],[])=some ((),S',T i)∧∀k∈(T i).2,S' k=S (i+1) k)
  (hM:∀i o,ops[i]? =some o→∀j,Nat.testBit (M i) j=true→∃e∈o.after.toList,jR e∧(j=e.on∨Nat.testBit (M e.on) j=true)) (hrk:DW md ops)
  (hQ:∀m' ok' a' w',Rel X (CB*q) (CB*q+CB) (S ops.size) m' ok' a' w' →(∀k l,m0 k=some l→m' k=some l)→(∀b t,ok0 b t→ok' b t)→Q .normal a' w'):
  ∀(dN:Nat) {D:List Nat} {qU:Array Bool} {m:Mp} {ok:Nat→Ty→Prop} {a:Act} {w:World},dN+D.length=ops.size→D.Nodup→(∀j∈D,j<ops.size)→qU.size=ops.size→(∀i,i<ops.size→(qU.getD i false=true↔i∈D))→
   (∀j∈D,∀k,Nat.testBit (M j) k=true→k∈D)→Rel X (CB*q) (CB*q+CB) (SD S T D ops.size) m ok a w→(∀k l,m0 k=some l→m k=some l)→(∀b t,ok0 b t→ok b t)→
   wpAny X.P md ops Q dN qU a w:=by
 have hs:∀i,i<ops.size→(fK X.E q ops.toList (ops.getD i default)).eval (S i) ([],[])=some ((),S (i+1),T i):=fun i hi=>by
  refine hc i _ ?_
  simp[Array.getD,hi]
 obtain⟨rk,hrk⟩:=hrk
 intro dN
 induction dN with
 | zero=>
  intro D qU m ok a w hf hD hlt hsz hl hdown R hm hok
  have hall:=a1Y hD hlt (by omega)
  refine⟨?_,?_⟩
  ·cases hr:Region.ready md ops qU with
   | nil=>rfl
   | cons x xs=>
    have hx:x∈Region.ready md ops qU:=by rw[hr];simp
    obtain⟨h1,o,ho,_⟩:=mem_ready.1 hx
    have hxl:=(Array.getElem?_eq_some_iff.1 ho).1
    have:=(hl x hxl).2 (hall x hxl)
    rw[Array.getD_eq_getD_getElem?]at h1 this
    cases hg:qU[x]? with
    | none=>rw[hg]at this;cases this
    | some y=>rw[hg]at h1 this;simp only[Option.getD_some]at h1 this;rw[h1]at this;cases this
  ·refine hQ m ok a w ?_ hm hok
   rwa[a2Q (c:=fun i=>fK X.E q ops.toList (ops.getD i default)) hs hall]at R
 | succ dN ih=>
  intro D qU m ok a w hf hD hlt hsz hl hdown R hm hok
  refine⟨fun hr=>?_,fun i hi=>?_⟩
  ·have hall:∀n i,rk i<n→i<ops.size→i∈D:=by
    intro n
    induction n with
    | zero=>intro i hi _;omega
    | succ n ihn=>
     intro i hi hil
     refine Classical.byContradiction fun hni=>?_
     have hin:i∈Region.ready md ops qU:=by
      refine mem_ready.2 ⟨?_,ops[i],Array.getElem?_eq_getElem hil,fun e he hb=>?_⟩
      ·have h1:¬qU.getD i false=true:=fun h=>hni ((hl i hil).1 h)
       rw[Array.getD_eq_getD_getElem?]at h1 ⊢
       rw[Array.getElem?_eq_getElem (by omega)]at h1 ⊢
       simpa using h1
      ·obtain⟨g1,g2⟩:=hrk i _ (Array.getElem?_eq_getElem hil) e (by simpa using he) hb
       exact(hl e.on g1).2 (ihn e.on (by omega) g1)
     rw[hr]at hin;cases hin
   refine hQ m ok a w ?_ hm hok
   rwa[a2Q (c:=fun i=>fK X.E q ops.toList (ops.getD i default)) hs (fun i hi=>hall _ i (Nat.lt_succ_self _) hi)]at R
  ·obtain⟨h1,o,ho,h2⟩:=mem_ready.1 hi
   have hil:=(Array.getElem?_eq_some_iff.1 ho).1
   have hnD:i∉D:=fun h=>by
    have:=(hl i hil).2 h
    rw[Array.getD_eq_getD_getElem?]at h1 this
    rw[Array.getElem?_eq_getElem (by omega)]at h1 this
    simp only[Option.getD_some]at h1 this
    rw[h1]at this;cases this
   have hp:∀j,Nat.testBit (M i) j=true→j∈D:=fun j hj=>by
    obtain⟨e,he,hpl,h3⟩:=hM i o ho j hj
    have hlst:=h2 e (by simpa using he) (hpl.binds md)
    have hon:e.on<ops.size:=(hrk i o ho e he (hpl.binds md)).1
    have honD:=(hl e.on hon).1 hlst
    rcases h3 with rfl | h3
    ·exact honD
    ·exact hdown e.on honD j h3
   have hgd:ops.getD i default=o:=by
    rw[Array.getD_eq_getD_getElem?,ho];rfl
   have hstep:=a2R (c:=fun i=>fK X.E q ops.toList (ops.getD i default)) (S:=S) (T:=T) (n:=ops.size) hs (ord:=fun i j=>Nat.testBit (M j) i=true) (ex:=ex)
    hpair hex hil hnD hlt hp hdown
   simp only[hgd]at hstep
   refine LD H ho hstep R fun m' ok' a' w' R' k1 k2=>?_
   refine ih (D:=i::D) (by simp;omega) (List.nodup_cons.2 ⟨hnD,hD⟩) (fun j hj=>?_) (by simp[hsz]) (fun j hj=>?_) (fun j hj k hk=>?_) R' (fun k l h=>k1 k l (hm k l h)) (fun b t h=>k2 b t (hok b t h))
   ·rcases List.mem_cons.1 hj with rfl | hj
    ·exact hil
    ·exact hlt j hj
   ·by_cases e:i=j
    ·subst e
     simp[Array.getD,hsz,hil]
    ·rw[getD_set_ne false e,hl j hj]
     simp[Ne.symm e]
   ·rcases List.mem_cons.1 hj with rfl | hj
    ·exact List.mem_cons_of_mem _ (hp k hk)
    ·exact List.mem_cons_of_mem _ (hdown j hj k hk)
theorem JE (H:FxOk X) {s s' :St} (h0:S 0=Y2 s) (h1:S ops.size=Y2 s') (hc:Jf X.E q ops.toList ops.toList S T) {draw:Bool} {ex:Nat→Nat→Prop}
  (hex:∀i j,i<j→j<ops.size→ex i j→∃S',(fK X.E q ops.toList (ops.getD i default)).eval (S (j+1)) ([],[])=some ((),S',T i)∧∀k∈(T i).2,S' k=S (i+1) k)
  (hdraw:draw=true→∃M:Nat→Nat,Ti ops.toList 0 []=some ((List.range ops.size).map M).reverse∧(∀i j,i<j→j<ops.size→Zf (fun i j=>Nat.testBit (M j) i=true) ex T i j)∧
   (bif vK ops.toList then true else TW .text ops.toList ops.toList.length []&&TW .gc ops.toList ops.toList.length [])=true):
  (∀k,(∀x∈((List.range ops.size).map T).reverse,k∉x.2)→Y2 s' k=Y2 s k)∧
   ∀{m:Mp} {ok:Nat→Ty→Prop} {a:Act} {w:World} {id:Nat} {Q:Exit→Act→World→Prop},Rel X (CB*q) (CB*q+CB) (Y2 s) m ok a w→
    (∀m' ok' a' w',Rel X (CB*q) (CB*q+CB) (Y2 s') m' ok' a' w' →(∀k l,m k=some l→m' k=some l)→(∀b t,ok b t→ok' b t)→Q .normal a' w')→(Code.region id ops draw).wp X.P Q a w:=by
 have hfr:∀k,(∀x∈((List.range ops.size).map T).reverse,k∉x.2)→Y2 s' k=Y2 s k:=fun k hk=>by
  have:∀n,n≤ops.size→S n k=S 0 k:=by
   intro n
   induction n with
   | zero=>intro _;rfl
   | succ n ih=>
    intro hn
    have hi:ops[n]? =some (ops[n]'(by omega)):=Array.getElem?_eq_getElem _
    rw[yK (hc n (ops[n]'(by omega)) (by rw[Array.getElem?_toList];exact hi)) k (hk (T n) (by simp;exact⟨n,by omega,rfl⟩)),ih (by omega)]
  rw[←h1,←h0]
  exact this ops.size (Nat.le_refl _)
 cases draw with
 | false=>
  refine⟨hfr,fun {m ok a w id Q} R hQ=>wp_region ?_⟩
  rw[List.range_eq_range']
  rw[←h0]at R
  refine JV H hc (m0:=m) (ok0:=ok) (by rw[h1];exact hQ) ops.size 0 (by omega) R (fun _ _ h=>h) (fun _ _ h=>h)
 | true=>
  obtain⟨M0,hp,hpair,hd⟩:=hdraw rfl
  obtain⟨M,hMM,_,hM⟩:=CZ (M:=fun _=>0) ops.toList (n:=0) hp
  simp only[Nat.zero_add,Array.length_toList]at hd hM hMM
  have hMM:∀k,k<ops.size→M0 k=M k:=fun k hk=>by
   have e1:=xA (M:=M0) hk
   rw[hMM,xA hk]at e1
   exact e1.symm
  have hM:∀i o,ops[i]? =some o→(∀e∈o.after.toList,jR e→e.on<i)∧∀j,Nat.testBit (M0 i) j=true→∃e∈o.after.toList,jR e∧(j=e.on∨Nat.testBit (M0 e.on) j=true):=fun i o ho=>by
   have hil:=(Array.getElem?_eq_some_iff.1 ho).1
   obtain⟨g1,g2⟩:=hM i o (by simpa using ho)
   refine⟨g1,fun j hj=>?_⟩
   rw[hMM i hil]at hj
   obtain⟨e,he,hpl,h3⟩:=g2 j hj
   exact⟨e,he,hpl,by rw[hMM e.on (by have:=g1 e he hpl;omega)];exact h3⟩
  have hidr:∀md,(∀(i:Nat) (o:Oper),ops[i]? =some o→∀e∈o.after.toList,Region.binds md e=true→jR e)→DW md ops:=fun md hpl=>by
   refine⟨fun i=>i,fun i o ho e he hb=>?_⟩
   have hil:=(Array.getElem?_eq_some_iff.1 ho).1
   have:=(hM i o ho).1 e he (hpl i o ho e he hb)
   exact⟨by omega,this⟩
  have hany:DW .any ops:=hidr .any fun i o ho e he hb=>a1l hb
  have hboth:DW .text ops∧DW .gc ops:=by
   cases hpo:vK ops.toList
   ·simp only[hpo,cond_false,Bool.and_eq_true]at hd
    exact⟨xn (rk:=fun _=>0) _ hd.1 (by simp) (by simp) (by simp),xn (rk:=fun _=>0) _ hd.2 (by simp) (by simp) (by simp)⟩
   ·have hpl:∀(i:Nat) (o:Oper),ops[i]? =some o→∀e∈o.after.toList,jR e:=fun i o ho e he=>DK hpo o (by simpa using Array.mem_of_getElem? ho) e he
    exact⟨hidr _ fun i o ho e he _=>hpl i o ho e he,hidr _ fun i o ho e he _=>hpl i o ho e he⟩
  refine⟨hfr,fun {m ok a w id Q} R hQ=>wp_region_draw fun t=>?_⟩
  have R' :Rel X (CB*q) (CB*q+CB) (SD S T [] ops.size) m ok a { w with drawn:=w.drawn+1 }:=by
   rw[b2W,h0]
   exact R.same rfl rfl rfl rfl
  have main:∀md,DW md ops→∀t,wpOps X.P ops Q (Region.linearise md ops t) a { w with drawn:=w.drawn+1 }:=fun md hr t=>by
   unfold Region.linearise
   refine wpAny_sound ops.size t _ a _ ?_
   refine a1i H hc hpair hex (fun i o ho=>(hM i o ho).2) hr (m0:=m) (ok0:=ok) (by rw[h1];exact hQ) ops.size (D:=[]) (by simp) List.nodup_nil (by simp) (by simp) (fun i hi=>?_) (by simp) R' (fun _ _ h=>h) (fun _ _ h=>h)
   simp[Array.getD,hi]
  unfold Region.schedule
  split
  ·exact main _ hany t
  ·split
   ·exact main _ hboth.1 _
   ·exact main _ hboth.2 _
theorem Tv (H:FxOk X) {R:Type} {s:St} {wr:Rgs} {K:St→Rgs→Option R} {r:R} {draw:Bool} (h:Tu X.E q ops draw s wr K=some r):
  ∃s' w',K s' w' =some r∧(∃t:Trs,w' =ul t wr∧∀k,(∀x∈t,k∉x.2)→Y2 s' k=Y2 s k)∧
   ∀{m:Mp} {ok:Nat→Ty→Prop} {a:Act} {w:World} {id:Nat} {Q:Exit→Act→World→Prop},Rel X (CB*q) (CB*q+CB) (Y2 s) m ok a w→
    (∀m' ok' a' w',Rel X (CB*q) (CB*q+CB) (Y2 s') m' ok' a' w' →(∀k l,m k=some l→m' k=some l)→(∀b t,ok b t→ok' b t)→Q .normal a' w')→(Code.region id ops draw).wp X.P Q a w:=by
 unfold Tu at h
 have pick:∀(dr:Bool) (s' :St) (T:Nat→Tr),(bif draw then(bif dr then K s' (ul ((List.range ops.size).map T).reverse wr)else none)else K s' (ul ((List.range ops.size).map T).reverse wr))=some r→
   K s' (ul ((List.range ops.size).map T).reverse wr)=some r∧(draw=true→dr=true):=fun dr s' T h=>by
  cases draw
  ·exact⟨h,fun h=>by cases h⟩
  ·cases dr
   ·cases h
   ·exact⟨h,fun _=>rfl⟩
 split at h
 ·obtain⟨s',S,T,h0,h1,hc,hk⟩:=JK _ h
  simp only[Array.length_toList,List.append_nil]at h1 hk
  obtain⟨hk,hd⟩:=pick _ s' T hk
  obtain⟨hfr,hwp⟩:=JE H h0 h1 hc (draw:=draw) (ex:=fun _ _=>False) (fun _ _ _ _ h=>h.elim) fun hdr=>by
   have hd:=hd hdr
   unfold a3r at hd
   cases hp:Ti ops.toList 0 []with
   | none=>simp[hp]at hd
   | some ms=>
   simp only[hp]at hd
   obtain⟨M,hms,_,_⟩:=CZ (M:=fun _=>0) ops.toList (n:=0) hp
   simp only[Nat.zero_add,Array.length_toList]at hms
   subst hms
   cases hod:NT ((List.range ops.size).map M).reverse ((List.range ops.size).map T).reverse
   ·simp[hod]at hd
   simp only[hod,cond_true]at hd
   exact⟨M,rfl,fun i j hi hj=>(Jw _ hod i j hi hj).imp id fun h=>⟨h.1,.inl h.2⟩,hd⟩
  exact⟨s',_,hk,⟨_,rfl,hfr⟩,hwp⟩
 ·obtain⟨s',S,T,h0,h1,hc,hk,_,h5⟩:=Gu _ h
  simp only[Array.length_toList,List.append_nil]at h1 hk
  obtain⟨hk,hd⟩:=pick _ s' T hk
  obtain⟨hfr,hwp⟩:=JE H h0 h1 hc (draw:=draw) (ex:=fun i j=>RG ops.toList j=true∧a3B X.E ops.toList i=true) (fun i j hij hj ⟨e1,e2⟩=>by
   have hi:ops[i]? =some (ops[i]'(by omega)):=Array.getElem?_eq_getElem _
   have hj' :ops[j]? =some (ops[j]'(by omega)):=Array.getElem?_eq_getElem _
   unfold RG at e1
   unfold a3B at e2
   rw[Array.getElem?_toList,hj']at e1
   rw[Array.getElem?_toList,hi]at e2
   obtain⟨d,hd,d',S',g1,g2,g3,g4⟩:=h5 i j _ _ hij (by rw[Array.getElem?_toList];exact hi) (by rw[Array.getElem?_toList];exact hj') e2 e1
   rw[hd]at g1;cases g1
   have hgd:ops.getD i default=ops[i]'(by omega):=by rw[Array.getD_eq_getD_getElem?,hi];rfl
   refine⟨S',by rw[hgd];exact g3,fun k hk=>?_⟩
   rw[g2]at hk
   simp only[List.mem_cons,List.not_mem_nil,or_false]at hk
   subst hk
   exact g4) fun hdr=>by
   have hd:=hd hdr
   unfold Zz at hd
   cases hp:Ti ops.toList 0 []with
   | none=>simp[hp]at hd
   | some ms=>
   simp only[hp]at hd
   obtain⟨M,hms,_,_⟩:=CZ (M:=fun _=>0) ops.toList (n:=0) hp
   simp only[Nat.zero_add,Array.length_toList]at hms
   subst hms
   cases hod:FQ X.E ops.toList ((List.range ops.size).map M).reverse ((List.range ops.size).map T).reverse
   ·simp[hod]at hd
   simp only[hod,cond_true]at hd
   exact⟨M,rfl,FT _ hod,hd⟩
  exact⟨s',_,hk,⟨_,rfl,hfr⟩,hwp⟩
end
end Go.GP
namespace Go.GP
def Wr (w:Rgs) (k:Nat):Prop:=∃p∈w,p.1≤k∧k<p.2
theorem WZ {k:Nat} :¬Wr [] k:=fun⟨p,h,_⟩=>by cases h
theorem BX {p:Nat×Nat} {w:Rgs} {k:Nat} :Wr (p::w) k↔(p.1≤k∧k<p.2)∨Wr w k:=by
 constructor
 ·rintro⟨x,h,h1⟩
  rcases List.mem_cons.1 h with rfl | h
  ·exact .inl h1
  ·exact .inr ⟨x,h,h1⟩
 ·rintro(h | ⟨x,h,h1⟩)
  ·exact⟨p,by simp,h⟩
  ·exact⟨x,by simp[h],h1⟩
theorem Aa {w:Rgs} {k:Nat} :∀{ks:List Nat},Wr (Fq ks w) k↔k∈ks∨Wr w k
 | []=>by simp[Fq]
 | x::ks=>by
  unfold Fq
  rw[BX,Aa]
  simp only[List.mem_cons]
  constructor
  ·rintro(⟨h1,h2⟩ | h | h)
   ·exact .inl (.inl (by omega))
   ·exact .inl (.inr h)
   ·exact .inr h
  ·rintro((rfl | h) | h)
   ·simp
   ·exact .inr (.inl h)
   ·exact .inr (.inr h)
theorem RD {b:Rgs} {k:Nat} :∀{a:Rgs},Wr (La a b) k↔Wr a k∨Wr b k
 | []=>by simp[La,WZ]
 | x::a=>by
  unfold La
  rw[BX,BX,RD,or_assoc]
theorem Ha {w:Rgs} {k:Nat} :∀{t:Trs},Wr (ul t w) k↔(∃x∈t,k∈x.2)∨Wr w k
 | []=>by simp[ul]
 | x::t=>by
  unfold ul
  rw[Aa,Ha,←or_assoc]
  simp
theorem QB {lo hi:Nat} :∀{rs:Rgs},a1G lo hi rs=true→∃p∈rs,p.1≤lo∧hi≤p.2
 | [],h=>by simp[a1G]at h
 | (a,b)::r,h=>by
  unfold a1G at h
  cases hb:(Nat.ble a lo&&Nat.ble hi b)
  ·simp only[hb,cond_false]at h
   obtain⟨p,h1,h2⟩:=QB h
   exact⟨p,by simp[h1],h2⟩
  ·simp only[Bool.and_eq_true]at hb
   exact⟨(a,b),by simp,Nat.le_of_ble_eq_true hb.1,Nat.le_of_ble_eq_true hb.2⟩
theorem Jg {lim:Nat} {rs:Rgs} :∀{w:Rgs},LP lim rs w=true→∀k,Wr w k→lim≤k∨Wr rs k
 | [],_,k,h=>absurd h WZ
 | (a,b)::w,h,k,hk=>by
  unfold LP at h
  cases hc:(Nat.ble lim a || a1G a b rs)
  ·simp[hc]at h
  ·simp only[hc,cond_true]at h
   rcases BX.1 hk with⟨h1,h2⟩ | hk
   ·simp only[Bool.or_eq_true]at hc
    rcases hc with hc | hc
    ·have:=Nat.le_of_ble_eq_true hc
     exact .inl (by simp only at h1;omega)
    ·obtain⟨p,h3,h4,h5⟩:=QB hc
     exact .inr ⟨p,h3,by simp only at h1;omega,by simp only at h2;omega⟩
   ·exact Jg h k hk
theorem Ij {s:St} {k:Nat} :∀{rs:Rgs},¬Wr rs k→Y2 (vF rs s) k=Y2 s k
 | [],_=>rfl
 | (a,b)::r,h=>by
  rw[BX,not_or]at h
  show(bif Nat.ble a k&&Nat.blt k b then V.undef else Y2 (vF r s) k)=Y2 s k
  cases hb:(Nat.ble a k&&Nat.blt k b)
  ·simp only[cond_false];exact Ij h.2
  ·simp only[Bool.and_eq_true]at hb
   exact absurd ⟨Nat.le_of_ble_eq_true hb.1,DY hb.2⟩ h.1
theorem Vs {s:St} {k:Nat} :∀{rs:Rgs},Wr rs k→Y2 (vF rs s) k= .undef
 | [],h=>absurd h WZ
 | (a,b)::r,h=>by
  show(bif Nat.ble a k&&Nat.blt k b then V.undef else Y2 (vF r s) k)=V.undef
  cases hb:(Nat.ble a k&&Nat.blt k b)
  ·simp only[cond_false]
   rcases BX.1 h with⟨h1,h2⟩ | h
   ·simp only at h1 h2
    have e1:Nat.ble a k=true:=Nat.ble_eq_true_of_le h1
    have e2:Nat.blt k b=true:=by rw[Nat.blt_eq];exact h2
    simp[e1,e2]at hb
   ·exact Vs h
  ·simp
theorem VX {h0 h1:Array Obj} {ok0 ok1:Nat→Ty→Prop} {m m1 m2:Mp} (hm:∀k l,m k=some l→m2 k=m1 k):∀{c:V} {v0 v1:Value} (a:oN ⟨h0,ok0,m⟩ c v0) (b:oN ⟨h1,ok1,m1⟩ c v1),oN ⟨h1,ok1,m2⟩ c v1:=by
 intro c
 induction c using V.rec (motive_2:=fun _=>True) <;> try trivial
 all_goals
  intro v0 v1 a b
  simp only[oN]at a b ⊢
  try exact b
 case own bx vw=>
  obtain⟨l0,e0,_⟩:=a
  obtain⟨l,e,hv⟩:=b
  exact⟨l,by rw[hm _ _ e0];exact e,hv⟩
 case ptr bx o=>
  obtain⟨l0,e0,_⟩:=a
  obtain⟨l,e,hv⟩:=b
  exact⟨l,by rw[hm _ _ e0];exact e,hv⟩
 case ep bx ix o=>
  obtain⟨_,_,_,_,_,e0,_⟩:=a
  obtain⟨x1,x2,x3,x4,x5,e,hv⟩:=b
  exact⟨x1,x2,x3,x4,x5,by rw[hm _ _ e0];exact e,hv⟩
 case ifc t c ih=>
  obtain⟨u0,_,_,a⟩:=a
  obtain⟨u,e,h,b⟩:=b
  exact⟨u,e,h,ih a b⟩
theorem Oq {h0 h1:Array Obj} {ok0 ok1:Nat→Ty→Prop} {m m1 m2:Mp} (hm:∀k l,m k=some l→m2 k=m1 k):∀{cs:List V} {v0 v1:List Value},aF ⟨h0,ok0,m⟩ cs v0→aF ⟨h1,ok1,m1⟩ cs v1→aF ⟨h1,ok1,m2⟩ cs v1
 | [],_,_,_,b=>b
 | _::_,_,_,⟨_,_,_,a1,_,a3⟩,⟨v,r,e,b1,b2,b3⟩=>⟨v,r,e,VX hm a1 b1,b2,Oq hm a3 b3⟩
theorem VW {h0 h1:Array Obj} {ok0 ok1:Nat→Ty→Prop} {m m1 m2:Mp} (hm:∀k l,m k=some l→m2 k=m1 k) {c:V} {v0 v1:Value} (a:Ol ⟨h0,ok0,m⟩ c v0) (b:Ol ⟨h1,ok1,m1⟩ c v1):Ol ⟨h1,ok1,m2⟩ c v1:=by
 cases c <;> simp only[Ol]at a b ⊢ <;> try exact VX hm a b
 case agg cs=>
  obtain⟨_,_,a⟩:=a
  obtain⟨arr,e,b⟩:=b
  exact⟨arr,e,Oq hm a b⟩
theorem We {h0 h1:Array Obj} {ok0 ok1:Nat→Ty→Prop} {m m1 m2:Mp} (hm:∀k l,m k=some l→m2 k=m1 k):∀{cs:List V} {v0 v1:List Value},TA ⟨h0,ok0,m⟩ cs v0→TA ⟨h1,ok1,m1⟩ cs v1→TA ⟨h1,ok1,m2⟩ cs v1
 | [],_,_,_,b=>b
 | _::_,_,_,⟨_,_,_,a1,a3⟩,⟨v,r,e,b1,b3⟩=>⟨v,r,e,VW hm a1 b1,We hm a3 b3⟩
theorem a5p {h0 h1:Array Obj} {ok0 ok1:Nat→Ty→Prop} {m m1 m2:Mp} (hm:∀k l,m k=some l→m2 k=m1 k) {c:V} {v0 v1:Value} (a:fE ⟨h0,ok0,m⟩ c v0) (b:fE ⟨h1,ok1,m1⟩ c v1):fE ⟨h1,ok1,m2⟩ c v1:=by
 cases c <;> simp only[fE]at a b ⊢ <;> try exact VW hm a b
 case tup cs=>
  obtain⟨_,_,a⟩:=a
  obtain⟨arr,e,b⟩:=b
  exact⟨arr,e,We hm a b⟩
theorem XF {h0 h1:Array Obj} {ok0 ok1:Nat→Ty→Prop} {m m1 m2:Mp} (hm:∀k l,m k=some l→m2 k=m1 k) {sz:Nat} {l0 l1:Loc} {hole:Option (Nat×Nat×Option Nat)} (a:MV ⟨h0,ok0,m⟩ sz l0 hole) (b:MV ⟨h1,ok1,m1⟩ sz l1 hole):MV ⟨h1,ok1,m2⟩ sz l1 hole:=by
 obtain _ | ⟨i,o,_ | n⟩:=hole
 ·trivial
 ·trivial
 ·obtain⟨_,_,_,_,_,l',_,_,e,_⟩:=a
  obtain⟨b1,b2,b3,b4,b5,l2,c1,c2,c3,c4⟩:=b
  exact⟨b1,b2,b3,b4,b5,l2,c1,c2,by rw[hm _ _ e];exact c3,c4⟩
theorem a5o {h0 h1:Array Obj} {ok0 ok1:Nat→Ty→Prop} {m m1 m2:Mp} (hm:∀k l,m k=some l→m2 k=m1 k) (hk:m2.kid=m1.kid) (km:∀k l,m k=some l→m1 k=some l) {n:Nat} {c:V} (a:vP ⟨h0,ok0,m⟩ n c) (b:∀l,m n=some l→vP ⟨h1,ok1,m1⟩ n c):vP ⟨h1,ok1,m2⟩ n c:=by
 cases c <;> simp only[vP]at a b ⊢
 case bcells cs=>
  obtain⟨_,_,_,e0,_,a⟩:=a
  obtain⟨blk,arr,T,e,hh,b⟩:=b _ e0
  exact⟨blk,arr,T,by rw[hm _ _ e0];exact e,hh,Oq hm a b⟩
 case barr t xs=>
  obtain⟨_,e0,_⟩:=a
  obtain⟨l,e,b⟩:=b _ e0
  exact⟨l,by rw[hm _ _ e0];exact e,lV (fun _ _ h=>h) (fun _ _ _=>rfl) (fun _ _=>rfl) b⟩
 case bfrz t xs=>
  obtain⟨_,e0,_⟩:=a
  obtain⟨l,e,b,hb⟩:=b _ e0
  exact⟨l,by rw[hm _ _ e0];exact e,lV (fun _ _ h=>h) (fun _ _ _=>rfl) (fun _ _=>rfl) b,hb⟩
 case barrs md xs hole=>
  obtain⟨he,_,_,e0,⟨_,ha⟩,_⟩:=a
  obtain⟨_,l,Os,e,⟨b,hl⟩,hb⟩:=b _ e0
  exact⟨he,l,Os,by rw[hm _ _ e0];exact e,⟨b,XF hm ha hl⟩,by rw[hk];exact hb⟩
 case bfc t x=>
  obtain⟨_,_,e0,_⟩:=a
  obtain⟨blk,es,e,b⟩:=b _ e0
  exact⟨blk,es,by rw[hm _ _ e0];exact e,b⟩
 case gone t=>
  obtain⟨_,e0,_⟩:=a
  obtain⟨l,e,b⟩:=b _ e0
  exact⟨l,by rw[hm _ _ e0];exact e,b⟩
 case blen ln sz=>
  obtain⟨k,l,e,e0,h⟩:=a
  exact⟨k,l,e,by rw[hm _ _ e0];exact km _ _ e0,h⟩
def cut (m:Mp) (N:Nat):Mp:=⟨fun n=>if n<N then m n else none,m.kid⟩
section
variable {X:Fx} {cl ch N:Nat} {S S1 S2:Sm} {m m1:Mp} {ok ok1:Nat→Ty→Prop} {a a1:Act} {w w1:World}
theorem Rel.climb (R:Rel X cl ch S m ok a w) {cl' :Nat} (h:cl≤cl'):Rel X cl' ch S m ok a w:={ R with fresh:=fun n h1 h2=>R.fresh n (by omega) h2 }
theorem Rel.rebase (R0:Rel X cl N S m ok a w) {cl1 ch1:Nat} (R1:Rel X cl1 ch1 S1 m1 ok1 a1 w1) (km:∀k l,m k=some l→m1 k=some l)
  (hS:∀k,S2 k= .undef∨(S2 k=S k∧(k<BOX+N→S1 k=S k))):
  Rel X N N S2 (cut m1 N) ok1 a1 w1∧(∀T,Tk X S1 m1 ok1 w1 T→Tk X S2 (cut m1 N) ok1 w1 T)∧(∀k l,m k=some l→cut m1 N k=some l):=by
 have hdom:∀k l,m k=some l→k<N:=fun k l h=>by
  rcases Nat.lt_or_ge k N with h1 | h1
  ·exact h1
  ·rw[R0.strict k h1]at h;cases h
 have hagree:∀k l,m k=some l→cut m1 N k=m1 k:=fun k l h=>by simp[cut,hdom k l h]
 have hown:∀n,J9 (cut m1 N) n (S2 (BOX+n))=J9 m1 n (S1 (BOX+n))∨J9 (cut m1 N) n (S2 (BOX+n))=[]:=fun n=>by
  rcases hS (BOX+n)with h1 | ⟨h1,h2⟩
  ·right;rw[h1];rfl
  ·rcases Nat.lt_or_ge n N with hn | hn
   ·left
    rw[h2 (by omega),←h1]
    exact yX (by simp[cut,hn]) rfl
   ·right
    have hc:m n=none:=R0.strict n hn
    have hb:=R0.box n
    rw[h1]
    cases hv:S (BOX+n) <;> rw[hv]at hb <;> try rfl
    ·obtain⟨_,_,_,e,_⟩:=hb;simp only at e;rw[hc]at e;cases e
    ·obtain⟨_,e,_⟩:=hb;simp only at e;rw[hc]at e;cases e
    ·obtain⟨_,_,_,e,_⟩:=hb;simp only at e;rw[hc]at e;cases e
 have hownM:∀n b,b∈J9 (cut m1 N) n (S2 (BOX+n))→b∈J9 m1 n (S1 (BOX+n)):=fun n b h=>by
  rcases hown n with e | e
  ·rw[←e];exact h
  ·rw[e]at h;cases h
 refine⟨{ kept:=R1.kept,size:=R1.size,nodef:=R1.nodef,okLt:=R1.okLt,okIn:=R1.okIn,okOut:=R1.okOut,frame:=R1.frame,gl:=R1.gl,slot:=fun n hn=>?_,box:=fun n=>?_,inj:=fun n n' b h h' =>R1.inj n n' b (hownM n b h) (hownM n' b h'),nd:=fun n=>(hown n).elim (fun e=>by rw[e];exact R1.nd n) (fun e=>by rw[e];exact List.nodup_nil),sep:=fun n b h=>R1.sep n b (hownM n b h),fresh:=fun n h1 _=>?_,strict:=fun n h=>?_ },fun T hT=>⟨hT.nodup,fun b hb=>?_⟩,fun k l h=>by rw[hagree k l h];exact km k l h⟩
 ·rcases hS n with h1 | ⟨h1,h2⟩
  ·rw[h1];trivial
  ·rw[h1]
   refine a5p hagree (R0.slot n hn) ?_
   rw[←h2 (by omega)];exact R1.slot n hn
 ·rcases hS (BOX+n)with h1 | ⟨h1,h2⟩
  ·rw[h1];trivial
  ·rw[h1]
   refine a5o hagree rfl km (R0.box n) fun l hl=>?_
   rw[←h2 (by have:=hdom n l hl;omega)];exact R1.box n
 ·simp[cut];omega
 ·simp[cut];omega
 ·obtain⟨f1,f2,f3,f4⟩:=hT.free b hb
  exact⟨f1,f2,f3,fun n e=>f4 n (hownM n b e)⟩
theorem bI {R:Type} {q:Nat} {sg:Sig} {rs:Rgs} {s:St} {wr:Rgs} {K:iF sg→Option R} {r:R} (h:DD q sg rs s wr K=some r):
  ∃x,K x=some r∧∀{s0:St} {cl cl1 ch1:Nat} {m m1:Mp} {ok ok1:Nat→Ty→Prop} {a a1:Act} {w w1:World},Rel X cl (CB*q) (Y2 s0) m ok a w→Rel X cl1 ch1 (Y2 s) m1 ok1 a1 w1→(∀k l,m k=some l→m1 k=some l)→
   (∀k,¬Wr wr k→Y2 s k=Y2 s0 k)→∃m2 ok2 O,Rel X (CB*q) (CB*q) (Y2 (vF rs s0)) m2 ok2 a1 w1∧Tk X (Y2 (vF rs s0)) m2 ok2 w1 O∧
    WY w1.heap ok2 sg x a1.tmps O∧(∀k l,m k=some l→m2 k=some l):=by
 unfold DD at h
 obtain⟨x,s1,tr,he,hk⟩:=gX h
 cases hc:LP (BOX+CB*q) rs (Fq tr.2 wr)
 ·simp[hc]at hk
 simp only[hc,cond_true]at hk
 refine⟨x,hk,fun {s0 cl cl1 ch1 m m1 ok ok1 a a1 w w1} R0 R1 km hun=>?_⟩
 have key:=kD (Xv R1 (Q:=fun y S' =>∃ok' O,Rel X cl1 ch1 S' m1 ok' a1 w1∧Tk X S' m1 ok' w1 O∧WY w1.heap ok' sg y a1.tmps O)
  fun S' ok' y O R' T' _ _ hr=>⟨ok',O,R',T',hr⟩) he
 obtain⟨ok',O,R',T',hr⟩:=key
 have hcov:=Jg hc
 obtain⟨R2,hT2,hm2⟩:=R0.rebase (S2:=Y2 (vF rs s0)) R' km (fun k=>by
  by_cases hw:Wr rs k
  ·exact .inl (Vs hw)
  ·refine .inr ⟨Ij hw,fun hlt=>?_⟩
   have hnw:¬Wr (Fq tr.2 wr) k:=fun h=>by
    rcases hcov k h with h1 | h1
    ·omega
    ·exact hw h1
   rw[Aa,not_or]at hnw
   rw[yK he k hnw.1]
   exact hun k hnw.2)
 exact⟨_,ok',O,R2,hT2 O T',hr,hm2⟩
theorem iZ {R:Type} {q:Nat} {sg:Sig} {rs:Rgs} {s:St} {x:iF sg} {K:St→Rgs→Option R} {r:R} (h:enter q sg rs s x K=some r):
  ∃s' w',K s' w' =some r∧(∀k,Wr rs k→Wr w' k)∧(∀k,¬Wr w' k→Y2 s' k=Y2 s k)∧
   ∀{N:Nat} {m:Mp} {ok:Nat→Ty→Prop} {a:Act} {w:World} {O:List Nat},N≤CB*q→Rel X N N (Y2 (vF rs s)) m ok a w→Tk X (Y2 (vF rs s)) m ok w O→
    WY w.heap ok sg x a.tmps O→
    ∃m',Rel X (CB*(q+1)) (CB*(q+1)) (Y2 s') m' ok a w∧(∀k l,m k=some l→m' k=some l):=by
 unfold enter at h
 obtain⟨u,s',tr,he,hk⟩:=gX h
 refine⟨s',_,hk,fun k hk=>Aa.2 (.inr hk),fun k hk=>?_,fun {N m ok a w O} hN R1 T1 hr=>?_⟩
 ·rw[Aa,not_or]at hk
  rw[yK he k hk.1,Ij hk.2]
 ·have key:=kD (Xp (x:=x) (nb:=CB*q) (lim:=CB*q+CB) (Q:=fun _ S' =>∃m',Rel X N (max N (CB*q+CB)) S' m' ok a w∧(∀k l,m k=some l→m' k=some l)) R1 hN T1 hr
   fun S' m' R' k=>⟨m',R',k⟩) he
  obtain⟨m',R',k⟩:=key
  have e:CB*(q+1)=CB*q+CB:=by rw[Nat.mul_add,Nat.mul_one]
  rw[e]
  generalize CB*q=Z at*
  exact⟨m',(R'.climb (by omega)).chmono (by omega),k⟩
end
end Go.GP
namespace Go.GP
section
variable {X:Fx} {rt:Ret} {mE:Mp} {RetP:rt.den→Act→World→Prop}
def EK (X:Fx) (q:Nat) (m:Mp) (s:St) (wr:Rgs) (s' :St) (w' :Rgs) (a:Act) (w:World):Prop:=
 ∃m' ok',Rel X (CB*q) (CB*q) (Y2 s') m' ok' a w∧(∀k l,m k=some l→m' k=some l)∧(∀k,Wr wr k→Wr w' k)∧(∀k,¬Wr w' k→Y2 s' k=Y2 s k)
def WW (X:Fx) (RetP:rt.den→Act→World→Prop) (q:Nat) (m:Mp) (s:St) (wr:Rgs) (fl:Flow rt.den) (s' :St) (w' :Rgs) (e:Exit) (a:Act) (w:World):Prop:=
 match fl with
 | .nm=>e= .normal∧EK X q m s wr s' w' a w
 | .ex id=>e= .exit id∧EK X q m s wr s' w' a w
 | .rt x=>e= .ret∧RetP x a w
def Zd (X:Fx) (RetP:rt.den→Act→World→Prop) (q:Nat) (m:Mp) (s:St) (wr:Rgs) {R:Type} (K:Flow rt.den→St→Rgs→Option R) (r:R) (e:Exit) (a:Act) (w:World):Prop:=
 ∃fl s' w',K fl s' w' =some r∧WW X RetP q m s wr fl s' w' e a w
structure DOk (X:Fx) (mE:Mp) (RetP:rt.den→Act→World→Prop) (D:Den rt.den) (c:Code) (n:Nat):Prop where
 run:∀{q:Nat} {an:Ann} {s:St} {wr:Rgs} {R:Type} {K:Flow rt.den→St→Rgs→Option R} {r:R},D q an s wr R K=some r→
  ∀{m:Mp} {ok:Nat→Ty→Prop} {a:Act} {w:World},Rel X (CB*q) (CB*q) (Y2 s) m ok a w→(∀k l,mE k=some l→m k=some l)→
   c.wp X.P (Zd X RetP (q+n) m s wr K r) a w
def a2O (X:Fx) (rt:Ret) (mE:Mp) (RetP:rt.den→Act→World→Prop):Prop:=
 ∀{s:St} {R:Type} {K:rt.den→Option R} {r:R},(a8C X.E rt).runK s ([],[]) (fun x _ _=>K x)=some r→
  ∃x,K x=some r∧∀{cl ch:Nat} {m:Mp} {ok:Nat→Ty→Prop} {a:Act} {w:World},Rel X cl ch (Y2 s) m ok a w→(∀k l,mE k=some l→m k=some l)→RetP x a w
theorem Zv {p q:Nat} (h:p≤q):CB*p≤CB*q:=Nat.mul_le_mul_left _ h
theorem Rel.upq {p q:Nat} {S:Sm} {m:Mp} {ok:Nat→Ty→Prop} {a:Act} {w:World} (R:Rel X (CB*p) (CB*p) S m ok a w) (h:p≤q):Rel X (CB*q) (CB*q) S m ok a w:=
 (R.climb (Zv h)).chmono (Zv h)
theorem EK.here {q q' :Nat} {m:Mp} {ok:Nat→Ty→Prop} {s:St} {wr:Rgs} {a:Act} {w:World} (R:Rel X (CB*q) (CB*q) (Y2 s) m ok a w) (h:q≤q'):EK X q' m s wr s wr a w:=
 ⟨m,ok,R.upq h,fun _ _ h=>h,fun _ h=>h,fun _ _=>rfl⟩
theorem EK.up {q q' :Nat} {m:Mp} {s s' :St} {wr w' :Rgs} {a:Act} {w:World} (h:EK X q m s wr s' w' a w) (hq:q≤q'):EK X q' m s wr s' w' a w:=by
 obtain⟨m',ok',R,h1,h2,h3⟩:=h
 exact⟨m',ok',R.upq hq,h1,h2,h3⟩
theorem EK.trans {q q' :Nat} {m m1:Mp} {s s1 s2:St} {wr w1 w2:Rgs} {a:Act} {w:World} (k1:∀k l,m k=some l→m1 k=some l) (k2:∀k,Wr wr k→Wr w1 k) (k3:∀k,¬Wr w1 k→Y2 s1 k=Y2 s k)
  (h:EK X q m1 s1 w1 s2 w2 a w) (hq:q≤q'):EK X q' m s wr s2 w2 a w:=by
 obtain⟨m',ok',R,h1,h2,h3⟩:=h
 exact⟨m',ok',R.upq hq,fun k l h=>h1 k l (k1 k l h),fun k h=>h2 k (k2 k h),fun k h=>(h3 k h).trans (k3 k fun h' =>h (h2 k h'))⟩
theorem WW.up {q q' :Nat} {m:Mp} {s s' :St} {wr w' :Rgs} {fl:Flow rt.den} {e:Exit} {a:Act} {w:World} (h:WW X RetP q m s wr fl s' w' e a w) (hq:q≤q'):WW X RetP q' m s wr fl s' w' e a w:=by
 cases fl with
 | nm=>exact⟨h.1,h.2.up hq⟩
 | ex id=>exact⟨h.1,h.2.up hq⟩
 | rt x=>exact h
theorem WW.trans {q q' :Nat} {m m1:Mp} {s s1 s2:St} {wr w1 w2:Rgs} {fl:Flow rt.den} {e:Exit} {a:Act} {w:World} (k1:∀k l,m k=some l→m1 k=some l) (k2:∀k,Wr wr k→Wr w1 k) (k3:∀k,¬Wr w1 k→Y2 s1 k=Y2 s k)
  (h:WW X RetP q m1 s1 w1 fl s2 w2 e a w) (hq:q≤q'):WW X RetP q' m s wr fl s2 w2 e a w:=by
 cases fl with
 | nm=>exact⟨h.1,h.2.trans k1 k2 k3 hq⟩
 | ex id=>exact⟨h.1,h.2.trans k1 k2 k3 hq⟩
 | rt x=>exact h
theorem Ce {q n:Nat} (hq:q+1≤n) {s s3:St} {wr w3:Rgs} {m m2:Mp} {ok2:Nat→Ty→Prop} {a:Act} {w:World}
  (km:∀k l,m k=some l→m2 k=some l) (hout:∀k,¬Wr w3 k→Y2 s3 k=Y2 s k)
  (hR:∃m',Rel X (CB*(q+1)) (CB*(q+1)) (Y2 s3) m' ok2 a w∧(∀k l,m2 k=some l→m' k=some l)):EK X n m s wr s3 (La w3 wr) a w:=by
 obtain⟨m',R,k⟩:=hR
 exact⟨m',ok2,R.upq hq,fun k' l h=>k _ _ (km _ _ h),fun k h=>RD.2 (.inr h),fun k h=>hout k fun h' =>h (RD.2 (.inl h'))⟩
theorem kX {core:Den rt.den} {c:Code} {n:Nat} (hc:DOk X mE RetP core c n):DOk X mE RetP (zT core) c (n+1):=by
 refine⟨?_⟩
 intro q an s wr R K r h m ok a w Rl hE
 have plain:core (q+1) an s wr R K=some r→c.wp X.P (Zd X RetP (q+(n+1)) m s wr K r) a w:=fun h=>by
  have:=hc.run h (Rl.upq (Nat.le_succ q)) hE
  rwa[show q+1+n=q+(n+1) by omega]at this
 cases an
 case join rs nm an=>
  unfold zT at h
  simp only at h
  obtain⟨x,h1,h2⟩:=vJ h
  obtain⟨s3,w3,hk3,hrs,hout,hR⟩:=iZ (X:=X) h2
  refine wp_mono (hc.run h1 (Rl.upq (Nat.le_succ q)) hE) ?_
  rintro e a' w' ⟨fl,s',wr',hk,hfl⟩
  cases fl with
  | ex id=>cases hk
  | rt x=>cases hk
  | nm=>
   obtain⟨rfl,m',ok',R1,k1,k2,k3⟩:=hfl
   obtain⟨x',hx,hL⟩:=bI (X:=X) hk
   cases hx
   obtain⟨m2,ok2,O,R2,T2,hr,km⟩:=hL Rl R1 k1 k3
   exact⟨.nm,s3,_,hk3,rfl,Ce (q:=q) (by omega) km hout (hR (Nat.le_refl _) R2 T2 hr)⟩
 case joinR rs nm an=>
  unfold zT at h
  simp only at h
  obtain⟨o,h1,h2⟩:=vJ h
  refine wp_mono (hc.run h1 (Rl.upq (Nat.le_succ q)) hE) ?_
  rintro e a' w' ⟨fl,s',wr',hk,hfl⟩
  cases fl with
  | ex id=>cases hk
  | rt x=>
   cases hk
   exact⟨.rt x,_,_,h2,hfl⟩
  | nm=>
   obtain⟨rfl,m',ok',R1,k1,k2,k3⟩:=hfl
   obtain⟨x',hx,hL⟩:=bI (X:=X) hk
   cases hx
   obtain⟨s3,w3,hk3,hrs,hout,hR⟩:=iZ (X:=X) (show enter q nm rs s x' (fun s' w' =>K .nm s' (La w' wr))=some r from h2)
   obtain⟨m2,ok2,O,R2,T2,hr,km⟩:=hL Rl R1 k1 k3
   exact⟨.nm,s3,_,hk3,rfl,Ce (q:=q) (by omega) km hout (hR (Nat.le_refl _) R2 T2 hr)⟩
 all_goals exact plain h
theorem XJ {core:Den rt.den} {c:Code} {n:Nat} (hc:DOk X mE RetP core c n):DOk X mE RetP (Vp core) (.loop c) (2+n):=by
 refine⟨?_⟩
 intro q an s wr R K r h m ok a w Rl hE
 cases an
 case loop rs hd xid xs an=>
  unfold Vp at h
  simp only at h
  obtain⟨x0,hk0,hL0⟩:=bI (X:=X) h
  obtain⟨m2,ok2,O,R2,T2,hr,km⟩:=hL0 Rl Rl (fun _ _ h=>h) (fun _ _=>rfl)
  obtain⟨y,hl,hen⟩:=vJ hk0
  clear hk0 h hL0
  obtain⟨s3,w3,hk3,hrs,hout,hR⟩:=iZ (X:=X) hen
  refine wp_loop_rounds dN ?_
  unfold X5 at hl
  have key:∀(f:Nat) {x:iF hd} {m2:Mp} {ok2:Nat→Ty→Prop} {O:List Nat} {a:Act} {w:World},
    iC (fun x=>a5y core q rs hd xid xs an s x) f x=some y→
    Rel X (CB*q) (CB*q) (Y2 (vF rs s)) m2 ok2 a w→Tk X (Y2 (vF rs s)) m2 ok2 w O→WY w.heap ok2 hd x a.tmps O→(∀k l,m k=some l→m2 k=some l)→
    Code.rounds X.P c (Zd X RetP (q+(2+n)) m s wr K r) f a w:=by
   intro f
   induction f with
   | zero=>intro x m2 ok2 O a w h;simp[iC]at h
   | succ f ih=>
    intro x m2 ok2 O a w h R2 T2 hr km
    rw[rounds_succ]
    unfold iC at h
    split at h
    ·rename_i x' hf
     obtain⟨s1,w1,hcore,_,hout1,hR1⟩:=iZ (X:=X) (show enter q hd rs s x _=some _ from hf)
     obtain⟨m1,R1,km1⟩:=hR1 (Nat.le_refl _) R2 T2 hr
     refine wp_mono (hc.run hcore (R1.upq (by omega)) (fun k l h=>km1 _ _ (km _ _ (hE _ _ h)))) ?_
     rintro e a' w' ⟨fl,s',wr',hk,hfl⟩
     cases fl with
     | rt x=>cases hk
     | ex id=>
      simp only at hk
      cases hb:Nat.beq id xid
      ·simp[hb]at hk
      ·simp only[hb,cond_true]at hk
       obtain⟨y',hx,_⟩:=bI (X:=X) hk
       cases hx
     | nm=>
      obtain⟨rfl,m',ok',R1',k1,k2,k3⟩:=hfl
      obtain⟨y',hx,hL⟩:=bI (X:=X) hk
      cases hx
      obtain⟨m4,ok4,O4,R4,T4,hr4,km4⟩:=hL Rl R1' (fun k l h=>k1 _ _ (km1 _ _ (km _ _ h))) (fun k h=>(k3 k h).trans (hout1 k fun h' =>h (k2 k h')))
      exact ih h R4 T4 hr4 km4
    ·rename_i y' hf
     cases h
     obtain⟨s1,w1,hcore,_,hout1,hR1⟩:=iZ (X:=X) (show enter q hd rs s x _=some _ from hf)
     obtain⟨m1,R1,km1⟩:=hR1 (Nat.le_refl _) R2 T2 hr
     refine wp_mono (hc.run hcore (R1.upq (by omega)) (fun k l h=>km1 _ _ (km _ _ (hE _ _ h)))) ?_
     rintro e a' w' ⟨fl,s',wr',hk,hfl⟩
     cases fl with
     | rt x=>cases hk
     | nm=>
      simp only at hk
      obtain⟨y',hx,_⟩:=bI (X:=X) hk
      cases hx
     | ex id=>
      simp only at hk
      cases hb:Nat.beq id xid
      ·simp[hb]at hk
      ·simp only[hb,cond_true]at hk
       have hid:=aV hb
       subst hid
       obtain⟨rfl,m',ok',R1',k1,k2,k3⟩:=hfl
       obtain⟨y',hx,hL⟩:=bI (X:=X) hk
       cases hx
       obtain⟨m4,ok4,O4,R4,T4,hr4,km4⟩:=hL Rl R1' (fun k l h=>k1 _ _ (km1 _ _ (km _ _ h))) (fun k h=>(k3 k h).trans (hout1 k fun h' =>h (k2 k h')))
       exact⟨.ex id,s3,_,hk3,rfl,Ce (q:=q+1) (by omega) km4 hout (hR (Zv (Nat.le_succ q)) R4 T4 hr4)⟩
    ·cases h
  exact key dN (x:=x0) hl R2 T2 hr km
 case loopR rs hd xid xs an=>
  unfold Vp at h
  simp only at h
  obtain⟨x0,hk0,hL0⟩:=bI (X:=X) h
  obtain⟨m2,ok2,O,R2,T2,hr,km⟩:=hL0 Rl Rl (fun _ _ h=>h) (fun _ _=>rfl)
  obtain⟨y,hl,hen⟩:=vJ hk0
  clear hk0 h hL0
  refine wp_loop_rounds dN ?_
  unfold U2 at hl
  have key:∀(f:Nat) {x:iF hd} {m2:Mp} {ok2:Nat→Ty→Prop} {O:List Nat} {a:Act} {w:World},
    iD (fun x=>a5z core q rs hd xid xs an s x) f x=some y→
    Rel X (CB*q) (CB*q) (Y2 (vF rs s)) m2 ok2 a w→Tk X (Y2 (vF rs s)) m2 ok2 w O→WY w.heap ok2 hd x a.tmps O→(∀k l,m k=some l→m2 k=some l)→
    Code.rounds X.P c (Zd X RetP (q+(2+n)) m s wr K r) f a w:=by
   intro f
   induction f with
   | zero=>intro x m2 ok2 O a w h;simp[iD]at h
   | succ f ih=>
    intro x m2 ok2 O a w h R2 T2 hr km
    rw[rounds_succ]
    unfold iD at h
    split at h
    ·rename_i x' hf
     obtain⟨s1,w1,hcore,_,hout1,hR1⟩:=iZ (X:=X) (show enter q hd rs s x _=some _ from hf)
     obtain⟨m1,R1,km1⟩:=hR1 (Nat.le_refl _) R2 T2 hr
     refine wp_mono (hc.run hcore (R1.upq (by omega)) (fun k l h=>km1 _ _ (km _ _ (hE _ _ h)))) ?_
     rintro e a' w' ⟨fl,s',wr',hk,hfl⟩
     cases fl with
     | rt x=>cases hk
     | ex id=>
      simp only at hk
      cases hb:Nat.beq id xid
      ·simp[hb]at hk
      ·simp only[hb,cond_true]at hk
       obtain⟨y',hx,_⟩:=bI (X:=X) hk
       cases hx
     | nm=>
      obtain⟨rfl,m',ok',R1',k1,k2,k3⟩:=hfl
      obtain⟨y',hx,hL⟩:=bI (X:=X) hk
      cases hx
      obtain⟨m4,ok4,O4,R4,T4,hr4,km4⟩:=hL Rl R1' (fun k l h=>k1 _ _ (km1 _ _ (km _ _ h))) (fun k h=>(k3 k h).trans (hout1 k fun h' =>h (k2 k h')))
      exact ih h R4 T4 hr4 km4
    ·rename_i y' hf
     cases h
     obtain⟨s3,w3,hk3,hrs,hout,hR⟩:=iZ (X:=X) (show enter (q+1) xs rs s y' (fun s' w' =>K (.ex xid) s' (La w' wr))=some r from hen)
     obtain⟨s1,w1,hcore,_,hout1,hR1⟩:=iZ (X:=X) (show enter q hd rs s x _=some _ from hf)
     obtain⟨m1,R1,km1⟩:=hR1 (Nat.le_refl _) R2 T2 hr
     refine wp_mono (hc.run hcore (R1.upq (by omega)) (fun k l h=>km1 _ _ (km _ _ (hE _ _ h)))) ?_
     rintro e a' w' ⟨fl,s',wr',hk,hfl⟩
     cases fl with
     | rt x=>cases hk
     | nm=>
      simp only at hk
      obtain⟨y',hx,_⟩:=bI (X:=X) hk
      cases hx
     | ex id=>
      simp only at hk
      cases hb:Nat.beq id xid
      ·simp[hb]at hk
      ·simp only[hb,cond_true]at hk
       have hid:=aV hb
       subst hid
       obtain⟨rfl,m',ok',R1',k1,k2,k3⟩:=hfl
       obtain⟨y',hx,hL⟩:=bI (X:=X) hk
       cases hx
       obtain⟨m4,ok4,O4,R4,T4,hr4,km4⟩:=hL Rl R1' (fun k l h=>k1 _ _ (km1 _ _ (km _ _ h))) (fun k h=>(k3 k h).trans (hout1 k fun h' =>h (k2 k h')))
       exact⟨.ex id,s3,_,hk3,rfl,Ce (q:=q+1) (by omega) km4 hout (hR (Zv (Nat.le_succ q)) R4 T4 hr4)⟩
    ·rename_i r' hf
     cases h
     obtain⟨s1,w1,hcore,_,hout1,hR1⟩:=iZ (X:=X) (show enter q hd rs s x _=some _ from hf)
     obtain⟨m1,R1,km1⟩:=hR1 (Nat.le_refl _) R2 T2 hr
     refine wp_mono (hc.run hcore (R1.upq (by omega)) (fun k l h=>km1 _ _ (km _ _ (hE _ _ h)))) ?_
     rintro e a' w' ⟨fl,s',wr',hk,hfl⟩
     cases fl with
     | rt x=>
      cases hk
      obtain⟨rfl,hp⟩:=hfl
      exact⟨.rt r',[],[],hen,rfl,hp⟩
     | nm=>
      simp only at hk
      obtain⟨y',hx,_⟩:=bI (X:=X) hk
      cases hx
     | ex id=>
      simp only at hk
      cases hb:Nat.beq id xid
      ·simp[hb]at hk
      ·simp only[hb,cond_true]at hk
       obtain⟨y',hx,_⟩:=bI (X:=X) hk
       cases hx
    ·cases h
  exact key dN (x:=x0) hl R2 T2 hr km
 all_goals (unfold Vp at h;cases h)
theorem rM (H:FxOk X) (hret:a2O X rt mE RetP):∀c:Code,DOk X mE RetP (den X.E rt c) c (qf c)
 | .skip=>kX (n:=0) ⟨fun {q an s wr R K r} h {m ok a w} Rl hE=>wp_skip ⟨.nm,s,wr,h,rfl,EK.here Rl (by omega)⟩⟩
 | .label l=>kX (n:=0) ⟨fun {q an s wr R K r} h {m ok a w} Rl hE=>wp_label ⟨.nm,s,wr,h,rfl,EK.here Rl (by omega)⟩⟩
 | .exit id=>kX (n:=0) ⟨fun {q an s wr R K r} h {m ok a w} Rl hE=>wp_exit ⟨.ex id,s,wr,h,rfl,EK.here Rl (by omega)⟩⟩
 | .ret=>kX (n:=0) ⟨fun {q an s wr R K r} h {m ok a w} Rl hE=>by
  obtain⟨x,hk,hp⟩:=hret (K:=fun x=>K (.rt x) [] []) h
  exact wp_ret ⟨.rt x,[],[],hk,rfl,hp Rl hE⟩⟩
 | .region id ops draw=>kX (n:=1) ⟨fun {q an s wr R K r} h {m ok a w} Rl hE=>by
  obtain⟨s',w',hk,⟨t,rfl,hfr⟩,hR⟩:=Tv H h
  refine hR (Rl.chmono (Nat.le_add_right _ _)) fun m' ok' a' w2 R' k1 k2=>⟨.nm,s',_,hk,rfl,m',ok',?_,k1,fun k h=>Ha.2 (.inr h),fun k h=>hfr k fun x hx hkx=>h (Ha.2 (.inl ⟨x,hx,hkx⟩))⟩
  have e:CB*(q+1)=CB*q+CB:=by rw[Nat.mul_add,Nat.mul_one]
  rw[e]
  exact R'.climb (Nat.le_add_right _ _)⟩
 | .seq x y=>by
  have hx:=rM H hret x
  have hy:=rM H hret y
  have:=kX (X:=X) (mE:=mE) (RetP:=RetP) (c:=.seq x y) (n:=qf x+qf y) (core:=fun q a s w R K=>den X.E rt x q a.l s w R fun fl s' w' =>match fl with
   | .nm=>den X.E rt y (q+qf x) a.r s' w' R K
   | .ex id=>K (.ex id) s' w'
   | .rt r=>K (.rt r) s' w') (DOk.mk fun {q an s wr R K r} h {m ok a w} Rl hE=>by
    refine wp_seq (wp_mono (hx.run h Rl hE) ?_)
    rintro e a' w' ⟨fl,s',wr',hk,hfl⟩
    cases fl with
    | nm=>
     obtain⟨rfl,m',ok',R1,k1,k2,k3⟩:=hfl
     refine wp_mono (hy.run hk R1 (fun k l h=>k1 _ _ (hE _ _ h))) ?_
     rintro e a2 w2 ⟨fl,s2,wr2,hk2,hfl2⟩
     exact⟨fl,s2,wr2,hk2,hfl2.trans k1 k2 k3 (by omega)⟩
    | ex id=>
     obtain⟨rfl,hs⟩:=hfl
     exact⟨.ex id,s',wr',hk,rfl,hs.up (by omega)⟩
    | rt x=>
     obtain⟨rfl,hs⟩:=hfl
     exact⟨.rt x,s',wr',hk,rfl,hs⟩)
  rw[show qf (.seq x y)=qf x+qf y+1 by simp only[qf];omega]
  exact this
 | .block id x=>by
  have hx:=rM H hret x
  have:=kX (X:=X) (mE:=mE) (RetP:=RetP) (c:=.block id x) (n:=qf x) (core:=fun q a s w R K=>den X.E rt x q a.l s w R fun fl s' w' =>match fl with
   | .nm=>K .nm s' w'
   | .ex j=>bif Nat.beq j id then K .nm s' w' else K (.ex j) s' w'
   | .rt r=>K (.rt r) s' w') (DOk.mk fun {q an s wr R K r} h {m ok a w} Rl hE=>by
    refine wp_block (wp_mono (hx.run h Rl hE) ?_)
    rintro e a' w' ⟨fl,s',wr',hk,hfl⟩
    cases fl with
    | nm=>
     obtain⟨rfl,hs⟩:=hfl
     exact⟨.nm,s',wr',hk,rfl,hs⟩
    | ex j=>
     obtain⟨rfl,hs⟩:=hfl
     simp only at hk
     cases hb:Nat.beq j id
     ·simp only[hb,cond_false]at hk
      have hne:j≠id:=fun e=>by subst e;simp at hb
      simp only[Exit.inBlock,hne,if_false]
      exact⟨.ex j,s',wr',hk,rfl,hs⟩
     ·simp only[hb,cond_true]at hk
      have:=aV hb
      subst this
      simp only[Exit.inBlock,if_true]
      exact⟨.nm,s',wr',hk,rfl,hs⟩
    | rt x=>
     obtain⟨rfl,hs⟩:=hfl
     exact⟨.rt x,s',wr',hk,rfl,hs⟩)
  rw[show qf (.block id x)=qf x+1 by simp only[qf];omega]
  exact this
 | .cond c x y=>by
  have hx:=rM H hret x
  have hy:=rM H hret y
  have:=kX (X:=X) (mE:=mE) (RetP:=RetP) (c:=.cond c x y) (n:=qf x+qf y) (core:=fun q a s w R K=>(iO c fun v=>Cmd.ret v:Cmd V).runK s ([],[]) fun v s' _=>match v with
   | .b t=>l7 t (den X.E rt x q a.l s' w R K) (den X.E rt y (q+qf x) a.r s' w R K)
   | _=>none) (DOk.mk fun {q an s wr R K r} h {m ok a w} Rl hE=>by
    obtain⟨v,s',tr,he,hk⟩:=gX h
    obtain⟨hv,hs⟩:=kD (O7 Rl (K:=fun v=>Cmd.ret v) (x:=c) (Q:=fun v S' =>fE ⟨w.heap,ok,m⟩ v (a.eval c)∧S' =Y2 s) fun v hv=>⟨hv,rfl⟩) he
    cases v <;> try (simp at hk;done)
    case b t=>
     have R1:Rel X (CB*q) (CB*q) (Y2 s') m ok a w:=by rw[hs];exact Rl
     refine wp_cond_split (IG hv) (fun ht=>?_) (fun ht=>?_)
     ·subst ht
      refine wp_mono (hx.run (show den X.E rt x q an.l s' wr R K=some r from hk) R1 hE) ?_
      rintro e a2 w2 ⟨fl,s2,wr2,hk2,hfl2⟩
      exact⟨fl,s2,wr2,hk2,hfl2.trans (fun _ _ h=>h) (fun _ h=>h) (fun k _=>by rw[hs]) (by omega)⟩
     ·subst ht
      refine wp_mono (hy.run (show den X.E rt y (q+qf x) an.r s' wr R K=some r from hk) (R1.upq (by omega)) hE) ?_
      rintro e a2 w2 ⟨fl,s2,wr2,hk2,hfl2⟩
      exact⟨fl,s2,wr2,hk2,hfl2.trans (fun _ _ h=>h) (fun _ h=>h) (fun k _=>by rw[hs]) (by omega)⟩)
  rw[show qf (.cond c x y)=qf x+qf y+1 by simp only[qf];omega]
  exact this
 | .loop x=>by
  have hx:=rM H hret x
  have:=kX (XJ hx)
  rw[show qf (.loop x)=2+qf x+1 by simp only[qf];omega]
  exact this
 | .goto l=>⟨fun h=>by simp[den]at h⟩
 | .scope x=>⟨fun h=>by simp[den]at h⟩
 | .rangeFunc ..=>⟨fun h=>by simp[den]at h⟩
 | .refuse ..=>⟨fun h=>by simp[den]at h⟩
end
end Go.GP
namespace Go.GP
structure EnvOk (P:Program) (E:Env):Prop where
 nt:64*E.nt≤999936
 tt:∀t i,Y3 E.tt t=some i→TiOk P t i
 fs:∀p∈E.fs,D5 P E.gl p.1 p.2
 eqs:∀t sh,Y3 E.eqs t=some sh→BU P t sh
 ms:∀p∈E.ms,uQ P p.1.1 p.1.2 p.2.1 p.2.2
 fn:∀p∈E.fs,∃fn,P.funcs[p.1]? =some fn∧fn.body.isSome=true∧(fn.name== "runtime.NumGoroutine")=false
theorem Gm {C:Cx} :∀{a:List V} {xs:List Value},aY C a xs→a.length=xs.length
 | [],_,h=>by simp only[aY]at h;simp[h]
 | c::a,_,⟨v,r,e,h1,h2⟩=>by subst e;simp[Gm h2]
def IM (tmps:Array Value):ResultVar→Sem Value
 | .tmp t=>pure (tmps.getD t undef)
 | .cell a t=>do loadVar t (←asAddr (tmps.getD a undef))
def a2N (h:Array Obj) (tm:Nat→Value):List Nat→List Value→List Nat→Prop
 | [],os,B=>os=[]∧B=[]
 | n::ns,os,B=>(∃b arr T os' B',tm n= .pointer (some ⟨b,0,none⟩)∧h[b]? =some (.cells arr T (0,0))∧os= .agg arr::os' ∧B=b::B' ∧a2N h tm ns os' B')∨
  (∃t b arr T os' B',tm n= .iface t (.pointer (some ⟨b,0,none⟩))∧h[b]? =some (.cells arr T (0,0))∧os= .agg arr::os' ∧B=b::B' ∧a2N h tm ns os' B')∨
  (∃l os',Loc.view l none (tm n)∧os=tm n::os' ∧a2N h tm ns os' B)
def Rx (h:Array Obj) (ok:Nat→Ty→Prop):List MG→List Value→Prop
 | [],vs=>vs=[]
 | m::ms,vs=>∃v r cs x O,vs=v::r∧IE m.1 v cs∧gI h ok m.2 none x cs O∧Rx h ok ms r
theorem PU {h:Array Obj} {ok:Nat→Ty→Prop} :∀{ms:List MG} {x:aK ms} {vs:List Value} {O:List Nat},kS h ok ms x vs O→Rx h ok ms vs
 | [],_,_,_,e=>e.1
 | [m],x,_,_,⟨v,cs,e,hg,hr⟩=>⟨v,[],cs,x,_,e,hg,hr,rfl⟩
 | m::m' ::r,x,_,_,⟨v,cs,vs',O1,O2,e,eo,hg,h1,h2⟩=>⟨v,vs',cs,x.1,O1,e,hg,h1,PU h2⟩
section
variable {X:Fx} {cl ch:Nat} {m:Mp} {a:Act} {w:World}
theorem Bv {α:Type} {Q:α→Sm→Prop} (H:FxOk X) {S:Sm} {ok:Nat→Ty→Prop} (R:Rel X cl ch S m ok a w):∀(l:List ResultVar) {K:List V→Cmd α}
  (hK:∀vs rvs,aY ⟨w.heap,ok,m⟩ vs rvs→rvs.length=l.length→(l.mapM (IM a.tmps)).run X.P w= .ok rvs w→(K vs).post S Q),(IL X.E l K).post S Q
 | [],K,hK=>hK [] [] rfl rfl (by simp)
 | .tmp t::l,K,hK=>by
  unfold IL
  refine Y4 fun hb=>ae ?_
  refine Bv H R l fun vs rvs hr hl hrun=>?_
  refine hK _ (a.tmps.getD t undef::rvs) ⟨_,_,rfl,R.slot t (DY hb),hr⟩ (by simp[hl]) ?_
  simp only[List.mapM_cons,Sem.run_bind,IM,Sem.run_pure,Result.andThen_ok,hrun]
 | .cell p t::l,K,hK=>by
  unfold IL
  refine Y4 fun hb=>ae ?_
  refine yQ H R (R.slot p (DY hb)) fun v u ad hv hx hload=>?_
  refine Bv H R l fun vs rvs hr hl hrun=>?_
  refine hK _ (u::rvs) ⟨_,_,rfl,hv,hr⟩ (by simp[hl]) ?_
  simp only[List.mapM_cons,Sem.run_bind,IM,hx,asAddr,Sem.run_pure,Result.andThen_ok,hload,hrun]
theorem wW {α:Type} {Q:α→Sm→Prop} :∀(ns:List Nat) {S:Sm} {ok:Nat→Ty→Prop} {T:List Nat} {K:List V→Cmd α} (R:Rel X cl ch S m ok a w) (hT:Tk X S m ok w T)
  (hK:∀S' ws os B,Rel X cl ch S' m ok a w→Tk X S' m ok w (T++B)→a2N w.heap (fun n=>a.tmps.getD n Go.undef) ns os B→aY ⟨w.heap,ok,m⟩ ws os→(K ws).post S' Q),(Iy ns K).post S Q
 | [],S,ok,T,K,R,hT,hK=>hK S [] [] [] R (by simpa using hT) ⟨rfl,rfl⟩ rfl
 | n::ns,S,ok,T,K,R,hT,hK=>by
  unfold Iy
  refine az fun hb=>ae ?_
  have hsl:=R.slot n (by rw[Nat.blt_eq]at hb;exact hb)
  split <;> try trivial
  ·rename_i bx hSn
   rw[hSn]at hsl
   obtain⟨blk,hm,hv⟩:=hsl
   refine ae ?_
   split <;> try trivial
   rename_i cs hS
   obtain⟨blk',arr,Ty,hm',hh,hl⟩:=R.own_cells hS
   simp only at hm
   rw[hm]at hm';cases hm'
   refine dX ?_
   have hT1:Tk X (upd S (BOX+bx) .dead) m ok w (T++[blk]):=hT.kill R bx (fun b hb=>by simp at hb;subst hb;simp[J9,hS,hm]) (by simp)
   refine wW ns (R.kill bx) hT1 fun S' ws os B R' T' ho hw=>?_
   exact hK S' _ (.agg arr::os) (blk::B) R' (by simpa using T') (.inl ⟨blk,arr,Ty,os,B,hv,hh,rfl,rfl,ho⟩) ⟨_,_,rfl,⟨arr,rfl,hl⟩,hw⟩
  ·rename_i t u hSn
   rw[hSn]at hsl
   obtain⟨z,hz,_,hsl⟩:=hsl
   split <;> try trivial
   rename_i bx
   obtain⟨blk,hm,hv⟩:=hsl
   refine ae ?_
   split <;> try trivial
   rename_i cs hS
   obtain⟨blk',arr,Ty,hm',hh,hl⟩:=R.own_cells hS
   simp only at hm
   rw[hm]at hm';cases hm'
   refine dX ?_
   have hT1:Tk X (upd S (BOX+bx) .dead) m ok w (T++[blk]):=hT.kill R bx (fun b hb=>by simp at hb;subst hb;simp[J9,hS,hm]) (by simp)
   refine wW ns (R.kill bx) hT1 fun S' ws os B R' T' ho hw=>?_
   exact hK S' _ (.agg arr::os) (blk::B) R' (by simpa using T') (.inr (.inl ⟨t,blk,arr,Ty,os,B,hv▸hz,hh,rfl,rfl,ho⟩)) ⟨_,_,rfl,⟨arr,rfl,hl⟩,hw⟩
  ·rename_i bx hSn
   rw[hSn]at hsl
   obtain⟨l,hm,hv⟩:=hsl
   refine wW ns R hT fun S' ws os B R' T' ho hw=>?_
   exact hK S' _ (a.tmps.getD n Go.undef::os) B R' T' (.inr (.inr ⟨l,os,hv,rfl,ho⟩)) ⟨_,_,rfl,⟨l,hm,hv⟩,hw⟩
end
theorem EJ {l:Loc} {v:Value} (h:l.view none v):(∃a n c,v= .slice a n c)∨∃b,v= .map (some b):=by
 cases l with
 | nil=>exact .inl ⟨_,_,_,h⟩
 | st b=>cases h
 | mp b=>exact .inr ⟨_,h⟩
 | arr blk off len cap sz=>exact .inl ⟨_,_,_,h⟩
theorem a2e {h h0:Array Obj} {ok0:Nat→Ty→Prop} {tm:Nat→Value} :∀(ms:List MG) (k:Nat) {vals:List Value} {os:List Value} {B:List Nat},
  Rx h0 ok0 ms vals→(∀i v,k+i∈dJ ms k→vals[i]? =some v→tm (k+i)=v)→a2N h tm (dJ ms k) os B→pV h ms vals os B:=by
 have tail:∀{m:List MG} {k:Nat} {v:Value} {r:List Value},(∀i u,k+i∈dJ m (k+1)→(v::r)[i]? =some u→tm (k+i)=u)→∀i u,(k+1)+i∈dJ m (k+1)→r[i]? =some u→tm ((k+1)+i)=u:=by
  intro m k v r h i u hi hu
  have e:k+(i+1)=k+1+i:=by omega
  have:=h (i+1) u (by rw[e];exact hi) (by simpa using hu)
  rwa[e]at this
 have tail2:∀{m:List MG} {k:Nat} {v:Value} {r:List Value},(∀i u,k+i∈k::dJ m (k+1)→(v::r)[i]? =some u→tm (k+i)=u)→(tm k=v)∧∀i u,(k+1)+i∈dJ m (k+1)→r[i]? =some u→tm ((k+1)+i)=u:=fun h=>
  ⟨by have:=h 0 _ (by simp) rfl;simpa using this,tail (fun i u hi hu=>h i u (List.mem_cons_of_mem _ hi) hu)⟩
 intro ms
 induction ms with
 | nil=>
  intro k vals os B hs ht ho
  simp only[Rx]at hs;subst hs
  exact ho
 | cons m ms ih=>
  intro k vals os B hs ht ho
  obtain⟨v,r,cs,x,O,rfl,hg,hr,hs⟩:=hs
  obtain⟨g,m⟩:=m
  cases m
  case box md=>
   unfold dJ at ht ho
   obtain⟨htv,ht⟩:=tail2 ht
   obtain⟨blk,arr,T,O',hc,_⟩:=hr
   have hv:v= .pointer (some ⟨blk,0,none⟩)∨∃ar,v= .agg ar:=by
    cases g
    ·left;have hg:cs=[v]:=hg;rw[hg]at hc;simpa using hc
    ·right;obtain⟨ar,e,_⟩:=hg;exact⟨ar,e⟩
   rcases ho with⟨b,arr,T,os',B',e,hh,e1,e2,ho'⟩ | ⟨t,b,arr,T,os',B',e,_⟩ | ⟨l,os',e,_⟩
   ·exact⟨b,arr,T,os',B',htv.symm.trans e,hh,e1,e2,ih (k+1) hs ht ho'⟩
   ·rw[htv]at e;rcases hv with rfl | ⟨_,rfl⟩ <;> cases e
   ·rcases EJ e with⟨_,_,_,e⟩ | ⟨_,e⟩ <;> rw[htv]at e <;> rcases hv with rfl | ⟨_,rfl⟩ <;> cases e
  case ownb u=>
   unfold dJ at ht ho
   obtain⟨htv,ht⟩:=tail2 ht
   obtain⟨l,v',hc,hvv,_⟩:=hr
   have hv:((∃a n c,v= .slice a n c)∨∃b,v= .map (some b))∨∃ar,v= .agg ar:=by
    cases g
    ·left;have hg:cs=[v]:=hg;rw[hg]at hc;simp only[List.cons.injEq,and_true]at hc;subst hc;exact EJ hvv
    ·right;obtain⟨ar,e,_⟩:=hg;exact⟨ar,e⟩
   rcases ho with⟨b,arr,T,os',B',e,_⟩ | ⟨t,b,arr,T,os',B',e,_⟩ | ⟨l,os',e,rfl,ho'⟩
   ·rw[htv]at e;rcases hv with(⟨_,_,_,rfl⟩ | ⟨_,rfl⟩) | ⟨_,rfl⟩ <;> cases e
   ·rw[htv]at e;rcases hv with(⟨_,_,_,rfl⟩ | ⟨_,rfl⟩) | ⟨_,rfl⟩ <;> cases e
   ·rw[htv];exact⟨os',rfl,ih (k+1) hs ht ho'⟩
  case ifc t md=>
   cases md
   case box md=>
    unfold dJ at ht ho
    obtain⟨htv,ht⟩:=tail2 ht
    obtain⟨u,hc,blk,arr,T,O',hu,_⟩:=hr
    have hv:v= .iface t u∨∃ar,v= .agg ar:=by
     cases g
     ·left;have hg:cs=[v]:=hg;rw[hg]at hc;simpa using hc
     ·right;obtain⟨ar,e,_⟩:=hg;exact⟨ar,e⟩
    rcases ho with⟨b,arr,T,os',B',e,_⟩ | ⟨t,b,arr,T,os',B',e,hh,e1,e2,ho'⟩ | ⟨l,os',e,_⟩
    ·rw[htv]at e;rcases hv with rfl | ⟨_,rfl⟩ <;> cases e
    ·exact⟨t,b,arr,T,os',B',htv.symm.trans e,hh,e1,e2,ih (k+1) hs ht ho'⟩
    ·rcases EJ e with⟨_,_,_,e⟩ | ⟨_,e⟩ <;> rw[htv]at e <;> rcases hv with rfl | ⟨_,rfl⟩ <;> cases e
   all_goals
    unfold dJ at ht ho
    exact ih (k+1) hs (tail ht) ho
  all_goals
   unfold dJ at ht ho
   exact ih (k+1) hs (tail ht) ho
theorem WM:∀{a b:List Nat},a6Z a b=true→∀n∈a,n∈b
 | [],_,_,_,h=>by cases h
 | a::r,b,h,n,hn=>by
  unfold a6Z at h
  cases hb:vH a b <;> rw[hb]at h
  ·cases h
  ·rcases List.mem_cons.1 hn with rfl | hn
   ·exact QK hb
   ·exact WM h n hn
theorem Jz:∀{ms:List MG} {k n:Nat},n∈dJ ms k→k≤n∧n<k+ms.length
 | [],k,n,h=>by cases h
 | (g,m)::ms,k,n,h=>by
  have key:n∈k::dJ ms (k+1)→k≤n∧n<k+(ms.length+1):=fun h=>by
   rcases List.mem_cons.1 h with rfl | h
   ·omega
   ·have:=Jz h;omega
  cases m
  case box md=>exact key h
  case ownb u=>exact key h
  case ifc t md=>
   cases md
   case box md=>exact key h
   all_goals exact key (List.mem_cons_of_mem _ h)
  all_goals exact key (List.mem_cons_of_mem _ h)
theorem Wq {P:Program} {w:World} {fn:Func} {tmps:Array Value} {rvs:List Value} (h:(fn.results.toList.mapM (IM tmps)).run P w= .ok rvs w):
  ∃v,(results fn tmps).run P w= .ok v w∧WX rvs.length v rvs:=by
 have hm:(fn.results.mapM (IM tmps)).run P w= .ok rvs.toArray w:=by
  rw[Array.mapM_eq_mapM_toList]
  simp[h]
 have e:results fn tmps=(do let vs ←fn.results.mapM (IM tmps);pure (if h:vs.size=1 then vs[0]else .tuple vs):Sem Value):=by
  unfold results
  congr 1
 rw[e,Sem.run_bind,hm]
 clear h hm e
 rcases rvs with _ | ⟨x,_ | ⟨y,r⟩⟩
 ·exact⟨.tuple #[],rfl,rfl,rfl⟩
 ·exact⟨x,rfl,rfl,rfl⟩
 ·exact⟨.tuple (x::y::r).toArray,by simp,rfl,rfl⟩
theorem Xk {P:Program} {E:Env} {f:FuncId} {fn:Func} {c:Code} {ps:List MG} {rt:Ret} {an:Ann} {F:aK ps→Option rt.den} (hf:P.funcs[f]? =some fn) (hb:fn.body=some c) (hnt:fn.ntmps=E.nt)
  (hres:fn.results.toList=rt.rs.map (·.1)) (hE:EnvOk P E) (hF:∀x r,F x=some r→b3I E ps rt c an x=some r):
  D5 P E.gl f ⟨ps,rt.rs.map (·.2),rt.outs.map (·.2),F⟩:=by
 intro w ok O vals x r hlt hnd hO hgl hrel hfn
 have hden:=hF x r hfn
 clear hfn hF
 let X:Fx:=⟨P,E,w,O,ok,vals.toArray++Array.replicate (E.nt -vals.length) undef⟩
 have H:FxOk X:=⟨hE.nt,hE.tt,hE.fs,hE.eqs,hE.ms,hE.fn⟩
 refine calls_of_wp hf hb ?_
 simp only[List.size_toArray]
 rw[hnt]
 generalize hact:({ tmps:=vals.toArray++Array.replicate (E.nt -vals.length) undef,defers:=[] } :Act)=act
 have hvl:vals.length=ps.length:=DN hrel
 unfold b3I at hden
 cases hle00:(Nat.ble ps.length E.nt&&BD (rt.outs.map (·.1)) (dJ ps 0)&&a6Z (rt.outs.map (·.1)) E.kp)
 ·simp only[hle00,cond_false]at hden;cases hden
 simp only[hle00,cond_true]at hden
 simp only[Bool.and_eq_true]at hle00
 obtain⟨⟨hle0,hsame⟩,hsub⟩:=hle00
 have hsame:=BF hsame
 have hsub:=WM hsub
 have hle1:=Nat.le_of_ble_eq_true hle0
 obtain⟨u,s,tr,he,hk⟩:=gX hden
 have hsize:act.tmps.size=E.nt:=by subst hact;simp;omega
 have hslots:∀n,n<vals.length→act.tmps.getD n undef=vals.getD n undef:=fun n hn=>by
  subst hact
  simp only[Array.getD_eq_getD_getElem?]
  rw[Array.getElem?_append_left (by simpa using hn)]
  simp[jZ]
 have R0:Rel X 0 0 (Y2 []) nom ok act w:={ size:=hsize,nodef:=(by subst hact;rfl),slot:=fun n _=>trivial,box:=fun n=>trivial,inj:=fun n n' b h=>(by simp[Y2,J9]at h),nd:=fun n=>(by simp[Y2,J9]),sep:=fun n b h=>(by simp[Y2,J9]at h),okLt:=hlt,okIn:=fun b t h=>h,okOut:=fun b t h=> .inl h,frame:=Frame'.refl w O,fresh:=fun _ _ _=>rfl,strict:=fun _ _=>rfl,gl:=hgl,kept:=fun n _=>by subst hact;rfl }
 have T0:Tk X (Y2 []) nom ok w (O++[]):=⟨by simpa using hnd,fun b hb=>by
  simp only[List.append_nil]at hb
  obtain⟨h1,h2⟩:=hO b hb
  exact⟨h1,h2,.inr hb,fun n e=>by simp[Y2,J9]at e⟩⟩
 have key:=kD (yG (T:=[]) ps (Q:=fun _ S' =>∃m' vs,Rel X 0 CB S' m' ok act w∧aY ⟨w.heap,ok,m'⟩ vs vals) R0 (Nat.le_refl 0) T0 hrel
  (K:=fun vs n=>bif Nat.ble n CB then OI (List.range vs.length) vs else .fail) fun S1 m1 vs n1 ch1 R1 c1 T1 k1 s1 l1 e1=>Y4 fun hb=>by
   have hn1:=Nat.le_of_ble_eq_true hb
   have hvs:=Gm l1
   have hr:vals=(List.range vs.length).map fun n=>act.tmps.getD n Go.undef:=by
    apply List.ext_getElem
    ·simp[hvs]
    ·intro i h1 h2
     simp only[List.getElem_map,List.getElem_range]
     rw[hslots i h1,jZ,Y6 h1];rfl
   refine JL _ (R1.chmono (ch' :=CB) (by omega)) (by rw[←hr];exact l1) fun S' R' =>⟨m1,vs,R',l1⟩) he
 obtain⟨mE,vs,RE,hvs⟩:=key
 have Rq:Rel X (CB*1) (CB*1) (Y2 s) mE ok act w:=(RE.climb (Nat.zero_le _)).chmono (by rw[Nat.mul_one];exact Nat.le_refl _)
 let RetP:rt.den→Act→World→Prop:=fun r a' w' =>a'.defers=[]∧∃v,(results fn a'.tmps).run P w' = .ok v w' ∧
  ∃v' ok' O' rs os B,(Ending.returned v)= .returned v' ∧Frame' w w' O∧(∀b t,ok b t→ok' b t)∧(∀b t,ok' b t→b<w'.heap.size∧(ok b t∨w.heap.size≤b∨b∈O))∧
   (O' ++B).Nodup∧(∀b∈O' ++B,(∀t,¬ok' b t)∧b<w'.heap.size∧(w.heap.size≤b∨b∈O))∧
   WX (rt.rs.map (·.2)).length v' rs∧pV w'.heap ps vals os B∧kS w'.heap ok' (rt.rs.map (·.2)++rt.outs.map (·.2)) r (rs++os) O'
 have hret:a2O X rt mE RetP:=by
  intro s R K r h
  obtain⟨x,s',tr,he,hk⟩:=gX h
  refine⟨x,hk,fun {cl ch m ok1 a1 w1} R1 km=>?_⟩
  refine kD (Q:=fun x _=>RetP x a1 w1) ?_ he
  unfold a8C
  refine Bv H R1 _ fun vs1 rvs hv1 hl1 hrun=>wW (T:=[]) _ R1 Tk.nil fun S2 ws os B R2 T2 hout hws=>?_
  refine UK _ R2 T2 (yZ hv1 hws) fun S3 ok3 y O3 R3 T3 k3 s3 hy=>?_
  simp only[List.nil_append]at T3
  have hp:(B++O3).Perm (O3++B):=List.perm_append_comm
  rw[←hres]at hrun
  obtain⟨v,hv,hrv⟩:=Wq hrun
  refine⟨R3.nodef,v,hv,v,ok3,O3,rvs,os,B,rfl,R3.frame,R3.okIn,fun b t hb=>⟨R3.okLt b t hb,R3.okOut b t hb⟩,hp.nodup_iff.1 T3.nodup,fun b hb=>?_,?_,a2e ps 0 (PU hrel) (fun i v hi hv=>?_) (by rw[hsame]at hout;exact hout),hy⟩
  ·obtain⟨f1,f2,f3,_⟩:=T3.free b (hp.mem_iff.2 hb)
   exact⟨f1,f2,f3⟩
  ·refine⟨by rw[hl1];simp,hrv.2⟩
  ·have h1:=R1.kept (0+i) (hsub _ (by rw[hsame];exact hi))
   have hlt:=(Jz hi).2
   rw[h1]
   have h2:=hslots (0+i) (by rw[hvl];omega)
   rw[←hact]at h2
   refine h2.trans ?_
   rw[jZ,Nat.zero_add,hv];rfl
 have hwp:=(rM H hret c).run hk Rq (fun _ _ h=>h)
 refine wp_mono hwp ?_
 rintro e a' w' ⟨fl,s',wr',hk2,hfl⟩
 cases fl with
 | ex id=>cases hk2
 | rt y=>
  cases hk2
  obtain⟨rfl,h1,v,h2,h3⟩:=hfl
  exact⟨h1,v,h2,h3⟩
 | nm=>
  obtain⟨rfl,m',ok',R',k1,_,_⟩:=hfl
  obtain⟨y,hy,hp⟩:=hret (K:=some) hk2
  cases hy
  obtain⟨h1,v,h2,h3⟩:=hp R' k1
  exact⟨h1,v,h2,h3⟩
def zV:V→Value→Bool
 | .undef,v=>v.oneCell'
 | .b x,.bool y=>x==y
 | .i k n,.int k' n' =>decide (k=k')&&decide (n=n')
 | .s l,.string s=>decide (l=s.data.toList)
 | .nl,.slice none 0 0=>true
 | .sl t xs,.map none=>t.isEnt&&xs.isEmpty
 | _,_=>false
def zL:List V→List Value→Bool
 | [],[]=>true
 | c::cs,v::vs=>zV c v&&zL cs vs
 | _,_=>false
theorem a9j {C:Cx} {c:V} {v:Value} (h:zV c v=true):oN C c v∧v.oneCell' =true:=by
 unfold zV at h
 split at h
 ·exact⟨trivial,h⟩
 ·simp at h;subst h;exact⟨rfl,rfl⟩
 ·simp at h;obtain⟨rfl,rfl⟩:=h;exact⟨rfl,rfl⟩
 ·rename_i l s
  have:=of_decide_eq_true h
  subst this
  exact⟨rfl,rfl⟩
 ·exact⟨rfl,rfl⟩
 ·rename_i t xs
  simp only[Bool.and_eq_true,List.isEmpty_iff]at h
  obtain⟨h1,rfl⟩:=h
  exact⟨(Yk h1).2 ⟨none,rfl,fun _=>rfl,fun _ h=>nomatch h⟩,rfl⟩
 ·cases h
theorem a1a {C:Cx} :∀{cs:List V} {vs:List Value},zL cs vs=true→aF C cs vs
 | [],[],_=>rfl
 | [],_::_,h=>by simp[zL]at h
 | _::_,[],h=>by simp[zL]at h
 | c::cs,v::vs,h=>by
  unfold zL at h
  simp only[Bool.and_eq_true]at h
  obtain⟨h1,h2⟩:=a9j (C:=C) h.1
  exact⟨v,vs,rfl,h1,h2,a1a h.2⟩
def Gp:(t:Ty)→List Value→Option (List Value)
 | .bool,.bool b::r=>bif b then none else some r
 | .int k,.int k' n::r=>bif decide (k=k')&&decide (n=0)then some r else none
 | .str,.string s::r=>bif decide (s.data.toList=[])then some r else none
 | .sl t,.slice none 0 0::r=>bif t.isEnt then none else some r
 | .sl t,.map none::r=>bif t.isEnt then some r else none
 | .prod a b,vs=>match Gp a vs with | some r=>Gp b r | none=>none
 | .unit,vs=>some vs
 | _,_=>none
theorem II:∀{t:Ty} {vs r:List Value},Gp t vs=some r→∃cs,vs=cs++r∧rep #[] (fun _ _=>False) t t.zero cs
 | .bool,vs,r,h=>by
  cases vs with
  | nil=>cases h
  | cons v vs=>
   cases v <;> try (cases h;done)
   case bool b=>
    cases b
    ·simp only[Gp,cond_false,Option.some.injEq]at h
     subst h;exact⟨[.bool false],rfl,rfl⟩
    ·simp[Gp]at h
 | .int k,vs,r,h=>by
  cases vs with
  | nil=>cases h
  | cons v vs=>
   cases v <;> try (cases h;done)
   case int k' n=>
    unfold Gp at h
    cases hc:(decide (k=k')&&decide (n=0))
    ·simp[hc]at h
    ·simp only[hc,cond_true,Option.some.injEq]at h
     simp only[Bool.and_eq_true,decide_eq_true_eq]at hc
     obtain⟨rfl,rfl⟩:=hc
     subst h
     exact⟨[.int k 0],rfl,rfl⟩
 | .str,vs,r,h=>by
  cases vs with
  | nil=>cases h
  | cons v vs=>
   cases v <;> try (cases h;done)
   case string s=>
    unfold Gp at h
    cases hc:decide (s.data.toList=[])
    ·simp only[hc,cond_false]at h;cases h
    ·simp only[hc,cond_true,Option.some.injEq]at h
     subst h
     have he:=of_decide_eq_true hc
     refine⟨[.string s],rfl,?_⟩
     show[Value.string s]=[Value.string ⟨(Ty.zero .str).toArray⟩]
     congr 2
     obtain⟨⟨l⟩⟩:=s
     simp only at he
     subst he;rfl
 | .sl t,vs,r,h=>by
  cases vs with
  | nil=>cases h
  | cons v vs=>
   cases v <;> try (cases h;done)
   case slice a n c=>
    cases a <;> try (cases h;done)
    cases n <;> try (cases h;done)
    cases c <;> try (cases h;done)
    cases ht:t.isEnt <;> simp only[Gp,ht,cond_true,cond_false,Option.some.injEq]at h
    ·subst h
     exact⟨[.slice none 0 0],rfl,.inl ⟨ht,none,0,rfl,Nat.le_refl _,fun i x hi=>by simp[Ty.zero]at hi⟩⟩
    ·cases h
   case map mv=>
    cases mv <;> try (cases h;done)
    cases ht:t.isEnt <;> simp only[Gp,ht,cond_true,cond_false,Option.some.injEq]at h
    ·cases h
    ·subst h
     exact⟨[.map none],rfl,.inr ⟨ht,none,rfl,fun _=>rfl,fun _ h=>nomatch h⟩⟩
 | .ent ..,vs,r,h=>by
  cases vs with
  | nil=>cases h
  | cons v vs=>cases v <;> cases h
 | .unit,vs,r,h=>by
  have:vs=r:=by cases vs <;> (simp only[Gp,Option.some.injEq]at h;exact h)
  subst this
  exact⟨[],rfl,rfl⟩
 | .prod a b,vs,r,h=>by
  have h' :(match Gp a vs with | some r=>Gp b r | none=>none)=some r:=by
   cases vs <;> exact h
  cases ha:Gp a vs with
  | none=>simp[ha]at h'
  | some r1=>
   simp only[ha]at h'
   obtain⟨c,rfl,h1⟩:=II ha
   obtain⟨d,rfl,h2⟩:=II h'
   exact⟨c++d,by simp,c,d,rfl,h1,h2⟩
def a1s:List (Nat×Nat)→List Field→Bool
 | [],[]=>true
 | (t,o)::r,f::fs=>Nat.beq f.type t&&Nat.beq f.offset o&&a1s r fs
 | _,_=>false
theorem Qj:∀{a:List (Nat×Nat)} {b:List Field},a1s a b=true→b.map (fun f=>(f.type,f.offset))=a
 | [],[],_=>rfl
 | [],_::_,h=>by simp[a1s]at h
 | _::_,[],h=>by simp[a1s]at h
 | (t,o)::r,f::fs,h=>by
  unfold a1s at h
  simp only[Bool.and_eq_true]at h
  have h1:=aV h.1.1
  have h2:=aV h.1.2
  simp[Qj h.2,←h1,←h2]
def a7f (P:Program) (t:TypeId) (td:TD):Bool:=
 match P.underlying t with
 | none=>false
 | some d=>match td,d with
  | .bool,.bool=>true
  | .int k,.int k' =>decide (k=k')
  | .str,.string=>true
  | .sl e,.slice e' =>Nat.beq e e'
  | .ptr e,.pointer e' =>Nat.beq e e'
  | .struct fs,.struct fields=>a1s fs fields.toList
  | .arr n e,.array n' e' =>Nat.beq n n' &&Nat.beq e e'
  | .map k e,.map k' e' =>Nat.beq k k' &&Nat.beq e e'
  | .other,.struct _=>false
  | .other,.array _ _=>false
  | .other,_=>true
  | _,_=>false
theorem YQ {P:Program} {t:TypeId} {td:TD} (h:a7f P t td=true):a7g P t td:=by
 unfold a7f at h
 split at h
 ·cases h
 ·rename_i d hd
  split at h <;> try (cases h;done)
  ·exact hd
  ·have:=of_decide_eq_true h;subst this;exact hd
  ·exact hd
  ·have:=aV h;subst this;exact hd
  ·have:=aV h;subst this;exact hd
  ·rename_i fs fields;exact⟨fields,hd,Qj h⟩
  ·simp only[Bool.and_eq_true]at h
   have h1:=aV h.1
   have h2:=aV h.2
   subst h1;subst h2;exact hd
  ·simp only[Bool.and_eq_true]at h
   have h1:=aV h.1
   have h2:=aV h.2
   subst h1;subst h2;exact hd
  ·rename_i h1 h2
   refine⟨d,hd,?_⟩
   cases d <;> first | trivial | exact absurd rfl (h1 _) | exact absurd rfl (h2 _ _)
def a1b (inf:TypeInfo) (i:TI):Bool:=
 bif Nat.beq i.zero.length i.size then(match inf.zero with | some z=>zL i.zero z.cells.toList | none=>false)else true
def b2T (inf:TypeInfo) (i:TI):Bool:=
 match i.ty with
 | none=>true
 | some u=>Nat.beq u.size i.size&&(match inf.zero with | some z=>(match Gp u z.cells.toList with | some []=>true | _=>false) | none=>false)
def a9o (inf:TypeInfo) (i:TI):Bool:=
 match inf.zero with
 | none=>true
 | some z=>bif U4 i.td then(match z with | .agg _=>true | _=>false)else z.oneCell'
def a7h (P:Program) (t:TypeId) (i:TI):Bool:=
 match P.info? t with
 | none=>false
 | some inf=>Nat.beq inf.size i.size&&Nat.beq inf.bytes i.bytes&&a1b inf i&&b2T inf i&&a7f P t i.td&&(U4 i.td || Nat.beq i.size 1)&&a9o inf i
theorem YR {P:Program} {t:TypeId} {i:TI} (h:a7h P t i=true):TiOk P t i:=by
 unfold a7h at h
 split at h
 ·cases h
 ·rename_i inf hi
  simp only[Bool.and_eq_true,Bool.or_eq_true]at h
  obtain⟨⟨⟨⟨⟨⟨h1,h2⟩,h3⟩,h4⟩,h5⟩,h6⟩,h8⟩:=h
  refine⟨⟨inf,hi,aV h1,aV h2,fun hl=>?_,fun u hu=>?_⟩,YQ h5,fun ha=>?_,fun inf' z hinf hz=>?_⟩
  ·unfold a1b at h3
   rw[hl,show Nat.beq i.size i.size=true from Nat.beq_refl _]at h3
   simp only[cond_true]at h3
   split at h3
   ·rename_i z hz;exact⟨z,hz,a1a h3⟩
   ·cases h3
  ·unfold b2T at h4
   simp only[hu,Bool.and_eq_true]at h4
   refine⟨aV h4.1,?_⟩
   have h7:=h4.2
   split at h7
   ·rename_i z hz
    split at h7
    ·rename_i hr
     obtain⟨cs,e,hrep⟩:=II hr
     rw[List.append_nil]at e
     exact⟨z,hz,by rw[e];exact hrep⟩
    ·cases h7
   ·cases h7
  ·rcases h6 with h6 | h6
   ·rw[ha]at h6;cases h6
   ·exact aV h6
  ·rw[hi]at hinf;cases hinf
   unfold a9o at h8
   rw[hz]at h8
   refine⟨fun ha=>?_,fun ha=>?_⟩ <;> simp only[ha,cond_true,cond_false]at h8
   ·split at h8
    ·exact⟨_,rfl⟩
    ·cases h8
   ·exact h8
def WS (P:Program):List (Nat×TI)→Bool
 | []=>true
 | (t,i)::r=>a7h P t i&&WS P r
theorem OV {P:Program} :∀{tt:List (Nat×TI)},WS P tt=true→∀t i,Y3 tt t=some i→TiOk P t i
 | [],_,t,i,h=>by simp[Y3]at h
 | (k,v)::r,hc,t,i,h=>by
  unfold WS at hc
  simp only[Bool.and_eq_true]at hc
  unfold Y3 at h
  cases hb:Nat.beq k t
  ·simp only[hb,cond_false]at h
   exact OV hc.2 t i h
  ·simp only[hb,cond_true,Option.some.injEq]at h
   have:=aV hb
   subst this;subst h
   exact YR hc.1
def UT (P:Program):List (Nat×FSpec)→Bool
 | []=>true
 | (f,_)::r=>(match P.funcs[f]? with | some fn=>fn.body.isSome&&!(fn.name== "runtime.NumGoroutine") | none=>false)&&UT P r
theorem MP {P:Program} :∀{l:List (Nat×FSpec)},UT P l=true→∀p∈l,∃fn,P.funcs[p.1]? =some fn∧fn.body.isSome=true∧(fn.name== "runtime.NumGoroutine")=false
 | [],_,p,h=>by cases h
 | (k,v)::r,hc,p,h=>by
  unfold UT at hc
  simp only[Bool.and_eq_true]at hc
  rcases List.mem_cons.1 h with rfl | h
  ·have h1:=hc.1
   split at h1
   ·rename_i fn hf
    simp only[Bool.and_eq_true,Bool.not_eq_true']at h1
    exact⟨fn,hf,h1.1,h1.2⟩
   ·cases h1
  ·exact MP hc.2 p h
end Go.GP
namespace Go.GP
def a7t (P:Program) (gl:List (Nat×(t:Ty)×List t.den)):List (Nat×FSpec)→Prop
 | []=>True
 | (f,s)::r=>D5 P gl f s∧a7t P gl r
theorem PS {P:Program} {gl:List (Nat×(t:Ty)×List t.den)} :∀{l:List (Nat×FSpec)},a7t P gl l→∀p∈l,D5 P gl p.1 p.2
 | [],_,p,h=>by cases h
 | (k,v)::r,hc,p,h=>by
  rcases List.mem_cons.1 h with rfl | h
  ·exact hc.1
  ·exact PS hc.2 p h
def Zb (P:Program):List ((Nat×String)×Nat×Option Nat)→Prop
 | []=>True
 | (k,r)::l=>uQ P k.1 k.2 r.1 r.2∧Zb P l
theorem KQ {P:Program} :∀{l:List ((Nat×String)×Nat×Option Nat)},Zb P l→∀p∈l,uQ P p.1.1 p.1.2 p.2.1 p.2.2
 | [],_,p,h=>by cases h
 | (k,v)::r,hc,p,h=>by
  rcases List.mem_cons.1 h with rfl | h
  ·exact hc.1
  ·exact KQ hc.2 p h
theorem a3u {P:Program} {E:Env} (hnt:Nat.ble (64*E.nt) 999936=true) (htt:WS P E.tt=true) (heq:∀t sh,Y3 E.eqs t=some sh→BU P t sh) (hfn:UT P E.fs=true) (hms:Zb P E.ms) (hfs:a7t P E.gl E.fs):EnvOk P E:=
 ⟨Nat.le_of_ble_eq_true hnt,OV htt,PS hfs,heq,KQ hms,MP hfn⟩
end Go.GP
namespace Go.GP
def yI (rec:TypeId→List Ty→Bool) (cells:TypeId→Nat):Nat→List Field→List Ty→Bool
 | _,[],sh=>sh.isEmpty
 | off,f::r,sh=>(f.name != "_")&&Nat.beq f.offset off&&Nat.ble (cells f.type) sh.length&&rec f.type (sh.take (cells f.type))&&yI rec cells (off+cells f.type) r (sh.drop (cells f.type))
def pq (P:Program):Nat→TypeId→List Ty→Bool
 | 0,_,_=>false
 | n+1,t,sh=>match P.underlying t with
  | some .bool=>(match sh with | [.bool]=>true | _=>false)
  | some (.int k)=>(match sh with | [.int k']=>decide (k=k') | _=>false)
  | some .string=>(match sh with | [.str]=>true | _=>false)
  | some (.struct fs)=> !P.stoodInHeld t&&(P.info? t).isSome&&Nat.beq (P.cellsOf t) sh.length&&yI (pq P n) P.cellsOf 0 fs.toList sh
  | _=>false
theorem bz.length:∀{sh:List Ty} {vs:List Value},bz sh vs→vs.length=sh.length
 | [],_,h=>by simp only[bz]at h;subst h;rfl
 | .bool::ts,_,⟨_,_,rfl,h⟩=>by simp[bz.length h]
 | .int _::ts,_,⟨_,_,rfl,h⟩=>by simp[bz.length h]
 | .str::ts,_,⟨_,_,rfl,h⟩=>by simp[bz.length h]
 | .sl _::_,_,h=>h.elim
 | .prod _ _::_,_,h=>h.elim
 | .unit::_,_,h=>h.elim
theorem bz.take_drop:∀{sh:List Ty} {vs:List Value} (n:Nat),bz sh vs→bz (sh.take n) (vs.take n)∧bz (sh.drop n) (vs.drop n)
 | sh,vs,0,h=>⟨by simp[bz],h⟩
 | [],_,n+1,h=>by simp only[bz]at h;subst h;exact⟨rfl,rfl⟩
 | .bool::ts,_,n+1,⟨b,r,rfl,h⟩=>by have:=bz.take_drop n h;exact⟨⟨b,_,rfl,this.1⟩,this.2⟩
 | .int _::ts,_,n+1,⟨b,r,rfl,h⟩=>by have:=bz.take_drop n h;exact⟨⟨b,_,rfl,this.1⟩,this.2⟩
 | .str::ts,_,n+1,⟨b,r,rfl,h⟩=>by have:=bz.take_drop n h;exact⟨⟨b,_,rfl,this.1⟩,this.2⟩
 | .sl _::_,_,_+1,h=>h.elim
 | .prod _ _::_,_,_+1,h=>h.elim
 | .unit::_,_,_+1,h=>h.elim
theorem yg {C:Cx} :∀{sh:List Ty} {cs:List V} {vs:List Value},rq sh cs=true→aF C cs vs→bz sh vs
 | [],[],vs,_,h=>h
 | [],_::_,_,h,_=>by simp[rq]at h
 | t::ts,[],_,h,_=>by cases t <;> simp[rq]at h
 | t::ts,c::cs,_,h,⟨v,r,rfl,h1,_,h3⟩=>by
  cases t <;> cases c <;> simp only[rq,Bool.and_eq_true,decide_eq_true_eq]at h <;> try (cases h;done)
  case bool.b x=>have h1:v= .bool x:=h1;subst h1;exact⟨_,_,rfl,yg h h3⟩
  case int.i k k' n=>have h1:v= .int k' n:=h1;obtain⟨rfl,h⟩:=h;subst h1;exact⟨_,_,rfl,yg h h3⟩
  case str.s l=>have h1:v= .string ⟨l.toArray⟩:=h1;subst h1;exact⟨_,_,rfl,yg h h3⟩
theorem RS {a b:V} {r q:List V} {e:Bool} (h:qJ (a::r) (b::q)=some e):∃e1 e2,eq1 a b=some e1∧qJ r q=some e2∧e=(e1&&e2):=by
 unfold qJ at h
 split at h
 ·cases h
 ·rename_i e1 h1
  split at h
  ·cases h;exact⟨_,true,h1,rfl,by simp⟩
  ·split at h
   ·rename_i e2 h2;cases h;exact⟨_,_,h1,h2,rfl⟩
   ·cases h
theorem EZ {C:Cx} :∀{cs ds:List V} {xs ys:List Value} {e:Bool},aF C cs xs→aF C ds ys→qJ cs ds=some e→(e=true↔xs=ys)
 | [],[],xs,ys,e,h1,h2,h=>by
  simp only[aF]at h1 h2;subst h1;subst h2
  have:e=true:=by simpa[qJ]using h.symm
  simp[this]
 | [],_::_,_,_,_,_,_,h=>by simp[qJ]at h
 | _::_,[],_,_,_,_,_,h=>by simp[qJ]at h
 | a::r,b::q,xs,ys,e,hx,hy,h=>by
  obtain⟨v,vs,rfl,hv,_,hvs⟩:=hx
  obtain⟨u,us,rfl,hu,_,hus⟩:=hy
  obtain⟨e1,e2,k1,k2,rfl⟩:=RS h
  have ih:=EZ hvs hus k2
  have hd:e1=true↔v=u:=by
   cases a <;> cases b <;> simp only[eq1]at k1 <;> try (cases k1;done)
   case b.b x y=>
    have hv:v= .bool x:=hv
    have hu:u= .bool y:=hu
    subst hv;subst hu;cases k1
    simp[bZ]
   case i.i j x k y=>
    have hv:v= .int j x:=hv
    have hu:u= .int k y:=hu
    subst hv;subst hu
    by_cases hk:j=k
    ·subst hk;simp only[decide_true,cond_true,Option.some.injEq]at k1;subst k1;simp[ieq]
    ·simp[hk]at k1
   case s.s x y=>
    have hv:v= .string ⟨x.toArray⟩:=hv
    have hu:u= .string ⟨y.toArray⟩:=hu
    subst hv;subst hu;cases k1
    simp[seq]
  simp only[Bool.and_eq_true,List.cons.injEq,hd,ih]
def VOf (P:Program) (t:TypeId) (xs:List Value) (v:Value):Prop:=match P.underlying t with
 | some (.struct _)=>v= .agg xs.toArray
 | _=>xs=[v]
theorem Xc {P:Program} {t:TypeId} {i:TypeInfo} (h:P.info? t=some i):P.cellsOf t=i.size:=by simp[Program.cellsOf,h]
theorem NY {P:Program} {n:Nat} {t:TypeId} {sh:List Ty} (hc:pq P n t sh=true) (hcs:P.cellsOf t=sh.length) {cs:Array Value} {off:Nat} (hl:off+sh.length≤cs.size) (w:World):
  ∃v,(part t cs off).run P w= .ok v w∧VOf P t ((cs.toList.drop off).take sh.length) v:=by
 cases n with
 | zero=>cases hc
 | succ n=>
  unfold pq at hc
  split at hc
  all_goals try (cases hc;done)
  ·rename_i ht
   split at hc <;> try (cases hc;done)
   simp only[List.length_cons,List.length_nil]at hl ⊢
   refine⟨cs[off]'(by omega),?_,?_⟩
   ·have h1:=uM (P:=P) (t:=t) (d:=.bool) ht w
    simp only[part,Sem.run_bind,h1,Result.andThen_ok,U4,Bool.false_eq_true,if_false,Array.getElem?_eq_getElem (show off<cs.size by omega),Sem.run_pure]
   ·simp only[VOf,ht]
    apply List.ext_getElem
    ·simp;omega
    ·intro i h1 h2;simp at h1 h2;simp[show i=0 by omega]
  ·rename_i k ht
   split at hc <;> try (cases hc;done)
   simp only[List.length_cons,List.length_nil]at hl ⊢
   refine⟨cs[off]'(by omega),?_,?_⟩
   ·have h1:=uM (P:=P) (t:=t) (d:=.int k) ht w
    simp only[part,Sem.run_bind,h1,Result.andThen_ok,U4,Bool.false_eq_true,if_false,Array.getElem?_eq_getElem (show off<cs.size by omega),Sem.run_pure]
   ·simp only[VOf,ht]
    apply List.ext_getElem
    ·simp;omega
    ·intro i h1 h2;simp at h1 h2;simp[show i=0 by omega]
  ·rename_i ht
   split at hc <;> try (cases hc;done)
   simp only[List.length_cons,List.length_nil]at hl ⊢
   refine⟨cs[off]'(by omega),?_,?_⟩
   ·have h1:=uM (P:=P) (t:=t) (d:=.str) ht w
    simp only[part,Sem.run_bind,h1,Result.andThen_ok,U4,Bool.false_eq_true,if_false,Array.getElem?_eq_getElem (show off<cs.size by omega),Sem.run_pure]
   ·simp only[VOf,ht]
    apply List.ext_getElem
    ·simp;omega
    ·intro i h1 h2;simp at h1 h2;simp[show i=0 by omega]
  ·rename_i fs ht
   simp only[Bool.and_eq_true]at hc
   obtain⟨⟨⟨_,h2⟩,_⟩,_⟩:=hc
   obtain⟨inf,hinf⟩:=Option.isSome_iff_exists.1 h2
   have hsz:=Xc hinf
   refine⟨.agg (cs.extract off (off+inf.size)),?_,?_⟩
   ·have h1:=uM (P:=P) (t:=t) (d:=.struct (fs.toList.map fun f=>(f.type,f.offset))) ⟨fs,ht,rfl⟩ w
    have h3:(sizeOf t).run P w= .ok inf.size w:=by
     simp[sizeOf,typeInfo,hinf]
    simp only[part,Sem.run_bind,h1,Result.andThen_ok,U4,if_true,h3,Sem.run_pure]
   ·simp only[VOf,ht]
    congr 1
    apply Array.ext'
    rw[←hsz,hcs]
    simp[List.extract_eq_take_drop,Array.toList_extract]
theorem Hy {P:Program} :∀(n:Nat) (t:TypeId) (sh:List Ty),pq P n t sh=true→∀(d:Nat),n≤d→∀(xs ys:List Value) (v u:Value),bz sh xs→bz sh ys→VOf P t xs v→VOf P t ys u→∀w:World,
  ∃r,(Op.equalIn d t v u).run P w= .ok r w∧(r=true↔xs=ys)
 | 0,_,_,h,_,_,_,_,_,_,_,_,_,_,_=>by cases h
 | n+1,t,sh,h,d,hd,xs,ys,v,u,hx,hy,hv,hu,w=>by
  obtain⟨d,rfl⟩:∃k,d=k+1:=⟨d -1,by omega⟩
  unfold pq at h
  split at h
  all_goals try (cases h;done)
  ·rename_i ht
   split at h <;> try (cases h;done)
   obtain⟨a,r1,rfl,h1⟩:=hx
   obtain⟨b,r2,rfl,h2⟩:=hy
   simp only[bz]at h1 h2;subst h1;subst h2
   simp only[VOf,ht]at hv hu
   obtain rfl:=(List.cons.inj hv).1
   obtain rfl:=(List.cons.inj hu).1
   exact⟨a==b,run_equalIn_bool w d t a b ht,by simp⟩
  ·rename_i k ht
   split at h <;> try (cases h;done)
   have:=of_decide_eq_true h
   subst this
   obtain⟨a,r1,rfl,h1⟩:=hx
   obtain⟨b,r2,rfl,h2⟩:=hy
   simp only[bz]at h1 h2;subst h1;subst h2
   simp only[VOf,ht]at hv hu
   obtain rfl:=(List.cons.inj hv).1
   obtain rfl:=(List.cons.inj hu).1
   exact⟨a==b,run_equalIn_int w d t k k a b ht,by simp⟩
  ·rename_i ht
   split at h <;> try (cases h;done)
   obtain⟨a,r1,rfl,h1⟩:=hx
   obtain⟨b,r2,rfl,h2⟩:=hy
   simp only[bz]at h1 h2;subst h1;subst h2
   simp only[VOf,ht]at hv hu
   obtain rfl:=(List.cons.inj hv).1
   obtain rfl:=(List.cons.inj hu).1
   refine⟨a.toList==b.toList,run_equalIn_string w d t a b ht,?_⟩
   constructor
   ·intro h
    have h:=eq_of_beq h
    rw[ByteArray.toList_eq,ByteArray.toList_eq]at h
    obtain⟨⟨x⟩⟩:=a
    obtain⟨⟨y⟩⟩:=b
    simp only at h
    rw[h]
   ·intro h
    injection h with h
    injection h with h
    rw[h];simp
  ·rename_i fs ht
   simp only[Bool.and_eq_true,Bool.not_eq_true']at h
   obtain⟨⟨⟨h1,h2⟩,h3⟩,h4⟩:=h
   have hlen:=aV h3
   simp only[VOf,ht]at hv hu
   subst hv;subst hu
   have hfo:P.fieldsOf t=fs:=by simp[Program.fieldsOf,ht]
   rw[run_equalIn_struct w d t _ _ (by rw[hfo];exact ht) h1,hfo]
   have hxl:=hx.length
   have hyl:=hy.length
   have key:∀(l:List Field) (off:Nat) (s:List Ty),yI (pq P n) P.cellsOf off l s=true→s=sh.drop off→off≤sh.length→∃r,(Op.eqFields d xs.toArray ys.toArray l).run P w= .ok r w∧(r=true↔xs.drop off=ys.drop off):=by
    intro l
    induction l with
    | nil=>
     intro off s hs he ho
     unfold yI at hs
     have:s=[]:=by simpa using hs
     have hoff:off=sh.length:=by
      have:=congrArg List.length (he.symm.trans this)
      simp at this;omega
     refine⟨true,rfl,?_⟩
     rw[List.drop_eq_nil_of_le (by omega),List.drop_eq_nil_of_le (by omega)]
     simp
    | cons f r ih=>
     intro off s hs he ho
     unfold yI at hs
     simp only[Bool.and_eq_true]at hs
     obtain⟨⟨⟨⟨g1,g2⟩,g3⟩,g4⟩,g5⟩:=hs
     have g2:=aV g2
     have g3:=Nat.le_of_ble_eq_true g3
     subst he
     simp only[List.length_drop]at g3
     have hsl:((sh.drop off).take (P.cellsOf f.type)).length=P.cellsOf f.type:=by simp;omega
     obtain⟨v1,e1,o1⟩:=NY g4 hsl.symm (cs:=xs.toArray) (off:=off) (by rw[hsl];simp;omega) w
     obtain⟨u1,e2,o2⟩:=NY g4 hsl.symm (cs:=ys.toArray) (off:=off) (by rw[hsl];simp;omega) w
     rw[hsl]at o1 o2
     obtain⟨b1,e3,q1⟩:=Hy n f.type _ g4 d (by omega) _ _ v1 u1 (((hx.take_drop off).2).take_drop _).1 (((hy.take_drop off).2).take_drop _).1 o1 o2 w
     obtain⟨b2,e4,q2⟩:=ih (off+P.cellsOf f.type) _ g5 (by rw[List.drop_drop]) (by omega)
     have hne:f.name≠ "_":=by simpa using g1
     have split:(xs.drop off=ys.drop off)↔((xs.drop off).take (P.cellsOf f.type)=(ys.drop off).take (P.cellsOf f.type)∧xs.drop (off+P.cellsOf f.type)=ys.drop (off+P.cellsOf f.type)):=by
      constructor
      ·intro h;rw[h];exact⟨rfl,by rw[←List.drop_drop,←List.drop_drop,h]⟩
      ·rintro⟨p1,p2⟩
       rw[←List.take_append_drop (P.cellsOf f.type) (xs.drop off),←List.take_append_drop (P.cellsOf f.type) (ys.drop off),p1,List.drop_drop,List.drop_drop,p2]
     simp only[Op.eqFields,if_pos hne,Sem.run_bind,g2,e1,e2,e3,Result.andThen_ok]
     cases b1 with
     | false=>
      refine⟨false,by simp,?_⟩
      have:¬((xs.drop off).take (P.cellsOf f.type)=(ys.drop off).take (P.cellsOf f.type)):=fun h=>by have:=q1.2 h;cases this
      simp only[Bool.false_eq_true,false_iff]
      intro h;exact this (split.1 h).1
     | true=>
      refine⟨b2,by simpa using e4,?_⟩
      rw[q2,split]
      exact⟨fun h=>⟨q1.1 rfl,h⟩,fun h=>h.2⟩
   have:=key fs.toList 0 sh h4 (by simp) (by omega)
   simpa using this
theorem Qi {P:Program} (em:Bool):∀(n:Nat) (t:TypeId) (sh:List Ty),pq P n t sh=true→∀(d:Nat),n≤d→∀(xs:List Value) (v:Value),bz sh xs→VOf P t xs v→∀w:World,
  (Instr.checkKey em d t v).run P w= .ok () w
 | 0,_,_,h,_,_,_,_,_,_,_=>by cases h
 | n+1,t,sh,h,d,hd,xs,v,hx,hv,w=>by
  obtain⟨d,rfl⟩:∃k,d=k+1:=⟨d -1,by omega⟩
  unfold pq at h
  split at h
  all_goals try (cases h;done)
  ·rename_i ht
   split at h <;> try (cases h;done)
   obtain⟨a,r1,rfl,h1⟩:=hx
   simp only[bz]at h1;subst h1
   simp only[VOf,ht]at hv
   obtain rfl:=(List.cons.inj hv).1
   simp[Instr.checkKey,run_underlying ht]
  ·rename_i k ht
   split at h <;> try (cases h;done)
   have:=of_decide_eq_true h
   subst this
   obtain⟨a,r1,rfl,h1⟩:=hx
   simp only[bz]at h1;subst h1
   simp only[VOf,ht]at hv
   obtain rfl:=(List.cons.inj hv).1
   simp[Instr.checkKey,run_underlying ht]
  ·rename_i ht
   split at h <;> try (cases h;done)
   obtain⟨a,r1,rfl,h1⟩:=hx
   simp only[bz]at h1;subst h1
   simp only[VOf,ht]at hv
   obtain rfl:=(List.cons.inj hv).1
   simp[Instr.checkKey,run_underlying ht]
  ·rename_i fs ht
   simp only[Bool.and_eq_true,Bool.not_eq_true']at h
   obtain⟨⟨⟨h1,h2⟩,h3⟩,h4⟩:=h
   have hlen:=aV h3
   simp only[VOf,ht]at hv
   subst hv
   have hxl:=hx.length
   have key:∀(l:List Field) (off:Nat) (s:List Ty),yI (pq P n) P.cellsOf off l s=true→s=sh.drop off→off≤sh.length→
     (forIn l PUnit.unit (fun(f:Field) (_:PUnit)=>(do
      if f.name≠ "_" then Instr.checkKey em d f.type (←part f.type xs.toArray f.offset)
      pure (ForInStep.yield PUnit.unit):Sem (ForInStep PUnit)))).run P w= .ok PUnit.unit w:=by
    intro l
    induction l with
    | nil=>intro off s hs he ho;rfl
    | cons f r ih=>
     intro off s hs he ho
     unfold yI at hs
     simp only[Bool.and_eq_true]at hs
     obtain⟨⟨⟨⟨g1,g2⟩,g3⟩,g4⟩,g5⟩:=hs
     have g2:=aV g2
     have g3:=Nat.le_of_ble_eq_true g3
     subst he
     simp only[List.length_drop]at g3
     have hsl:((sh.drop off).take (P.cellsOf f.type)).length=P.cellsOf f.type:=by simp;omega
     obtain⟨v1,e1,o1⟩:=NY g4 hsl.symm (cs:=xs.toArray) (off:=off) (by rw[hsl];simp;omega) w
     rw[hsl]at o1
     have e3:=Qi em n f.type _ g4 d (by omega) _ v1 (((hx.take_drop off).2).take_drop _).1 o1 w
     have e4:=ih (off+P.cellsOf f.type) _ g5 (by rw[List.drop_drop]) (by omega)
     have hne:f.name≠ "_":=by simpa using g1
     simp only[List.forIn_cons,Sem.run_bind,hne,ne_eq,not_false_eq_true,if_true,g2,e1,e3,Result.andThen_ok,Sem.run_pure]
     exact e4
   have:=key fs.toList 0 sh h4 (by simp) (by omega)
   simp only[Instr.checkKey,Sem.run_bind,run_underlying ht,Result.andThen_ok]
   simp at this
   simp[this]
theorem Ve {P:Program} {n:Nat} (hn:n≤10000) {t:TypeId} {sh:List Ty} (h:pq P n t sh=true) (hs:(match P.underlying t with | some (.struct _)=>true | _=>false)=true):Uf P t sh:=by
 have hv:∀zs:Array Value,VOf P t zs.toList (.agg zs):=fun zs=>by
  unfold VOf
  split
  ·simp
  ·rename_i hh;exfalso
   split at hs
   ·rename_i fs hf;exact hh fs hf
   ·cases hs
 refine⟨?_,fun w xs hx=>⟨fun em=>Qi em n t sh h 10000 hn _ _ hx (hv xs) w,fun ys hy=>Hy n t sh h 10000 hn _ _ _ _ hx hy (hv xs) (hv ys) w⟩⟩
 split at hs
 ·rename_i fs hf;exact⟨fs,hf⟩
 ·cases hs
theorem Xq {P:Program} {n:Nat} (hn:n≤10000) {t:TypeId} {sh:List Ty} (h:pq P n t sh=true) (hs:(match P.underlying t with | some (.struct _)=>true | _=>false)=true) (hg:P.eqGuardType P.depth t=false):BU P t sh:=by
 refine⟨?_,Ve hn h hs⟩
 intro w C cs ds xs ys e op x y s1 s2 h1 h2 he hop
 have hv:∀zs:Array Value,VOf P t zs.toList (.agg zs):=fun zs=>by
  unfold VOf
  split
  ·simp
  ·rename_i hh;exfalso
   split at hs
   ·rename_i fs hf;exact hh fs hf
   ·cases hs
 obtain⟨r,hr,hq⟩:=Hy n t sh h 10000 hn _ _ _ _ (yg s1 h1) (yg s2 h2) (hv xs) (hv ys) w
 have hre:r=e:=by
  have:=EZ h1 h2 he
  cases r <;> cases e <;> simp_all
 subst hre
 rcases hop with rfl | rfl
 ·rw[Sem.run_bind,run_eqGuard_agg w .eql t x y xs ys hg]
  simp only[Result.andThen_ok,run_eql_struct,hr,if_pos]
 ·rw[Sem.run_bind,run_eqGuard_agg w .neq t x y xs ys hg]
  simp[run_neq_struct,hr]
def Xr (P:Program):List (Nat×List Ty)→Bool
 | []=>true
 | (t,sh)::r=>pq P 20 t sh&&(match P.underlying t with | some (.struct _)=>true | _=>false)&&!P.eqGuardType P.depth t&&Xr P r
theorem UH {P:Program} :∀{l:List (Nat×List Ty)},Xr P l=true→∀t sh,Y3 l t=some sh→BU P t sh
 | [],_,t,sh,h=>by simp[Y3]at h
 | (k,v)::r,hc,t,sh,h=>by
  unfold Xr at hc
  simp only[Bool.and_eq_true,Bool.not_eq_true']at hc
  unfold Y3 at h
  cases hb:Nat.beq k t
  ·simp only[hb,cond_false]at h
   exact UH hc.2 t sh h
  ·simp only[hb,cond_true,Option.some.injEq]at h
   have:=aV hb
   subst this;subst h
   exact Xq (by omega) hc.1.1.1 hc.1.1.2 hc.1.2
end Go.GP
namespace Go.GP
open Go.ChangeShapes Go.WideShapes Go.RowKit
def wf:(t:Ty)→t.den→Prop
 | .bool,_=>True
 | .int k,n=>(Lit.int k n).wf=true
 | .str,l=>l.length≤reachBytes
 | .sl t,xs=>xs.length≤reachBytes∧∀x∈xs,wf t x
 | .prod a b,x=>wf a x.1∧wf b x.2
 | .unit,_=>True
 | .ent _ _ a b,x=>wf a x.1∧wf b x.2
def uI (rec:TypeId→Ty→Bool) (cells:TypeId→Nat):Nat→List Field→Ty→Bool
 | off,fs,u=>match fs with
  | []=>false
  | f::r=>match r with
   | []=>Nat.beq f.offset off&&rec f.type u&&Nat.beq (cells f.type) u.size
   | g::r' =>match u with
    | .prod a b=>Nat.beq f.offset off&&rec f.type a&&Nat.beq (cells f.type) a.size&&uI rec cells (off+a.size) (g::r') b
    | _=>false
termination_by _ fs _=>fs.length
def TY (P:Program):Nat→TypeId→Ty→Bool
 | 0,_,_=>false
 | n+1,t,u=>match P.underlying t with
  | some .bool=>(match u with | .bool=>true | _=>false)
  | some (.int k)=>(match u with | .int k' =>decide (k=k') | _=>false)
  | some .string=>(match u with | .str=>true | _=>false)
  | some (.slice e)=>(match u with | .sl v=>TY P n e v&&Nat.beq (P.cellsOf e) v.size&&Nat.blt 0 v.size&&Nat.blt 0 (P.bytesOf e)&&!v.isEnt | _=>false)
  | some (.struct fs)=>uI (TY P n) P.cellsOf 0 fs.toList u&&Nat.beq (P.cellsOf t) u.size
  | _=>false
theorem FB {α:Type} {Q:Nat→α→Prop} :∀(n:Nat),(∀i,i<n→∃x,Q i x)→∃xs:List α,xs.length=n∧∀i x,xs[i]? =some x→Q i x
 | 0,_=>⟨[],rfl,fun i x h=>by simp at h⟩
 | n+1,h=>by
  obtain⟨xs,hl,hx⟩:=FB n fun i hi=>h i (by omega)
  obtain⟨y,hy⟩:=h n (by omega)
  refine⟨xs++[y],by simp[hl],fun i x hi=>?_⟩
  by_cases hin:i<n
  ·rw[List.getElem?_append_left (by omega)]at hi
   exact hx i x hi
  ·rw[List.getElem?_append_right (by omega)]at hi
   have:i -xs.length=0:=by
    rcases Nat.lt_or_ge (i -xs.length) 1 with h1 | h1
    ·omega
    ·rw[List.getElem?_eq_none (by simpa using h1)]at hi;cases hi
   rw[this]at hi
   simp at hi
   subst hi
   have e:i=n:=by omega
   subst e;exact hy
theorem LC {w:World} {a:Addr} {n:Nat} {es:List Value} (hn:0<n) (h:w.cells? 0 a n=some es):
  a.spot=none∧a.block<w.heap.size∧Y1 w.heap a.block a.off n=some es:=by
 obtain⟨blk,off,spot⟩:=a
 simp only[World.cells?,Nat.zero_le,if_true]at h
 have hlen:es.length=n:=by simpa using Lib.mapM_length h
 have hat:∀i,i<n→∃b,es[i]? =some b∧w.cell? (Addr.add ⟨blk,off,spot⟩ i)=some b:=fun i hi=>Lib.mapM_at h i i (by simp[hi])
 obtain⟨b0,_,h0⟩:=hat 0 hn
 simp only[Addr.add,if_true,World.cell?]at h0
 cases hb:w.heap[blk]? with
 | none=>simp[hb]at h0
 | some o=>
  cases o <;> simp only[hb]at h0 <;> try (cases h0;done)
  rename_i c T f
  have hs:spot=none:=by
   cases spot with
   | none=>rfl
   | some _=>simp at h0
  subst hs
  have hat' :∀i,i<n→es[i]? =c[off+i]?∧off+i<c.size:=fun i hi=>by
   obtain⟨b,h1,h2⟩:=hat i hi
   have h3:c[off+i]? =some b:=by
    by_cases hi0:i=0
    ·subst hi0;simpa[Addr.add,World.cell?,hb]using h2
    ·simpa[Addr.add,World.cell?,hb,hi0]using h2
   exact⟨h1.trans h3.symm,(Array.getElem?_eq_some_iff.1 h3).1⟩
  refine⟨rfl,(Array.getElem?_eq_some_iff.1 hb).1,?_⟩
  have hle:off+n≤c.size:=by have:=(hat' (n -1) (by omega)).2;omega
  rw[fM hb _ _ hle]
  congr 1
  apply List.ext_getElem?
  intro i
  by_cases hi:i<n
  ·rw[(hat' i hi).1,List.getElem?_take_of_lt hi,List.getElem?_drop]
   simp
  ·rw[List.getElem?_eq_none (by simp;omega),List.getElem?_eq_none (by omega)]
section
variable {H:Type} {enc:TypeId×Value→H} {P:Program} {w:World} {sp:Nat→Bool} {held:Bool} {ok:Nat→Ty→Prop}
theorem BP {e:TypeId} :∀{l:List (DataW H)} {d:DataW H},d∈l→∀b∈d.weights P e,b∈DataW.weightsAll P e l
 | x::l,d,h,b,hb=>by
  simp only[DataW.weightsAll,List.mem_append]
  rcases List.mem_cons.1 h with rfl | h
  ·exact .inl hb
  ·exact .inr (BP h b hb)
theorem MK {n:Nat} (IH:∀t u,TY P n t u=true→∀dN cs d ps,DataW.trod enc P w 0 sp held dN t cs=some (d,ps)→(∀b∈d.weights P t,b≤reachBytes)→∃x,rep w.heap ok u x cs∧wf u x) {cs:List Value} {m:Nat} :
  ∀(fs:List Field) (off:Nat) (u:Ty),uI (TY P n) P.cellsOf off fs u=true→∀(xs:List (DataW H×List MemPlace)),xs.length=fs.length→
   (∀(i:Nat) (f:Field),fs[i]? =some f→DataW.trod enc P w 0 sp held m f.type ((cs.drop f.offset).take (P.cellsOf f.type))=xs[i]?)→(∀b∈DataW.weightsEach P (fs.map (·.type)) (xs.map (·.1)),b≤reachBytes)→
   ∃x,rep w.heap ok u x ((cs.drop off).take u.size)∧wf u x
 | [],off,u,h,_,_,_,_=>by unfold uI at h;cases h
 | [f],off,u,h,xs,hl,hx,hw=>by
  unfold uI at h
  simp only[Bool.and_eq_true]at h
  have h1:=aV h.1.1
  have h3:=aV h.2
  match xs,hl with
  | [y],_=>
   have h4:=hx 0 f rfl
   rw[h1,h3]at h4
   refine IH _ _ h.1.2 _ _ y.1 y.2 (by simpa using h4) fun b hb=>hw b ?_
   simp[DataW.weightsEach,hb]
 | f::g::r,off,u,h,xs,hl,hx,hw=>by
  unfold uI at h
  cases u <;> try (cases h;done)
  rename_i a b
  simp only[Bool.and_eq_true]at h
  obtain⟨⟨⟨h1,h2⟩,h3⟩,h4⟩:=h
  have h1:=aV h1
  have h3:=aV h3
  match xs,hl with
  | y::ys,hl=>
   have h5:=hx 0 f rfl
   rw[h1,h3]at h5
   obtain⟨p,hp,wp⟩:=IH _ _ h2 _ _ y.1 y.2 (by simpa using h5) fun c hc=>hw c (by simp[DataW.weightsEach,hc])
   obtain⟨q,hq,wq⟩:=MK IH (g::r) (off+a.size) b h4 ys (by simpa using hl) (fun i f' hf=>by have:=hx (i+1) f' (by simpa using hf);simpa using this) fun c hc=>hw c (by
    simp only[List.map_cons,DataW.weightsEach,List.mem_append]
    simp only[List.map_cons]at hc
    exact .inr hc)
   refine⟨(p,q),⟨_,_,?_,hp,hq⟩,wp,wq⟩
   show(cs.drop off).take (a.size+b.size)=_
   rw[List.take_add,List.drop_drop]
theorem Bo (hok:∀b t,b<w.heap.size→ok b t):∀(n:Nat) (t:TypeId) (u:Ty),TY P n t u=true→∀(dN:Nat) (cs:List Value) (d:DataW H) (ps:List MemPlace),DataW.trod enc P w 0 sp held dN t cs=some (d,ps)→
  (∀b∈d.weights P t,b≤reachBytes)→∃x,rep w.heap ok u x cs∧wf u x
 | 0,_,_,h,_,_,_,_,_,_=>by cases h
 | n+1,t,u,h,dN,cs,d,ps,hd,hw=>by
  unfold TY at h
  split at h
  ·rename_i ht
   cases u <;> try (cases h;done)
   obtain⟨b,rfl,hx⟩:=DataW.trod_bool ht hd
   exact⟨b,rfl,trivial⟩
  ·rename_i k ht
   cases u <;> try (cases h;done)
   rename_i k'
   have:=of_decide_eq_true h
   subst this
   obtain⟨b,rfl,hx,hwf⟩:=DataW.trod_int ht hd
   exact⟨b,rfl,hwf⟩
  ·rename_i ht
   cases u <;> try (cases h;done)
   obtain⟨s,rfl,hx,hs⟩:=DataW.trod_string ht hd
   simp only[Prod.mk.injEq]at hx
   obtain⟨rfl,rfl⟩:=hx
   refine⟨s.data.toList,rfl,hw _ ?_⟩
   simp[DataW.weights]
  ·rename_i e ht
   cases u <;> try (cases h;done)
   rename_i v
   simp only[Bool.and_eq_true,Bool.not_eq_true']at h
   obtain⟨⟨⟨⟨h1,h2⟩,h3⟩,h4⟩,hE0⟩:=h
   have h2:=aV h2
   rw[Nat.blt_eq]at h3 h4
   rcases DataW.trod_slice ht hd with⟨rfl,hx⟩ | ⟨a,len,cap,elems,rest,m,rfl,rfl,hx,hb,hl,hm,hlen,hel,_,_⟩
   ·exact⟨[],.inl ⟨hE0,none,0,rfl,Nat.le_refl _,fun i x hi=>by simp at hi⟩,by simp,fun x hx=>by simp at hx⟩
   ·simp only[Prod.mk.injEq]at hx
    obtain⟨rfl,rfl⟩:=hx
    have hW:DataW.weights P t (.slice (elems.map (·.1)) (rest.map (·.1)):DataW H)=((elems.map (·.1)).length+(rest.map (·.1)).length)*P.bytesOf e::(DataW.weightsAll P e (elems.map (·.1))++DataW.weightsAll P e (rest.map (·.1))):=by
     simp only[DataW.weights,ht]
    rw[hW]at hw
    have hsz:=hw _ (List.mem_cons_self ..)
    simp only[List.length_map]at hsz
    have hlr:len≤reachBytes:=by
     have h6:(elems.length+rest.length)*1≤(elems.length+rest.length)*P.bytesOf e:=Nat.mul_le_mul_left _ h4
     omega
    have each:∀i,i<len→∃x,wf v x∧a.spot=none∧a.block<w.heap.size∧∃es,Y1 w.heap a.block (a.off+i*v.size) v.size=some es∧rep w.heap ok v x es:=by
     intro i hi
     have h5:=hel i hi
     rw[h2]at h5
     rw[Y6 (by omega)]at h5
     obtain⟨es,hc,hd2⟩:=Option.bind_eq_some_iff.1 h5
     obtain⟨x,hx,wx⟩:=Bo hok n e v h1 m es _ _ hd2 fun b hb=>hw b (by
      refine List.mem_cons_of_mem _ (List.mem_append_left _ (BP (d:=(elems[i]'(by omega)).1) (List.mem_map.2 ⟨_,List.getElem_mem (by omega),rfl⟩) b hb)))
     obtain⟨s1,s2,s3⟩:=LC h3 hc
     by_cases hz:i*v.size=0
     ·simp only[Addr.add,hz,if_true]at s1 s2 s3
      exact⟨x,wx,s1,s2,es,by simpa[hz]using s3,hx⟩
     ·simp only[Addr.add,hz,if_false]at s1 s2 s3
      obtain⟨es0,hc0,_⟩:=Option.bind_eq_some_iff.1 (show((w.cells? 0 (a.add (0*P.cellsOf e)) (P.cellsOf e)).bind (DataW.trod enc P w 0 sp held m e))=some (elems[0]'(by omega)) by rw[hel 0 (by omega),Y6 (by omega)])
      rw[h2]at hc0
      have s0:=(LC h3 hc0).1
      simp only[Nat.zero_mul,Addr.add,if_true]at s0
      exact⟨x,wx,s0,s2,es,s3,hx⟩
    obtain⟨xs,hxl,hxs⟩:=FB len each
    refine⟨xs,.inl ⟨hE0,some a,cap,by simp[hxl],by omega,fun i x hi=>?_⟩,by omega,fun x hx=>?_⟩
    ·obtain⟨_,s1,s2,es,s3,s4⟩:=hxs i x hi
     refine⟨a.block,a.off,es,?_,hok _ _ s2,s3,s4⟩
     obtain⟨b,o,s⟩:=a
     simp only at s1
     subst s1;rfl
    ·obtain⟨i,hi,rfl⟩:=List.mem_iff_getElem.1 hx
     exact(hxs i _ (Y6 hi)).1
  ·rename_i fs ht
   simp only[Bool.and_eq_true]at h
   have h2:=aV h.2
   obtain⟨xs,m,rfl,hx,hl,hlen,hf⟩:=DataW.trod_struct ht hd
   simp only[Prod.mk.injEq]at hx
   obtain⟨rfl,rfl⟩:=hx
   have hW:DataW.weights P t (.agg (xs.map (·.1)):DataW H)=DataW.weightsEach P (fs.toList.map (·.type)) (xs.map (·.1)):=by simp only[DataW.weights,ht]
   rw[hW]at hw
   have:=MK (cs:=cs) (m:=m) (fun t u hu dN cs d ps hd hw=>Bo hok n t u hu dN cs d ps hd hw) fs.toList 0 u h.1 xs (by simpa using hlen) (fun i f hi=>hf i f (by simpa using hi)) hw
   rwa[List.drop_zero,List.take_of_length_le (by omega)]at this
  ·cases h
end
def a2S (P:Program) (t:TypeId):Bool:=match P.underlying t with | some (.struct _)=>true | _=>false
theorem a8w {P:Program} {W:World} {base n:Nat} {t:TypeId} {u:Ty} {v:Value} (h:TY P n t u=true) (hv:Value.okWide P W .any base t v):IE (a2S P t) v v.cells.toList:=by
 cases n with
 | zero=>cases h
 | succ n=>
  unfold TY at h
  unfold a2S
  split at h
  ·rename_i ht
   simp only[Value.okWide,ht,Cell.okWide,Cell.ok]at hv ⊢
   cases v <;> first | rfl | exact absurd hv (by simp)
  ·rename_i ht
   simp only[Value.okWide,ht,Cell.okWide,Cell.ok]at hv ⊢
   cases v <;> first | rfl | exact absurd hv (by simp)
  ·rename_i ht
   simp only[Value.okWide,ht,Cell.okWide,Cell.ok]at hv ⊢
   cases v <;> first | rfl | exact absurd hv (by simp)
  ·rename_i ht
   simp only[Value.okWide,ht,Cell.okWide,Cell.ok]at hv ⊢
   cases v <;> first | rfl | exact absurd hv (by simp)
  ·rename_i ht
   simp only[Value.okWide,ht]at hv ⊢
   obtain⟨cs,rfl,_,_⟩:=hv
   exact⟨cs,rfl,rfl⟩
  ·cases h
def jg (P:Program) (n:Nat):List TypeId→List MG→Bool
 | [],[]=>true
 | t::ts,(g,.dat u)::ms=>TY P n t u&&(a2S P t==g)&&P.readableRec t&&Nat.blt t P.types.size&&jg P n ts ms
 | _,_=>false
def wfM:(m:M)→m.den→Prop
 | .dat t,x=>wf t x
 | _,_=>True
def WV:(ms:List MG)→aK ms→Prop
 | [],_=>True
 | [m],x=>wfM m.2 x
 | m::m' ::r,x=>wfM m.2 x.1∧WV (m' ::r) x.2
section
variable {H:Type} {enc:TypeId×Value→H} {P:Program} {W:World} {base n:Nat} {ok:Nat→Ty→Prop}
theorem QZ (hok:∀b t,b<W.heap.size→ok b t):∀{ts:List TypeId} {ms:List MG} {vs:List Value} {ds:List (DataW H)} {ps:List MemPlace},jg P n ts ms=true→DataW.TrodAll enc P W 0 (fun _=>true) true ts vs ds ps→
  (∀(j:Nat) t v,ts[j]? =some t→vs[j]? =some v→Value.okWide P W .any base t v)→(∀b∈DataW.weightsEach P ts ds,b≤reachBytes)→∃x,kS W.heap ok ms x vs []∧WV ms x
 | [],[],vs,ds,ps,h,hd,hv,hw=>by
  obtain⟨rfl,rfl,rfl⟩:=trodAll_nil hd
  exact⟨(),⟨rfl,rfl⟩,trivial⟩
 | [],_::_,_,_,_,h,_,_,_=>by simp[jg]at h
 | _::_,[],_,_,_,h,_,_,_=>by simp[jg]at h
 | t::ts,(g,m)::ms,vs,ds,ps,h,hd,hv,hw=>by
  cases m <;> simp only[jg,Bool.and_eq_true]at h <;> try (cases h;done)
  rename_i u
  obtain⟨⟨⟨⟨h1,h2⟩,_⟩,_⟩,h3⟩:=h
  have h2:=eq_of_beq h2
  subst h2
  obtain⟨v,vs',d,ds',p,q,rfl,rfl,rfl,⟨dN,h4⟩,h5⟩:=trodAll_cons hd
  have hw' :∀b∈d.weights P t++DataW.weightsEach P ts ds',b≤reachBytes:=by simpa only[DataW.weightsEach]using hw
  obtain⟨x,hx,wx⟩:=Bo (ok:=ok) hok n t u h1 _ _ _ _ h4 fun b hb=>hw' b (List.mem_append_left _ hb)
  have hg:=a8w h1 (hv 0 t v rfl rfl)
  obtain⟨y,hy,wy⟩:=QZ hok h3 h5 (fun j t v hj hk=>hv (j+1) t v (by simpa using hj) (by simpa using hk)) fun b hb=>hw' b (List.mem_append_right _ hb)
  cases ms with
  | nil=>
   cases ts with
   | cons _ _=>simp[jg]at h3
   | nil=>
    obtain⟨rfl,rfl,rfl⟩:=trodAll_nil h5
    exact⟨x,⟨v,_,rfl,hg,hx,rfl⟩,wx⟩
  | cons m' ms=>exact⟨(x,y),⟨v,_,vs',[],[],rfl,rfl,hg,⟨hx,rfl⟩,hy⟩,wx,wy⟩
theorem DV (hl:laidOutB P=true) {W' :World} (hb:Below W.heap.size W W') {sp:Nat→Bool} :∀{ts:List TypeId} {ms:List MG} {vs:List Value} {ds:List (DataW H)} {ps:List MemPlace},jg P n ts ms=true→
  DataW.TrodAll enc P W 0 (fun _=>true) true ts vs ds ps→(∀x∈ps,x.block<W.heap.size)→(∀x∈ps,sp x.block=true)→DataW.TrodAll enc P W' 0 sp true ts vs ds ps
 | [],ms,vs,ds,ps,h,hd,_,_=>by
  obtain⟨rfl,rfl,rfl⟩:=trodAll_nil hd
  rfl
 | _::_,[],_,_,_,h,_,_,_=>by simp[jg]at h
 | t::ts,(g,m)::ms,vs,ds,ps,h,hd,hlt,hsp=>by
  cases m <;> simp only[jg,Bool.and_eq_true]at h <;> try (cases h;done)
  obtain⟨⟨⟨⟨h1,h2⟩,h6⟩,h7⟩,h3⟩:=h
  rw[Nat.blt_eq]at h7
  obtain⟨v,vs',d,ds',p,q,rfl,rfl,rfl,h4,h5⟩:=trodAll_cons hd
  exact⟨p,q,WideElems.Trod_stays hl h6 h7 h4 (fun x hx=>hb.same (hlt x (List.mem_append_left _ hx))) (fun x hx=>hsp x (List.mem_append_left _ hx)),
   DV hl hb h3 h5 (fun x hx=>hlt x (List.mem_append_right _ hx)) (fun x hx=>hsp x (List.mem_append_right _ hx)),rfl⟩
end
theorem a3H {P:Program} {W:World} {name:String} {g:Nat} {k:IntKind} {zs:List Int} (hg:P.globalNamed name=some g) (hz:0<zs.length) (h:Lib.TabIs P W name k zs):
  GX ⟨W.heap,fun b _=>b<W.heap.size,nom⟩ g (.int k) zs:=by
 have hc:∀i z,zs[i]? =some z→W.cell? ⟨g,i,none⟩=some (.int k z):=fun i z hi=>by
  have:=World.var?_cell hg h i
  rw[this];simp[hi]
 have key:∀i z,zs[i]? =some z→g<W.heap.size∧Y1 W.heap g i 1=some [.int k z]:=fun i z hi=>by
  have h1:=hc i z hi
  have h2:W.cells? 0 ⟨g,i,none⟩ 1=some [.int k z]:=by
   simp[World.cells?,List.range_succ,Addr.add,h1]
  obtain⟨_,s2,s3⟩:=LC (by omega) h2
  exact⟨s2,s3⟩
 refine⟨(key 0 zs[0] (Y6 hz)).1,?_,fun i z hi=>⟨_,?_,rfl⟩⟩
 ·unfold Lib.TabIs World.var? at h
  simp only[hg,Option.bind_some]at h
  split at h
  ·rename_i cs T f hb
   simp only[Option.some.injEq]at h
   subst h
   exact⟨_,T,f,hb,by simp[Ty.size]⟩
  ·cases h
 ·have:=(key i z hi).2
  simpa[Ty.size]using this
theorem Su {H:Type} {enc:TypeId×Value→H} {P:Program} {gl:List (Nat×(t:Ty)×List t.den)} {f:FuncId} {fn:Func} {s:ChangeSpec} {ms:List MG} {F:aK ms→Option Bool} {tb:TypeId}
  (hlaid:laidOutB P=true) (hF:D5 P gl f ⟨ms,[(false,.dat .bool)],[],F⟩) (law:∀x,WV ms x→F x=some true) (hpars:jg P 30 fn.params.toList ms=true) (hres:fn.resultTypes=#[tb]) (hbool:P.underlying tb=some .bool)
  (hvars:s.vars=[]) (hsfn:∀ds:List (DataW H),ds.length=ms.length→s.fn H ds= { results:=[.lit (.bool true)],args:=ds })
  {W:World} {base:Nat} {args:Array Value} {ds gs:List (DataW H)} {before:List MemPlace} {apart fresh handsOn again:Bool}
  (hgl:∀g u,Y3 gl g=some u→GX ⟨W.heap,fun b _=>b<W.heap.size,nom⟩ g u.1 u.2)
  (hval:∀(j:Nat) t v,fn.params[j]? =some t→args[j]? =some v→Value.okWide P W .any base t v)
  (hW:DataW.Whole enc P fn.params.toList s.vars apart W args.toList ds gs before)
  (hz:(DataW.weightsEach P (fn.params.toList++s.plain.varTypes P) (ds++gs)).all (·≤reachBytes)=true):
  Calls P f args W fun e W' =>∃v,e= .returned v∧s.post enc P fn apart fresh handsOn again W args v W' :=by
 have hW' :=hW
 obtain⟨p,q,hA,hV,rfl,hfz,hnd⟩:=hW
 rw[hvars]at hV
 obtain⟨rfl,rfl⟩:=trodVars_none hV
 have hlen:ds.length=ms.length:=by
  have:∀{ts:List TypeId} {ms:List MG} {vs:List Value} {ds:List (DataW H)} {ps:List MemPlace},jg P 30 ts ms=true→DataW.TrodAll enc P W 0 (fun _=>true) true ts vs ds ps→ds.length=ms.length:=by
   intro ts
   induction ts with
   | nil=>
    intro ms vs ds ps h hd
    obtain⟨rfl,rfl,rfl⟩:=trodAll_nil hd
    cases ms with
    | nil=>rfl
    | cons _ _=>simp[jg]at h
   | cons t ts ih=>
    intro ms vs ds ps h hd
    obtain⟨v,vs',d,ds',p,q,rfl,rfl,rfl,h4,h5⟩:=trodAll_cons hd
    cases ms with
    | nil=>simp[jg]at h
    | cons m ms=>
     obtain⟨g,m⟩:=m
     cases m <;> simp only[jg,Bool.and_eq_true]at h <;> try (cases h;done)
     simp[ih h.2 h5]
  exact this hpars hA
 have hvt:s.plain.varTypes P=[]:=by simp[ChangeSpec.plain,DataSpec.varTypes,hvars]
 rw[hvt]at hz
 simp only[List.append_nil,List.all_eq_true,decide_eq_true_eq]at hz
 obtain⟨x,hx,wx⟩:=QZ (ok:=fun b _=>b<W.heap.size) (fun b t hb=>hb) hpars hA (fun j t v hj hv=>hval j t v (by simpa using hj) (by simpa using hv)) hz
 have hc:=hF W (fun b _=>b<W.heap.size) [] args.toList x true (fun b t hb=>hb) List.nodup_nil (fun b hb=>by cases hb) hgl hx (law x wx)
 simp only[Array.toArray_toList]at hc
 refine hc.mono fun e W' ⟨v,ok',O',rs,os,B,he,hfr,_,_,_,_,hrv,hos,hrel⟩=>?_
 subst he
 have hnoos:os=[]:=by
  have:∀{ms:List MG} {vs:List Value} {ts:List TypeId},jg P 30 ts ms=true→pV W'.heap ms vs os B→os=[]:=by
   intro ms
   induction ms with
   | nil=>
    intro vs ts h ho
    cases vs with
    | nil=>exact ho.1
    | cons _ _=>exact absurd ho (by simp[pV])
   | cons m ms ih=>
    intro vs ts h ho
    obtain⟨g,m⟩:=m
    cases ts with
    | nil=>simp[jg]at h
    | cons t ts=>
     cases m <;> simp only[jg,Bool.and_eq_true]at h <;> try (cases h;done)
     cases vs with
     | nil=>exact absurd ho (by simp[pV])
     | cons v vs=>exact ih h.2 ho
  exact this hpars hos
 subst hnoos
 obtain⟨v1,cs,hvs,hg,⟨hrep,_⟩⟩:=hrel
 simp only[List.append_nil]at hvs
 subst hvs
 have hv1:v1= .bool true:=by
  have h1:cs=[v1]:=hg
  have h2:cs=[.bool true]:=hrep
  rw[h1]at h2
  exact(List.cons.inj h2).1
 subst hv1
 have hv:v= .bool true:=hrv.2
 subst hv
 have hbel:Below W.heap.size W W' :=⟨hfr.os,hfr.tape,hfr.output,hfr.size,fun k hk=>hfr.block k hk (by simp)⟩
 simp only[List.append_nil]at hW' hfz
 have hlt:∀x∈p,x.block<W.heap.size:=fun x hx=>by simpa using hW'.lt x hx
 have hres1:∀(b:Nat) (sp:Nat→Bool) (hd:Bool),DataW.TrodAll enc P W' b sp hd fn.resultTypes.toList ((Value.bool true).resultList fn.resultTypes.size) (s.fn H (ds++[])).results []:=fun b sp hd=>by
  rw[List.append_nil,hsfn ds hlen,hres]
  exact trodAll_cons_mk (shut_bool hbool _) trodAll_mk0
 have hargs1:∀sp:Nat→Bool,(∀x∈p,sp x.block=true)→DataW.TrodAll enc P W' 0 sp true fn.params.toList args.toList (s.fn H (ds++[])).args p:=fun sp hs=>by
  rw[List.append_nil,hsfn ds hlen]
  exact DV hlaid hbel hpars hA hlt hs
 have hvars1:∀sp:Nat→Bool,DataW.TrodVars enc P W' sp s.vars (s.fn H (ds++[])).vars []:=fun sp=>by
  rw[List.append_nil,hsfn ds hlen,hvars]
  rfl
 refine⟨_,rfl,ds,[],p,[],p,[],hW',hres1 _ _ _,hargs1 _ (fun x hx=>by simpa using hlt x hx),hvars1 _,World.keptBut_mono (fun x hx=>⟨hx,.inr (.inl hx)⟩) (hbel.frame (·∈p)),fun _=>⟨ok_one hres rfl (okWide_bool_mk hbool _),_,_,([]++p)++[],⟨[]++p,[],trodAll_append (hargs1 _ (fun _ _=>rfl)) (hres1 _ _ _),hvars1 _,rfl,?_,?_⟩,?_⟩⟩
 ·intro b off hp
  simp only[List.nil_append,List.append_nil]at hp
  rw[hbel.frozen (hlt _ hp)]
  exact hfz b off hp
 ·intro ha
  obtain⟨_,_,_,_,_,_,hn⟩:=hW'
  simpa using hn ha
 ·intro x hx _
  simpa using hx
end Go.GP
namespace Go.GP
open Go.RowKit
theorem a3V {P:Program} {w w' :World} (hb:Below w.heap.size w w') {ok:Nat→Ty→Prop} (hlt:∀b t,ok b t→b<w.heap.size) {ps:List MG} {vals:List Value} (hps:pV w'.heap ps vals [] []) {t:Ty} {x:t.den} {v:Value} (hr:rep w'.heap ok t x [v]):
  ∃v' ok' O' rs os B,(Ending.returned v)= .returned v' ∧Frame' w w' []∧(∀b t,ok b t→ok' b t)∧(∀b t,ok' b t→b<w'.heap.size∧(ok b t∨w.heap.size≤b∨b∈([]:List Nat)))∧
   (O' ++B).Nodup∧(∀b∈O' ++B,(∀t,¬ok' b t)∧b<w'.heap.size∧(w.heap.size≤b∨b∈([]:List Nat)))∧
   WX 1 v' rs∧pV w'.heap ps vals os B∧kS w'.heap ok' ([(false,.dat t)]++[]) x (rs++os) O' :=
 ⟨v,ok,[],[v],[],[],rfl,⟨hb.os,hb.tape,hb.output,hb.size,fun b h _=>hb.block b h⟩,fun b t h=>h,fun b t h=>⟨Nat.lt_of_lt_of_le (hlt b t h) hb.size,.inl h⟩,by simp,by simp,⟨rfl,rfl⟩,hps,⟨v,[v],rfl,rfl,hr,rfl⟩⟩
end Go.GP
namespace Go.GP
def a9l (Q:Nat→((t:Ty)×List t.den)→Prop):List (Nat×(t:Ty)×List t.den)→Prop
 | []=>True
 | (g,u)::r=>Q g u∧a9l Q r
theorem KT {Q:Nat→((t:Ty)×List t.den)→Prop} :∀{l:List (Nat×(t:Ty)×List t.den)},a9l Q l→∀g u,Y3 l g=some u→Q g u
 | [],_,g,u,h=>by simp[Y3]at h
 | (k,v)::r,hc,g,u,h=>by
  unfold Y3 at h
  cases hb:Nat.beq k g
  ·simp only[hb,cond_false]at h
   exact KT hc.2 g u h
  ·simp only[hb,cond_true,Option.some.injEq]at h
   have:=aV hb
   subst this;subst h
   exact hc.1
end Go.GP
namespace Go.GP
open Go.RowKit Go.Sort
def Yz (x:Int):List Int→List Int
 | []=>[x]
 | y::l=>bif ile x y then x::y::l else y::Yz x l
def xQ:List Int→List Int
 | []=>[]
 | x::l=>Yz x (xQ l)
def ddp (p:Int):List Int→List Int
 | []=>[]
 | y::l=>bif ieq y p then ddp p l else y::ddp y l
def dd:List Int→List Int
 | []=>[]
 | x::l=>x::ddp x l
theorem IU (x:Int):∀l,(Yz x l).Perm (x::l)
 | []=> .refl _
 | y::l=>by
  unfold Yz
  cases ile x y
  ·exact(List.Perm.cons y (IU x l)).trans (List.Perm.swap x y l)
  ·exact .refl _
theorem vk:∀l,(xQ l).Perm l
 | []=> .refl _
 | x::l=>(IU x (xQ l)).trans ((vk l).cons x)
theorem JO (x:Int):∀{l:List Int},l.Pairwise (·≤·)→(Yz x l).Pairwise (·≤·)
 | [],_=>by simp[Yz]
 | y::l,h=>by
  have h' :=List.pairwise_cons.1 h
  unfold Yz
  cases hxy:ile x y
  ·have hxy' :y<x:=by simpa[ile]using hxy
   refine List.pairwise_cons.2 ⟨fun z hz=>?_,JO x h'.2⟩
   rcases List.mem_cons.1 ((IU x l).mem_iff.1 hz)with rfl | hz
   ·omega
   ·exact h'.1 z hz
  ·have hxy' :x≤y:=by simpa[ile]using hxy
   refine List.pairwise_cons.2 ⟨fun z hz=>?_,h⟩
   rcases List.mem_cons.1 hz with rfl | hz
   ·exact hxy'
   ·exact Int.le_trans hxy' (h'.1 z hz)
theorem uA:∀l,(xQ l).Pairwise (·≤·)
 | []=>List.Pairwise.nil
 | x::l=>JO x (uA l)
theorem Ko (l:List Int):(l.mergeSort fun x y=>decide (x≤y))=xQ l:=by
 refine List.Perm.eq_of_pairwise (le:=(·≤·)) (fun a b _ _ h1 h2=>Int.le_antisymm h1 h2) ?_ (uA l) ((List.mergeSort_perm l _).trans (vk l).symm)
 have:=List.pairwise_mergeSort (le:=fun x y:Int=>decide (x≤y)) (fun a b c h1 h2=>by simp at*;omega) (fun a b=>by simp;omega) l
 simpa using this
theorem LQ (y:Int):∀(l:List Int) (p:Int),ddp p (l++[y])=ddp p l++(bif ieq y ((p::l).getLast (by simp))then[]else[y])
 | [],p=>rfl
 | z::l,p=>by
  have hg:(p::z::l).getLast (by simp)=(z::l).getLast (by simp):=List.getLast_cons _
  rw[hg]
  simp only[List.cons_append,ddp]
  by_cases h:z=p
  ·subst h
   simp only[ieq,decide_true,cond_true]
   exact LQ y l z
  ·have h' :ieq z p=false:=by simp[ieq,h]
   rw[h']
   simp only[cond_false]
   rw[LQ y l z]
   rfl
theorem Hm (l:List Int) (y:Int) (m:Nat) (hm:m≤l.length):Lib.compactUpTo (l++[y]).toArray m=Lib.compactUpTo l.toArray m:=by
 unfold Lib.compactUpTo
 have e:∀j,j<m→(l++[y]).toArray[j]! =l.toArray[j]!:=fun j hj=>by
  rw[getElem!_pos _ j (by simp;omega),getElem!_pos _ j (by simp;omega)]
  simp[List.getElem_append_left (show j<l.length by omega)]
 have hf:(List.range m).filter (Lib.keeps (l++[y]).toArray)=(List.range m).filter (Lib.keeps l.toArray):=by
  apply List.filter_congr
  intro j hj
  have hj' :=List.mem_range.1 hj
  unfold Lib.keeps
  rw[e j hj',e (j -1) (by omega)]
 rw[hf]
 apply List.map_congr_left
 intro j hj
 exact e j (List.mem_range.1 (List.mem_filter.1 hj).1)
theorem RJ (x y:Int) (l:List Int):Lib.compact (x::l++[y])=Lib.compact (x::l)++(bif ieq y ((x::l).getLast (by simp))then[]else[y]):=by
 have hlen:(x::l++[y]).length=(x::l).length+1:=by simp
 have h1:Lib.compact (x::l++[y])=Lib.compactUpTo (x::l++[y]).toArray (x::l).length++(if Lib.keeps (x::l++[y]).toArray (x::l).length=true then[(x::l++[y]).toArray[(x::l).length]!]else[]):=by
  unfold Lib.compact
  rw[hlen]
  unfold Lib.compactUpTo
  rw[List.range_succ,List.filter_append,List.map_append]
  congr 1
  by_cases hk:Lib.keeps (x::l++[y]).toArray (x::l).length=true
  ·simp only[List.filter_cons,hk,if_true,List.filter_nil,List.map_cons,List.map_nil]
  ·simp only[List.filter_cons,hk,List.filter_nil,List.map_nil]
   simp
 rw[h1,Hm (x::l) y _ (Nat.le_refl _)]
 have e1:(x::l++[y]).toArray[(x::l).length]! =y:=by
  rw[getElem!_pos _ _ (by simp)]
  simp
 have e2:(x::l++[y]).toArray[(x::l).length -1]! =(x::l).getLast (by simp):=by
  rw[getElem!_pos _ _ (by simp;omega)]
  rw[List.getLast_eq_getElem]
  simp only[List.getElem_toArray]
  rw[List.getElem_append_left]
 have hk:Lib.keeps (x::l++[y]).toArray (x::l).length=decide (y≠(x::l).getLast (by simp)):=by
  unfold Lib.keeps
  rw[e1,e2]
  simp
 rw[hk,e1]
 unfold Lib.compact
 by_cases h:y=(x::l).getLast (by simp) <;> simp[ieq,h]
theorem WI {motive:List Int→Prop} (h0:motive []) (h1:∀l y,motive l→motive (l++[y])):∀n (l:List Int),l.length=n→motive l
 | 0,l,h=>by rw[List.length_eq_zero_iff.1 h];exact h0
 | n+1,l,h=>by
  have hne:l≠[]:=by intro e;subst e;cases h
  rw[←List.dropLast_concat_getLast hne]
  exact h1 _ _ (WI h0 h1 n _ (by simp;omega))
theorem Xf (l:List Int):Lib.compact l=dd l:=by
 cases l with
 | nil=>rfl
 | cons x l=>
  show _=x::ddp x l
  refine WI (motive:=fun l=>Lib.compact (x::l)=x::ddp x l) ?_ (fun l y ih=>?_) l.length l rfl
  ·simp[Lib.compact,Lib.compactUpTo,Lib.keeps,List.range_succ,ddp]
  ·have:=RJ x y l
   rw[List.cons_append]at this
   rw[this,ih,LQ]
   rfl
def uP (xs:List Int):Option (List Int):=bif Nat.blt xs.length 4611686018427387904 then some (xQ xs)else none
def iW (xs:List Int):Option (List Int):=bif Nat.blt xs.length 4611686018427387904 then some (dd xs)else none
def oH (s t:List UInt8):Option Bool:=match t with
 | [c]=>some (decide (0≤Lib.indexByte s c))
 | _=>none
def jQ (a b:Int):Option (Int×Int):=if 0≤a∧a<18446744073709551616∧0≤b∧b<18446744073709551616 then some (a*b / 18446744073709551616,a*b % 18446744073709551616)else none
theorem Fg {w:World} {ok:Nat→Ty→Prop} {m:Mp} {xs:List Int} {blk off len cap sz:Nat} (h:arrOk ⟨w.heap,ok,m⟩ (.int .i64) xs (.arr blk off len cap sz)):Holds (Value.int .i64) w blk off xs.toArray:=by
 obtain⟨_,rfl,rfl,hc,c,T,hb,hs,hx⟩:=h
 intro j hj
 have hj' :j<xs.length:=by simpa using hj
 obtain⟨es,he,hr⟩:=hx j xs[j] (Y6 hj')
 have hr:es=[.int .i64 xs[j]]:=hr
 subst hr
 have hb' :w.heap[blk]? =some (.cells c T (0,0)):=hb
 have he' :Y1 w.heap blk (off+j*1) 1=some [.int .i64 xs[j]]:=he
 rw[Nat.mul_one]at he'
 refine⟨?_,?_⟩
 ·have:=pg (w:=w) he' (j:=0) (v:=.int .i64 xs[j]) rfl
  rw[Nat.add_zero]at this
  rw[this,getElem!_pos xs.toArray j hj]
  simp
 ·simp[World.frozen?,hb']
theorem a2m {w:World} {blk off n:Nat} {c:Array Value} {T:TypeId} {fr:Nat×Nat} (hb:w.heap[blk]? =some (.cells c T fr)) (d:Array Int):
  (putRow (Value.int .i64) (Sort.ahead w n) blk off d).heap[blk]? =some (.cells (putCells (Value.int .i64) off d c) T fr):=by
 show(w.heap.modify blk (onCells (putCells (Value.int .i64) off d)))[blk]? =_
 rw[Array.getElem?_modify,if_pos rfl,hb]
 rfl
theorem Yh {w:World} {blk off n b:Nat} (h:b≠blk) (d:Array Int):(putRow (Value.int .i64) (Sort.ahead w n) blk off d).heap[b]? =w.heap[b]?:=by
 show(w.heap.modify blk (onCells (putCells (Value.int .i64) off d)))[b]? =_
 rw[Array.getElem?_modify,if_neg (fun e=>h e.symm)]
theorem Zq {h:Array Obj} {ok:Nat→Ty→Prop} {m:Mp} {blk off cap:Nat} {c:Array Value} {T:TypeId} {d:Array Int} {ys:List Int} (hb:h[blk]? =some (.cells (putCells (Value.int .i64) off d c) T (0,0)))
  (hfit:off+cap≤c.size) (hd:d.size≤cap) (hl:ys.length≤d.size) (hy:∀(i:Nat) (y:Int),ys[i]? =some y→d[i]? =some y):arrOk ⟨h,ok,m⟩ (.int .i64) ys (.arr blk off ys.length cap 1):=by
 refine⟨rfl,rfl,rfl,by omega,_,T,hb,by simp[putCells,Ty.size];omega,fun i y hi=>⟨[.int .i64 y],?_,rfl⟩⟩
 have hi' :=(J7.1 hi).1
 have hdi:=hy i y hi
 obtain⟨hdi',hdy⟩:=Array.getElem?_eq_some_iff.1 hdi
 show Y1 h blk (off+i*1) 1=_
 rw[Nat.mul_one,fM hb _ _ (by simp[putCells];omega)]
 have hk:off+i<c.size:=by omega
 have:(putCells (Value.int .i64) off d c).toList[off+i]? =some (.int .i64 y):=by
  unfold putCells
  rw[Array.getElem?_toList,Array.getElem?_mapIdx,Array.getElem?_eq_getElem hk]
  simp only[Option.map_some]
  rw[if_pos (by omega),Nat.add_sub_cancel_left,getElem!_pos d i hdi',hdy]
 obtain⟨h1,h2⟩:=J7.1 this
 rw[List.drop_eq_getElem_cons h1,h2]
 rfl
theorem a0C {P:Program} {w:World} {ok:Nat→Ty→Prop} {blk off n:Nat} {c:Array Value} {T:TypeId} {d:Array Int} {os:Array Obj} (hlt:∀b t,ok b t→b<w.heap.size) (hfree:(∀t,¬ok blk t)∧blk<w.heap.size)
  (hb:w.heap[blk]? =some (.cells c T (0,0))) {w' :World} (hw:w' =Sort.grow (putRow (Value.int .i64) (Sort.ahead w n) blk off d) os):
  w'.heap[blk]? =some (.cells (putCells (Value.int .i64) off d c) T (0,0))∧Frame' w w' [blk]∧(∀b t,ok b t→b<w'.heap.size∧(ok b t∨w.heap.size≤b∨b∈[blk]))∧blk<w'.heap.size:=by
 subst hw
 have hsz:(putRow (Value.int .i64) (Sort.ahead w n) blk off d).heap.size=w.heap.size:=by simp[Sort.ahead]
 have hge:w.heap.size≤(Sort.grow (putRow (Value.int .i64) (Sort.ahead w n) blk off d) os).heap.size:=by simp[Sort.grow,Sort.ahead]
 have hold:∀b,b<w.heap.size→(Sort.grow (putRow (Value.int .i64) (Sort.ahead w n) blk off d) os).heap[b]? =(putRow (Value.int .i64) (Sort.ahead w n) blk off d).heap[b]?:=fun b hb=>by
  show((putRow (Value.int .i64) (Sort.ahead w n) blk off d).heap++os)[b]? =_
  rw[Array.getElem?_append_left (by rw[hsz];exact hb)]
 refine⟨by rw[hold blk hfree.2];exact a2m hb d,⟨rfl,rfl,rfl,hge,fun b h1 h2=>?_⟩,fun b t h=>⟨Nat.lt_of_lt_of_le (hlt b t h) hge,.inl h⟩,Nat.lt_of_lt_of_le hfree.2 hge⟩
 rw[hold b h1]
 exact Yh (fun e=>h2 (by simp[e])) d
theorem YL {P:Program} {f:Nat} {gl:List (Nat×(t:Ty)×List t.den)}
  (hC:∀(blk off cap:Nat) (zs:List Int) (w:World) (hH:Holds (Value.int .i64) w blk off zs.toArray) (hblk:blk<w.heap.size) (hsz:zs.length<4611686018427387904),
   Calls P f #[.slice (some ⟨blk,off,none⟩) zs.length cap] w fun e w' =>e= .returned (.tuple #[])∧∃n os,w' =Sort.grow (putRow (Value.int .i64) (Sort.ahead w n) blk off (zs.mergeSort fun x y=>decide (x≤y)).toArray) os)
  (hN:∀(p:Option Addr) (cap:Nat) (w:World),Calls P f #[.slice p 0 cap] w fun e w' =>e= .returned (.tuple #[])∧w' =w):
  D5 P gl f ⟨[(false,.ownb (.int .i64))],[],[(false,.own (.int .i64))],fun x=>uP x⟩:=by
 intro w ok O vals x r hlt hnd hO _ hrel hfn
 obtain⟨v,cs,rfl,h1,l,v',hcs,hv,ha,rfl⟩:=hrel
 have h1:cs=[v]:=h1
 rw[h1]at hcs
 simp only[List.cons.injEq,and_true]at hcs
 subst hcs
 simp only[uP]at hfn
 cases hx0:Nat.blt x.length 4611686018427387904 <;> rw[hx0]at hfn
 ·cases hfn
 rw[Nat.blt_eq]at hx0
 have hx:=hx0
 rw[←Ko]at hfn
 cases hfn
 cases l with
 | st b=>cases ha
 | mp b=>cases ha.1
 | nil=>
  have ha:x=[]:=ha.1
  subst ha
  have hv:v= .slice none 0 0:=hv
  subst hv
  refine(hN none 0 w).mono fun e w' ⟨he,hw⟩=>?_
  subst he;subst hw
  exact⟨_,ok,[],[],[.slice none 0 0],[],rfl,Frame'.refl _ _,fun _ _ h=>h,fun b t h=>⟨hlt b t h,.inl h⟩,by simp,by simp,⟨rfl,rfl⟩,⟨[],rfl,rfl,rfl⟩,
   ⟨_,_,rfl,rfl,oO.2 ⟨.nil,_,rfl,rfl,(by simp[arrOk,Ty.isEnt]),rfl⟩⟩⟩
 | arr blk off len cap sz=>
  have hH:=Fg ha
  obtain⟨_,rfl,rfl,hc,c,T,hb,hs,hx'⟩:=ha
  have hv:v= .slice (some ⟨blk,off,none⟩) x.length cap:=hv
  subst hv
  have hfree:=hO blk (by simp[Loc.blks])
  refine(hC blk off cap x w hH hfree.2 hx).mono fun e w' ⟨he,n,os,hw⟩=>?_
  subst he
  obtain⟨g1,g2,g3,g4⟩:=a0C (P:=P) hlt hfree hb hw
  have hlen:(x.mergeSort fun x y=>decide (x≤y)).length=x.length:=List.length_mergeSort ..
  have hfit:off+cap≤c.size:=by simpa[Ty.size]using hs
  have harr:=Zq (ok:=ok) (m:=nom) (cap:=cap) (ys:=x.mergeSort fun x y=>decide (x≤y)) g1 hfit (by simp[hlen];exact hc) (by simp) (fun i y hi=>by simpa using hi)
  rw[hlen]at harr
  refine⟨_,ok,[blk],[],[.slice (some ⟨blk,off,none⟩) x.length cap],[],rfl,g2,fun _ _ h=>h,g3,by simp,fun b hb=>?_,⟨rfl,rfl⟩,⟨[],rfl,rfl,rfl⟩,⟨_,_,rfl,rfl,oO.2 ⟨.arr blk off x.length cap 1,_,rfl,rfl,harr,rfl⟩⟩⟩
  have:b=blk:=by simpa using hb
  subst this
  exact⟨hfree.1,g4,.inr (by simp[Loc.blks])⟩
theorem Xg (zs:List Int):(Lib.compact zs).length≤zs.length:=by
 unfold Lib.compact Lib.compactUpTo
 rw[List.length_map]
 exact Nat.le_trans (List.length_filter_le _ _) (by simp)
theorem Pq {P:Program} {f:Nat} {gl:List (Nat×(t:Ty)×List t.den)}
  (hC:∀(blk off cap:Nat) (zs:List Int) (w:World) (hH:Holds (Value.int .i64) w blk off zs.toArray) (hsz:zs.length≤9223372036854775807) (hcap:zs.length≤cap),
   Calls P f #[.slice (some ⟨blk,off,none⟩) zs.length cap] w fun e w' =>e= .returned (.slice (some ⟨blk,off,none⟩) (Lib.compact zs).length cap)∧∃q,w' =putRow (Value.int .i64) (Sort.ahead w q) blk off (Lib.compact zs++List.replicate (zs.length -(Lib.compact zs).length) 0).toArray)
  (hN:∀(a:Option Addr) (cap:Nat) (w:World),Calls P f #[.slice a 0 cap] w fun e w' =>e= .returned (.slice a 0 cap)∧w' =w):
  D5 P gl f ⟨[(false,.own (.int .i64))],[(false,.own (.int .i64))],[],fun x=>iW x⟩:=by
 intro w ok O vals x r hlt hnd hO _ hrel hfn
 obtain⟨v,cs,rfl,h1,hrm⟩:=hrel
 obtain⟨l,v',hcs,hv,ha,rfl⟩:=oO.1 hrm
 have h1:cs=[v]:=h1
 rw[h1]at hcs
 simp only[List.cons.injEq,and_true]at hcs
 subst hcs
 simp only[iW]at hfn
 cases hx0:Nat.blt x.length 4611686018427387904 <;> rw[hx0]at hfn
 ·cases hfn
 rw[Nat.blt_eq]at hx0
 have hx:=hx0
 rw[←Xf]at hfn
 cases hfn
 cases l with
 | st b=>cases ha
 | mp b=>cases ha.1
 | nil=>
  have ha:x=[]:=ha.1
  subst ha
  have hv:v= .slice none 0 0:=hv
  subst hv
  refine(hN none 0 w).mono fun e w' ⟨he,hw⟩=>?_
  subst he;subst hw
  exact⟨_,ok,[],[.slice none 0 0],[],[],rfl,Frame'.refl _ _,fun _ _ h=>h,fun b t h=>⟨hlt b t h,.inl h⟩,by simp,by simp,⟨rfl,rfl⟩,⟨rfl,rfl⟩,
   ⟨_,_,rfl,rfl,oO.2 ⟨.nil,_,rfl,rfl,⟨rfl,rfl⟩,rfl⟩⟩⟩
 | arr blk off len cap sz=>
  have hH:=Fg ha
  obtain⟨_,rfl,rfl,hc,c,T,hb,hs,hx'⟩:=ha
  have hv:v= .slice (some ⟨blk,off,none⟩) x.length cap:=hv
  subst hv
  have hfree:=hO blk (by simp[Loc.blks])
  refine(hC blk off cap x w hH (by omega) hc).mono fun e w' ⟨he,n,hw⟩=>?_
  subst he
  have hle:=Xg x
  obtain⟨g1,g2,g3,g4⟩:=a0C (P:=P) (n:=n) (off:=off) (d:=(Lib.compact x++List.replicate (x.length -(Lib.compact x).length) 0).toArray) (os:=#[]) (w' :=w') hlt hfree hb (by rw[grow_empty];exact hw)
  have hfit:off+cap≤c.size:=by simpa[Ty.size]using hs
  have harr:=Zq (ok:=ok) (m:=nom) (cap:=cap) (ys:=Lib.compact x) g1 hfit (by simp;omega) (by simp) (fun i y hi=>by
   have:=(J7.1 hi).1
   rw[List.getElem?_toArray,List.getElem?_append_left this];exact hi)
  refine⟨_,ok,[blk],[.slice (some ⟨blk,off,none⟩) (Lib.compact x).length cap],[],[],rfl,g2,fun _ _ h=>h,g3,by simp,fun b hb=>?_,⟨rfl,rfl⟩,⟨rfl,rfl⟩,⟨_,_,rfl,rfl,oO.2 ⟨.arr blk off (Lib.compact x).length cap 1,_,rfl,rfl,harr,rfl⟩⟩⟩
  have:b=blk:=by simpa using hb
  subst this
  exact⟨hfree.1,g4,.inr (by simp[Loc.blks])⟩
theorem JX {P:Program} {f:Nat} {gl:List (Nat×(t:Ty)×List t.den)}
  (hC:∀(s:ByteArray) (c:UInt8) (w:World),Calls P f #[.string s,.string ⟨#[c]⟩] w fun e w' =>e= .returned (.bool (decide (0≤Lib.indexByte s.data.toList c)))∧w' =w):
  D5 P gl f ⟨[(false,.dat .str),(false,.dat .str)],[(false,.dat .bool)],[],fun x=>oH x.1 x.2⟩:=by
 intro w ok O vals x r hlt _ _ _ hrel hfn
 obtain⟨v,cs,vs',O1,O2,rfl,rfl,h1,⟨h2,rfl⟩,v2,cs2,rfl,h3,h4,rfl⟩:=hrel
 have h1:cs=[v]:=h1
 subst h1
 have h3:cs2=[v2]:=h3
 subst h3
 have h2:[v]=[.string ⟨x.1.toArray⟩]:=h2
 have h4:[v2]=[.string ⟨x.2.toArray⟩]:=h4
 obtain rfl:=(List.cons.inj h2).1
 obtain rfl:=(List.cons.inj h4).1
 simp only[oH]at hfn
 split at hfn
 ·rename_i c hx
  cases hfn
  rw[hx]
  refine(hC ⟨x.1.toArray⟩ c w).mono fun e w' ⟨he,hw⟩=>?_
  subst he;subst hw
  exact a3V (P:=P) (t:=.bool) (x:=decide (0≤Lib.indexByte x.1 c)) (ps:=[(false,.dat .str),(false,.dat .str)]) (vals:=[_,_]) ⟨rfl,rfl,rfl,Nat.le_refl _,fun _ _=>rfl⟩ hlt ⟨rfl,rfl⟩ rfl
 ·cases hfn
theorem VC {P:Program} {f:Nat} {gl:List (Nat×(t:Ty)×List t.den)}
  (hC:∀(x y:Nat) (hx:x<18446744073709551616) (hy:y<18446744073709551616) (w:World),
   Calls P f #[.int .u64 x,.int .u64 y] w fun e w' =>e= .returned (.tuple #[.int .u64 ((x*y / 18446744073709551616:Nat):Int),.int .u64 ((x*y % 18446744073709551616:Nat):Int)])∧w' =w):
  D5 P gl f ⟨[(false,.dat (.int .u64)),(false,.dat (.int .u64))],[(false,.dat (.int .u64)),(false,.dat (.int .u64))],[],fun x=>jQ x.1 x.2⟩:=by
 intro w ok O vals x r hlt _ _ _ hrel hfn
 obtain⟨v,cs,vs',O1,O2,rfl,rfl,h1,⟨h2,rfl⟩,v2,cs2,rfl,h3,h4,rfl⟩:=hrel
 have h1:cs=[v]:=h1
 subst h1
 have h3:cs2=[v2]:=h3
 subst h3
 have h2:[v]=[.int .u64 x.1]:=h2
 have h4:[v2]=[.int .u64 x.2]:=h4
 obtain rfl:=(List.cons.inj h2).1
 obtain rfl:=(List.cons.inj h4).1
 simp only[jQ]at hfn
 split at hfn
 ·rename_i hx
  cases hfn
  obtain⟨a,b⟩:=x
  obtain⟨p,rfl⟩:=Int.eq_ofNat_of_zero_le hx.1
  obtain⟨q,rfl⟩:=Int.eq_ofNat_of_zero_le hx.2.2.1
  refine(hC p q (by have:=hx.2.1;simp only at this;omega) (by have:=hx.2.2.2;simp only at this;omega) w).mono fun e w' ⟨he,hw⟩=>?_
  subst he;subst hw
  refine⟨_,ok,[],[_,_],[],[],rfl,⟨rfl,rfl,rfl,Nat.le_refl _,fun _ _ _=>rfl⟩,fun _ _ h=>h,fun b t h=>⟨hlt b t h,.inl h⟩,by simp,by simp,⟨rfl,rfl⟩,⟨rfl,rfl⟩,?_⟩
  exact⟨_,_,_,[],[],rfl,rfl,rfl,⟨rfl,rfl⟩,_,_,rfl,rfl,rfl,rfl⟩
 ·cases hfn
theorem Vz {P:Program} {t f e:Nat} {n:String} {inf:TypeInfo} {m:Method} (ht:P.info? t=some inf) (hm:inf.methods.find? (·.name==n)=some m) (hp:m.path.toList=[])
  (hf:m.func=some (f,false)) (hu:P.underlying t=some (.pointer e)):uQ P t n f (some e):=by
 intro v w ad h
 subst h
 have h1:∀d,(method (d+1) t (.pointer (some ad)) n).run P w=((loadVar e ad).run P w).andThen fun u w' => .ok (f,u) w' :=by
  intro d
  unfold method
  have hti:(typeInfo t).run P w= .ok inf w:=by simp[typeInfo,ht]
  rw[Sem.run_bind,hti]
  simp only[Result.andThen,hm,hp,hf]
  rw[Sem.run_bind]
  simp only[follow,Sem.run_pure,Result.andThen]
  have hr:∀wr,(receiverAt t (.val (.pointer (some ad))) false wr).run P w=(loadVar e ad).run P w:=by
   intro wr
   unfold receiverAt
   rw[Sem.run_bind,run_underlying hu]
   have hw:∀s,Builtin.ssaWrapNilChk_ #[t] t #[.pointer (some ad),strVal "",strVal s]=pure (.pointer (some ad)):=fun s=>rfl
   cases wr with
   | none=>simp[Result.andThen,Place.get,asAddr]
   | some s=>simp[Result.andThen,Place.get,asAddr,hw]
  rw[Sem.run_bind,hr]
  rfl
 exact h1 _
def ZV (P:Program) (t:Nat) (n:String) (f e:Nat):Bool:=match P.info? t with
 | some inf=>match inf.methods.find? (·.name==n)with
  | some m=>match m.path.toList,m.func,P.underlying t with
   | [],some (f',false),some (.pointer e')=>Nat.beq f' f&&Nat.beq e' e
   | _,_,_=>false
  | none=>false
 | none=>false
theorem Ep {P:Program} {t f e:Nat} {n:String} (h:ZV P t n f e=true):uQ P t n f (some e):=by
 unfold ZV at h
 split at h
 ·rename_i inf hi
  split at h
  ·rename_i m hm
   split at h
   ·rename_i h1 h2 h3
    simp only[Bool.and_eq_true]at h
    have e1:=aV h.1
    have e2:=aV h.2
    subst e1;subst e2
    exact Vz hi hm h1 h2 h3
   ·cases h
  ·cases h
 ·cases h
end Go.GP
