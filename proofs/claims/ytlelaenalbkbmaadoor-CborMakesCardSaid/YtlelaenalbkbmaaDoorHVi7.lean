/- The value interpreter: rows of cells,and what an effect has to meet. -/
import Derived.Test.YtlelaenalbkbmaaDoorHVi6
namespace Go.Proofs.YtlelaenalbkbmaaDoorV
open Go
set_option linter.unusedVariables false
set_option linter.unusedSimpArgs false
theorem ov_get {α:Type} {cs ns:List α} {off:Nat} (h:off+ns.length≤cs.length) (k:Nat) :
  (cs.take off++(ns++cs.drop (off+ns.length)))[k]?=if off≤k∧k<off+ns.length then ns[k - off]? else cs[k]?:=by
 have hl:(cs.take off).length=off:=by rw [List.length_take];omega
 by_cases h1:k<off
 ·rw [if_neg (by omega),List.getElem?_append_left (by omega),List.getElem?_take,if_pos h1]
 ·rw [List.getElem?_append_right (by omega),hl]
  by_cases h2:k<off+ns.length
  ·rw [if_pos ⟨by omega,h2⟩,List.getElem?_append_left (by omega)]
  ·rw [if_neg (by omega),List.getElem?_append_right (by omega),List.getElem?_drop]
   congr 1
   omega
theorem ov_len {α:Type} {cs ns:List α} {off:Nat} (h:off+ns.length≤cs.length):(cs.take off++(ns++cs.drop (off+ns.length))).length=cs.length:=by
 simp
 omega
theorem fold_set (off:Nat):∀ (l:List Value) (s:Nat) (arr:Array Value),off+s+l.length≤arr.size →
  (((l.zipIdx s).foldl (fun (cs:Array Value) (p:Value×Nat)=>cs.setIfInBounds (off+p.2) p.1) arr).toList=arr.toList.take (off+s)++(l++arr.toList.drop (off+s+l.length)))
 | [],s,arr,_=>by simp
 | c::r,s,arr,h=>by
   rw [List.zipIdx_cons,List.foldl_cons]
   have ih:=fold_set off r (s+1) (arr.setIfInBounds (off+s) c) (by simp at h ⊢;omega)
   rw [ih]
   have hlt:off+s<arr.toList.length:=by simp at h ⊢;omega
   rw [Array.toList_setIfInBounds]
   have e1:(arr.toList.set (off+s) c).take (off+(s+1))=arr.toList.take (off+s)++[c]:=by
    rw [show off+(s+1)=(off+s)+1 from by omega,List.take_succ_eq_append_getElem (by simpa using hlt)]
    rw [List.getElem_set_self,List.take_set,List.set_eq_of_length_le (by rw [List.length_take];omega)]
   have e2:(arr.toList.set (off+s) c).drop (off+(s+1)+r.length)=arr.toList.drop (off+s+(c::r).length):=by
    rw [List.drop_set,if_pos (by omega)]
    congr 1
    simp;omega
   rw [e1,e2]
   simp
theorem one_cells {v:Value} (h:v.oneCell'=true):v.cells = #[v]:=by
 cases v<;>simp [Value.oneCell'] at h<;>rfl
section
variable {P:Program} {w0:World} {fp:Nat→Prop} {S0:Base} {σ:St} {a:Act} {w:World} {β:Nat→Value} {S:Nat→Prop} {o:Oper}
structure CRep (w:World) (β:Nat→Value) (S:Nat→Prop) (cs:List V) (l:List Value):Prop where
 len:l.length=cs.length
 one:∀ v∈l,v.oneCell'=true
 rep:∀ (i:Nat) x v,cs[i]?=some x→l[i]?=some v→Rep w β S x v
theorem CRep.overlay {cs ns:List V} {l m:List Value} {off:Nat} (h:CRep w β S cs l) (h2:CRep w β S ns m) (hf:off+ns.length≤cs.length):CRep w β S (overlay cs off ns) (l.take off++(m++l.drop (off+m.length))):=by
 have hf2:off+m.length≤l.length:=by rw [h.len,h2.len];exact hf
 refine ⟨?_,fun v hv => ?_,fun i x v hx hv => ?_⟩
 ·rw [ov_len hf2];unfold Go.Proofs.YtlelaenalbkbmaaDoorV.overlay;rw [ov_len hf,h.len]
 ·simp only [List.mem_append] at hv
  rcases hv with hv | hv | hv
  ·exact h.one v (List.mem_of_mem_take hv)
  ·exact h2.one v hv
  ·exact h.one v (List.mem_of_mem_drop hv)
 ·rw [ov_get hf2] at hv
  unfold Go.Proofs.YtlelaenalbkbmaaDoorV.overlay at hx
  rw [ov_get hf] at hx
  rw [h2.len] at hv
  split at hx
  ·rename_i hc;rw [if_pos hc] at hv;exact h2.rep _ x v hx hv
  ·rename_i hc;rw [if_neg hc] at hv;exact h.rep _ x v hx hv
theorem repD_one {x:V} {v:Value} (h:RepD w S x v):(∃ u,x=.p u)∨v.oneCell'=true:=by
 cases h with
 | p u=>exact .inl ⟨_,rfl⟩
 | nil=>exact .inr rfl
 | sl0=>exact .inr rfl
 | sl=>exact .inr rfl
theorem cellsOf_rep {x:V} {v:Value} {cs:List V} (h:cellsOf x=some cs) (hr:Rep w β S x v):CRep w β S cs v.cells.toList:=by
 have single:∀ y:V,cs=[y]→Rep w β S y v→v.oneCell'=true→CRep w β S cs v.cells.toList:=by
  intro y hy hr h1
  subst hy
  rw [one_cells h1]
  exact ⟨rfl,by simpa using h1,fun i x u hx hu=>by
   cases i with
   | zero=>simp at hx hu;subst hx hu;exact hr
   | succ i=>simp at hx⟩
 cases x<;>simp only [cellsOf] at h<;>try (cases h;done)
 case agg cells =>
  cases h
  cases hr with
  | d h=>cases h
  | agg _ arr hs hone hc=>exact ⟨by simpa [Value.cells] using hs,fun v hv=>hone v (by simpa [Value.cells] using hv),fun i x v hx hv=>hc i x v hx (by simpa [Value.cells] using hv)⟩
 case p u =>
  split at h<;>simp at h
  rename_i h1
  have e:=rep_p hr
  subst e
  exact single _ h.symm hr h1
 all_goals
  cases h
  refine single _ rfl hr ?_
  cases hr<;>first
   | rfl
   | assumption
   | (rename_i h;cases h<;>rfl)
theorem cellsOf_ids {x:V} {cs:List V} (h:cellsOf x=some cs):∀ id∈V.idsL cs,id∈x.ids:=by
 intro id hid
 cases x<;>simp only [cellsOf] at h<;>try (cases h;done)
 case agg cells=>cases h;rw [V.ids];exact hid
 case p u=>split at h<;>simp at h;subst h;simpa [V.idsL] using hid
 all_goals (cases h;simpa [V.idsL] using hid)
theorem zeroRow_ok {i:TypeInfo} {z:List V} (h:zeroRow i=some z):∃ zv,i.zero=some zv∧zv.cells.size=i.size∧0<i.size∧0<i.bytes∧(∀ v∈zv.cells,v.oneCell'=true)∧z=zv.cells.toList.map ofCell:=by
 unfold zeroRow at h
 split at h<;>try (cases h;done)
 rename_i zv hz
 split at h<;>try (cases h;done)
 rename_i hc
 cases h
 exact ⟨zv,hz,hc.1,hc.2.1,hc.2.2.1,fun v hv=>(Array.all_eq_true_iff_forall_mem.1 hc.2.2.2.1) v hv,rfl⟩
theorem map_ofCell_rep (l:List Value) (h:∀ v∈l,v.oneCell'=true):CRep w β S (l.map ofCell) l:=by
 refine ⟨by simp,h,fun i x v hx hv => ?_⟩
 rw [List.getElem?_map,Option.map_eq_some_iff] at hx
 obtain ⟨y,hy,rfl⟩:=hx
 rw [hv] at hy;cases hy
 exact .d (ofCell_rep v)
theorem fill_run {place:Nat→Option (Nat×Nat)}:∀ (ps:List (Nat×V)) (qs:List (Nat×Value)) (cells:List V) (arr:Array Value) (r:List V),fillV place cells ps=some r→CRep w β S cells arr.toList →
  qs.length=ps.length→(∀ (i:Nat) p q,ps[i]?=some p→qs[i]?=some q→q.1=p.1∧Rep w β S p.2 q.2)→∃ arr',Instr.fill place arr qs=some arr'∧CRep w β S r arr'.toList
 | [],qs,cells,arr,r,h,hc,hl,_=>by
   have:qs=[]:=List.eq_nil_of_length_eq_zero (by simpa using hl)
   subst this
   simp [fillV] at h;subst h
   exact ⟨arr,rfl,hc⟩
 | (i,x)::ps,qs,cells,arr,r,h,hc,hl,hq=>by
   cases qs with
   | nil=>simp at hl
   | cons q qs =>
     obtain ⟨i',v⟩:=q
     obtain ⟨e1,e2⟩:=hq 0 (i,x) (i',v) (by simp) (by simp)
     simp only at e1 e2
     subst e1
     simp only [fillV] at h
     split at h<;>try (cases h;done)
     rename_i off size cs hp hcs
     split at h<;>try (cases h;done)
     rename_i hb
     obtain ⟨b1,b2⟩:=hb
     have hv:=cellsOf_rep hcs e2
     have hsz:v.cells.size=cs.length:=by have:=hv.len;simpa using this
     have har:arr.size=cells.length:=by have:=hc.len;simpa using this
     have ih:=fill_run ps qs (Go.Proofs.YtlelaenalbkbmaaDoorV.overlay cells off cs) (v.cells.zipIdx.foldl (fun cs (p:Value×Nat)=>cs.setIfInBounds (off+p.2) p.1) arr) r h ?_ (by simpa using hl) fun j p q hp hq2=>hq (j+1) p q (by simpa using hp) (by simpa using hq2)
     ·obtain ⟨arr',h1,h2⟩:=ih
      refine ⟨arr',?_,h2⟩
      unfold Instr.fill
      simp only [hp]
      rw [if_neg (by simp;omega)]
      exact h1
     ·have hf:=fold_set off v.cells.toList 0 arr (by rw [Array.length_toList,hsz,har];simpa using b2)
      simp only [Nat.add_zero] at hf
      rw [←Array.foldl_toList,Array.toList_zipIdx]
      rw [hf]
      exact hc.overlay hv b2
theorem fillV_ids {place:Nat→Option (Nat×Nat)}:∀ (ps:List (Nat×V)) (cells r:List V),fillV place cells ps=some r→∀ id∈V.idsL r,id∈V.idsL cells∨∃ p∈ps,id∈p.2.ids
 | [],cells,r,h=>by simp [fillV] at h;subst h;exact fun id h=>.inl h
 | (i,x)::ps,cells,r,h=>by
   simp only [fillV] at h
   split at h<;>try (cases h;done)
   rename_i off size cs hp hcs
   split at h<;>try (cases h;done)
   intro id hid
   have app:∀ (a b:List V) (id:Nat),id∈V.idsL (a++b)→id∈V.idsL a∨id∈V.idsL b:=by
    intro a
    induction a with
    | nil=>intro b id h;exact .inr h
    | cons c r ih =>
      intro b id h
      rw [List.cons_append,V.idsL] at h
      rw [V.idsL]
      rcases List.mem_append.1 h with h | h
      ·exact .inl (List.mem_append_left _ h)
      ·exact (ih b id h).imp (List.mem_append_right _) (fun h=>h)
   rcases fillV_ids ps _ r h id hid with h | ⟨p,hp,hi⟩
   ·unfold Go.Proofs.YtlelaenalbkbmaaDoorV.overlay at h
    rcases app _ _ id h with h | h
    ·exact .inl (idsL_take _ _ id h)
    ·rcases app _ _ id h with h | h
     ·exact .inr ⟨(i,x),by simp,cellsOf_ids hcs id h⟩
     ·exact .inl (idsL_drop _ _ id h)
   ·exact .inr ⟨p,by simp [hp],hi⟩
theorem places_run {P:Program} {w:World}:∀ (l:List Field) (r:List (Nat×Nat)),sizesOf P l=some r→(l.mapM (fun f=>(do pure (f.offset,←sizeOf f.type):Sem (Nat×Nat)))).run P w=.ok r w
 | [],r,h=>by simp [sizesOf] at h;subst h;simp
 | f::l,r,h=>by
   simp only [sizesOf] at h
   split at h<;>simp at h
   rename_i i l' hi hl
   subst h
   have ih:=places_run (P:=P) (w:=w) l l' hl
   simp only [List.mapM_cons,Sem.run_bind,sizeOf,typeInfo,run_program,Result.andThen_ok,hi,Sem.run_pure] at ih ⊢
   simp only [ih,Result.andThen_ok]
theorem build_ok (I:Inv w0 fp S0 σ a w β S) {t:TypeId} {ps:Array (Nat×Operand)} {v:V} (ho:o.op=.build t ps) (h:buildV P σ t ps.toList=some v):POk P σ a w β S o v:=by
 unfold buildV at h
 split at h<;>try (cases h;done)
 rename_i i hi
 have hrepq:∀ (k:Nat) (p:Nat×V) (q:Nat×Value),(ps.toList.map fun q=>(q.1,evalV σ q.2))[k]?=some p→(ps.toList.map fun q=>(q.1,a.eval q.2))[k]?=some q→q.1=p.1∧Rep w β S p.2 q.2:=by
  intro k p q hp hq
  rw [List.getElem?_map,Option.map_eq_some_iff] at hp hq
  obtain ⟨y,hy,rfl⟩:=hp
  obtain ⟨y',hy',rfl⟩:=hq
  rw [hy] at hy';cases hy'
  exact ⟨rfl,evalV_rep I _⟩
 have closed:∀ (place:Nat→Option (Nat×Nat)) (zv:Value) (r:List V),fillV place (zv.cells.toList.map ofCell) (ps.toList.map fun q=>(q.1,evalV σ q.2))=some r→∀ id∈(V.agg r).ids,(getM σ.M id).isSome=true:=by
  intro place zv r hr id hid
  rw [V.ids] at hid
  rcases fillV_ids _ _ _ hr id hid with h | ⟨p,hp,h⟩
  ·rw [mapCell_ids] at h;cases h
  ·obtain ⟨q,hq,rfl⟩:=List.mem_map.1 hp
   exact evalV_closed I _ id h
 have hmap:(ps.map fun (x:Nat×Operand)=>(x.1,a.eval x.2)).toList=ps.toList.map fun q=>(q.1,a.eval q.2):=by simp
 split at h
 ·rename_i z fields hz hu
  obtain ⟨zv,h1,h2,h3,h4,h5,rfl⟩:=zeroRow_ok hz
  split at h<;>try (cases h;done)
  rename_i places hpl
  simp only [Option.map_eq_some_iff] at h
  obtain ⟨r,hr,rfl⟩:=h
  obtain ⟨arr',e1,e2⟩:=fill_run _ (ps.toList.map fun q=>(q.1,a.eval q.2)) _ zv.cells r hr (map_ofCell_rep _ (by simpa using h5)) (by simp) hrepq
  have hplaces:=places_run (P:=P) (w:=w) fields.toList places hpl
  refine ⟨⟨.agg arr',?_,.agg _ _ (by have:=e2.len;simpa using this) (fun v hv=>e2.one v (by simpa using hv)) fun i x v hx hv=>e2.rep i x v hx (by simpa using hv)⟩,closed _ zv r hr⟩
  have hm:(fields.mapM (fun f=>(do pure (f.offset,←sizeOf f.type):Sem (Nat×Nat)))).run P w=.ok places.toArray w:=by
   rw [←Array.toArray_toList (xs:=fields)]
   rw [List.mapM_toArray]
   simp only [Sem.run_map,hplaces,Result.andThen_ok]
  simp only [execOp,ho,Instr.build,Sem.run_bind,zeroValue,typeInfo,run_program,Result.andThen_ok,hi,Sem.run_pure,h1,run_underlying hu,hm]
  have e3:Instr.fill (fun x=>places.toArray[x]?) zv.cells (ps.map fun (x:Nat×Operand)=>(x.1,a.eval x.2)).toList=some arr':=by
   rw [hmap];simpa using e1
  simp only [e3,Sem.run_pure,Result.andThen_ok]
 ·rename_i z len e hz hu
  obtain ⟨zv,h1,h2,h3,h4,h5,rfl⟩:=zeroRow_ok hz
  split at h<;>try (cases h;done)
  rename_i ie hie
  simp only [Option.map_eq_some_iff] at h
  obtain ⟨r,hr,rfl⟩:=h
  obtain ⟨arr',e1,e2⟩:=fill_run _ (ps.toList.map fun q=>(q.1,a.eval q.2)) _ zv.cells r hr (map_ofCell_rep _ (by simpa using h5)) (by simp) hrepq
  refine ⟨⟨.agg arr',?_,.agg _ _ (by have:=e2.len;simpa using this) (fun v hv=>e2.one v (by simpa using hv)) fun i x v hx hv=>e2.rep i x v hx (by simpa using hv)⟩,closed _ zv r hr⟩
  simp only [execOp,ho,Instr.build,Sem.run_bind,zeroValue,sizeOf,typeInfo,run_program,Result.andThen_ok,hi,hie,Sem.run_pure,h1,run_underlying hu]
  have e3:Instr.fill (fun i=>some (i * ie.size,ie.size)) zv.cells (ps.map fun (x:Nat×Operand)=>(x.1,a.eval x.2)).toList=some arr':=by
   rw [hmap];exact e1
  simp only [e3,Sem.run_pure,Result.andThen_ok]
 ·cases h
end
section
variable {P:Program} {w0:World} {fp:Nat→Prop} {S0:Base} {σ:St} {a:Act} {w:World} {β:Nat→Value} {S:Nat→Prop} {o:Oper}
theorem UpdOk.pure (I:Inv w0 fp S0 σ a w β S) {v:V} {v':Value} (hr:Rep w β S v v') (hc:∀ id∈v.ids,(getM σ.M id).isSome=true):UpdOk w0 fp σ w β S v [] v' w β S where
 new:=fun id=>.inl rfl
 os:=rfl
 tape:=rfl
 output:=rfl
 grow:=Nat.le_refl _
 touch:=fun b hb=>.inl rfl
 S1:=fun b h=>h
 S2:=I.Slt
 S4:=fun b h=>.inl h
 objs:=fun id o h=>by cases h
 own:=fun id o g h=>by cases h
 fro:=fun id m e rows g h=>by cases h
 inj:=fun i j o o' g h=>by cases h
 closedM:=fun i o h=>by cases h
 rep:=hr
 closedV:=fun id hid=>.inr (hc id hid)
def upd (β:Nat→Value) (d:Nat) (h:Value):Nat→Value:=fun i=>if i=d then h else β i
theorem upd_same (β:Nat→Value) (d:Nat) (h:Value):upd β d h d=h:=by simp [upd]
theorem upd_ne (β:Nat→Value) {d i:Nat} (h:Value) (hne:i≠d):upd β d h i=β i:=by simp [upd,hne]
theorem getM_one {d id:Nat} {o o':O} (h:getM [(d,o)] id=some o'):id=d∧o'=o:=by
 simp only [getM] at h
 split at h<;>simp at h
 rename_i e
 exact ⟨e.symm,h.symm⟩
theorem UpdOk.create (I:Inv w0 fp S0 σ a w β S) {d:Nat} (hd:getM σ.M d=none) {o:O} {hv:Value} {w':World} (hos:w'.os=w.os) (htape:w'.tape=w.tape) (hout:w'.output=w.output)
  (hgrow:w.heap.size≤w'.heap.size) (hh:∀ b,b<w.heap.size→w'.heap[b]?=w.heap[b]?) (hblk:∀ g,blk hv=some g→w.heap.size≤g) (hown:o.isOwn=true)
  (ho:ORep w' (upd β d hv) S d o) (hids:∀ id∈o.ids,(getM σ.M id).isSome=true) {v:V} {v':Value} (hr:Rep w' (upd β d hv) S v v') (hvc:∀ id∈v.ids,id=d∨(getM σ.M id).isSome=true) :
  UpdOk w0 fp σ w β S v [(d,o)] v' w' (upd β d hv) S where
 new:=fun id=>by
  by_cases h:id=d
  ·subst h;exact .inr hd
  ·exact .inl (upd_ne β hv h)
 os:=hos
 tape:=htape
 output:=hout
 grow:=hgrow
 touch:=fun b hb=>.inl (hh b hb)
 S1:=fun b h=>h
 S2:=fun b h=>Nat.lt_of_lt_of_le (I.Slt b h) hgrow
 S4:=fun b h=>.inl h
 objs:=fun id o' h=>by obtain ⟨rfl,rfl⟩:=getM_one h;exact ho
 own:=fun id o' g h h1 h2=>by
  obtain ⟨rfl,rfl⟩:=getM_one h
  rw [upd_same] at h2
  have:=hblk g h2
  exact ⟨fun hS=>by have:=I.Slt g hS;omega,.inl this⟩
 fro:=fun id m e rows g h=>by obtain ⟨_,rfl⟩:=getM_one h;cases hown
 inj:=fun i j o1 o2 g h1 h2 _ _ _ _=>by rw [(getM_one h1).1,(getM_one h2).1]
 closedM:=fun i o' h id hid=>by obtain ⟨_,rfl⟩:=getM_one h;exact .inr (hids id hid)
 rep:=hr
 closedV:=fun id hid=>by
  rcases hvc id hid with rfl | h
  ·exact .inl (by simp [getM])
  ·exact .inr h
theorem UpdOk.write (I:Inv w0 fp S0 σ a w β S) {id:Nat} {o0 o1:O} (h0:getM σ.M id=some o0) (own0:o0.isOwn=true) (own1:o1.isOwn=true) {w':World} (hos:w'.os=w.os) (htape:w'.tape=w.tape) (hout:w'.output=w.output)
  (hgrow:w'.heap.size=w.heap.size) (hh:∀ b,blk (β id)≠some b→w'.heap[b]?=w.heap[b]?) (ho:ORep w' β S id o1) (hids:∀ i∈o1.ids,(getM σ.M i).isSome=true)
  {v:V} {v':Value} (hr:Rep w' β S v v') (hvc:∀ i∈v.ids,(getM σ.M i).isSome=true):UpdOk w0 fp σ w β S v [(id,o1)] v' w' β S where
 new:=fun _=>.inl rfl
 os:=hos
 tape:=htape
 output:=hout
 grow:=Nat.le_of_eq hgrow.symm
 touch:=fun b hb=>by
  by_cases h:blk (β id)=some b
  ·exact .inr ⟨id,o0,h0,own0,h,by simp [getM]⟩
  ·exact .inl (hh b h)
 S1:=fun b h=>h
 S2:=fun b h=>by rw [hgrow];exact I.Slt b h
 S4:=fun b h=>.inl h
 objs:=fun i o' h=>by obtain ⟨rfl,rfl⟩:=getM_one h;exact ho
 own:=fun i o' g h h1 h2=>by
  obtain ⟨rfl,rfl⟩:=getM_one h
  exact ⟨(I.own i o0 g h0 own0 h2).1,.inr ⟨i,o0,h0,own0,h2,by simp [getM]⟩⟩
 fro:=fun i m e rows g h=>by obtain ⟨_,rfl⟩:=getM_one h;cases own1
 inj:=fun i j o1 o2 g h1 h2 _ _ _ _=>by rw [(getM_one h1).1,(getM_one h2).1]
 closedM:=fun i o' h i' hid=>by obtain ⟨_,rfl⟩:=getM_one h;exact .inr (hids i' hid)
 rep:=hr
 closedV:=fun i hi=>.inr (hvc i hi)
def FrzOk (σ:St) (u:List (Nat×O)):Prop:=∀ id o,getM u id=some o→∃ own m e rows,getM σ.M id=some (.row own m e rows)∧o=.row false m e rows
def frS (β:Nat→Value) (S:Nat→Prop) (u:List (Nat×O)):Nat→Prop:=fun b=>S b∨∃ id,(getM u id).isSome=true∧blk (β id)=some b
theorem UpdOk.freeze (I:Inv w0 fp S0 σ a w β S) {u:List (Nat×O)} (hu:FrzOk σ u) (v':Value):UpdOk w0 fp σ w β S .bad u v' w β (frS β S u) where
 new:=fun _=>.inl rfl
 os:=rfl
 tape:=rfl
 output:=rfl
 grow:=Nat.le_refl _
 touch:=fun _ _=>.inl rfl
 S1:=fun _ h=>.inl h
 S2:=fun b h=>by
  rcases h with h | ⟨id,h1,h2⟩
  ·exact I.Slt b h
  ·obtain ⟨o,ho⟩:=Option.isSome_iff_exists.1 h1
   obtain ⟨own,m,e,rows,h3,_⟩:=hu id o ho
   obtain ⟨_,_,xs,h4,_⟩:=I.objs id _ h3
   exact ownsRow_lt h4 h2
 S4:=fun b h=>by
  rcases h with h | ⟨id,h1,h2⟩
  ·exact .inl h
  ·obtain ⟨o,ho⟩:=Option.isSome_iff_exists.1 h1
   obtain ⟨own,m,e,rows,h3,_⟩:=hu id o ho
   cases own with
   | true=>exact .inr (.inr ⟨id,_,h3,rfl,h2,h1⟩)
   | false=>exact .inl (I.fro id m e rows b h3 h2)
 objs:=fun id o h=>by
  obtain ⟨own,m,e,rows,h3,rfl⟩:=hu id o h
  have:=(I.objs id _ h3).mono (S':=frS β S u) (β':=β) (w':=w) (fun _ _=>rfl) (fun _ h=>.inl h) (fun _ _ _=>rfl) rfl (fun _ _=>rfl)
  exact this
 own:=fun id o g h h1=>by obtain ⟨own,m,e,rows,h3,rfl⟩:=hu id o h;cases h1
 fro:=fun id m e rows g h hg=>.inr ⟨id,by rw [h];rfl,hg⟩
 inj:=fun i j o o' g h1 _ h3=>by obtain ⟨own,m,e,rows,h4,rfl⟩:=hu i o h1;cases h3
 closedM:=fun i o h id hid=>by obtain ⟨own,m,e,rows,h3,rfl⟩:=hu i o h;cases hid
 rep:=.bad _
 closedV:=fun id hid=>by cases hid
theorem row_data (I:Inv w0 fp S0 σ a w β S) {id:Nat} {own:Bool} {m:Nat} {e:TypeId} {rows:List (List V)} (hM:getM σ.M id=some (.row own m e rows)) {S':Nat→Prop} (hS:∀ b,S b→S' b)
  (hb:∀ g,blk (β id)=some g→S' g) (off n c:Nat) (ad:Option Addr) (hle:off+n≤rows.length) (hc:n≤c) (ha:0<n→∃ g N C,β id=.slice (some ⟨g,0,none⟩) N C∧ad=some ⟨g,off * m,none⟩) :
  RepD w S' (.sl m ((rows.drop off).take n)) (.slice ad n c):=by
 obtain ⟨hm0,hw,xs,hown,hone,hcell⟩:=I.objs id _ hM
 have hl:((rows.drop off).take n).length=n:=by rw [List.length_take,List.length_drop];omega
 by_cases h0:n=0
 ·subst h0
  simpa using RepD.sl0 (w:=w) (S:=S') m ad c
 ·obtain ⟨g,N,C,hβ,rfl⟩:=ha (by omega)
  have key:∀ (k:Nat) r,((rows.drop off).take n)[k]?=some r→rows[off+k]?=some r:=fun k r hk=>by
   rw [List.getElem?_take] at hk
   split at hk
   ·rwa [List.getElem?_drop] at hk
   ·cases hk
  have hex:∀ kj:Nat×Nat,∃ v:Value,∀ r x,rows[off+kj.1]?=some r→r[kj.2]?=some x→w.cell? ⟨g,off * m+kj.1 * m+kj.2,none⟩=some v∧v.oneCell'=true∧RepD w S x v:=fun ⟨k,j⟩=>by
   by_cases h:∃ r x,rows[off+k]?=some r∧r[j]?=some x
   ·obtain ⟨r,x,h1,h2⟩:=h
    obtain ⟨v,h3,h4⟩:=hcell (off+k) r j x h1 h2
    refine ⟨v,fun r' x' h1' h2' => ?_⟩
    simp only at h1' h2'
    rw [h1] at h1';cases h1'
    rw [h2] at h2';cases h2'
    refine ⟨?_,hone v (List.mem_of_getElem? h3),h4⟩
    have:=hown.cells (g:=g) (by rw [hβ];rfl) _ v h3
    rw [Addr.add_lit] at this
    rw [←this]
    congr 2
    simp only [Nat.add_mul];omega
   ·exact ⟨undef,fun r x h1 h2=>absurd ⟨r,x,h1,h2⟩ h⟩
  obtain ⟨f,hf⟩:=Classical.axiomOfChoice hex
  have:=RepD.sl (w:=w) (S:=S') m ((rows.drop off).take n) g (off * m) c (fun k j=>f (k,j)) (hb g (by rw [hβ];rfl)) (by omega)
   (fun r hr=>hw r (List.mem_of_mem_drop (List.mem_of_mem_take hr)))
   (fun k r j x hk hj=>(hf (k,j) r x (key k r hk) hj).1) (fun k r j x hk hj=>(hf (k,j) r x (key k r hk) hj).2.1)
   (fun k r j x hk hj=>((hf (k,j) r x (key k r hk) hj).2.2).mono (fun _ _=>rfl) hS)
  rwa [hl] at this
theorem frz_ok (I:Inv w0 fp S0 σ a w β S) {x y:V} {u:List (Nat×O)} {v:Value} (h:frz σ x=some (y,u)) (hr:Rep w β S x v):FrzOk σ u∧v.oneCell'=true∧RepD w (frS β S u) y v:=by
 have lift:∀ {y:V},RepD w S y v→RepD w (frS β S u) y v:=fun h=>h.mono (fun _ _=>rfl) fun _ h=>.inl h
 have one:∀ {id:Nat} {own:Bool} {m:Nat} {e:TypeId} {rows:List (List V)},getM σ.M id=some (.row own m e rows)→FrzOk σ [(id,.row false m e rows)]:=fun {id own m e rows} hM i o hi=>by
  obtain ⟨rfl,rfl⟩:=getM_one hi
  exact ⟨own,m,e,rows,hM,rfl⟩
 cases x<;>simp only [frz] at h<;>try (cases h;done)
 case p q =>
  split at h<;>simp at h
  rename_i h1
  obtain ⟨rfl,rfl⟩:=h
  have e:=rep_p hr
  subst e
  exact ⟨fun _ _ h=>by (cases h),h1,.p v⟩
 case nil =>
  cases h
  have e:=rep_nil hr
  subst e
  exact ⟨fun _ _ h=>by (cases h),rfl,.nil⟩
 case sl m rows =>
  cases h
  cases hr with
  | d hr=>exact ⟨fun _ _ h=>by (cases h),by cases hr<;>rfl,lift hr⟩
 case own id =>
  split at h<;>try (cases h;done)
  rename_i own m e rows hM
  cases h
  have e:=rep_own hr
  subst e
  refine ⟨one hM,?_,?_⟩
  ·rcases own_row I hM with ⟨h1,_⟩ | ⟨g,cap,h1,_⟩<;>rw [h1]<;>rfl
  ·have hfr:∀ g,blk (β id)=some g→frS β S [(id,.row false m e rows)] g:=fun g hg=>.inr ⟨id,by simp [getM],hg⟩
   rcases own_row I hM with ⟨h1,rfl⟩ | ⟨g,cap,h1,h2⟩
   ·rw [h1];exact .sl0 _ _ _
   ·have:=row_data I hM (S':=frS β S [(id,.row false m e rows)]) (fun _ h=>.inl h) hfr 0 rows.length cap (some ⟨g,0,none⟩) (by omega) h2 (fun _=>⟨g,rows.length,cap,h1,by simp⟩)
    rw [h1]
    simpa using this
 case cut id m off n =>
  split at h<;>try (cases h;done)
  rename_i own m' e rows hM
  split at h<;>simp at h
  rename_i hc
  obtain ⟨rfl,hle⟩:=hc
  obtain ⟨rfl,rfl⟩:=h
  have hfr:∀ g,blk (β id)=some g→frS β S [(id,.row false m' e rows)] g:=fun g hg=>.inr ⟨id,by simp [getM],hg⟩
  cases hr with
  | d hr=>cases hr
  | cut _ _ _ _ g N C ad c hβ hc ha hr hn hK=>exact ⟨one hM,rfl,row_data I hM (fun _ h=>.inl h) hfr off n c ad hle hc fun h=>⟨g,N,C,hβ,ha (by omega)⟩⟩
  | cut0 _ _ _ _ _ ad c=>exact ⟨one hM,rfl,row_data I hM (fun _ h=>.inl h) hfr off 0 c ad hle (Nat.zero_le _) fun h=>absurd h (Nat.lt_irrefl _)⟩
theorem FrzOk.append {u u':List (Nat×O)} (h:FrzOk σ u) (h':FrzOk σ u'):FrzOk σ (u++u'):=fun id o ho=>by
 rw [getM_append] at ho
 cases hu:getM u id with
 | some o'=>simp only [hu] at ho;cases ho;exact h id _ hu
 | none=>simp only [hu] at ho;exact h' id o ho
theorem frS_left {u u':List (Nat×O)} (b:Nat) (h:frS β S u b):frS β S (u++u') b:=by
 rcases h with h | ⟨id,h1,h2⟩
 ·exact .inl h
 ·refine .inr ⟨id,?_,h2⟩
  rw [getM_append]
  cases hu:getM u id with
  | some _=>rfl
  | none=>rw [hu] at h1;cases h1
theorem frS_right {u u':List (Nat×O)} (b:Nat) (h:frS β S u' b):frS β S (u++u') b:=by
 rcases h with h | ⟨id,h1,h2⟩
 ·exact .inl h
 ·refine .inr ⟨id,?_,h2⟩
  rw [getM_append]
  cases hu:getM u id with
  | some _=>rfl
  | none=>exact h1
theorem frzL_ok (I:Inv w0 fp S0 σ a w β S):∀ (cs ys:List V) (u:List (Nat×O)) (l:List Value),frzL σ cs=some (ys,u)→(l.length=cs.length)→(∀ (i:Nat) x v,cs[i]?=some x→l[i]?=some v→Rep w β S x v) →
  FrzOk σ u∧ys.length=cs.length∧(∀ v∈l,v.oneCell'=true)∧∀ (i:Nat) y v,ys[i]?=some y→l[i]?=some v→RepD w (frS β S u) y v
 | [],ys,u,l,h,hl,_=>by
   have:l=[]:=List.eq_nil_of_length_eq_zero (by simpa using hl)
   subst this
   simp [frzL] at h
   obtain ⟨rfl,rfl⟩:=h
   exact ⟨fun _ _ h=>by (cases h),rfl,by simp,by simp⟩
 | c::r,ys,u,l,h,hl,hr=>by
   cases l with
   | nil=>simp at hl
   | cons v l =>
     simp only [frzL] at h
     split at h<;>simp at h
     rename_i x u1 y u2 h1 h2
     obtain ⟨rfl,rfl⟩:=h
     obtain ⟨a1,a2,a3⟩:=frz_ok I h1 (hr 0 c v (by simp) (by simp))
     obtain ⟨b1,b2,b3,b4⟩:=frzL_ok I r y u2 l h2 (by simpa using hl) fun i x v hx hv=>hr (i+1) x v (by simpa using hx) (by simpa using hv)
     refine ⟨a1.append b1,by simp [b2],?_,?_⟩
     ·intro q hq
      rcases List.mem_cons.1 hq with rfl | hq
      ·exact a2
      ·exact b3 q hq
     ·intro i z q hz hq
      cases i with
      | zero=>simp at hz hq;subst hz hq;exact a3.mono (fun _ _=>rfl) frS_left
      | succ i=>simp at hz hq;exact (b4 i z q hz hq).mono (fun _ _=>rfl) frS_right
end
end Go.Proofs.YtlelaenalbkbmaaDoorV