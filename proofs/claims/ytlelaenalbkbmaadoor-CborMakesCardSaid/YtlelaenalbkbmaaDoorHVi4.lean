/- The value interpreter: the operations that change nothing. -/
import Derived.Test.YtlelaenalbkbmaaDoorHVi3
namespace Go.Proofs.YtlelaenalbkbmaaDoorV
open Go
set_option linter.unusedVariables false
set_option linter.unusedSimpArgs false
section
variable {P:Program} {w0:World} {fp:Nat→Prop} {S0:Base} {σ:St} {a:Act} {w:World} {β:Nat→Value} {S:Nat→Prop} {o:Oper}
theorem ofCell_rep (v:Value):RepD w S (ofCell v) v:=by
 unfold ofCell
 split
 ·exact .nil
 ·exact .p v
theorem ofCell_ids (v:Value):(ofCell v).ids=[]:=by
 unfold ofCell
 split<;>simp [V.ids]
theorem mapCell_ids (l:List Value):V.idsL (l.map ofCell)=[]:=by
 induction l with
 | nil=>simp [V.idsL]
 | cons c r ih=>simp [V.idsL,ofCell_ids,ih]
theorem ofVal1_rep (v:Value):Rep w β S (ofVal1 v) v:=by
 unfold ofVal1
 split
 ·rename_i cs
  split
  ·rename_i h
   refine .agg _ _ (by simp) (fun v hv=>(Array.all_eq_true_iff_forall_mem.1 h) v hv) fun i x v hx hv=>.d ?_
   rw [List.getElem?_map,Option.map_eq_some_iff] at hx
   obtain ⟨y,hy,rfl⟩:=hx
   have:y=v:=by simpa [hv] using hy.symm
   subst this
   exact ofCell_rep _
  ·exact .bad _
 ·exact .d (ofCell_rep _)
theorem ofVal1_ids (v:Value):(ofVal1 v).ids=[]:=by
 unfold ofVal1
 split
 ·split
  ·simp [V.ids,mapCell_ids]
  ·simp [V.ids]
 ·exact ofCell_ids _
theorem ofVal_rep (v:Value):Rep w β S (ofVal v) v:=by
 unfold ofVal
 split
 ·rename_i vs
  refine .tup _ _ (by simp) fun i x v hx hv => ?_
  rw [List.getElem?_map,Option.map_eq_some_iff] at hx
  obtain ⟨y,hy,rfl⟩:=hx
  have:y=v:=by simpa [hv] using hy.symm
  subst this
  exact ofVal1_rep _
 ·exact ofVal1_rep _
theorem ofVal_ids (v:Value):(ofVal v).ids=[]:=by
 unfold ofVal
 split
 ·rename_i vs
  simp only [V.ids]
  generalize vs.toList=l
  induction l with
  | nil=>simp [V.idsL]
  | cons c r ih=>simp [V.idsL,ofVal1_ids,ih]
 ·exact ofVal1_ids _
theorem evalV_rep (I:Inv w0 fp S0 σ a w β S) (x:Operand):Rep w β S (evalV σ x) (a.eval x):=by
 cases x with
 | tmp t=>exact I.slots t
 | const v=>exact ofVal_rep v
 | global g =>
   simp only [evalV]
   cases hg:lay g with
   | none=>exact .bad _
   | some cs=>exact (I.laid g cs hg).2 β
 | func f=>exact .d (.p _)
theorem evalV_closed (I:Inv w0 fp S0 σ a w β S) (x:Operand):∀ id∈(evalV σ x).ids,(getM σ.M id).isSome=true:=by
 cases x with
 | tmp t=>exact I.closedF t
 | const v=>intro id h;simp [evalV,ofVal_ids] at h
 | global g =>
   intro id h
   simp only [evalV] at h
   cases hg:lay g with
   | none=>simp [hg,V.ids] at h
   | some cs=>simp [hg,V.ids,(I.laid g cs hg).1] at h
 | func f=>intro id h;simp [evalV,V.ids] at h
theorem repD_p {v v':Value} (h:RepD w S (.p v) v'):v'=v:=by cases h;rfl
theorem rep_p {v v':Value} (h:Rep w β S (.p v) v'):v'=v:=by cases h with | d h=>exact repD_p h
theorem rep_nil {v':Value} (h:Rep w β S .nil v'):v'=.slice none 0 0:=by cases h with | d h=>cases h;rfl
theorem toCell_rep {x:V} {v v':Value} (hx:toCell x=some v) (h:Rep w β S x v'):v'=v:=by
 cases x<;>simp [toCell] at hx
 ·subst hx;exact rep_p h
 ·subst hx;exact rep_nil h
theorem toCells_rep:∀ (cs:List V) (l:List Value),toCells cs=some l→∀ (l':List Value),l'.length=cs.length→(∀ (i:Nat) x v,cs[i]?=some x→l'[i]?=some v→Rep w β S x v)→l'=l
 | [],l,h,l',hl,_=>by simp [toCells] at h;subst h;simpa using hl
 | c::r,l,h,l',hl,hr=>by
   simp only [toCells] at h
   split at h<;>simp at h
   rename_i x y h1 h2
   subst h
   cases l' with
   | nil=>simp at hl
   | cons v l' =>
     have e1:=toCell_rep h1 (hr 0 c v (by simp) (by simp))
     have e2:=toCells_rep r y h2 l' (by simpa using hl) fun i x v hx hv=>hr (i+1) x v (by simpa using hx) (by simpa using hv)
     rw [e1,e2]
theorem toVal_rep {x:V} {v v':Value} (hx:toVal x=some v) (h:Rep w β S x v'):v'=v:=by
 cases x with
 | agg cs =>
   simp only [toVal,Option.map_eq_some_iff] at hx
   obtain ⟨l,hl,rfl⟩:=hx
   cases h with
   | d h=>cases h
   | agg _ arr hs ho h =>
     have:=toCells_rep cs l hl arr.toList (by simpa using hs) fun i x v hx hv=>h i x v hx (by simpa using hv)
     rw [←this]
 | tup vs =>
   cases vs with
   | nil =>
     simp [toVal] at hx
     subst hx
     cases h with
     | d h=>cases h
     | tup _ arr hs h=>simp at hs;simp [hs]
   | cons c r=>simp [toVal,toCell] at hx
 | _=>exact toCell_rep (by simpa [toVal] using hx) h
theorem pureRun_run {α:Type} {s:Sem α} {x:α} (h:pureRun P s=some x) (w:World):s.run P w=.ok x w:=by
 induction s with
 | pure y=>simp [pureRun] at h;subst h;rfl
 | program k ih=>simp only [pureRun] at h;exact ih P h
 | _=>simp [pureRun] at h
def POk (P:Program) (σ:St) (a:Act) (w:World) (β:Nat→Value) (S:Nat→Prop) (o:Oper) (v:V):Prop :=
 (∃ v',(execOp a.eval o).run P w=.ok (.value v') w∧Rep w β S v v')∧∀ id∈v.ids,(getM σ.M id).isSome=true
theorem not_select {o:Oper} (h:isSelect o.op=false):∀ cs b,o.op≠.select cs b:=fun cs b e=>by rw [e] at h;cases h
theorem plainOp_ok (I:Inv w0 fp S0 σ a w β S) {v:V} (h:plainOp P σ o=some v):POk P σ a w β S o v:=by
 unfold plainOp at h
 split at h
 ·rename_i hc
  obtain ⟨h1,h2⟩:=hc
  split at h<;>simp at h
  rename_i v1 hp
  subst h
  have he:execOp a.eval o=execOp (fun x=>(toVal (evalV σ x)).getD undef) o:=execOp_congr o (not_select h1) fun x hx=>by
   have:=(Array.all_eq_true_iff_forall_mem.1 h2) x hx
   obtain ⟨u,hu⟩:=Option.isSome_iff_exists.1 this
   rw [hu]
   exact toVal_rep hu (evalV_rep I x)
  exact ⟨⟨v1,by rw [he];exact pureRun_run hp w,ofVal_rep v1⟩,fun id h=>by simp [ofVal_ids] at h⟩
 ·cases h
theorem cellsAt_ok (I:Inv w0 fp S0 σ a w β S) {x:V} {v:Value} {cs:List V} (hx:cellsAt σ x=some cs) (hr:Rep w β S x v) :
  ∃ b off,v=.pointer (some ⟨b,off,none⟩)∧∀ (j:Nat) y,cs[j]?=some y→∃ z,w.cell? ⟨b,off+j,none⟩=some z∧z.oneCell'=true∧Rep w β S y z:=by
 cases x<;>simp only [cellsAt] at hx<;>try (cases hx;done)
 case rpt cells off =>
  cases hx
  cases hr with
  | d h=>cases h
  | rpt _ _ b o g hS h1 h2 h3 =>
    refine ⟨b,o+off,rfl,fun j y hj => ?_⟩
    rw [List.getElem?_drop] at hj
    exact ⟨g (off+j),by rw [Nat.add_assoc];exact h1 _ y hj,h2 _ y hj,.d (h3 _ y hj)⟩
 case ptr id off =>
  split at hx<;>simp at hx
  rename_i ty cells ho
  subst hx
  cases hr with
  | d h=>cases h
  | ptr _ _ g hβ =>
    obtain ⟨g',arr,e1,hh,hs,hone,hc⟩:=I.objs id _ ho
    rw [hβ] at e1;cases e1
    refine ⟨g,off,rfl,fun j y hj => ?_⟩
    rw [List.getElem?_drop] at hj
    have hlt:off+j<arr.size:=by rw [hs];exact (List.getElem?_eq_some_iff.1 hj).1
    refine ⟨arr[off+j],by simp [World.cell?,hh,hlt],hone _ (by simp),hc _ y _ hj (by simp [hlt])⟩
 case ept id m k j0 =>
  split at hx<;>try (cases hx;done)
  ·rename_i own m' e rows ho
   split at hx<;>try (cases hx;done)
   rename_i hm
   subst hm
   split at hx<;>simp at hx
   rename_i r hk
   subst hx
   cases hr with
   | d h=>cases h
   | ept _ _ _ _ g N C hβ =>
     obtain ⟨hm0,hw,xs,hown,hone,hc⟩:=I.objs id _ ho
     refine ⟨g,k * m'+j0,rfl,fun j y hj => ?_⟩
     rw [List.getElem?_drop] at hj
     obtain ⟨z,hz,hrep⟩:=hc k r (j0+j) y hk hj
     refine ⟨z,?_,hone z (List.mem_of_getElem? hz),.d hrep⟩
     have:=hown.cells (g:=g) (by rw [hβ];rfl) _ z hz
     rw [Addr.add_lit] at this
     simpa [Nat.add_assoc] using this
  ·rename_i m' e n cells ho
   split at hx<;>simp at hx
   rename_i hm
   subst hm
   subst hx
   cases hr with
   | d h=>cases h
   | ept _ _ _ _ g N C hβ =>
     obtain ⟨hm0,hl,xs,hown,hone,hc⟩:=I.objs id _ ho
     refine ⟨g,k * m'+j0,rfl,fun j y hj => ?_⟩
     rw [List.getElem?_drop] at hj
     have hlt:k * m'+j0+j<xs.length:=by rw [hown.1,←hl];exact (List.getElem?_eq_some_iff.1 hj).1
     have hz:=List.getElem?_eq_getElem hlt
     refine ⟨xs[k * m'+j0+j],?_,hone _ (List.getElem_mem hlt),hc _ y _ hj hz⟩
     have:=hown.cells (g:=g) (by rw [hβ];rfl) _ _ hz
     rw [Addr.add_lit] at this
     simpa [Nat.add_assoc] using this
theorem cellsAt_closed (I:Inv w0 fp S0 σ a w β S) {x:V} {v:Value} {cs:List V} (hx:cellsAt σ x=some cs) (hr:Rep w β S x v):∀ id∈V.idsL cs,(getM σ.M id).isSome=true:=by
 have dropL:∀ (n:Nat) (cs:List V) (id:Nat),id∈V.idsL (cs.drop n)→id∈V.idsL cs:=by
  intro n
  induction n with
  | zero=>intro cs id h;simpa using h
  | succ n ih =>
    intro cs id h
    cases cs with
    | nil=>simpa using h
    | cons c r=>rw [V.idsL];exact List.mem_append_right _ (ih r id (by simpa using h))
 have data:∀ (x:V) (z:Value),RepD w S x z→x.ids=[]:=fun x z h=>by cases h<;>simp [V.ids]
 have allD:∀ (cs:List V),(∀ (j:Nat) y,cs[j]?=some y→∃ z,RepD w S y z)→V.idsL cs=[]:=by
  intro cs
  induction cs with
  | nil=>intro _;simp [V.idsL]
  | cons c r ih =>
    intro h
    obtain ⟨z,hz⟩:=h 0 c (by simp)
    rw [V.idsL,data c z hz,ih fun j y hj=>h (j+1) y (by simpa using hj)]
    rfl
 cases x<;>simp only [cellsAt] at hx<;>try (cases hx;done)
 case rpt cells off =>
  cases hx
  cases hr with
  | d h=>cases h
  | rpt _ _ b o g hS h1 h2 h3 =>
    intro id hid
    have:=dropL off cells id hid
    rw [allD cells fun j y hj=>⟨_,h3 j y hj⟩] at this
    cases this
 case ptr id0 off =>
  split at hx<;>simp at hx
  rename_i ty cells ho
  subst hx
  intro id hid
  exact I.closedM id0 _ ho id (dropL off cells id hid)
 case ept id0 m k j0 =>
  split at hx<;>try (cases hx;done)
  ·rename_i own m' e rows ho
   split at hx<;>try (cases hx;done)
   split at hx<;>simp at hx
   rename_i r hk
   subst hx
   obtain ⟨hm0,hw,xs,hown,hone,hc⟩:=I.objs id0 _ ho
   intro id hid
   have:=dropL j0 r id hid
   rw [allD r fun j y hj=>by obtain ⟨z,_,hr⟩:=hc k r j y hk hj;exact ⟨z,hr⟩] at this
   cases this
  ·rename_i m' e n cells ho
   split at hx<;>simp at hx
   subst hx
   intro id hid
   exact I.closedM id0 _ ho id (dropL _ cells id hid)
theorem isAgg_run {t:TypeId} {d:TypeDesc} (h:P.underlying t=some d):(isAgg t).run P w=.ok (isAggD d) w:=by
 simp only [isAgg,Sem.run_bind,run_underlying h,Result.andThen_ok]
 cases d<;>rfl
theorem idsL_take (n:Nat):∀ (cs:List V) (id:Nat),id∈V.idsL (cs.take n)→id∈V.idsL cs:=by
 induction n with
 | zero=>intro cs id h;simp [V.idsL] at h
 | succ n ih =>
   intro cs id h
   cases cs with
   | nil=>simpa using h
   | cons c r =>
     rw [V.idsL]
     rw [List.take_succ_cons,V.idsL] at h
     rcases List.mem_append.1 h with h | h
     ·exact List.mem_append_left _ h
     ·exact List.mem_append_right _ (ih r id h)
theorem load_run (I:Inv w0 fp S0 σ a w β S) {t:TypeId} {x v:V} {xv:Value} (h:loadV P σ t x=some v) (hr:Rep w β S x xv) :
  ∃ b off v',xv=.pointer (some ⟨b,off,none⟩)∧(loadVar t ⟨b,off,none⟩).run P w=.ok v' w∧Rep w β S v v':=by
 unfold loadV at h
 split at h<;>try (cases h;done)
 rename_i i d cs hi hd hc
 obtain ⟨b,off,rfl,hcell⟩:=cellsAt_ok I hc hr
 refine ⟨b,off,?_⟩
 cases ha:isAggD d with
 | true =>
   simp only [ha,if_true] at h
   split at h<;>simp at h
   rename_i hle
   subst h
   have hz:∀ j:Nat,∃ z:Value,j<i.size→(w.cell? ⟨b,off+j,none⟩=some z∧z.oneCell'=true∧∀ y,cs[j]?=some y→Rep w β S y z):=fun j=>by
    by_cases hj:j<i.size
    ·have hlt:j<cs.length:=by omega
     obtain ⟨z,h1,h2,h3⟩:=hcell j cs[j] (List.getElem?_eq_getElem hlt)
     exact ⟨z,fun _=>⟨h1,h2,fun y hy=>by rw [List.getElem?_eq_getElem hlt] at hy;cases hy;exact h3⟩⟩
    ·exact ⟨undef,fun h=>absurd h hj⟩
   have ⟨f,hf⟩:=Classical.axiomOfChoice hz
   have hl:((List.range i.size).map f).length=i.size:=by simp
   have hload:=run_loadCells_list (P:=P) w ⟨b,off,none⟩ ((List.range i.size).map f) fun j v hj=>by
    rw [List.getElem?_map,Option.map_eq_some_iff] at hj
    obtain ⟨k,hk,rfl⟩:=hj
    obtain ⟨hk1,hk2⟩:=List.getElem?_eq_some_iff.1 hk
    simp at hk1 hk2
    subst hk2
    rw [Addr.add_lit]
    exact (hf j hk1).1
   rw [hl] at hload
   refine ⟨.agg ((List.range i.size).map f).toArray,rfl,?_,?_⟩
   ·simp only [loadVar,Sem.run_bind,isAgg_run hd,ha,Result.andThen_ok,if_true,sizeOf,typeInfo,run_program,hi,Sem.run_pure,hload]
   ·refine .agg _ _ (by simp;omega) (fun v hv => ?_) fun k y v hy hv => ?_
    ·simp at hv
     obtain ⟨k,hk,rfl⟩:=hv
     exact (hf k hk).2.1
    ·rw [List.getElem?_take] at hy
     split at hy<;>try (cases hy;done)
     rename_i hk
     simp [hk] at hv
     subst hv
     exact (hf k hk).2.2 y hy
 | false =>
   simp only [ha] at h
   have h0:cs[0]?=some v:=by rw [←List.head?_eq_getElem?];simpa using h
   obtain ⟨z,h1,h2,h3⟩:=hcell 0 v h0
   refine ⟨z,rfl,?_,h3⟩
   simp only [loadVar,Sem.run_bind,isAgg_run hd,ha,Result.andThen_ok]
   simp only [Nat.add_zero] at h1
   simp [h1]
theorem loadV_closed (I:Inv w0 fp S0 σ a w β S) {t:TypeId} {x v:V} {xv:Value} (h:loadV P σ t x=some v) (hr:Rep w β S x xv):∀ id∈v.ids,(getM σ.M id).isSome=true:=by
 unfold loadV at h
 split at h<;>try (cases h;done)
 rename_i i d cs hi hd hc
 have hcl:=cellsAt_closed I hc hr
 split at h
 ·split at h<;>simp at h
  subst h
  intro id hid
  rw [V.ids] at hid
  exact hcl id (idsL_take _ _ id hid)
 ·intro id hid
  have h0:cs[0]?=some v:=by rw [←List.head?_eq_getElem?];simpa using h
  exact hcl id (idsL_mem h0 hid)
theorem load_ok (I:Inv w0 fp S0 σ a w β S) {t:TypeId} {x:Operand} {v:V} (ho:o.op=.load t x) (h:loadV P σ t (evalV σ x)=some v):POk P σ a w β S o v:=by
 obtain ⟨b,off,v',h1,h2,h3⟩:=load_run I h (evalV_rep I x)
 refine ⟨⟨v',?_,h3⟩,loadV_closed I h (evalV_rep I x)⟩
 simp [execOp,ho,Instr.loadAt,Instr.sureAddr,h1,h2]
end
end Go.Proofs.YtlelaenalbkbmaaDoorV