/- The value interpreter: writing elements,literals of slices. -/
import Derived.Test.YtlelaenalbkbmaaDoorHVi9
namespace Go.Proofs.YtlelaenalbkbmaaDoorV
open Go
set_option linter.unusedVariables false
set_option linter.unusedSimpArgs false
theorem idx_ne {m k k' j j' n:Nat} (hk:k'≠k) (hj:j'<m) (hn:j+n≤m):¬(k * m+j≤k' * m+j'∧k' * m+j'<k * m+j+n):=by
 rcases Nat.lt_or_gt_of_ne hk with h | h
 ·have:(k'+1) * m≤k * m:=Nat.mul_le_mul_right _ h
  rw [Nat.add_mul] at this;omega
 ·have:(k+1) * m≤k' * m:=Nat.mul_le_mul_right _ h
  rw [Nat.add_mul] at this;omega
theorem idx_lt {m k j n:Nat} (hk:k<n) (hj:j<m):k * m+j<n * m:=by
 have:(k+1) * m≤n * m:=Nat.mul_le_mul_right _ hk
 rw [Nat.add_mul] at this;omega
structure FR (w:World) (S:Nat→Prop) (m:Nat) (rows:List (List V)) (l:List Value):Prop where
 len:l.length=rows.length * m
 wid:∀ r∈rows,r.length=m
 one:∀ v∈l,v.oneCell'=true
 rep:∀ (k:Nat) r (j:Nat) x,rows[k]?=some r→r[j]?=some x→∃ v,l[k * m+j]?=some v∧RepD w S x v
theorem FR.mono {w:World} {S S':Nat→Prop} {m:Nat} {rows:List (List V)} {l:List Value} (h:FR w S m rows l) (hS:∀ b,S b→S' b):FR w S' m rows l :=
 ⟨h.len,h.wid,h.one,fun k r j x h1 h2=>let ⟨v,h3,h4⟩:=h.rep k r j x h1 h2;⟨v,h3,h4.mono (fun _ _=>rfl) hS⟩⟩
theorem FR.set {w:World} {S:Nat→Prop} {m k j:Nat} {rows:List (List V)} {l:List Value} (h:FR w S m rows l) {r ns:List V} {vs:List Value} (hk:rows[k]?=some r) (hfit:j+ns.length≤r.length) (hl:vs.length=ns.length)
  (hone:∀ v∈vs,v.oneCell'=true) (hrep:∀ (i:Nat) y v,ns[i]?=some y→vs[i]?=some v→RepD w S y v) :
  FR w S m (rows.set k (overlay r j ns)) (l.take (k * m+j)++(vs++l.drop (k * m+j+vs.length))):=by
 have hkl:k<rows.length:=(List.getElem?_eq_some_iff.1 hk).1
 have hrm:r.length=m:=h.wid r (List.mem_of_getElem? hk)
 have hfit2:k * m+j+vs.length≤l.length:=by
  rw [h.len,hl]
  have:(k+1) * m≤rows.length * m:=Nat.mul_le_mul_right _ hkl
  rw [Nat.add_mul] at this;omega
 refine ⟨?_,fun q hq => ?_,fun v hv => ?_,fun k' r' j' x h1 h2 => ?_⟩
 ·rw [ov_len hfit2,h.len,List.length_set]
 ·rcases List.mem_or_eq_of_mem_set hq with hq | rfl
  ·exact h.wid q hq
  ·unfold overlay;rw [ov_len hfit];exact hrm
 ·simp only [List.mem_append] at hv
  rcases hv with hv | hv | hv
  ·exact h.one v (List.mem_of_mem_take hv)
  ·exact hone v hv
  ·exact h.one v (List.mem_of_mem_drop hv)
 ·rw [ov_get hfit2]
  rw [List.getElem?_set] at h1
  by_cases hkk:k=k'
  ·subst hkk
   rw [if_pos rfl,if_pos hkl] at h1
   cases h1
   unfold overlay at h2
   rw [ov_get hfit] at h2
   by_cases hc:j≤j'∧j'<j+ns.length
   ·rw [if_pos hc] at h2
    rw [if_pos (by omega)]
    have hlt:j' - j<vs.length:=by omega
    refine ⟨vs[j' - j],?_,hrep _ x _ h2 (List.getElem?_eq_getElem hlt)⟩
    rw [show k * m+j' - (k * m+j)=j' - j from by omega]
    exact List.getElem?_eq_getElem hlt
   ·rw [if_neg hc] at h2
    rw [if_neg (by omega)]
    exact h.rep k r j' x hk h2
  ·rw [if_neg hkk] at h1
   have hj':j'<m:=by rw [←h.wid r' (List.mem_of_getElem? h1)];exact (List.getElem?_eq_some_iff.1 h2).1
   rw [if_neg (idx_ne (fun e=>hkk e.symm) hj' (by omega))]
   exact h.rep k' r' j' x h1 h2
section
variable {P:Program} {w0:World} {fp:Nat→Prop} {S0:Base} {σ:St} {a:Act} {w:World} {β:Nat→Value} {S:Nat→Prop} {o:Oper}
theorem take_ov {α:Type} (cur vs:List α) (o n:Nat) (h:o+vs.length≤n) (hn:n≤cur.length):(cur.take o++(vs++cur.drop (o+vs.length))).take n=(cur.take n).take o++(vs++(cur.take n).drop (o+vs.length)):=by
 apply List.ext_getElem?
 intro i
 have h2:(cur.take n).length=n:=by rw [List.length_take];omega
 rw [List.getElem?_take,ov_get (by omega),ov_get (by omega),List.getElem?_take]
 by_cases hi:i<n
 ·simp [hi]
 ·simp [hi]
  omega
theorem store_row (I:Inv w0 fp S0 σ a w β S) {t:TypeId} {x y:Operand} {id m k j:Nat} {e:TypeId} {rows:List (List V)} {ns ns' r:List V} {fz:List (Nat×O)} {i:TypeInfo} (ho:o.op=.store t x y) (hi:P.info? t=some i) (hns:cellsOf (evalV σ y)=some ns) (hlen:ns.length=i.size)
  (hx:evalV σ x=.ept id m k j) (hM:getM σ.M id=some (.row true m e rows)) (hfz:frzL σ ns=some (ns',fz)) (hne:getM fz id=none) (hk:rows[k]?=some r) (hfit:j+ns'.length≤r.length) (hdk:dstOk σ.n o.dst=true) :
  OpOk P w0 fp S0 σ a w o (.tup []) ((id,.row true m e (rows.set k (overlay r j ns')))::fz):=by
 have hv:=cellsOf_rep hns (evalV_rep I y)
 obtain ⟨f1,f2,f3,f4⟩:=frzL_ok I ns ns' fz _ hfz hv.len hv.rep
 refine OpOk.frozen (u1:=[(id,.row true m e (rows.set k (overlay r j ns')))]) I f1 fun I1 => ?_
 have hM1:getM (σ.put none .bad fz).M id=some (.row true m e rows):=by simp only [St.put,getM_append,hne];exact hM
 obtain ⟨hm0,hw,xs,hown,hone,hc⟩:=I1.objs id _ hM1
 obtain ⟨g,N,C,hβ,hxv⟩:∃ g N C,β id=.slice (some ⟨g,0,none⟩) N C∧a.eval x=.pointer (some ⟨g,k * m+j,none⟩):=by
  have:=evalV_rep I x
  rw [hx] at this
  generalize a.eval x=xv at this
  cases this with
  | d h=>cases h
  | ept _ _ _ _ g N C h=>exact ⟨g,N,C,h,rfl⟩
 have hkl:k<rows.length:=(List.getElem?_eq_some_iff.1 hk).1
 rcases hown.2 with ⟨e1,_⟩ | ⟨g',cap,cur,e1,_,hg,hnc,hcm,hcs,htake⟩
 ·rw [hβ] at e1;cases e1
 ·rw [hβ] at e1;cases e1
  have hvl:(a.eval y).cells.size=i.size:=by have:=hv.len;simp at this;omega
  have hvl2:(a.eval y).cells.toList.length=ns'.length:=by rw [hv.len];exact f2.symm
  have hrm:r.length=m:=hw r (List.mem_of_getElem? hk)
  have hb:k * m+j+(a.eval y).cells.toList.length≤rows.length * m:=by
   have:(k+1) * m≤rows.length * m:=Nat.mul_le_mul_right _ hkl
   rw [Nat.add_mul] at this;omega
  have hbc:rows.length * m≤cur.size:=by rw [hcs];exact Nat.mul_le_mul_right _ hnc
  have hst:=run_storeCells_at P g (k * m+j) e (a.eval y).cells.toList 0 cur w hg (by omega) hv.one
  simp only [Nat.add_zero] at hst
  have hfr:FR w (frS β S fz) m rows xs:=⟨hown.1,hw,hone,hc⟩
  have hnew:=hfr.set hk hfit hvl2 hv.one f4
  have hSh:∀ b,frS β S fz b→(w.setRow g (cur.toList.take (k * m+j)++(a.eval y).cells.toList++cur.toList.drop (k * m+j+(a.eval y).cells.toList.length)).toArray).heap[b]?=w.heap[b]?:=fun b hb=>setRow_other w g b _ fun e=>(I1.own id _ g hM1 rfl (by rw [hβ];rfl)).1 (e▸hb)
  refine OpOk.skip I1 (w':=w.setRow g (cur.toList.take (k * m+j)++(a.eval y).cells.toList++cur.toList.drop (k * m+j+(a.eval y).cells.toList.length)).toArray) ?_ (UpdOk.write I1 hM1 (o1:=.row true m e (rows.set k (overlay r j ns'))) (w':=w.setRow g (cur.toList.take (k * m+j)++(a.eval y).cells.toList++cur.toList.drop (k * m+j+(a.eval y).cells.toList.length)).toArray) rfl rfl rfl rfl rfl (setRow_size _ _ _) (fun b hb=>setRow_other w g b _ fun e=>hb (by rw [hβ,e];rfl)) ?_ ?_ undef_rep (by simp [V.ids,V.idsL])) hdk
  ·simp [execOp,ho,Instr.storeAt,hxv,Instr.sureAddr,storeVar,sizeOf,typeInfo,hi,hvl,hst]
  ·refine ⟨hm0,hnew.wid,_,?_,hnew.one,fun k' r' j' x h1 h2=>let ⟨v,h3,h4⟩:=hnew.rep k' r' j' x h1 h2;⟨v,h3,h4.mono hSh fun _ h=>h⟩⟩
   refine ⟨hnew.len,.inr ⟨g,C,_,by rw [hβ,List.length_set],Nat.zero_le _,setRow_heap w g cur _ e _ hg,by rw [List.length_set];exact hnc,hcm,?_,?_⟩⟩
   ·simp only [List.append_assoc,List.size_toArray]
    rw [ov_len (by have:cur.toList.length=cur.size:=Array.length_toList;omega),Array.length_toList,hcs]
   ·simp only [List.append_assoc,List.length_set]
    rw [take_ov _ _ _ _ hb (by rw [Array.length_toList];exact hbc),htake]
  ·intro i hid;cases hid
theorem FR_made (w:World) (S:Nat→Prop) (z:Array Value) (n:Nat) (hz:0<z.size) (h1:∀ v∈z,v.oneCell'=true):FR w S z.size (List.replicate n (z.toList.map ofCell)) (madeCells z (n * z.size)).toList:=by
 have hsz:(madeCells z (n * z.size)).size=n * z.size:=size_madeCells _ _
 refine ⟨by simp [hsz],fun r hr=>by rw [(List.mem_replicate.1 hr).2];simp,fun v hv => ?_,fun k r j x hk hj => ?_⟩
 ·obtain ⟨j,hj,rfl⟩:=List.mem_iff_getElem.1 hv
  have hj':j<n * z.size:=by simpa [hsz] using hj
  have:=made_get z (n * z.size) j hj' hz
  rw [List.getElem?_eq_getElem hj] at this
  rw [Option.some.inj this]
  exact h1 _ (by simp)
 ·have hk1:k<n:=by have:=(List.getElem?_eq_some_iff.1 hk).1;simpa using this
  have hr:r=z.toList.map ofCell:=by
   have:=(List.getElem?_eq_some_iff.1 hk).2
   rw [←this];simp
  subst hr
  rw [List.getElem?_map,Option.map_eq_some_iff] at hj
  obtain ⟨y,hy,rfl⟩:=hj
  have hjm:j<z.size:=by have:=(List.getElem?_eq_some_iff.1 hy).1;simpa using this
  refine ⟨y,?_,ofCell_rep y⟩
  rw [made_get z _ _ (idx_lt hk1 hjm) hz]
  have hmod:(k * z.size+j) % z.size=j:=by
   rw [Nat.add_comm,Nat.add_mul_mod_self_right]
   exact Nat.mod_eq_of_lt hjm
  have hy2:z[j]?=some y:=by simpa using hy
  obtain ⟨hb,hyy⟩:=Array.getElem?_eq_some_iff.1 hy2
  simp only [hmod,hyy]
theorem fillRows_run (I:Inv w0 fp S0 σ a w β S) {m:Nat} (hm:0<m):∀ (ps:List (Nat×V)) (qs:List (Nat×Value)) (rows rows':List (List V)) (arr:Array Value) (u:List (Nat×O)) (S1:Nat→Prop),fillRows σ m rows ps=some (rows',u)→FR w S1 m rows arr.toList →
  qs.length=ps.length→(∀ (i:Nat) p q,ps[i]?=some p→qs[i]?=some q→q.1=p.1∧Rep w β S p.2 q.2) →
  FrzOk σ u∧rows'.length=rows.length∧∃ arr',Instr.fill (fun i=>some (i * m,m)) arr qs=some arr'∧FR w (fun b=>S1 b∨frS β S u b) m rows' arr'.toList
 | [],qs,rows,rows',arr,u,S1,h,hf,hl,_=>by
   have:qs=[]:=List.eq_nil_of_length_eq_zero (by simpa using hl)
   subst this
   simp [fillRows] at h
   obtain ⟨rfl,rfl⟩:=h
   exact ⟨fun _ _ h=>by (cases h),rfl,arr,rfl,hf.mono fun _ h=>.inl h⟩
 | (i,x)::ps,qs,rows,rows',arr,u,S1,h,hf,hl,hq=>by
   cases qs with
   | nil=>simp at hl
   | cons q qs =>
     obtain ⟨i',v⟩:=q
     obtain ⟨e1,e2⟩:=hq 0 (i,x) (i',v) (by simp) (by simp)
     simp only at e1 e2
     subst e1
     simp only [fillRows] at h
     split at h<;>try (cases h;done)
     rename_i cs hcs
     split at h<;>try (cases h;done)
     rename_i cs' u1 hfz
     split at h<;>try (cases h;done)
     rename_i hc
     obtain ⟨c1,c2⟩:=hc
     split at h<;>simp at h
     rename_i rows2 u2 hrec
     obtain ⟨rfl,rfl⟩:=h
     have hv:=cellsOf_rep hcs e2
     obtain ⟨f1,f2,f3,f4⟩:=frzL_ok I cs cs' u1 _ hfz hv.len hv.rep
     have hvl:v.cells.toList.length=cs'.length:=by rw [hv.len];exact f2.symm
     have hvs:v.cells.size=m:=by rw [←c1,←hvl];simp
     have hk:rows[i']?=some rows[i']:=List.getElem?_eq_getElem c2
     have hrl:rows[i'].length=m:=hf.wid _ (by simp)
     have hset:=(hf.mono (S':=fun b=>S1 b∨frS β S u1 b) fun _ h=>.inl h).set (j:=0) (ns:=cs') (vs:=v.cells.toList) hk (by omega) hvl hv.one fun i y v hy hv=>(f4 i y v hy hv).mono (fun _ _=>rfl) fun _ h=>.inr h
     have hov:overlay rows[i'] 0 cs'=cs':=by
      unfold overlay
      rw [List.take_zero,List.nil_append,List.drop_eq_nil_of_le (by omega),List.append_nil]
     rw [hov] at hset
     have hfold:=fold_set (i' * m) v.cells.toList 0 arr (by
      have:=hf.len
      have h2:(i'+1) * m≤rows.length * m:=Nat.mul_le_mul_right _ c2
      rw [Nat.add_mul] at h2
      simp at this ⊢
      omega)
     simp only [Nat.add_zero] at hfold hset
     obtain ⟨g1,g2,arr',g3,g4⟩:=fillRows_run I hm ps qs (rows.set i' cs') rows2 (v.cells.zipIdx.foldl (fun cs (p:Value×Nat)=>cs.setIfInBounds (i' * m+p.2) p.1) arr) u2 (fun b=>S1 b∨frS β S u1 b) hrec
      (by rw [←Array.foldl_toList,Array.toList_zipIdx,hfold];exact hset) (by simpa using hl) fun j p q hp hq2=>hq (j+1) p q (by simpa using hp) (by simpa using hq2)
     refine ⟨f1.append g1,by rw [g2,List.length_set],arr',?_,g4.mono fun b hb => ?_⟩
     ·unfold Instr.fill
      simp only []
      have hsz:arr.size=rows.length * m:=by have:=hf.len;simpa using this
      rw [if_neg (by
       have h2:(i'+1) * m≤rows.length * m:=Nat.mul_le_mul_right _ c2
       rw [Nat.add_mul] at h2
       simp
       omega)]
      exact g3
     ·rcases hb with (hb | hb) | hb
      ·exact .inl hb
      ·exact .inr (frS_left b hb)
      ·exact .inr (frS_right b hb)
theorem newBsl (I:Inv w0 fp S0 σ a w β S) {d m n:Nat} {t:TypeId} {cs:List V} {arr:Array Value} (hd:o.dst=some d) (hM:getM σ.M d=none)
  (hr:(execOp a.eval o).run P w=.ok (.value (.slice (some ⟨w.heap.size,0,none⟩) n n)) { w with heap:=w.heap.push (.cells arr t) })
  (hc:CRep w β S cs arr.toList) (hcl:∀ id∈V.idsL cs,(getM σ.M id).isSome=true) (hdk:dstOk σ.n o.dst=true):OpOk P w0 fp S0 σ a w o (.bsl d m n) [(d,.box t cs)]:=by
 have hS:∀ b,S b→({ w with heap:=w.heap.push (.cells arr t) }:World).heap[b]?=w.heap[b]?:=fun b hb=>push_old w _ (I.Slt b hb)
 refine OpOk.value I hr (UpdOk.create I hM (o:=.box t cs) (w':={ w with heap:=w.heap.push (.cells arr t) }) (hv:=.pointer (some ⟨w.heap.size,0,none⟩)) rfl rfl rfl (by simp) (fun b hb=>push_old w _ hb) (fun g hg=>by cases hg;exact Nat.le_refl _) rfl ?_ ?_ ?_ ?_) hdk
 ·refine ⟨w.heap.size,arr,upd_same _ _ _,by simp,by have:=hc.len;simpa using this,fun v hv=>hc.one v (by simpa using hv),fun i x v hx hv => ?_⟩
  refine (hc.rep i x v hx (by simpa using hv)).mono hS (fun _ h=>h) fun id hid=>upd_ne _ _ fun e => ?_
  have:=hcl id (idsL_mem hx hid)
  rw [e,hM] at this;cases this
 ·intro id hid;exact hcl id (by simpa [O.ids] using hid)
 ·exact .bsl d m n w.heap.size (upd_same _ _ _)
 ·intro id hid;exact .inl (by simpa [V.ids] using hid)
theorem buildSlice_ok (I:Inv w0 fp S0 σ a w β S) {raw:Bool} {d:Nat} {t:TypeId} {len:Nat} {ps:Array (Nat×Operand)} {v:V} {u:List (Nat×O)} (ho:o.op=.buildSlice t len ps) (hd:o.dst=some d) (h:buildSliceV P raw σ d t len ps.toList=some (v,u)) (hdk:dstOk σ.n o.dst=true):OpOk P w0 fp S0 σ a w o v u:=by
 unfold buildSliceV at h
 split at h<;>try (cases h;done)
 rename_i e i he
 obtain ⟨hu,hi⟩:=elemI_ok he
 split at h<;>try (cases h;done)
 rename_i z hz
 split at h<;>try (cases h;done)
 rename_i hc
 obtain ⟨c1,c2⟩:=hc
 obtain ⟨zv,h1,h2,h3,h4,h5,rfl⟩:=zeroRow_ok hz
 have hmade:=FR_made w S zv.cells len (by omega) h5
 rw [h2] at hmade
 have hrepq:∀ (k:Nat) (p:Nat×V) (q:Nat×Value),(ps.toList.map fun q=>(q.1,evalV σ q.2))[k]?=some p→(ps.toList.map fun q=>(q.1,a.eval q.2))[k]?=some q→q.1=p.1∧Rep w β S p.2 q.2:=by
  intro k p q hp hq
  rw [List.getElem?_map,Option.map_eq_some_iff] at hp hq
  obtain ⟨y,hy,rfl⟩:=hp
  obtain ⟨y',hy',rfl⟩:=hq
  rw [hy] at hy';cases hy'
  exact ⟨rfl,evalV_rep I _⟩
 have hM:getM σ.M d=none:=by simpa using c1
 cases hf:fillRows σ i.size (List.replicate len (zv.cells.toList.map ofCell)) (ps.toList.map fun q=>(q.1,evalV σ q.2)) with
 | none =>
   rw [hf] at h
   simp only [] at h
   split at h<;>try (cases h;done)
   rename_i hl0
   simp only [Option.map_eq_some_iff,Prod.mk.injEq] at h
   obtain ⟨cs,hcs,rfl,rfl⟩:=h
   have hcr:CRep w β S (List.replicate (len * i.size) V.bad) (madeCells zv.cells (len * i.size)).toList:=by
    refine ⟨by simp [hmade.len],hmade.one,fun j x v hx hv => ?_⟩
    rw [List.getElem?_replicate] at hx
    split at hx<;>simp at hx
    subst hx
    exact .bad v
   obtain ⟨arr',e1,e2⟩:=fill_run _ (ps.toList.map fun q=>(q.1,a.eval q.2)) _ _ cs hcs hcr (by simp) hrepq
   have hcl:∀ id∈V.idsL cs,(getM σ.M id).isSome=true:=by
    intro id hid
    rcases fillV_ids _ _ _ hcs id hid with h | ⟨p,hp,h⟩
    ·have hbad:∀ n,V.idsL (List.replicate n V.bad)=[]:=by
      intro n
      induction n with
      | zero=>rfl
      | succ n ih=>rw [List.replicate_succ,V.idsL,ih];rfl
     rw [hbad] at h;cases h
    ·obtain ⟨q,hq,rfl⟩:=List.mem_map.1 hp
     exact evalV_closed I _ id h
   refine newBsl I hd hM (arr:=arr') ?_ e2 hcl hdk
   have e3:Instr.fill (fun i_1=>some (i_1 * i.size,i.size)) (madeCells zv.cells (len * i.size)) (ps.map fun (x:Nat×Operand)=>(x.1,a.eval x.2)).toList=some arr':=by
    have hmap:(ps.map fun (x:Nat×Operand)=>(x.1,a.eval x.2)).toList=ps.toList.map fun q=>(q.1,a.eval q.2):=by simp
    rw [hmap];exact e1
   have hle:¬(len * i.size>2 ^ 24):=by omega
   have h0:¬len * i.size=0:=fun h=>by rcases Nat.mul_eq_zero.1 h with h | h<;>omega
   unfold madeCells at e3
   simp only [execOp,ho,Instr.buildSlice,Sem.run_bind,run_underlying hu,sizeOf,typeInfo,run_program,Result.andThen_ok,hi,Sem.run_pure]
   simp only [hle,if_false,h0,Sem.run_bind,zeroValue,typeInfo,run_program,Result.andThen_ok,hi,h1,Sem.run_pure,e3]
   simp [Go.newRow]
 | some q =>
 obtain ⟨rows,fz⟩:=q
 rw [hf] at h
 simp at h
 obtain ⟨rfl,rfl⟩:=h
 refine OpOk.told ?_ (told_map _ _)
 obtain ⟨f1,f2,arr',f3,f4⟩:=fillRows_run I h3 _ (ps.toList.map fun q=>(q.1,a.eval q.2)) _ rows _ fz S hf hmade (by simp) hrepq
 refine OpOk.frozen (u1:=[(d,.row true i.size e rows)]) I f1 fun I1 => ?_
 have hM1:getM (σ.put none .bad fz).M d=none:=by
  simp only [St.put,getM_append]
  cases hq:getM fz d with
  | none=>exact hM
  | some o'=>obtain ⟨own,m,e',r',h6,_⟩:=f1 d o' hq;rw [hM] at h6;cases h6
 have hlen:rows.length=len:=by simpa using f2
 have f5:FR w (frS β S fz) i.size rows arr'.toList:=f4.mono fun b hb=>hb.elim (fun h=>.inl h) fun h=>h
 have hasz:arr'.size=len * i.size:=by have:=f5.len;rw [hlen] at this;simpa using this
 refine newRow I1 hd hM1 (hv:=.slice (some ⟨w.heap.size,0,none⟩) len len) (w':={ w with heap:=w.heap.push (.cells arr' e) }) ?_ rfl rfl rfl (by simp) (fun b hb=>push_old w _ hb) (fun g hg=>by cases hg;exact Nat.le_refl _) rfl ?_ hdk
 ·have e3:Instr.fill (fun i_1=>some (i_1 * i.size,i.size)) (madeCells zv.cells (len * i.size)) (ps.map fun (x:Nat×Operand)=>(x.1,a.eval x.2)).toList=some arr':=by
   have hmap:(ps.map fun (x:Nat×Operand)=>(x.1,a.eval x.2)).toList=ps.toList.map fun q=>(q.1,a.eval q.2):=by simp
   rw [hmap];exact f3
  have hle:¬(len * i.size>2 ^ 24):=by omega
  by_cases h0:len * i.size=0
  ·have hl0:len=0:=by
    rcases Nat.mul_eq_zero.1 h0 with h | h
    ·exact h
    ·omega
   subst hl0
   have e6:Instr.fill (fun i_1=>some (i_1 * i.size,i.size)) #[] (ps.toList.map fun q=>(q.1,a.eval q.2))=some arr':=by simpa [madeCells,Array.range_zero'] using f3
   have e7:(Array.range 0).map (fun _:Nat=>(default:Value)) = #[]:=by simp
   simp only [execOp,ho,Instr.buildSlice,Sem.run_bind,run_underlying hu,sizeOf,typeInfo,run_program,Result.andThen_ok,hi,Sem.run_pure]
   simp [e6,Go.newRow,Array.range_zero']
  ·unfold madeCells at e3
   simp only [execOp,ho,Instr.buildSlice,Sem.run_bind,run_underlying hu,sizeOf,typeInfo,run_program,Result.andThen_ok,hi,Sem.run_pure]
   simp only [hle,if_false,h0,Sem.run_bind,zeroValue,typeInfo,run_program,Result.andThen_ok,hi,h1,Sem.run_pure,e3]
   simp [Go.newRow]
 ·refine ⟨h3,f5.wid,arr'.toList,⟨by rw [f5.len],.inr ⟨w.heap.size,len,arr',by rw [hlen],Nat.zero_le _,by simp,by omega,?_,hasz,?_⟩⟩,f5.one,f5.rep⟩
  ·have:len≤16777216:=Nat.le_trans (Nat.le_mul_of_pos_right _ h3) c2
   simp only [maxLen];omega
  ·rw [List.take_of_length_le (by rw [Array.length_toList,hasz,hlen];exact Nat.le_refl _)]
end
end Go.Proofs.YtlelaenalbkbmaaDoorV