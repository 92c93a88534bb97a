/- The value interpreter: kinds of effects. -/
import Derived.Test.YtlelaenalbkbmaaDoorHVi7
namespace Go.Proofs.YtlelaenalbkbmaaDoorV
open Go
set_option linter.unusedVariables false
set_option linter.unusedSimpArgs false
section
variable {P:Program} {w0:World} {fp:Nat→Prop} {S0:Base} {σ:St} {a:Act} {w:World} {β:Nat→Value} {S:Nat→Prop} {o:Oper}
theorem UpdOk.pure (I:Inv w0 fp S0 σ a w β S) {v:V} {v':Value} (hr:Rep w β S v v') (hc:∀ id∈v.ids,(getM σ.M id).isSome=true):UpdOk w0 fp σ w β S v [] v' w β S where
 new:=fun id=>.inl rfl
 os:=rfl
 tape:=rfl
 output:=rfl
 grow:=Nat.le_refl _
 touch:=fun b hb=>.inl rfl
 S1:=fun b h=>h
 S2:=I.Slt
 S4:=fun b h=>.inl h
 objs:=fun id o h=>by cases h
 own:=fun id o g h=>by cases h
 fro:=fun id m e rows g h=>by cases h
 inj:=fun i j o o' g h=>by cases h
 closedM:=fun i o h=>by cases h
 rep:=hr
 closedV:=fun id hid=>.inr (hc id hid)
def upd (β:Nat→Value) (d:Nat) (h:Value):Nat→Value:=fun i=>if i=d then h else β i
theorem upd_same (β:Nat→Value) (d:Nat) (h:Value):upd β d h d=h:=by simp [upd]
theorem upd_ne (β:Nat→Value) {d i:Nat} (h:Value) (hne:i≠d):upd β d h i=β i:=by simp [upd,hne]
theorem getM_one {d id:Nat} {o o':O} (h:getM [(d,o)] id=some o'):id=d∧o'=o:=by
 simp only [getM] at h
 split at h<;>simp at h
 rename_i e
 exact ⟨e.symm,h.symm⟩
theorem UpdOk.create (I:Inv w0 fp S0 σ a w β S) {d:Nat} (hd:getM σ.M d=none) {o:O} {hv:Value} {w':World} (hos:w'.os=w.os) (htape:w'.tape=w.tape) (hout:w'.output=w.output)
  (hgrow:w.heap.size≤w'.heap.size) (hh:∀ b,b<w.heap.size→w'.heap[b]?=w.heap[b]?) (hblk:∀ g,blk hv=some g→w.heap.size≤g) (hown:o.isOwn=true)
  (ho:ORep w' (upd β d hv) S d o) (hids:∀ id∈o.ids,(getM σ.M id).isSome=true) {v:V} {v':Value} (hr:Rep w' (upd β d hv) S v v') (hvc:∀ id∈v.ids,id=d∨(getM σ.M id).isSome=true) :
  UpdOk w0 fp σ w β S v [(d,o)] v' w' (upd β d hv) S where
 new:=fun id=>by
  by_cases h:id=d
  ·subst h;exact .inr hd
  ·exact .inl (upd_ne β hv h)
 os:=hos
 tape:=htape
 output:=hout
 grow:=hgrow
 touch:=fun b hb=>.inl (hh b hb)
 S1:=fun b h=>h
 S2:=fun b h=>Nat.lt_of_lt_of_le (I.Slt b h) hgrow
 S4:=fun b h=>.inl h
 objs:=fun id o' h=>by obtain ⟨rfl,rfl⟩:=getM_one h;exact ho
 own:=fun id o' g h h1 h2=>by
  obtain ⟨rfl,rfl⟩:=getM_one h
  rw [upd_same] at h2
  have:=hblk g h2
  exact ⟨fun hS=>by have:=I.Slt g hS;omega,.inl this⟩
 fro:=fun id m e rows g h=>by obtain ⟨_,rfl⟩:=getM_one h;cases hown
 inj:=fun i j o1 o2 g h1 h2 _ _ _ _=>by rw [(getM_one h1).1,(getM_one h2).1]
 closedM:=fun i o' h id hid=>by obtain ⟨_,rfl⟩:=getM_one h;exact .inr (hids id hid)
 rep:=hr
 closedV:=fun id hid=>by
  rcases hvc id hid with rfl | h
  ·exact .inl (by simp [getM])
  ·exact .inr h
theorem UpdOk.write (I:Inv w0 fp S0 σ a w β S) {id:Nat} {o0 o1:O} (h0:getM σ.M id=some o0) (own0:o0.isOwn=true) (own1:o1.isOwn=true) {w':World} (hos:w'.os=w.os) (htape:w'.tape=w.tape) (hout:w'.output=w.output)
  (hgrow:w'.heap.size=w.heap.size) (hh:∀ b,blk (β id)≠some b→w'.heap[b]?=w.heap[b]?) (ho:ORep w' β S id o1) (hids:∀ i∈o1.ids,(getM σ.M i).isSome=true)
  {v:V} {v':Value} (hr:Rep w' β S v v') (hvc:∀ i∈v.ids,(getM σ.M i).isSome=true):UpdOk w0 fp σ w β S v [(id,o1)] v' w' β S where
 new:=fun _=>.inl rfl
 os:=hos
 tape:=htape
 output:=hout
 grow:=Nat.le_of_eq hgrow.symm
 touch:=fun b hb=>by
  by_cases h:blk (β id)=some b
  ·exact .inr ⟨id,o0,h0,own0,h,by simp [getM]⟩
  ·exact .inl (hh b h)
 S1:=fun b h=>h
 S2:=fun b h=>by rw [hgrow];exact I.Slt b h
 S4:=fun b h=>.inl h
 objs:=fun i o' h=>by obtain ⟨rfl,rfl⟩:=getM_one h;exact ho
 own:=fun i o' g h h1 h2=>by
  obtain ⟨rfl,rfl⟩:=getM_one h
  exact ⟨(I.own i o0 g h0 own0 h2).1,.inr ⟨i,o0,h0,own0,h2,by simp [getM]⟩⟩
 fro:=fun i m e rows g h=>by obtain ⟨_,rfl⟩:=getM_one h;cases own1
 inj:=fun i j o1 o2 g h1 h2 _ _ _ _=>by rw [(getM_one h1).1,(getM_one h2).1]
 closedM:=fun i o' h i' hid=>by obtain ⟨_,rfl⟩:=getM_one h;exact .inr (hids i' hid)
 rep:=hr
 closedV:=fun i hi=>.inr (hvc i hi)
def FrzOk (σ:St) (u:List (Nat×O)):Prop:=∀ id o,getM u id=some o→∃ own m e rows,getM σ.M id=some (.row own m e rows)∧o=.row false m e rows
def frS (β:Nat→Value) (S:Nat→Prop) (u:List (Nat×O)):Nat→Prop:=fun b=>S b∨∃ id,(getM u id).isSome=true∧blk (β id)=some b
theorem UpdOk.freeze (I:Inv w0 fp S0 σ a w β S) {u:List (Nat×O)} (hu:FrzOk σ u) (v':Value):UpdOk w0 fp σ w β S .bad u v' w β (frS β S u) where
 new:=fun _=>.inl rfl
 os:=rfl
 tape:=rfl
 output:=rfl
 grow:=Nat.le_refl _
 touch:=fun _ _=>.inl rfl
 S1:=fun _ h=>.inl h
 S2:=fun b h=>by
  rcases h with h | ⟨id,h1,h2⟩
  ·exact I.Slt b h
  ·obtain ⟨o,ho⟩:=Option.isSome_iff_exists.1 h1
   obtain ⟨own,m,e,rows,h3,_⟩:=hu id o ho
   obtain ⟨_,_,xs,h4,_⟩:=I.objs id _ h3
   exact ownsRow_lt h4 h2
 S4:=fun b h=>by
  rcases h with h | ⟨id,h1,h2⟩
  ·exact .inl h
  ·obtain ⟨o,ho⟩:=Option.isSome_iff_exists.1 h1
   obtain ⟨own,m,e,rows,h3,_⟩:=hu id o ho
   cases own with
   | true=>exact .inr (.inr ⟨id,_,h3,rfl,h2,h1⟩)
   | false=>exact .inl (I.fro id m e rows b h3 h2)
 objs:=fun id o h=>by
  obtain ⟨own,m,e,rows,h3,rfl⟩:=hu id o h
  have:=(I.objs id _ h3).mono (S':=frS β S u) (β':=β) (w':=w) (fun _ _=>rfl) (fun _ h=>.inl h) (fun _ _ _=>rfl) rfl (fun _ _=>rfl)
  exact this
 own:=fun id o g h h1=>by obtain ⟨own,m,e,rows,h3,rfl⟩:=hu id o h;cases h1
 fro:=fun id m e rows g h hg=>.inr ⟨id,by rw [h];rfl,hg⟩
 inj:=fun i j o o' g h1 _ h3=>by obtain ⟨own,m,e,rows,h4,rfl⟩:=hu i o h1;cases h3
 closedM:=fun i o h id hid=>by obtain ⟨own,m,e,rows,h3,rfl⟩:=hu i o h;cases hid
 rep:=.bad _
 closedV:=fun id hid=>by cases hid
theorem row_data (I:Inv w0 fp S0 σ a w β S) {id:Nat} {own:Bool} {m:Nat} {e:TypeId} {rows:List (List V)} (hM:getM σ.M id=some (.row own m e rows)) {S':Nat→Prop} (hS:∀ b,S b→S' b)
  (hb:∀ g,blk (β id)=some g→S' g) (off n c:Nat) (ad:Option Addr) (hle:off+n≤rows.length) (hc:n≤c) (ha:0<n→∃ g N C,β id=.slice (some ⟨g,0,none⟩) N C∧ad=some ⟨g,off * m,none⟩) :
  RepD w S' (.sl m ((rows.drop off).take n)) (.slice ad n c):=by
 obtain ⟨hm0,hw,xs,hown,hone,hcell⟩:=I.objs id _ hM
 have hl:((rows.drop off).take n).length=n:=by rw [List.length_take,List.length_drop];omega
 by_cases h0:n=0
 ·subst h0
  simpa using RepD.sl0 (w:=w) (S:=S') m ad c
 ·obtain ⟨g,N,C,hβ,rfl⟩:=ha (by omega)
  have key:∀ (k:Nat) r,((rows.drop off).take n)[k]?=some r→rows[off+k]?=some r:=fun k r hk=>by
   rw [List.getElem?_take] at hk
   split at hk
   ·rwa [List.getElem?_drop] at hk
   ·cases hk
  have hex:∀ kj:Nat×Nat,∃ v:Value,∀ r x,rows[off+kj.1]?=some r→r[kj.2]?=some x→w.cell? ⟨g,off * m+kj.1 * m+kj.2,none⟩=some v∧v.oneCell'=true∧RepD w S x v:=fun ⟨k,j⟩=>by
   by_cases h:∃ r x,rows[off+k]?=some r∧r[j]?=some x
   ·obtain ⟨r,x,h1,h2⟩:=h
    obtain ⟨v,h3,h4⟩:=hcell (off+k) r j x h1 h2
    refine ⟨v,fun r' x' h1' h2' => ?_⟩
    simp only at h1' h2'
    rw [h1] at h1';cases h1'
    rw [h2] at h2';cases h2'
    refine ⟨?_,hone v (List.mem_of_getElem? h3),h4⟩
    have:=hown.cells (g:=g) (by rw [hβ];rfl) _ v h3
    rw [Addr.add_lit] at this
    rw [←this]
    congr 2
    simp only [Nat.add_mul];omega
   ·exact ⟨undef,fun r x h1 h2=>absurd ⟨r,x,h1,h2⟩ h⟩
  obtain ⟨f,hf⟩:=Classical.axiomOfChoice hex
  have:=RepD.sl (w:=w) (S:=S') m ((rows.drop off).take n) g (off * m) c (fun k j=>f (k,j)) (hb g (by rw [hβ];rfl)) (by omega)
   (fun r hr=>hw r (List.mem_of_mem_drop (List.mem_of_mem_take hr)))
   (fun k r j x hk hj=>(hf (k,j) r x (key k r hk) hj).1) (fun k r j x hk hj=>(hf (k,j) r x (key k r hk) hj).2.1)
   (fun k r j x hk hj=>((hf (k,j) r x (key k r hk) hj).2.2).mono (fun _ _=>rfl) hS)
  rwa [hl] at this
theorem frz_ok (I:Inv w0 fp S0 σ a w β S) {x y:V} {u:List (Nat×O)} {v:Value} (h:frz σ x=some (y,u)) (hr:Rep w β S x v):FrzOk σ u∧v.oneCell'=true∧RepD w (frS β S u) y v:=by
 have lift:∀ {y:V},RepD w S y v→RepD w (frS β S u) y v:=fun h=>h.mono (fun _ _=>rfl) fun _ h=>.inl h
 have one:∀ {id:Nat} {own:Bool} {m:Nat} {e:TypeId} {rows:List (List V)},getM σ.M id=some (.row own m e rows)→FrzOk σ [(id,.row false m e rows)]:=fun {id own m e rows} hM i o hi=>by
  obtain ⟨rfl,rfl⟩:=getM_one hi
  exact ⟨own,m,e,rows,hM,rfl⟩
 cases x<;>simp only [frz] at h<;>try (cases h;done)
 case p q =>
  split at h<;>simp at h
  rename_i h1
  obtain ⟨rfl,rfl⟩:=h
  have e:=rep_p hr
  subst e
  exact ⟨fun _ _ h=>by (cases h),h1,.p v⟩
 case nil =>
  cases h
  have e:=rep_nil hr
  subst e
  exact ⟨fun _ _ h=>by (cases h),rfl,.nil⟩
 case sl m rows =>
  cases h
  cases hr with
  | d hr=>exact ⟨fun _ _ h=>by (cases h),by cases hr<;>rfl,lift hr⟩
 case own id =>
  split at h<;>try (cases h;done)
  rename_i own m e rows hM
  cases h
  have e:=rep_own hr
  subst e
  refine ⟨one hM,?_,?_⟩
  ·rcases own_row I hM with ⟨h1,_⟩ | ⟨g,cap,h1,_⟩<;>rw [h1]<;>rfl
  ·have hfr:∀ g,blk (β id)=some g→frS β S [(id,.row false m e rows)] g:=fun g hg=>.inr ⟨id,by simp [getM],hg⟩
   rcases own_row I hM with ⟨h1,rfl⟩ | ⟨g,cap,h1,h2⟩
   ·rw [h1];exact .sl0 _ _ _
   ·have:=row_data I hM (S':=frS β S [(id,.row false m e rows)]) (fun _ h=>.inl h) hfr 0 rows.length cap (some ⟨g,0,none⟩) (by omega) h2 (fun _=>⟨g,rows.length,cap,h1,by simp⟩)
    rw [h1]
    simpa using this
 case cut id m off n =>
  split at h<;>try (cases h;done)
  rename_i own m' e rows hM
  split at h<;>simp at h
  rename_i hc
  obtain ⟨rfl,hle⟩:=hc
  obtain ⟨rfl,rfl⟩:=h
  have hfr:∀ g,blk (β id)=some g→frS β S [(id,.row false m' e rows)] g:=fun g hg=>.inr ⟨id,by simp [getM],hg⟩
  cases hr with
  | d hr=>cases hr
  | cut _ _ _ _ g N C ad c hβ hc ha hr hn=>exact ⟨one hM,rfl,row_data I hM (fun _ h=>.inl h) hfr off n c ad hle hc fun h=>⟨g,N,C,hβ,ha (by omega)⟩⟩
  | cut0 _ _ _ _ _ ad c=>exact ⟨one hM,rfl,row_data I hM (fun _ h=>.inl h) hfr off 0 c ad hle (Nat.zero_le _) fun h=>absurd h (Nat.lt_irrefl _)⟩
theorem FrzOk.append {u u':List (Nat×O)} (h:FrzOk σ u) (h':FrzOk σ u'):FrzOk σ (u++u'):=fun id o ho=>by
 rw [getM_append] at ho
 cases hu:getM u id with
 | some o'=>simp only [hu] at ho;cases ho;exact h id _ hu
 | none=>simp only [hu] at ho;exact h' id o ho
theorem frS_left {u u':List (Nat×O)} (b:Nat) (h:frS β S u b):frS β S (u++u') b:=by
 rcases h with h | ⟨id,h1,h2⟩
 ·exact .inl h
 ·refine .inr ⟨id,?_,h2⟩
  rw [getM_append]
  cases hu:getM u id with
  | some _=>rfl
  | none=>rw [hu] at h1;cases h1
theorem frS_right {u u':List (Nat×O)} (b:Nat) (h:frS β S u' b):frS β S (u++u') b:=by
 rcases h with h | ⟨id,h1,h2⟩
 ·exact .inl h
 ·refine .inr ⟨id,?_,h2⟩
  rw [getM_append]
  cases hu:getM u id with
  | some _=>rfl
  | none=>exact h1
theorem frzL_ok (I:Inv w0 fp S0 σ a w β S):∀ (cs ys:List V) (u:List (Nat×O)) (l:List Value),frzL σ cs=some (ys,u)→(l.length=cs.length)→(∀ (i:Nat) x v,cs[i]?=some x→l[i]?=some v→Rep w β S x v) →
  FrzOk σ u∧ys.length=cs.length∧(∀ v∈l,v.oneCell'=true)∧∀ (i:Nat) y v,ys[i]?=some y→l[i]?=some v→RepD w (frS β S u) y v
 | [],ys,u,l,h,hl,_=>by
   have:l=[]:=List.eq_nil_of_length_eq_zero (by simpa using hl)
   subst this
   simp [frzL] at h
   obtain ⟨rfl,rfl⟩:=h
   exact ⟨fun _ _ h=>by (cases h),rfl,by simp,by simp⟩
 | c::r,ys,u,l,h,hl,hr=>by
   cases l with
   | nil=>simp at hl
   | cons v l =>
     simp only [frzL] at h
     split at h<;>simp at h
     rename_i x u1 y u2 h1 h2
     obtain ⟨rfl,rfl⟩:=h
     obtain ⟨a1,a2,a3⟩:=frz_ok I h1 (hr 0 c v (by simp) (by simp))
     obtain ⟨b1,b2,b3,b4⟩:=frzL_ok I r y u2 l h2 (by simpa using hl) fun i x v hx hv=>hr (i+1) x v (by simpa using hx) (by simpa using hv)
     refine ⟨a1.append b1,by simp [b2],?_,?_⟩
     ·intro q hq
      rcases List.mem_cons.1 hq with rfl | hq
      ·exact a2
      ·exact b3 q hq
     ·intro i z q hz hq
      cases i with
      | zero=>simp at hz hq;subst hz hq;exact a3.mono (fun _ _=>rfl) frS_left
      | succ i=>simp at hz hq;exact (b4 i z q hz hq).mono (fun _ _=>rfl) frS_right
end
end Go.Proofs.YtlelaenalbkbmaaDoorV