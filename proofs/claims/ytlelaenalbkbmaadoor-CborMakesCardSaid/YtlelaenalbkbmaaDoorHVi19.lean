/- The value interpreter: a region whose order is drawn. -/
import Derived.Test.YtlelaenalbkbmaaDoorHVi17
namespace Go.Proofs.YtlelaenalbkbmaaDoorV
open Go
set_option linter.unusedVariables false
set_option linter.unusedSimpArgs false
theorem ddup_mem {j:Nat}:∀ l:List Nat,j∈ddup l→j∈l
 | [],h=>by cases h
 | x::l,h=>by
   have h':j∈ins1 x (ddup l):=h
   unfold ins1 at h'
   cases hc:(ddup l).contains x<;>rw [hc] at h'<;>simp only [cond_true,cond_false] at h'
   ·rcases List.mem_cons.1 h' with rfl | h'
    ·exact List.mem_cons_self ..
    ·exact List.mem_cons_of_mem _ (ddup_mem l h')
   ·exact List.mem_cons_of_mem _ (ddup_mem l h')
theorem predsGo_spec:∀ (l:List Oper) (acc:List (List Nat)),(∀ i,i<acc.length→(predsGo acc l)[i]?=acc[i]?)∧∀ (k:Nat) o,l[k]?=some o→∀ j∈(predsGo acc l).getD (acc.length+k) [],∃ e∈o.after,Region.binds .any e=true∧(j=e.on∨j∈(predsGo acc l).getD e.on [])
 | [],acc=>⟨fun i h=>rfl,by simp⟩
 | o::l,acc=>by
   simp only [predsGo]
   obtain ⟨h1,h2⟩:=predsGo_spec l (acc++[ddup ((o.after.toList.filter (Region.binds .any)).flatMap fun e=>e.on::acc.getD e.on [])])
   refine ⟨fun i hi => ?_,fun k o' hk j hj => ?_⟩
   ·rw [h1 i (by simp;omega),List.getElem?_append_left hi]
   ·cases k with
    | zero =>
      simp at hk
      subst hk
      rw [List.getD_eq_getElem?_getD,Nat.add_zero,h1 acc.length (by simp),List.getElem?_append_right (Nat.le_refl _),Nat.sub_self,List.getElem?_cons_zero,Option.getD_some] at hj
      replace hj:=ddup_mem _ hj
      simp at hj
      obtain ⟨e,⟨he1,he2⟩,he3⟩:=hj
      refine ⟨e,he1,he2,?_⟩
      rcases he3 with rfl | he3
      ·exact .inl rfl
      ·right
       rw [List.getD_eq_getElem?_getD,h1 e.on ?_]
       ·cases hx:acc[e.on]? with
        | none=>rw [hx] at he3;simp at he3
        | some q =>
          rw [hx] at he3
          rw [List.getElem?_append_left (List.getElem?_eq_some_iff.1 hx).1,hx]
          simpa using he3
       ·cases hx:acc[e.on]? with
        | none=>rw [hx] at he3;simp at he3
        | some q=>have:=(List.getElem?_eq_some_iff.1 hx).1;simp;omega
    | succ k =>
      have:=h2 k o' (by simpa using hk) j
      simp only [List.length_append,List.length_cons,List.length_nil,Nat.zero_add] at this
      rw [show acc.length+1+k=acc.length+(k+1) from by omega] at this
      exact this hj
theorem preds_mem {l:List Oper} {i j:Nat} {o:Oper} (ho:l[i]?=some o) (hj:j∈(preds l).getD i []):∃ e∈o.after,Region.binds .any e=true∧(j=e.on∨j∈(preds l).getD e.on []):=by
 have:=(predsGo_spec l []).2 i o ho j
 simp only [List.length_nil,Nat.zero_add] at this
 exact this hj
section
variable {P:Program} {w0:World} {fp:Nat→Prop} {S0:Base} {σ σ':St} {a:Act} {w:World} {β:Nat→Value} {S:Nat→Prop} {o:Oper} {call:CallF} {h:Hints} {ops:Array Oper}
theorem meets_false {a b:List Nat} (hm:meets a b=false):∀ id∈a,id ∉ b:=by
 intro id h1 h2
 unfold meets at hm
 have:=List.any_eq_false.1 hm id h1
 simp [h2] at this
theorem draw_ok (hcall:CallOk P call) (hm:P.follows .mixedOrders=true) {es:List (Option Eff)} (he:execOps P call h ops ops.toList σ=some (σ',es)) (hs:slotsOk ops=true) (hf:effsOk ops es=true) (I:Inv w0 fp S0 σ a w β S) {ro:Option Nat} {n:Nat} {id:Nat} {Q:Exit→Act→World→Prop}
  (hQ:∀ a' w' β' S',Inv w0 fp S0 σ' a' w' β' S'→Q .normal a' w'):(Code.region id ops true).wpIn (FF ro) n P Q a w:=by
 obtain ⟨T,hT1,hT2,hT3,hT4⟩:=exec_trace _ _ _ he
 have hTl:T.length=ops.size:=by rw [←Array.length_toList,←hT1];simp
 have hop:∀ (i:Nat) o,ops[i]?=some o→∃ x,T[i]?=some x∧x.o=o:=fun i o ho=>by
  have:ops.toList[i]?=some o:=by simpa using ho
  rw [←hT1,List.getElem?_map,Option.map_eq_some_iff] at this
  exact this
 have hop':∀ (i:Nat) x,T[i]?=some x→ops[i]?=some x.o∧i<ops.size:=fun i x hx=>by
  have:ops.toList[i]?=some x.o:=by rw [←hT1,List.getElem?_map,hx];rfl
  exact ⟨by simpa using this,by rw [←hTl];exact (List.getElem?_eq_some_iff.1 hx).1⟩
 simp only [slotsOk,Bool.and_eq_true] at hs
 obtain ⟨⟨hs1,hs2⟩,hs3⟩:=hs
 have edge:∀ (i:Nat) o,ops[i]?=some o→∀ e∈o.after,Region.binds .any e=true→e.on<i:=fun i o ho e he hb=>by
  have h1:ops.toList.zipIdx[i]?=some (o,i):=by
   rw [List.getElem?_zipIdx]
   have:ops.toList[i]?=some o:=by simpa using ho
   rw [this];simp
  have:=(List.all_eq_true.1 hs2) (o,i) (List.mem_of_getElem? h1)
  have:=(Array.all_eq_true_iff_forall_mem.1 this) e he
  simpa [hb] using this
 have apart:∀ (i j:Nat) x y,i<j→T[i]?=some x→T[j]?=some y→i ∉ (preds ops.toList).getD j []→x.o.apart ops y.o=true:=fun i j x y hij hx hy hn=>by
  have h1:=(List.all_eq_true.1 hs3) j (List.mem_range.2 (hop' j y hy).2)
  have h2:=(List.all_eq_true.1 h1) i (List.mem_range.2 hij)
  rw [(hop' i x hx).1,(hop' j y hy).1] at h2
  simp only [Bool.or_eq_true,List.contains_eq_mem,decide_eq_true_eq] at h2
  exact h2.resolve_left hn
 simp only [effsOk,Bool.and_eq_true] at hf
 obtain ⟨hf1,hf2⟩:=hf
 have eff:∀ (i:Nat) x,T[i]?=some x→∃ F,footOf (run σ (T.take i)) x.o=some F∧es[i]?=some (some ⟨F,x.u.map (·.1)⟩):=fun i x hx=>by
  obtain ⟨_,_,h3⟩:=hT4 i x hx
  have:=(List.all_eq_true.1 hf1) _ (List.mem_of_getElem? h3)
  unfold effOf at this h3
  cases hr:footOf (run σ (T.take i)) x.o with
  | none=>rw [hr] at this;simp at this
  | some F=>rw [hr] at h3;exact ⟨F,rfl,h3⟩
 have clash:∀ (i j:Nat) x y F G,i<j→T[i]?=some x→T[j]?=some y→i ∉ (preds ops.toList).getD j []→es[i]?=some (some ⟨F,x.u.map (·.1)⟩)→es[j]?=some (some ⟨G,y.u.map (·.1)⟩) →
   (∀ id∈x.u.map (·.1),id ∉ G∧id ∉ y.u.map (·.1))∧∀ id∈y.u.map (·.1),id ∉ F:=fun i j x y F G hij hx hy hn e1 e2=>by
  simp only [Bool.or_eq_true] at hf2
  rcases hf2 with hf2 | hf2
  ·have h1:=(List.all_eq_true.1 hf2) _ (List.mem_of_getElem? e1)
   have h2:=(List.all_eq_true.1 hf2) _ (List.mem_of_getElem? e2)
   simp only [List.isEmpty_iff] at h1 h2
   rw [h1,h2]
   exact ⟨fun id h=>by (cases h),fun id h=>by (cases h)⟩
  ·have h1:=(List.all_eq_true.1 hf2) j (List.mem_range.2 (hop' j y hy).2)
   have h2:=(List.all_eq_true.1 h1) i (List.mem_range.2 hij)
   rw [e1,e2] at h2
   simp only [Bool.or_eq_true,List.contains_eq_mem,decide_eq_true_eq] at h2
   have h3:=h2.resolve_left hn
   simp only [effClash,Bool.not_eq_true',Bool.or_eq_false_iff] at h3
   obtain ⟨⟨c1,c2⟩,c3⟩:=h3
   exact ⟨fun id h=>⟨meets_false c1 id h,meets_false c2 id h⟩,meets_false c3⟩
 have key_iff:∀ (u:List (Nat×O)) id,(getM u id).isSome=true↔id∈u.map (·.1):=fun u id=>getM_keys
 have main:∀ (fuel:Nat) (rem:List Nat) (listed:Array Bool) (a:Act) (w:World) (β:Nat→Value) (S:Nat→Prop),rem.length=fuel→rem.Nodup→(∀ i,i∈rem→i<ops.size)→(∀ i,i<ops.size→(i∈rem↔listed.getD i true=false))→listed.size=ops.size →
   (∀ i,listed.getD i false=true→∀ j∈(preds ops.toList).getD i [],listed.getD j false=true)→Inv w0 fp S0 (app (fun i=>listed.getD i false) 0 T σ) a w β S→wpAnyIn (FF ro) n P .any ops Q fuel listed a w:=by
  intro fuel
  induction fuel with
  | zero =>
    intro rem listed a w β S hlen hnd hlt hrem hsz hcl I
    have hr0:rem=[]:=List.eq_nil_of_length_eq_zero hlen
    subst hr0
    have hall:∀ i,i<ops.size→listed.getD i false=true:=fun i hi=>by
     have h1:listed.getD i true≠false:=fun e=>by have:=(hrem i hi).2 e;cases this
     have hi':i<listed.size:=by omega
     simp [hi'] at h1 ⊢
     exact h1
    refine ⟨?_,?_⟩
    ·refine List.eq_nil_iff_forall_not_mem.2 fun i hi => ?_
     obtain ⟨h1,o,ho,_⟩:=mem_ready.1 hi
     have:=(hrem i (by have:=(Array.getElem?_eq_some_iff.1 ho).1;exact this)).2 h1
     cases this
    ·refine hQ a w β S (I.eqv ?_)
     rw [hT3]
     have e1:=run_eq_app T T.length 0 σ
     rw [List.take_length] at e1
     rw [e1]
     refine ⟨by rw [app_n,app_n],fun t => ?_,fun id => ?_⟩
     ·rw [getF_app,getF_app,lastF_congr (L':=fun j=>decide (j<0+T.length)) T 0 fun j x hx _=>by
       have:=(hop' j x hx).2
       simp only [Nat.zero_add,hall j this,hTl,this,decide_true]]
     ·rw [getM_app,getM_app,lastM_congr (L':=fun j=>decide (j<0+T.length)) T 0 fun j x hx _=>by
       have:=(hop' j x hx).2
       simp only [Nat.zero_add,hall j this,hTl,this,decide_true]]
  | succ fuel ih =>
    intro rem listed a w β S hlen hnd hlt hrem hsz hcl I
    have hne:Region.ready .any ops listed≠[]:=by
     intro h0
     have none:∀ k,k ∉ rem:=by
      intro k
      induction k using Nat.strongRecOn with
      | _ k ihk =>
        intro hk
        have hkl:=hlt k hk
        have hko:ops[k]?=some ops[k]:=Array.getElem?_eq_getElem hkl
        have:k∈Region.ready .any ops listed:=mem_ready.2 ⟨(hrem k hkl).1 hk,ops[k],hko,fun e he hb=>by
         have hlt2:=edge k _ hko e he hb
         have hn:=ihk e.on hlt2
         have hes:e.on<ops.size:=by omega
         have h1:listed.getD e.on true≠false:=fun q=>hn ((hrem e.on hes).2 q)
         have hi':e.on<listed.size:=by omega
         simp [hi'] at h1 ⊢
         exact h1⟩
        rw [h0] at this
        cases this
     cases rem with
     | nil=>simp at hlen
     | cons x r=>exact none x (by simp)
    refine ⟨fun h0=>absurd h0 hne,fun i hi => ?_⟩
    obtain ⟨hun,o,ho,hall⟩:=mem_ready.1 hi
    have hil:i<ops.size:=(Array.getElem?_eq_some_iff.1 ho).1
    have hil':i<listed.size:=by omega
    obtain ⟨x,hx,rfl⟩:=hop i o ho
    have hLi:listed.getD i false=false:=by simp [hil'] at hun ⊢;exact hun
    have hpre:∀ j∈(preds ops.toList).getD i [],listed.getD j false=true:=fun j hj=>by
     obtain ⟨e,he1,he2,he3⟩:=preds_mem (by simpa using ho) hj
     have:=hall e he1 he2
     rcases he3 with rfl | he3
     ·exact this
     ·exact hcl e.on this j he3
    obtain ⟨hstep,hdk,_⟩:=hT4 i x hx
    obtain ⟨F,hF,heF⟩:=eff i x hx
    have hrun:run σ (T.take i)=app (fun j=>decide (j<0+i)) 0 T σ:=run_eq_app T i 0 σ
    have slotAgree:∀ t∈x.o.looksAt ops,getF (run σ (T.take i)).F t=getF (app (fun i=>listed.getD i false) 0 T σ).F t:=fun t ht=>by
     rw [hrun,getF_app,getF_app,lastF_congr (L':=fun i=>listed.getD i false) T 0 fun j y hy hd=>by
      simp only [Nat.zero_add]
      rcases Nat.lt_trichotomy j i with hj | rfl | hj
      ·rw [decide_eq_true hj]
       cases hL:listed.getD j false with
       | true=>rfl
       | false =>
         have:=apart j i y x hj hy hx fun hp=>by rw [hpre j hp] at hL;cases hL
         exact absurd ht ((Oper.apart_spec this).1 t hd)
      ·rw [hLi];simp
      ·rw [decide_eq_false (by omega)]
       cases hL:listed.getD j false with
       | false=>rfl
       | true =>
         have:=apart i j x y hj hx hy fun hp=>by rw [hcl j hL i hp] at hLi;cases hLi
         exact absurd ht ((Oper.apart_spec this).2.2 t hd)]
    have objAgree:∀ id,id∈F∨id∈x.u.map (·.1)→getM (run σ (T.take i)).M id=getM (app (fun i=>listed.getD i false) 0 T σ).M id:=fun id hid=>by
     rw [hrun,getM_app,getM_app,lastM_congr (L':=fun i=>listed.getD i false) T 0 fun j y hy hd=>by
      simp only [Nat.zero_add]
      have hd:=(key_iff _ _).1 hd
      obtain ⟨G,hG,heG⟩:=eff j y hy
      rcases Nat.lt_trichotomy j i with hj | rfl | hj
      ·rw [decide_eq_true hj]
       cases hL:listed.getD j false with
       | true=>rfl
       | false =>
         obtain ⟨c1,c2⟩:=clash j i y x G F hj hy hx (fun hp=>by rw [hpre j hp] at hL;cases hL) heG heF
         rcases hid with hid | hid
         ·exact absurd hid (c1 id hd).1
         ·exact absurd hid (c1 id hd).2
      ·rw [hLi];simp
      ·rw [decide_eq_false (by omega)]
       cases hL:listed.getD j false with
       | false=>rfl
       | true =>
         obtain ⟨c1,c2⟩:=clash i j x y F G hj hx hy (fun hp=>by rw [hcl j hL i hp] at hLi;cases hLi) heF heG
         rcases hid with hid | hid
         ·exact absurd hid (c2 id hd)
         ·exact absurd hd (c1 id hid).2]
    have hstep2:=stepG_congr (σ':=app (fun i=>listed.getD i false) 0 T σ) hstep slotAgree hF (fun id hid=>objAgree id (.inl hid)) (fun id hid=>objAgree id (.inr hid))
    unfold wpOpIn
    rw [ho]
    refine stepG_ok hcall I hstep2 (by rw [app_n];exact hdk) fun a' w' β' S' I'=>ih (rem.erase i) (listed.setIfInBounds i true) a' w' β' S' ?_ (hnd.erase i) (fun k hk=>hlt k (List.mem_of_mem_erase hk)) ?_ (by simpa using hsz) ?_ (I'.eqv ?_)
    ·rw [List.length_erase_of_mem ((hrem i hil).2 hun),hlen];rfl
    ·intro k hk
     rw [hnd.mem_erase_iff,hrem k hk]
     by_cases e:k=i
     ·subst e;simp [hil']
     ·rw [getD_set_ne true (fun q=>e q.symm)]
      exact ⟨fun h=>h.2,fun h=>⟨e,h⟩⟩
    ·intro k hk j hj
     have get:∀ q,(listed.setIfInBounds i true).getD q false=if q=i then true else listed.getD q false:=fun q=>by
      by_cases e:q=i
      ·subst e;simp [hil']
      ·rw [if_neg e,getD_set_ne false (fun q=>e q.symm)]
     rw [get] at hk ⊢
     by_cases ej:j=i
     ·rw [if_pos ej]
     ·rw [if_neg ej]
      by_cases ek:k=i
      ·subst ek;exact hpre j hj
      ·rw [if_neg ek] at hk;exact hcl k hk j hj
    ·have get:∀ q,(listed.setIfInBounds i true).getD q false=if q=i then true else listed.getD q false:=fun q=>by
      by_cases e:q=i
      ·subst e;simp [hil']
      ·rw [if_neg e,getD_set_ne false (fun q=>e q.symm)]
     refine ⟨by rw [app_n];simp only [St.put,app_n],fun t => ?_,fun id => ?_⟩
     ·rw [getF_app T 0 σ t]
      by_cases hd:x.o.dst=some t
      ·rw [lastF_at T 0 i x hx (by simp only [Nat.zero_add];rw [get];simp) hd fun j y hj hy hdy=>by
        simp only [Nat.zero_add]
        rw [get,if_neg (by omega)]
        cases hL:listed.getD j false with
        | false=>rfl
        | true =>
          have:=apart i j x y hj hx hy fun hp=>by rw [hcl j hL i hp] at hLi;cases hLi
          exact absurd hdy ((Oper.apart_spec this).2.1 t hd)]
       simp only [St.put,hd,getF,if_true]
      ·have:getF ((app (fun i=>listed.getD i false) 0 T σ).put x.o.dst x.v x.u).F t=getF (app (fun i=>listed.getD i false) 0 T σ).F t:=by
        simp only [St.put]
        cases hdd:x.o.dst with
        | none=>rfl
        | some d=>simp only [getF];rw [if_neg fun e=>hd (by rw [hdd,e])]
       rw [this,getF_app,lastF_congr (L':=fun i_1=>(listed.setIfInBounds i true).getD i_1 false) T 0 fun j y hy hdy=>by
        simp only [Nat.zero_add]
        rw [get]
        by_cases e:j=i
        ·subst e;rw [hx] at hy;cases hy;exact absurd hdy hd
        ·rw [if_neg e]]
     ·rw [getM_app T 0 σ id]
      simp only [St.put,getM_append]
      cases hd:getM x.u id with
      | some q =>
        rw [lastM_at T 0 i x hx (by simp only [Nat.zero_add];rw [get];simp) hd fun j y hj hy hdy=>by
         simp only [Nat.zero_add]
         rw [get,if_neg (by omega)]
         cases hL:listed.getD j false with
         | false=>rfl
         | true =>
           obtain ⟨G,hG,heG⟩:=eff j y hy
           obtain ⟨c1,c2⟩:=clash i j x y F G hj hx hy (fun hp=>by rw [hcl j hL i hp] at hLi;cases hLi) heF heG
           exact absurd ((key_iff _ _).1 hdy) (c1 id ((key_iff _ _).1 (by rw [hd];rfl))).2]
      | none =>
        simp only []
        rw [getM_app,lastM_congr (L':=fun i_1=>(listed.setIfInBounds i true).getD i_1 false) T 0 fun j y hy hdy=>by
         simp only [Nat.zero_add]
         rw [get]
         by_cases e:j=i
         ·subst e;rw [hx] at hy;cases hy;rw [hd] at hdy;cases hdy
         ·rw [if_neg e]]
 refine wpIn_region_any hm (main ops.size (List.range ops.size) (Array.replicate ops.size false) a _ β S (by simp) List.nodup_range (fun i hi=>by simpa using hi) (fun i hi=>by simp [hi]) (by simp) (fun i hi => ?_) ?_)
 ·rw [Array.getD_eq_getD_getElem?,Array.getElem?_replicate] at hi
  split at hi<;>cases hi
 ·refine (I.drew (w.drawn+1)).eqv ?_
  refine ⟨by rw [app_n],fun t => ?_,fun id => ?_⟩
  ·rw [getF_app,lastF_none T 0 fun j x hx _=>by
    rw [Array.getD_eq_getD_getElem?,Array.getElem?_replicate]
    split<;>rfl]
  ·rw [getM_app,lastM_none T 0 fun j x hx _=>by
    rw [Array.getD_eq_getD_getElem?,Array.getElem?_replicate]
    split<;>rfl]
end
end Go.Proofs.YtlelaenalbkbmaaDoorV