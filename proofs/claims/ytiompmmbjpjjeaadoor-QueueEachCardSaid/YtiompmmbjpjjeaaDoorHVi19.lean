/- The value interpreter: a region whose order is drawn. -/
import Derived.Test.YtiompmmbjpjjeaaDoorHVi17
namespace Go.Proofs.YtiompmmbjpjjeaaDoorV
open Go
set_option linter.unusedVariables false
set_option linter.unusedSimpArgs false
theorem ddup_mem {j:Nat}:∀ l:List Nat,j∈ddup l→j∈l
 | [],h=>by cases h
 | x::l,h=>by
   have h':j∈ins1 x (ddup l):=h
   unfold ins1 at h'
   cases hc:(ddup l).contains x<;>rw [hc] at h'<;>simp only [cond_true,cond_false] at h'
   ·rcases List.mem_cons.1 h' with rfl | h'
    ·exact List.mem_cons_self ..
    ·exact List.mem_cons_of_mem _ (ddup_mem l h')
   ·exact List.mem_cons_of_mem _ (ddup_mem l h')
theorem predsGo_spec:∀ (l:List Oper) (acc:List (List Nat)),(∀ i,i<acc.length→(predsGo acc l)[i]?=acc[i]?)∧∀ (k:Nat) o,l[k]?=some o→∀ j∈(predsGo acc l).getD (acc.length+k) [],∃ e∈o.after,Region.binds .any e=true∧(j=e.on∨j∈(predsGo acc l).getD e.on [])
 | [],acc=>⟨fun i h=>rfl,by simp⟩
 | o::l,acc=>by
   simp only [predsGo]
   obtain ⟨h1,h2⟩:=predsGo_spec l (acc++[ddup ((o.after.toList.filter (Region.binds .any)).flatMap fun e=>e.on::acc.getD e.on [])])
   refine ⟨fun i hi => ?_,fun k o' hk j hj => ?_⟩
   ·rw [h1 i (by simp;omega),List.getElem?_append_left hi]
   ·cases k with
    | zero =>
      simp at hk
      subst hk
      rw [List.getD_eq_getElem?_getD,Nat.add_zero,h1 acc.length (by simp),List.getElem?_append_right (Nat.le_refl _),Nat.sub_self,List.getElem?_cons_zero,Option.getD_some] at hj
      replace hj:=ddup_mem _ hj
      simp at hj
      obtain ⟨e,⟨he1,he2⟩,he3⟩:=hj
      refine ⟨e,he1,he2,?_⟩
      rcases he3 with rfl | he3
      ·exact .inl rfl
      ·right
       rw [List.getD_eq_getElem?_getD,h1 e.on ?_]
       ·cases hx:acc[e.on]? with
        | none=>rw [hx] at he3;simp at he3
        | some q =>
          rw [hx] at he3
          rw [List.getElem?_append_left (List.getElem?_eq_some_iff.1 hx).1,hx]
          simpa using he3
       ·cases hx:acc[e.on]? with
        | none=>rw [hx] at he3;simp at he3
        | some q=>have:=(List.getElem?_eq_some_iff.1 hx).1;simp;omega
    | succ k =>
      have:=h2 k o' (by simpa using hk) j
      simp only [List.length_append,List.length_cons,List.length_nil,Nat.zero_add] at this
      rw [show acc.length+1+k=acc.length+(k+1) from by omega] at this
      exact this hj
theorem preds_mem {l:List Oper} {i j:Nat} {o:Oper} (ho:l[i]?=some o) (hj:j∈(preds l).getD i []):∃ e∈o.after,Region.binds .any e=true∧(j=e.on∨j∈(preds l).getD e.on []):=by
 have:=(predsGo_spec l []).2 i o ho j
 simp only [List.length_nil,Nat.zero_add] at this
 exact this hj
section
variable {P:Program} {w0:World} {fp:Nat→Prop} {S0:Base} {σ σ':St} {a:Act} {w:World} {β:Nat→Value} {S:Nat→Prop} {o:Oper} {call:CallF} {h:Hints} {ops:Array Oper}
theorem meets_false {a b:List Nat} (hm:meets a b=false):∀ id∈a,id ∉ b:=by
 intro id h1 h2
 unfold meets at hm
 have:=List.any_eq_false.1 hm id h1
 simp [h2] at this
theorem lkOf_some {op:Op} {t:TypeId} (h:lkOf op=some t):∃ x k,op=.lookup t x k false:=by
 unfold lkOf at h
 split at h
 ·cases h;exact ⟨_,_,rfl⟩
 ·cases h
theorem peace_some {t:TypeId} {op:Op} (h:peace (some t) (enOf op)=true):∃ x k,op=.mapEntry t x k:=by
 unfold peace enOf at h
 split at h
 ·rename_i t1 t2 e1 e2
  cases e1
  split at e2
  ·cases e2
   simp only [beq_iff_eq] at h
   subst h
   exact ⟨_,_,rfl⟩
  ·cases e2
 ·cases h
theorem stepG_lookup_nil {t:TypeId} {x k:Operand} {v:V} {u:List (Nat×O)} (ho:o.op=.lookup t x k false) (h1:stepG P call h ops σ o=some (v,u)):u=[]:=by
 unfold stepG at h1
 split at h1<;>try (cases h1;done)
 ·simp only [step,ho] at h1
  rw [Option.map_eq_some_iff] at h1
  obtain ⟨_,_,h2⟩:=h1
  cases h2;rfl
 ·cases h1;rfl
theorem exists_m (W:Nat→Prop) (L:Nat→Bool) (i:Nat) (hA:∀ q,q<i→W q→L q=true) (hC:∀ q q',q<q'→W q→W q'→L q'=true→L q=true):∀ B,(∀ q,B≤q→W q→L q=false)→∃ m,i≤m∧∀ q,W q→L q=decide (q<m):=by
 intro B
 induction B with
 | zero =>
   intro hB
   refine ⟨i,Nat.le_refl _,fun q hq => ?_⟩
   by_cases h:q<i
   ·rw [hA q h hq,decide_eq_true h]
   ·rw [hB q (Nat.zero_le _) hq,decide_eq_false h]
 | succ B ih =>
   intro hB
   by_cases hBi:B+1≤i
   ·refine ⟨i,Nat.le_refl _,fun q hq => ?_⟩
    by_cases h:q<i
    ·rw [hA q h hq,decide_eq_true h]
    ·rw [hB q (by omega) hq,decide_eq_false h]
   by_cases hw:W B∧L B=true
   ·refine ⟨B+1,by omega,fun q hq => ?_⟩
    by_cases h:q<B+1
    ·rw [decide_eq_true h]
     by_cases e:q=B
     ·rw [e];exact hw.2
     ·exact hC q B (by omega) hq hw.1 hw.2
    ·rw [hB q (by omega) hq,decide_eq_false h]
   ·refine ih fun q hq hwq => ?_
    by_cases e:q=B
    ·subst e
     cases hL:L q with
     | false=>rfl
     | true=>exact absurd ⟨hwq,hL⟩ hw
    ·exact hB q (by omega) hwq
theorem run_take_succ (T:List Tr) (σ:St) (m:Nat):run σ (T.take (m+1))=match T[m]? with | some y=>(run σ (T.take m)).put y.o.dst y.v y.u | none=>run σ (T.take m):=by
 cases h:T[m]? with
 | none=>rw [List.take_of_length_le (by have:=List.getElem?_eq_none_iff.1 h;omega),List.take_of_length_le (List.getElem?_eq_none_iff.1 h)]
 | some y =>
   obtain ⟨h1,rfl⟩:=List.getElem?_eq_some_iff.1 h
   unfold run
   rw [List.take_succ_eq_append_getElem h1,List.foldl_append]
   rfl
theorem content_ext {T:List Tr} {es:List (Option Eff)} (hT4:∀ (i:Nat) x,T[i]?=some x→stepG P call h ops (run σ (T.take i)) x.o=some (x.v,x.u)∧dstOk σ.n x.o.dst=true∧es[i]?=some (effOf (run σ (T.take i)) x.o x.u)) {i id:Nat} {t:TypeId} {L:Nat→Bool}
  (hA:∀ q y,q<i→T[q]?=some y→(getM y.u id).isSome=true→L q=true) (hi:∀ y,T[i]?=some y→¬(getM y.u id).isSome=true)
  (hC:∀ q q' y y',q<q'→T[q]?=some y→T[q']?=some y'→(getM y.u id).isSome=true→(getM y'.u id).isSome=true→L q'=true→L q=true)
  (hB:∀ q y,i<q→T[q]?=some y→(getM y.u id).isSome=true→L q=true→∃ x k,y.o.op=.mapEntry t x k) :
  ObjExt P t (getM (run σ (T.take i)).M id) (getM (app L 0 T σ).M id):=by
 obtain ⟨m,hm,hL⟩:=exists_m (fun q=>∃ y,T[q]?=some y∧(getM y.u id).isSome=true) L i (fun q hq ⟨y,h1,h2⟩=>hA q y hq h1 h2) (fun q q' hq ⟨y,h1,h2⟩ ⟨y',h3,h4⟩ h5=>hC q q' y y' hq h1 h3 h2 h4 h5) T.length (fun q hq ⟨y,h1,h2⟩=>by
  rw [List.getElem?_eq_none hq] at h1;cases h1)
 have e2:getM (app L 0 T σ).M id=getM (run σ (T.take m)).M id:=by
  rw [run_eq_app T m 0 σ,getM_app,getM_app,lastM_congr (L':=fun j=>decide (j<0+m)) T 0 fun j y hy hd=>by
   simp only [Nat.zero_add]
   exact hL j ⟨y,hy,hd⟩]
 rw [e2]
 have chain:∀ d,i+d≤m→ObjExt P t (getM (run σ (T.take i)).M id) (getM (run σ (T.take (i+d))).M id):=by
  intro d
  induction d with
  | zero=>intro _;exact .inl rfl
  | succ d ih =>
    intro hd
    refine (ih (by omega)).trans ?_
    rw [show i+(d+1)=(i+d)+1 by omega,run_take_succ]
    cases hy:T[i+d]? with
    | none=>exact .inl rfl
    | some y =>
      dsimp only
      have hput:getM ((run σ (T.take (i+d))).put y.o.dst y.v y.u).M id=match getM y.u id with | some o=>some o | none=>getM (run σ (T.take (i+d))).M id:=getM_append ..
      rw [hput]
      cases hg:getM y.u id with
      | none=>exact .inl rfl
      | some q =>
        have hsome:(getM y.u id).isSome=true:=by rw [hg];rfl
        have hne:i+d≠i:=fun e=>by rw [e] at hy;exact hi y hy hsome
        have hLq:L (i+d)=true:=by rw [hL (i+d) ⟨y,hy,hsome⟩,decide_eq_true (by omega)]
        obtain ⟨xm,k,hop⟩:=hB (i+d) y (by omega) hy hsome hLq
        obtain ⟨hs,_,_⟩:=hT4 (i+d) y hy
        unfold stepG at hs
        split at hs<;>try (cases hs;done)
        ·simp only [step,hop] at hs
         obtain ⟨id',q',e1,e2,e3⟩:=entry_ext hs
         rw [e2] at hg
         simp only [getM] at hg
         split at hg
         ·rename_i hid
          subst hid
          cases hg
          exact e3
         ·cases hg
        ·have hu:y.u=[]:=by
          have:=congrArg (fun q=>q.map (·.2)) hs
          simpa using this.symm
         rw [hu] at hg;cases hg
 have:=chain (m - i) (by omega)
 rwa [show i+(m - i)=m by omega] at this
theorem draw_ok (hcall:CallOk P call) (hm:P.follows .mixedOrders=true) {es:List (Option Eff)} (he:execOps P call h ops ops.toList σ=some (σ',es)) (hs:slotsOk ops=true) (hf:effsOk ops es=true) (I:Inv w0 fp S0 σ a w β S) {ro:Option Nat} {n:Nat} {id:Nat} {Q:Exit→Act→World→Prop}
  (hQ:∀ a' w' β' S',Inv w0 fp S0 σ' a' w' β' S'→Q .normal a' w'):(Code.region id ops true).wpIn (FF ro) n P Q a w:=by
 obtain ⟨T,hT1,hT2,hT3,hT4⟩:=exec_trace _ _ _ he
 have hTl:T.length=ops.size:=by rw [←Array.length_toList,←hT1];simp
 have hop:∀ (i:Nat) o,ops[i]?=some o→∃ x,T[i]?=some x∧x.o=o:=fun i o ho=>by
  have:ops.toList[i]?=some o:=by simpa using ho
  rw [←hT1,List.getElem?_map,Option.map_eq_some_iff] at this
  exact this
 have hop':∀ (i:Nat) x,T[i]?=some x→ops[i]?=some x.o∧i<ops.size:=fun i x hx=>by
  have:ops.toList[i]?=some x.o:=by rw [←hT1,List.getElem?_map,hx];rfl
  exact ⟨by simpa using this,by rw [←hTl];exact (List.getElem?_eq_some_iff.1 hx).1⟩
 simp only [slotsOk,Bool.and_eq_true] at hs
 obtain ⟨⟨hs1,hs2⟩,hs3⟩:=hs
 have edge:∀ (i:Nat) o,ops[i]?=some o→∀ e∈o.after,Region.binds .any e=true→e.on<i:=fun i o ho e he hb=>by
  have h1:ops.toList.zipIdx[i]?=some (o,i):=by
   rw [List.getElem?_zipIdx]
   have:ops.toList[i]?=some o:=by simpa using ho
   rw [this];simp
  have:=(List.all_eq_true.1 hs2) (o,i) (List.mem_of_getElem? h1)
  have:=(Array.all_eq_true_iff_forall_mem.1 this) e he
  simpa [hb] using this
 have apart:∀ (i j:Nat) x y,i<j→T[i]?=some x→T[j]?=some y→i ∉ (preds ops.toList).getD j []→x.o.apart ops y.o=true:=fun i j x y hij hx hy hn=>by
  have h1:=(List.all_eq_true.1 hs3) j (List.mem_range.2 (hop' j y hy).2)
  have h2:=(List.all_eq_true.1 h1) i (List.mem_range.2 hij)
  rw [(hop' i x hx).1,(hop' j y hy).1] at h2
  simp only [Bool.or_eq_true,List.contains_eq_mem,decide_eq_true_eq] at h2
  exact h2.resolve_left hn
 simp only [effsOk,Bool.and_eq_true] at hf
 obtain ⟨hf1,hf2⟩:=hf
 have eff:∀ (i:Nat) x,T[i]?=some x→∃ F,reach (run σ (T.take i)).M 64 (slotsOfOp (run σ (T.take i)) x.o) []=some F∧es[i]?=some (some ⟨F,x.u.map (·.1),lkOf x.o.op,enOf x.o.op⟩):=fun i x hx=>by
  obtain ⟨_,_,h3⟩:=hT4 i x hx
  have:=(List.all_eq_true.1 hf1) _ (List.mem_of_getElem? h3)
  unfold effOf at this h3
  cases hr:reach (run σ (T.take i)).M 64 (slotsOfOp (run σ (T.take i)) x.o) [] with
  | none=>rw [hr] at this;simp at this
  | some F=>rw [hr] at h3;exact ⟨F,rfl,h3⟩
 have clash:∀ (i j:Nat) x y F G,i<j→T[i]?=some x→T[j]?=some y→i ∉ (preds ops.toList).getD j []→es[i]?=some (some ⟨F,x.u.map (·.1),lkOf x.o.op,enOf x.o.op⟩)→es[j]?=some (some ⟨G,y.u.map (·.1),lkOf y.o.op,enOf y.o.op⟩) →
   (∀ id∈x.u.map (·.1),id ∉ G∧id ∉ y.u.map (·.1))∧((∀ id∈y.u.map (·.1),id ∉ F)∨peace (lkOf x.o.op) (enOf y.o.op)=true):=fun i j x y F G hij hx hy hn e1 e2=>by
  simp only [Bool.or_eq_true] at hf2
  rcases hf2 with hf2 | hf2
  ·have h1:=(List.all_eq_true.1 hf2) _ (List.mem_of_getElem? e1)
   have h2:=(List.all_eq_true.1 hf2) _ (List.mem_of_getElem? e2)
   simp only [List.isEmpty_iff] at h1 h2
   rw [h1,h2]
   exact ⟨fun id h=>by (cases h),.inl fun id h=>by (cases h)⟩
  ·have h1:=(List.all_eq_true.1 hf2) j (List.mem_range.2 (hop' j y hy).2)
   have h2:=(List.all_eq_true.1 h1) i (List.mem_range.2 hij)
   rw [e1,e2] at h2
   simp only [Bool.or_eq_true,List.contains_eq_mem,decide_eq_true_eq] at h2
   have h3:=h2.resolve_left hn
   simp only [effClash,Bool.not_eq_true',Bool.or_eq_false_iff] at h3
   obtain ⟨⟨c1,c2⟩,c3⟩:=h3
   refine ⟨fun id h=>⟨meets_false c1 id h,meets_false c2 id h⟩,?_⟩
   rw [Bool.and_eq_false_iff] at c3
   rcases c3 with c3 | c3
   ·exact .inl (meets_false c3)
   ·exact .inr (by simpa using c3)
 have key_iff:∀ (u:List (Nat×O)) id,(getM u id).isSome=true↔id∈u.map (·.1):=fun u id=>getM_keys
 have main:∀ (fuel:Nat) (rem:List Nat) (listed:Array Bool) (a:Act) (w:World) (β:Nat→Value) (S:Nat→Prop),rem.length=fuel→rem.Nodup→(∀ i,i∈rem→i<ops.size)→(∀ i,i<ops.size→(i∈rem↔listed.getD i true=false))→listed.size=ops.size →
   (∀ i,listed.getD i false=true→∀ j∈(preds ops.toList).getD i [],listed.getD j false=true)→Inv w0 fp S0 (app (fun i=>listed.getD i false) 0 T σ) a w β S→wpAnyIn (FF ro) n P .any ops Q fuel listed a w:=by
  intro fuel
  induction fuel with
  | zero =>
    intro rem listed a w β S hlen hnd hlt hrem hsz hcl I
    have hr0:rem=[]:=List.eq_nil_of_length_eq_zero hlen
    subst hr0
    have hall:∀ i,i<ops.size→listed.getD i false=true:=fun i hi=>by
     have h1:listed.getD i true≠false:=fun e=>by have:=(hrem i hi).2 e;cases this
     have hi':i<listed.size:=by omega
     simp [hi'] at h1 ⊢
     exact h1
    refine ⟨?_,?_⟩
    ·refine List.eq_nil_iff_forall_not_mem.2 fun i hi => ?_
     obtain ⟨h1,o,ho,_⟩:=mem_ready.1 hi
     have:=(hrem i (by have:=(Array.getElem?_eq_some_iff.1 ho).1;exact this)).2 h1
     cases this
    ·refine hQ a w β S (I.eqv ?_)
     rw [hT3]
     have e1:=run_eq_app T T.length 0 σ
     rw [List.take_length] at e1
     rw [e1]
     refine ⟨by rw [app_n,app_n],fun t => ?_,fun id => ?_⟩
     ·rw [getF_app,getF_app,lastF_congr (L':=fun j=>decide (j<0+T.length)) T 0 fun j x hx _=>by
       have:=(hop' j x hx).2
       simp only [Nat.zero_add,hall j this,hTl,this,decide_true]]
     ·rw [getM_app,getM_app,lastM_congr (L':=fun j=>decide (j<0+T.length)) T 0 fun j x hx _=>by
       have:=(hop' j x hx).2
       simp only [Nat.zero_add,hall j this,hTl,this,decide_true]]
  | succ fuel ih =>
    intro rem listed a w β S hlen hnd hlt hrem hsz hcl I
    have hne:Region.ready .any ops listed≠[]:=by
     intro h0
     have none:∀ k,k ∉ rem:=by
      intro k
      induction k using Nat.strongRecOn with
      | _ k ihk =>
        intro hk
        have hkl:=hlt k hk
        have hko:ops[k]?=some ops[k]:=Array.getElem?_eq_getElem hkl
        have:k∈Region.ready .any ops listed:=mem_ready.2 ⟨(hrem k hkl).1 hk,ops[k],hko,fun e he hb=>by
         have hlt2:=edge k _ hko e he hb
         have hn:=ihk e.on hlt2
         have hes:e.on<ops.size:=by omega
         have h1:listed.getD e.on true≠false:=fun q=>hn ((hrem e.on hes).2 q)
         have hi':e.on<listed.size:=by omega
         simp [hi'] at h1 ⊢
         exact h1⟩
        rw [h0] at this
        cases this
     cases rem with
     | nil=>simp at hlen
     | cons x r=>exact none x (by simp)
    refine ⟨fun h0=>absurd h0 hne,fun i hi => ?_⟩
    obtain ⟨hun,o,ho,hall⟩:=mem_ready.1 hi
    have hil:i<ops.size:=(Array.getElem?_eq_some_iff.1 ho).1
    have hil':i<listed.size:=by omega
    obtain ⟨x,hx,rfl⟩:=hop i o ho
    have hLi:listed.getD i false=false:=by simp [hil'] at hun ⊢;exact hun
    have hpre:∀ j∈(preds ops.toList).getD i [],listed.getD j false=true:=fun j hj=>by
     obtain ⟨e,he1,he2,he3⟩:=preds_mem (by simpa using ho) hj
     have:=hall e he1 he2
     rcases he3 with rfl | he3
     ·exact this
     ·exact hcl e.on this j he3
    obtain ⟨hstep,hdk,_⟩:=hT4 i x hx
    obtain ⟨F,hF,heF⟩:=eff i x hx
    have hrun:run σ (T.take i)=app (fun j=>decide (j<0+i)) 0 T σ:=run_eq_app T i 0 σ
    have slotAgree:∀ t∈x.o.looksAt ops,getF (run σ (T.take i)).F t=getF (app (fun i=>listed.getD i false) 0 T σ).F t:=fun t ht=>by
     rw [hrun,getF_app,getF_app,lastF_congr (L':=fun i=>listed.getD i false) T 0 fun j y hy hd=>by
      simp only [Nat.zero_add]
      rcases Nat.lt_trichotomy j i with hj | rfl | hj
      ·rw [decide_eq_true hj]
       cases hL:listed.getD j false with
       | true=>rfl
       | false =>
         have:=apart j i y x hj hy hx fun hp=>by rw [hpre j hp] at hL;cases hL
         exact absurd ht ((Oper.apart_spec this).1 t hd)
      ·rw [hLi];simp
      ·rw [decide_eq_false (by omega)]
       cases hL:listed.getD j false with
       | false=>rfl
       | true =>
         have:=apart i j x y hj hx hy fun hp=>by rw [hcl j hL i hp] at hLi;cases hLi
         exact absurd ht ((Oper.apart_spec this).2.2 t hd)]
    have objAgree:∀ id,(id∈F∧lkOf x.o.op=none)∨id∈x.u.map (·.1)→getM (run σ (T.take i)).M id=getM (app (fun i=>listed.getD i false) 0 T σ).M id:=fun id hid=>by
     rw [hrun,getM_app,getM_app,lastM_congr (L':=fun i=>listed.getD i false) T 0 fun j y hy hd=>by
      simp only [Nat.zero_add]
      have hd:=(key_iff _ _).1 hd
      obtain ⟨G,hG,heG⟩:=eff j y hy
      rcases Nat.lt_trichotomy j i with hj | rfl | hj
      ·rw [decide_eq_true hj]
       cases hL:listed.getD j false with
       | true=>rfl
       | false =>
         obtain ⟨c1,c2⟩:=clash j i y x G F hj hy hx (fun hp=>by rw [hpre j hp] at hL;cases hL) heG heF
         rcases hid with hid | hid
         ·exact absurd hid.1 (c1 id hd).1
         ·exact absurd hid (c1 id hd).2
      ·rw [hLi];simp
      ·rw [decide_eq_false (by omega)]
       cases hL:listed.getD j false with
       | false=>rfl
       | true =>
         obtain ⟨c1,c2⟩:=clash i j x y F G hj hx hy (fun hp=>by rw [hcl j hL i hp] at hLi;cases hLi) heF heG
         rcases hid with hid | hid
         ·rcases c2 with c2 | c2
          ·exact absurd hid.1 (c2 id hd)
          ·rw [hid.2] at c2;cases c2
         ·exact absurd hd (c1 id hid).2]
    have hstep2:stepG P call h ops (app (fun i=>listed.getD i false) 0 T σ) x.o=some (x.v,x.u):=by
     cases hlk:lkOf x.o.op with
     | none=>exact stepG_congr (σ':=app (fun i=>listed.getD i false) 0 T σ) hstep slotAgree hF (fun id hid=>objAgree id (.inl ⟨hid,hlk⟩)) (fun id hid=>objAgree id (.inr hid))
     | some t =>
       obtain ⟨xm,k,hop⟩:=lkOf_some hlk
       refine stepG_lookup hop hstep slotAgree fun mid hmid => ?_
       have hidF:mid∈F:=(reach_mono 64 _ _ F hF).2 mid (by
        unfold slotsOfOp
        rw [hop]
        simp only [isPure,Bool.false_eq_true,if_false,Op.operands]
        exact List.mem_flatMap.2 ⟨xm,by simp,by rw [hmid];simp [V.ids]⟩)
       have hxu:x.u=[]:=stepG_lookup_nil hop hstep
       refine content_ext hT4 (i:=i) (t:=t) (L:=fun i=>listed.getD i false) ?_ ?_ ?_ ?_
       ·intro q y hq hy hd
        have hd:=(key_iff _ _).1 hd
        obtain ⟨G,hG,heG⟩:=eff q y hy
        cases hL:listed.getD q false with
        | true=>rfl
        | false =>
          obtain ⟨c1,c2⟩:=clash q i y x G F hq hy hx (fun hp=>by rw [hpre q hp] at hL;cases hL) heG heF
          exact absurd hidF (c1 mid hd).1
       ·intro y hy hd
        rw [hx] at hy;cases hy
        rw [hxu] at hd;cases hd
       ·intro q q' y y' hqq hy hy' hd hd' hL
        have hd:=(key_iff _ _).1 hd
        have hd':=(key_iff _ _).1 hd'
        obtain ⟨G,hG,heG⟩:=eff q y hy
        obtain ⟨G',hG',heG'⟩:=eff q' y' hy'
        by_cases hp:q∈(preds ops.toList).getD q' []
        ·exact hcl q' hL q hp
        ·exact absurd hd' ((clash q q' y y' G G' hqq hy hy' hp heG heG').1 mid hd).2
       ·intro q y hq hy hd hL
        have hd:=(key_iff _ _).1 hd
        obtain ⟨G,hG,heG⟩:=eff q y hy
        obtain ⟨c1,c2⟩:=clash i q x y F G hq hx hy (fun hp=>by rw [hcl q hL i hp] at hLi;cases hLi) heF heG
        rcases c2 with c2 | c2
        ·exact absurd hidF (c2 mid hd)
        ·rw [hlk] at c2;exact peace_some c2
    unfold wpOpIn
    rw [ho]
    refine stepG_ok hcall I hstep2 (by rw [app_n];exact hdk) fun a' w' β' S' I'=>ih (rem.erase i) (listed.setIfInBounds i true) a' w' β' S' ?_ (hnd.erase i) (fun k hk=>hlt k (List.mem_of_mem_erase hk)) ?_ (by simpa using hsz) ?_ (I'.eqv ?_)
    ·rw [List.length_erase_of_mem ((hrem i hil).2 hun),hlen];rfl
    ·intro k hk
     rw [hnd.mem_erase_iff,hrem k hk]
     by_cases e:k=i
     ·subst e;simp [hil']
     ·rw [getD_set_ne true (fun q=>e q.symm)]
      exact ⟨fun h=>h.2,fun h=>⟨e,h⟩⟩
    ·intro k hk j hj
     have get:∀ q,(listed.setIfInBounds i true).getD q false=if q=i then true else listed.getD q false:=fun q=>by
      by_cases e:q=i
      ·subst e;simp [hil']
      ·rw [if_neg e,getD_set_ne false (fun q=>e q.symm)]
     rw [get] at hk ⊢
     by_cases ej:j=i
     ·rw [if_pos ej]
     ·rw [if_neg ej]
      by_cases ek:k=i
      ·subst ek;exact hpre j hj
      ·rw [if_neg ek] at hk;exact hcl k hk j hj
    ·have get:∀ q,(listed.setIfInBounds i true).getD q false=if q=i then true else listed.getD q false:=fun q=>by
      by_cases e:q=i
      ·subst e;simp [hil']
      ·rw [if_neg e,getD_set_ne false (fun q=>e q.symm)]
     refine ⟨by rw [app_n];simp only [St.put,app_n],fun t => ?_,fun id => ?_⟩
     ·rw [getF_app T 0 σ t]
      by_cases hd:x.o.dst=some t
      ·rw [lastF_at T 0 i x hx (by simp only [Nat.zero_add];rw [get];simp) hd fun j y hj hy hdy=>by
        simp only [Nat.zero_add]
        rw [get,if_neg (by omega)]
        cases hL:listed.getD j false with
        | false=>rfl
        | true =>
          have:=apart i j x y hj hx hy fun hp=>by rw [hcl j hL i hp] at hLi;cases hLi
          exact absurd hdy ((Oper.apart_spec this).2.1 t hd)]
       simp only [St.put,hd,getF,if_true]
      ·have:getF ((app (fun i=>listed.getD i false) 0 T σ).put x.o.dst x.v x.u).F t=getF (app (fun i=>listed.getD i false) 0 T σ).F t:=by
        simp only [St.put]
        cases hdd:x.o.dst with
        | none=>rfl
        | some d=>simp only [getF];rw [if_neg fun e=>hd (by rw [hdd,e])]
       rw [this,getF_app,lastF_congr (L':=fun i_1=>(listed.setIfInBounds i true).getD i_1 false) T 0 fun j y hy hdy=>by
        simp only [Nat.zero_add]
        rw [get]
        by_cases e:j=i
        ·subst e;rw [hx] at hy;cases hy;exact absurd hdy hd
        ·rw [if_neg e]]
     ·rw [getM_app T 0 σ id]
      simp only [St.put,getM_append]
      cases hd:getM x.u id with
      | some q =>
        rw [lastM_at T 0 i x hx (by simp only [Nat.zero_add];rw [get];simp) hd fun j y hj hy hdy=>by
         simp only [Nat.zero_add]
         rw [get,if_neg (by omega)]
         cases hL:listed.getD j false with
         | false=>rfl
         | true =>
           obtain ⟨G,hG,heG⟩:=eff j y hy
           obtain ⟨c1,c2⟩:=clash i j x y F G hj hx hy (fun hp=>by rw [hcl j hL i hp] at hLi;cases hLi) heF heG
           exact absurd ((key_iff _ _).1 hdy) (c1 id ((key_iff _ _).1 (by rw [hd];rfl))).2]
      | none =>
        simp only []
        rw [getM_app,lastM_congr (L':=fun i_1=>(listed.setIfInBounds i true).getD i_1 false) T 0 fun j y hy hdy=>by
         simp only [Nat.zero_add]
         rw [get]
         by_cases e:j=i
         ·subst e;rw [hx] at hy;cases hy;rw [hd] at hdy;cases hdy
         ·rw [if_neg e]]
 refine wpIn_region_any hm (main ops.size (List.range ops.size) (Array.replicate ops.size false) a _ β S (by simp) List.nodup_range (fun i hi=>by simpa using hi) (fun i hi=>by simp [hi]) (by simp) (fun i hi => ?_) ?_)
 ·rw [Array.getD_eq_getD_getElem?,Array.getElem?_replicate] at hi
  split at hi<;>cases hi
 ·refine (I.drew (w.drawn+1)).eqv ?_
  refine ⟨by rw [app_n],fun t => ?_,fun id => ?_⟩
  ·rw [getF_app,lastF_none T 0 fun j x hx _=>by
    rw [Array.getD_eq_getD_getElem?,Array.getElem?_replicate]
    split<;>rfl]
  ·rw [getM_app,lastM_none T 0 fun j x hx _=>by
    rw [Array.getD_eq_getD_getElem?,Array.getElem?_replicate]
    split<;>rfl]
end
end Go.Proofs.YtiompmmbjpjjeaaDoorV