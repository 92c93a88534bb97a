/- The value interpreter: an operation's effect hangs on what it looks at alone. -/
import Derived.Test.YtlelaenalbkbmaaDoorHVi16
namespace Go.Proofs.YtlelaenalbkbmaaDoorV
open Go
set_option linter.unusedVariables false
set_option linter.unusedSimpArgs false
section
variable {P:Program} {call:CallF} {h:Hints} {σ σ':St} {o:Oper}
theorem plainOp_congr (hev:∀ x∈o.op.operands,evalV σ x=evalV σ' x):plainOp P σ o=plainOp P σ' o:=by
 unfold plainOp
 have h1:o.op.operands.all (fun x=>(toVal (evalV σ x)).isSome)=o.op.operands.all (fun x=>(toVal (evalV σ' x)).isSome):=by
  rw [←Array.all_toList,←Array.all_toList,Bool.eq_iff_iff,List.all_eq_true,List.all_eq_true]
  exact ⟨fun h x hx=>by rw [←hev x (by simpa using hx)];exact h x hx,fun h x hx=>by rw [hev x (by simpa using hx)];exact h x hx⟩
 rw [h1]
 by_cases hc:isSelect o.op=false∧(o.op.operands.all fun x=>(toVal (evalV σ' x)).isSome)=true
 ·rw [if_pos hc,if_pos hc]
  rw [execOp_congr o (not_select hc.1) (ρ:=fun x=>(toVal (evalV σ x)).getD undef) (ρ':=fun x=>(toVal (evalV σ' x)).getD undef) fun x hx=>by show (toVal (evalV σ x)).getD undef=(toVal (evalV σ' x)).getD undef;rw [hev x hx]]
 ·rw [if_neg hc,if_neg hc]
theorem calleeOf_congr {x:Operand} (hev:evalV σ x=evalV σ' x):calleeOf σ x=calleeOf σ' x:=by
 unfold calleeOf
 cases x<;>simp only []<;>rw [hev]
theorem calleeOf_ids {x:Operand} {f:FuncId} {cs:List V} (hc:calleeOf σ x=some (f,cs)):∀ id∈V.idsL cs,id∈(evalV σ x).ids:=by
 unfold calleeOf at hc
 split at hc
 ·split at hc<;>try (cases hc;done)
  cases hc;simp [V.idsL]
 ·split at hc<;>try (cases hc;done)
  ·split at hc<;>try (cases hc;done)
   cases hc;simp [V.idsL]
  ·rename_i e
   split at hc<;>try (cases hc;done)
   cases hc
   rw [e,V.ids]
   exact fun _ h=>h
  ·rename_i e
   cases hc
   rw [e]
   simp [V.ids,V.idsL]
theorem step_congr {v:V} {u:List (Nat×O)} {F:List Nat} (hs:step P call h σ o=some (v,u)) (hev:∀ x∈o.op.operands,evalV σ x=evalV σ' x) (hreach:reach σ.M 64 (slotsOfOp σ o) []=some F)
  (hA:∀ id∈F,getM σ.M id=getM σ'.M id) (hW:∀ id∈u.map (·.1),getM σ.M id=getM σ'.M id):step P call h σ' o=some (v,u):=by
 have hF:=reach_closed 64 _ _ F hreach (by simp)
 have hsub:isPure o.op=false→∀ x∈o.op.operands,∀ id∈(evalV σ x).ids,id∈F:=fun hn x hx id hid=>(reach_mono 64 _ _ F hreach).2 id (by rw [slotsOfOp,hn];exact List.mem_flatMap.2 ⟨x,by simpa using hx,hid⟩)
 have hv:isPure o.op=false→∀ x∈o.op.operands,∀ id∈(evalV σ x).ids,getM σ.M id=getM σ'.M id:=fun hn x hx id hid=>hA id (hsub hn x hx id hid)
 have hp:=plainOp_congr (P:=P) hev
 unfold step at hs ⊢
 split at hs
 case h_1 x ho =>
  simp only [ho,Op.operands] at hev
  rw [←hev x (by simp)];exact hs
 case h_2 x ho =>
  simp only [ho,Op.operands] at hev
  rw [←hev x (by simp)];exact hs
 case h_3 c x y ho =>
  simp only [ho,Op.operands] at hev
  rw [←hev c (by simp),←hev x (by simp),←hev y (by simp)];exact hs
 case h_4 t ho =>
  simp only [ho,Op.operands] at hev
  split at hs<;>try (cases hs;done)
  exact allocV_congr hs hW
 case h_5 t x ho =>
  simp only [ho,Op.operands] at hev
  split at hs<;>try (cases hs;done)
  rw [←hev x (by simp)]
  exact boxV_congr hs hW
 case h_6 t ps ho =>
  simp only [ho,Op.operands] at hev
  have hm:(ps.toList.map fun q=>(q.1,evalV σ q.2))=ps.toList.map fun q=>(q.1,evalV σ' q.2):=List.map_congr_left fun p hp=>by rw [hev p.2 (by simpa using ⟨p.1,by simpa using hp⟩)]
  have:buildV P σ t ps.toList=buildV P σ' t ps.toList:=by unfold buildV;rw [hm]
  rw [←this];exact hs
 case h_7 t len ps ho =>
  replace hsub:=hsub (by rw [ho];rfl)
  replace hv:=hv (by rw [ho];rfl)
  simp only [ho,Op.operands] at hev hv hsub
  split at hs<;>try (cases hs;done)
  exact buildSliceV_congr hs (fun p hp=>hev p.2 (by simpa using ⟨p.1,by simpa using hp⟩)) (fun p hp=>hv p.2 (by simpa using ⟨p.1,by simpa using hp⟩)) hW
 case h_8 t x ho =>
  replace hsub:=hsub (by rw [ho];rfl)
  replace hv:=hv (by rw [ho];rfl)
  simp only [ho,Op.operands] at hev hv hsub
  rw [←hev x (by simp),←loadV_congr (hv x (by simp))];exact hs
 case h_9 t x y ho =>
  replace hsub:=hsub (by rw [ho];rfl)
  replace hv:=hv (by rw [ho];rfl)
  simp only [ho,Op.operands] at hev hv hsub
  rw [←hev x (by simp),←hev y (by simp),←storeV_congr (hv x (by simp)) (hv y (by simp))];exact hs
 case h_10 x ho =>
  simp only [ho,Op.operands] at hev
  rw [←hev x (by simp)];exact hs
 case h_11 op t x y t' ho =>
  simp only [ho,Op.operands] at hev
  have:binV P σ o op t x y=binV P σ' o op t x y:=by unfold binV;rw [hev x (by simp),hev y (by simp),hp]
  rw [←this];exact hs
 case h_12 s t x ho =>
  replace hsub:=hsub (by rw [ho];rfl)
  replace hv:=hv (by rw [ho];rfl)
  simp only [ho,Op.operands] at hev hv hsub
  have h1:convV P σ o s t x=convV P σ' o s t x:=by unfold convV;rw [hev x (by simp),hp]
  have key:strV P σ' s t (evalV σ x)=strV P σ s t (evalV σ x):=(strV_congr (hv x (by simp))).symm
  rw [←hev x (by simp),←h1]
  generalize evalV σ x=y at hs key ⊢
  cases y<;>first
   | exact hs
   | (simp only [] at hs ⊢;rw [key];exact hs)
 case h_13 t x lo hi mx ho =>
  replace hsub:=hsub (by rw [ho];rfl)
  replace hv:=hv (by rw [ho];rfl)
  simp only [ho,Op.operands] at hev hv hsub
  rw [←hev x (by simp),←hp]
  have key:sliceV P σ' t (evalV σ x) lo hi mx=sliceV P σ t (evalV σ x) lo hi mx:=(sliceV_congr (hv x (by simp)) (fun z hz=>hev z (by simp [hz])) (fun z hz=>hev z (by simp [hz])) (fun z hz=>hev z (by simp [hz]))).symm
  generalize evalV σ x=y at hs key ⊢
  cases y<;>first
   | exact hs
   | (simp only [] at hs ⊢;rw [key];exact hs)
 case h_14 s x f ho =>
  simp only [ho,Op.operands] at hev
  rw [←hev x (by simp)];exact hs
 case h_15 t x f ho =>
  simp only [ho,Op.operands] at hev
  have:fieldV P σ o t x f=fieldV P σ' o t x f:=by unfold fieldV;rw [hev x (by simp)]
  rw [←this];exact hs
 case h_16 t x i ho =>
  replace hsub:=hsub (by rw [ho];rfl)
  replace hv:=hv (by rw [ho];rfl)
  simp only [ho,Op.operands] at hev hv hsub
  rw [←hev x (by simp),←hev i (by simp),←indexAddrV_congr (hv x (by simp))];exact hs
 case h_17 t x i ho =>
  simp only [ho,Op.operands] at hev
  have:arrIdxV P σ o t x i=arrIdxV P σ' o t x i:=by unfold arrIdxV;rw [hev x (by simp),hev i (by simp),hp]
  rw [←this];exact hs
 case h_18 t i ho =>
  simp only [ho,Op.operands] at hev
  rw [←hev t (by simp)];exact hs
 case h_19 f first captured ho =>
  simp only [ho,Op.operands] at hev
  have:captured.toList.map (evalV σ)=captured.toList.map (evalV σ'):=List.map_congr_left fun p hp=>hev p (by simp;exact .inr (by simpa using hp))
  rw [←this];exact hs
 case h_20 t l c ho =>
  simp only [ho,Op.operands] at hev
  split at hs<;>try (cases hs;done)
  rw [←hev l (by simp),←hev c (by simp)]
  exact makeV_congr hs hW
 case h_21 c ho =>
  replace hsub:=hsub (by rw [ho];rfl)
  replace hv:=hv (by rw [ho];rfl)
  simp only [ho,Op.operands] at hev hv hsub
  obtain ⟨callee,args,ts⟩:=c
  cases callee with
  | invoke r m=>simp at hs
  | value f =>
    simp only [Call.operands] at hev hv hsub
    dsimp only at hs ⊢
    have hargs:args.toList.map (evalV σ)=args.toList.map (evalV σ'):=List.map_congr_left fun p hp=>hev p (by simp;exact .inr (by simpa using hp))
    have hf:f∈(#[f]:Array Operand)++args:=by simp
    rw [←calleeOf_congr (hev f hf),←hargs]
    have idsA:∀ cs g,calleeOf σ f=some (g,cs)→∀ id∈V.idsL (args.toList.map (evalV σ)++cs),id∈F:=by
     intro cs g hc
     have hl:∀ x∈args.toList,∀ id∈(evalV σ x).ids,id∈F:=fun x hx=>hsub x (by simp;exact .inr (by simpa using hx))
     generalize args.toList=l at hl
     induction l with
     | nil=>exact fun id hid=>hsub f hf id (calleeOf_ids hc id hid)
     | cons c r ih =>
       intro id hid
       rw [List.map_cons,List.cons_append,V.idsL] at hid
       rcases List.mem_append.1 hid with h | h
       ·exact hl c (by simp) id h
       ·exact ih (fun x hx=>hl x (by simp [hx])) id h
    cases hc:calleeOf σ f with
    | none=>rw [hc] at hs;cases hd:o.dst<;>rw [hd] at hs<;>cases hs
    | some q =>
      obtain ⟨g,cs⟩:=q
      rw [hc] at hs
      cases hd:o.dst with
      | some d=>rw [hd] at hs;exact callStep_congr hs hF (idsA _ _ hc) hA hW
      | none=>rw [hd] at hs;exact callStep_congr hs hF (idsA _ _ hc) hA hW
  | builtin b =>
    simp only [Call.operands] at hev hv hsub
    have hargs:args.toList.map (evalV σ)=args.toList.map (evalV σ'):=List.map_congr_left fun p hp=>hev p (by simpa using hp)
    have hl:∀ y∈args.toList,∀ id∈(evalV σ y).ids,getM σ.M id=getM σ'.M id:=fun y hy=>hv y (by simpa using hy)
    cases b<;>dsimp only at hs ⊢<;>try (cases hs;done)
    case append =>
     rw [←hargs]
     split at hs<;>try (cases hs;done)
     rename_i s x t t' d ha ht hd
     split at hs<;>try (cases hs;done)
     have hs1:∃ y∈args.toList,evalV σ y=s:=List.mem_map.1 (by rw [ha];simp)
     have hx1:∃ y∈args.toList,evalV σ y=x:=List.mem_map.1 (by rw [ha];simp)
     obtain ⟨y1,m1,rfl⟩:=hs1
     obtain ⟨y2,m2,rfl⟩:=hx1
     rename_i htt
     rw [if_pos htt]
     exact appendV_congr hs (hl y1 m1) (hl y2 m2) hW
    case copy =>
     rw [←hargs]
     split at hs<;>try (cases hs;done)
     rename_i s x t t' ha ht
     split at hs<;>try (cases hs;done)
     have hs1:∃ y∈args.toList,evalV σ y=s:=List.mem_map.1 (by rw [ha];simp)
     have hx1:∃ y∈args.toList,evalV σ y=x:=List.mem_map.1 (by rw [ha];simp)
     obtain ⟨y1,m1,rfl⟩:=hs1
     obtain ⟨y2,m2,rfl⟩:=hx1
     rename_i htt
     rw [if_pos htt,←copyV_congr (hl y1 m1) (hl y2 m2)]
     exact hs
    case clear =>
     rw [←hargs]
     split at hs<;>try (cases hs;done)
     rename_i s t ha ht
     have hs1:∃ y∈args.toList,evalV σ y=s:=List.mem_map.1 (by rw [ha];simp)
     obtain ⟨y1,m1,rfl⟩:=hs1
     rw [←clearV_congr (hl y1 m1)]
     exact hs
    case len =>
     split at hs<;>try (cases hs;done)
     rename_i x t ha ht
     have hx:x∈args.toList:=by rw [ha];simp
     rw [←hev x (by simpa using hx),←hp]
     have key:lenV σ' (evalV σ x)=lenV σ (evalV σ x):=(lenV_congr (hl x hx)).symm
     generalize evalV σ x=y at hs key ⊢
     generalize P.underlying t=pd at hs ⊢
     cases pd with
     | none=>cases y<;>exact hs
     | some d=>cases d<;>cases y<;>first
       | exact hs
       | (dsimp only at hs ⊢;rw [key];exact hs)
    case max=>rw [←hargs];exact hs
    case min=>rw [←hargs];exact hs
 case h_22=>rw [←hp];exact hs
end
end Go.Proofs.YtlelaenalbkbmaaDoorV