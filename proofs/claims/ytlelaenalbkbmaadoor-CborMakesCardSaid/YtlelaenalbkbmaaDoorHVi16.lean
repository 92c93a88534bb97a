/- The value interpreter: what an operation looks at. -/
import Derived.Test.YtlelaenalbkbmaaDoorHVi15
namespace Go.Proofs.YtlelaenalbkbmaaDoorV
open Go
set_option linter.unusedVariables false
set_option linter.unusedSimpArgs false
section
variable {P:Program} {call:CallF} {h:Hints} {σ σ':St} {o:Oper}
theorem content_congr {m:Nat} {x:V} (hA:∀ id∈x.ids,getM σ.M id=getM σ'.M id):content σ m x=content σ' m x:=by
 cases x<;>simp only [content]<;>first
  | rfl
  | rw [hA _ (by simp [V.ids])]
theorem lenV_congr {x:V} (hA:∀ id∈x.ids,getM σ.M id=getM σ'.M id):lenV σ x=lenV σ' x:=by
 cases x<;>simp only [lenV]<;>first
  | rfl
  | rw [hA _ (by simp [V.ids])]
theorem cellsAt_congr {x:V} (hA:∀ id∈x.ids,getM σ.M id=getM σ'.M id):cellsAt σ x=cellsAt σ' x:=by
 cases x<;>simp only [cellsAt]<;>first
  | rfl
  | rw [hA _ (by simp [V.ids])]
theorem strV_congr {s d:TypeId} {x:V} (hA:∀ id∈x.ids,getM σ.M id=getM σ'.M id):strV P σ s d x=strV P σ' s d x:=by
 unfold strV
 rw [content_congr hA]
theorem frz_congr {x:V} (hA:∀ id∈x.ids,getM σ.M id=getM σ'.M id):frz σ x=frz σ' x:=by
 cases x<;>simp only [frz]<;>first
  | rfl
  | rw [hA _ (by simp [V.ids])]
theorem frzL_congr:∀ {l:List V},(∀ id∈V.idsL l,getM σ.M id=getM σ'.M id)→frzL σ l=frzL σ' l
 | [],_=>rfl
 | x::r,hA=>by
   simp only [frzL]
   rw [frz_congr fun id hid=>hA id (by rw [V.idsL];exact List.mem_append_left _ hid),frzL_congr fun id hid=>hA id (by rw [V.idsL];exact List.mem_append_right _ hid)]
theorem loadV_congr {t:TypeId} {x:V} (hA:∀ id∈x.ids,getM σ.M id=getM σ'.M id):loadV P σ t x=loadV P σ' t x:=by
 unfold loadV
 rw [cellsAt_congr hA]
theorem storeV_congr {t:TypeId} {x y:V} (hA:∀ id∈x.ids,getM σ.M id=getM σ'.M id) (hB:∀ id∈y.ids,getM σ.M id=getM σ'.M id):storeV P σ t x y=storeV P σ' t x y:=by
 unfold storeV
 cases hc:cellsOf y with
 | none=>cases P.info? t<;>rfl
 | some ns =>
   have:frzL σ ns=frzL σ' ns:=frzL_congr fun id hid=>hB id (cellsOf_ids hc id hid)
   cases P.info? t with
   | none=>rfl
   | some i =>
     cases x<;>simp only [this]<;>first
      | rfl
      | rw [hA _ (by simp [V.ids])]
theorem indexAddrV_congr {t:TypeId} {x y:V} (hA:∀ id∈x.ids,getM σ.M id=getM σ'.M id):indexAddrV P σ t x y=indexAddrV P σ' t x y:=by
 unfold indexAddrV
 cases x<;>simp only []<;>first
  | rfl
  | rw [hA _ (by simp [V.ids])]
theorem bound_congr {x:Option Operand} {d:Nat} (hx:∀ y,x=some y→evalV σ y=evalV σ' y):bound σ x d=bound σ' x d:=by
 unfold bound
 cases x with
 | none=>rfl
 | some y=>simp only [];rw [hx y rfl]
theorem sliceV_congr {t:TypeId} {x:V} {lo hi mx:Option Operand} (hA:∀ id∈x.ids,getM σ.M id=getM σ'.M id) (h1:∀ y,lo=some y→evalV σ y=evalV σ' y) (h2:∀ y,hi=some y→evalV σ y=evalV σ' y) (h3:∀ y,mx=some y→evalV σ y=evalV σ' y) :
  sliceV P σ t x lo hi mx=sliceV P σ' t x lo hi mx:=by
 unfold sliceV
 rw [lenV_congr hA,bound_congr h1]
 have e2:∀ n,bound σ hi n=bound σ' hi n:=fun n=>bound_congr h2
 have e3:∀ n,bound σ mx n=bound σ' mx n:=fun n=>bound_congr h3
 have e4:∀ n,roomV σ x n=roomV σ' x n:=fun n=>by cases x<;>simp only [roomV]<;>rw [hA _ (by simp [V.ids])]
 simp only [e2,e3,e4]
 cases x<;>simp only []<;>first
  | rfl
  | rw [hA _ (by simp [V.ids])]
theorem mem_key {id:Nat} {o:O} {u:List (Nat×O)}:id∈(((id,o)::u).map (·.1)):=by simp
theorem appendV_congr {d:Nat} {t:TypeId} {s x v:V} {u:List (Nat×O)} (hs:appendV P σ d t s x=some (v,u)) (hA:∀ id∈s.ids,getM σ.M id=getM σ'.M id) (hB:∀ id∈x.ids,getM σ.M id=getM σ'.M id) (hW:∀ id∈u.map (·.1),getM σ.M id=getM σ'.M id) :
  appendV P σ' d t s x=some (v,u):=by
 have hcont:∀ m,content σ m x=content σ' m x:=fun m=>content_congr hB
 by_cases hcut:isCutV s=true
 ·cases s<;>simp [isCutV] at hcut
  rw [←hs]
  unfold appendV
  simp only [hcont,isCutV,or_true,if_true]
  rw [hA _ (by simp [V.ids])]
 ·have hd:getM σ.M d=getM σ'.M d:=by
   unfold appendV at hs
   split at hs<;>try (cases hs;done)
   split at hs<;>try (cases hs;done)
   split at hs<;>try (cases hs;done)
   split at hs<;>try (cases hs;done)
   ·split at hs<;>simp at hs
    obtain ⟨_,rfl⟩:=hs
    exact hW d (by simp)
   ·split at hs<;>try (cases hs;done)
    all_goals
     split at hs<;>simp at hs
     obtain ⟨_,rfl⟩:=hs
     exact hW d (by simp)
   ·exact absurd rfl hcut
  rw [←hs]
  unfold appendV
  rw [hd]
  simp only [hcont]
  cases s<;>simp only []<;>first
   | rfl
   | rw [hA _ (by simp [V.ids])]
theorem copyV_congr {t:TypeId} {s x:V} (hA:∀ id∈s.ids,getM σ.M id=getM σ'.M id) (hB:∀ id∈x.ids,getM σ.M id=getM σ'.M id):copyV P σ t s x=copyV P σ' t s x:=by
 unfold copyV
 have:∀ m,content σ m x=content σ' m x:=fun m=>content_congr hB
 simp only [this]
 cases s<;>simp only []<;>first
  | rfl
  | rw [hA _ (by simp [V.ids])]
theorem clearV_congr {t:TypeId} {s:V} (hA:∀ id∈s.ids,getM σ.M id=getM σ'.M id):clearV P σ t s=clearV P σ' t s:=by
 unfold clearV
 cases s<;>simp only []<;>first
  | rfl
  | rw [hA _ (by simp [V.ids])]
theorem makeV_congr {d:Nat} {t:TypeId} {l c v:V} {u:List (Nat×O)} (hs:makeV P σ d t l c=some (v,u)) (hW:∀ id∈u.map (·.1),getM σ.M id=getM σ'.M id):makeV P σ' d t l c=some (v,u):=by
 have hd:getM σ.M d=getM σ'.M d:=by
  unfold makeV at hs
  split at hs<;>try (cases hs;done)
  split at hs<;>try (cases hs;done)
  split at hs<;>simp at hs
  obtain ⟨_,rfl⟩:=hs
  exact hW d (by simp)
 rw [←hs]
 unfold makeV
 rw [hd]
theorem allocV_congr {d:Nat} {t:TypeId} {v:V} {u:List (Nat×O)} (hs:allocV P σ d t=some (v,u)) (hW:∀ id∈u.map (·.1),getM σ.M id=getM σ'.M id):allocV P σ' d t=some (v,u):=by
 have hd:getM σ.M d=getM σ'.M d:=by
  unfold allocV at hs
  split at hs<;>try (cases hs;done)
  split at hs<;>try (cases hs;done)
  split at hs<;>simp at hs
  obtain ⟨_,rfl⟩:=hs
  exact hW d (by simp)
 rw [←hs]
 unfold allocV
 rw [hd]
theorem boxV_congr {d:Nat} {t:TypeId} {x v:V} {u:List (Nat×O)} (hs:boxV σ d t x=some (v,u)) (hW:∀ id∈u.map (·.1),getM σ.M id=getM σ'.M id):boxV σ' d t x=some (v,u):=by
 have hd:getM σ.M d=getM σ'.M d:=by
  unfold boxV at hs
  split at hs<;>try (cases hs;done)
  split at hs<;>simp at hs
  obtain ⟨_,rfl⟩:=hs
  exact hW d (by simp)
 rw [←hs]
 unfold boxV
 rw [hd]
theorem fillRows_congr {m:Nat}:∀ {ps:List (Nat×V)} {rows:List (List V)},(∀ p∈ps,∀ id∈p.2.ids,getM σ.M id=getM σ'.M id)→fillRows σ m rows ps=fillRows σ' m rows ps
 | [],rows,_=>rfl
 | (i,x)::ps,rows,hA=>by
   simp only [fillRows]
   cases hc:cellsOf x with
   | none=>rfl
   | some cs =>
     have:frzL σ cs=frzL σ' cs:=frzL_congr fun id hid=>hA (i,x) (by simp) id (cellsOf_ids hc id hid)
     simp only [this]
     cases frzL σ' cs with
     | none=>rfl
     | some q =>
       obtain ⟨cs',u⟩:=q
       simp only []
       rw [fillRows_congr fun p hp=>hA p (by simp [hp])]
theorem buildSliceV_congr {raw:Bool} {d:Nat} {t:TypeId} {len:Nat} {ps:List (Nat×Operand)} {v:V} {u:List (Nat×O)} (hs:buildSliceV P raw σ d t len ps=some (v,u)) (hF:∀ p∈ps,evalV σ p.2=evalV σ' p.2) (hA:∀ p∈ps,∀ id∈(evalV σ p.2).ids,getM σ.M id=getM σ'.M id)
  (hW:∀ id∈u.map (·.1),getM σ.M id=getM σ'.M id):buildSliceV P raw σ' d t len ps=some (v,u):=by
 have hd:getM σ.M d=getM σ'.M d:=by
  unfold buildSliceV at hs
  split at hs<;>try (cases hs;done)
  split at hs<;>try (cases hs;done)
  split at hs<;>try (cases hs;done)
  split at hs
  ·simp at hs
   obtain ⟨_,rfl⟩:=hs
   exact hW d (by simp)
  ·split at hs<;>try (cases hs;done)
   simp only [Option.map_eq_some_iff,Prod.mk.injEq] at hs
   obtain ⟨_,_,_,rfl⟩:=hs
   exact hW d (by simp)
 have hm:(ps.map fun q=>(q.1,evalV σ q.2))=ps.map fun q=>(q.1,evalV σ' q.2):=List.map_congr_left fun p hp=>by rw [hF p hp]
 rw [←hs]
 unfold buildSliceV
 rw [hd]
 have:∀ m rows,fillRows σ m rows (ps.map fun q=>(q.1,evalV σ q.2))=fillRows σ' m rows (ps.map fun q=>(q.1,evalV σ' q.2)):=fun m rows=>by
  rw [←hm]
  exact fillRows_congr fun p hp id hid=>by
   obtain ⟨q,hq,rfl⟩:=List.mem_map.1 hp
   exact hA q hq id hid
 rw [hm] at this
 simp only [hm,this]
theorem reach_congr {M M':List (Nat×O)}:∀ (k:Nat) (l acc r:List Nat),reach M k l acc=some r→(∀ id∈r,getM M id=getM M' id)→reach M' k l acc=some r∧(∀ id∈acc,id∈r)∧∀ id∈l,id∈r
 | k,[],acc,r,h,_=>by
   cases k<;>(simp only [reach] at h;cases h;exact ⟨by simp [reach],fun _ h=>h,by simp⟩)
 | 0,_::_,acc,r,h,_=>by simp [reach] at h
 | k+1,i::l,acc,r,h,hA=>by
   simp only [reach] at h ⊢
   split at h
   ·rename_i hc
    rw [if_pos hc]
    obtain ⟨a1,a2,a3⟩:=reach_congr k l acc r h hA
    refine ⟨a1,a2,fun id hid => ?_⟩
    rcases List.mem_cons.1 hid with rfl | hid
    ·exact a2 _ (by simpa using hc)
    ·exact a3 id hid
   ·rename_i hc
    rw [if_neg hc]
    split at h<;>try (cases h;done)
    rename_i o ho
    obtain ⟨a1,a2,a3⟩:=reach_congr (M':=M') k _ _ r h hA
    have hi:i∈r:=a2 i (by simp)
    rw [←hA i hi,ho]
    refine ⟨a1,fun id hid=>a2 id (by simp [hid]),fun id hid => ?_⟩
    rcases List.mem_cons.1 hid with rfl | hid
    ·exact hi
    ·exact a3 id (by simp [hid])
theorem objsOf_congr {M M':List (Nat×O)}:∀ (l:List Nat),(∀ id∈l,getM M id=getM M' id)→objsOf M l=objsOf M' l
 | [],_=>rfl
 | x::r,hA=>by
   simp only [objsOf]
   rw [hA x (by simp),objsOf_congr r fun id hid=>hA id (by simp [hid])]
mutual
theorem lendV_congr:∀ (x:V),(∀ id∈x.ids,getM σ.M id=getM σ'.M id)→lendV σ x=lendV σ' x
 | .own id,hA=>by simp only [lendV];exact frz_congr hA
 | .cut id m o n,hA=>by simp only [lendV];exact frz_congr hA
 | .agg cs,hA=>by simp only [lendV];rw [lendL_congr cs fun id hid=>hA id (by rw [V.ids];exact hid)]
 | .p q,_=>by simp only [lendV]
 | .nil,_=>by simp only [lendV]
 | .sl m rows,_=>by simp only [lendV]
 | .rpt cs k,_=>by simp only [lendV]
 | .ptr id k,_=>by simp only [lendV]
 | .ept id m k j,_=>by simp only [lendV]
 | .tup vs,_=>by simp only [lendV]
 | .fn f cs,_=>by simp only [lendV]
 | .yld id,_=>by simp only [lendV]
 | .bsl id m n,_=>by simp only [lendV]
 | .bad,_=>by simp only [lendV]
 | .coin,_=>by simp only [lendV]
theorem lendL_congr:∀ (l:List V),(∀ id∈V.idsL l,getM σ.M id=getM σ'.M id)→lendL σ l=lendL σ' l
 | [],_=>by simp only [lendL]
 | x::r,hA=>by
   simp only [lendL]
   rw [lendV_congr x fun id hid=>hA id (by rw [V.idsL];exact List.mem_append_left _ hid),lendL_congr r fun id hid=>hA id (by rw [V.idsL];exact List.mem_append_right _ hid)]
end
mutual
theorem lendV_ids:∀ (x y:V) (u:List (Nat×O)),lendV σ x=some (y,u)→∀ id∈y.ids,id∈x.ids
 | .own id,y,u,h=>by
   simp only [lendV,frz] at h
   split at h<;>simp at h
   obtain ⟨rfl,_⟩:=h
   simp [V.ids]
 | .cut id m o n,y,u,h=>by
   simp only [lendV,frz] at h
   split at h<;>try (cases h;done)
   split at h<;>simp at h
   obtain ⟨rfl,_⟩:=h
   simp [V.ids]
 | .agg cs,y,u,h=>by
   simp only [lendV] at h
   split at h<;>simp at h
   rename_i l u' hl
   obtain ⟨rfl,_⟩:=h
   intro id hid
   rw [V.ids] at hid ⊢
   exact lendL_ids cs l u' hl id hid
 | .p q,y,u,h=>by simp only [lendV] at h;cases h;exact fun _ h=>h
 | .nil,y,u,h=>by simp only [lendV] at h;cases h;exact fun _ h=>h
 | .sl m rows,y,u,h=>by simp only [lendV] at h;cases h;exact fun _ h=>h
 | .rpt cs k,y,u,h=>by simp only [lendV] at h;cases h;exact fun _ h=>h
 | .ptr id k,y,u,h=>by simp only [lendV] at h;cases h;exact fun _ h=>h
 | .ept id m k j,y,u,h=>by simp only [lendV] at h;cases h;exact fun _ h=>h
 | .tup vs,y,u,h=>by simp only [lendV] at h;cases h;exact fun _ h=>h
 | .fn f cs,y,u,h=>by simp only [lendV] at h;cases h;exact fun _ h=>h
 | .yld id,y,u,h=>by simp only [lendV] at h;cases h;exact fun _ h=>h
 | .bsl id m n,y,u,h=>by simp only [lendV] at h;cases h;exact fun _ h=>h
 | .bad,y,u,h=>by simp only [lendV] at h;cases h;exact fun _ h=>h
 | .coin,y,u,h=>by simp only [lendV] at h;cases h;exact fun _ h=>h
theorem lendL_ids:∀ (l ys:List V) (u:List (Nat×O)),lendL σ l=some (ys,u)→∀ id∈V.idsL ys,id∈V.idsL l
 | [],ys,u,h=>by simp only [lendL] at h;cases h;exact fun _ h=>h
 | x::r,ys,u,h=>by
   simp only [lendL] at h
   split at h<;>simp at h
   rename_i y u1 ys' u2 h1 h2
   obtain ⟨rfl,_⟩:=h
   intro id hid
   rw [V.idsL] at hid ⊢
   rcases List.mem_append.1 hid with h | h
   ·exact List.mem_append_left _ (lendV_ids x y u1 h1 id h)
   ·exact List.mem_append_right _ (lendL_ids r ys' u2 h2 id h)
end
theorem reach_mono {M:List (Nat×O)}:∀ (k:Nat) (l acc r:List Nat),reach M k l acc=some r→(∀ id∈acc,id∈r)∧(∀ id∈l,id∈r):=fun k l acc r h =>
 let ⟨_,h2,h3⟩:=reach_congr (M':=M) k l acc r h fun _ _=>rfl
 ⟨h2,h3⟩
theorem reach_closed {M:List (Nat×O)}:∀ (k:Nat) (l acc r:List Nat),reach M k l acc=some r→(∀ id∈acc,∃ o,getM M id=some o∧∀ i∈o.ids,i∈acc∨i∈l)→∀ id∈r,∃ o,getM M id=some o∧∀ i∈o.ids,i∈r
 | k,[],acc,r,h,hacc=>by
   have:acc=r:=by cases k<;>(simp only [reach] at h;cases h;rfl)
   subst this
   intro id hid
   obtain ⟨o,h1,h2⟩:=hacc id hid
   exact ⟨o,h1,fun i hi=>(h2 i hi).elim (fun h=>h) fun h=>by cases h⟩
 | 0,_::_,acc,r,h,_=>by simp [reach] at h
 | k+1,i::l,acc,r,h,hacc=>by
   simp only [reach] at h
   split at h
   ·rename_i hc
    refine reach_closed k l acc r h fun id hid => ?_
    obtain ⟨o,h1,h2⟩:=hacc id hid
    refine ⟨o,h1,fun j hj => ?_⟩
    rcases h2 j hj with h3 | h3
    ·exact .inl h3
    ·rcases List.mem_cons.1 h3 with rfl | h3
     ·exact .inl (by simpa using hc)
     ·exact .inr h3
   ·split at h<;>try (cases h;done)
    rename_i o ho
    refine reach_closed k _ _ r h fun id hid => ?_
    rcases List.mem_append.1 hid with hid | hid
    ·obtain ⟨o',h1,h2⟩:=hacc id hid
     refine ⟨o',h1,fun j hj => ?_⟩
     rcases h2 j hj with h3 | h3
     ·exact .inl (List.mem_append_left _ h3)
     ·rcases List.mem_cons.1 h3 with rfl | h3
      ·exact .inl (by simp)
      ·exact .inr (List.mem_append_right _ h3)
    ·have:id=i:=by simpa using hid
     subst this
     exact ⟨o,ho,fun j hj=>.inr (List.mem_append_left _ hj)⟩
theorem reach_sub {M:List (Nat×O)} {F:List Nat} (hF:∀ id∈F,∃ o,getM M id=some o∧∀ i∈o.ids,i∈F):∀ (k:Nat) (l acc r:List Nat),reach M k l acc=some r→(∀ id∈l,id∈F)→(∀ id∈acc,id∈F)→∀ id∈r,id∈F
 | k,[],acc,r,h,_,ha=>by
   have:acc=r:=by cases k<;>(simp only [reach] at h;cases h;rfl)
   subst this
   exact ha
 | 0,_::_,acc,r,h,_,_=>by simp [reach] at h
 | k+1,i::l,acc,r,h,hl,ha=>by
   simp only [reach] at h
   split at h
   ·exact reach_sub hF k l acc r h (fun id hid=>hl id (by simp [hid])) ha
   ·split at h<;>try (cases h;done)
    rename_i o ho
    have hi:=hl i (by simp)
    obtain ⟨o',h1,h2⟩:=hF i hi
    rw [ho] at h1;cases h1
    refine reach_sub hF k _ _ r h (fun id hid => ?_) fun id hid => ?_
    ·rcases List.mem_append.1 hid with h | h
     ·exact h2 id h
     ·exact hl id (by simp [h])
    ·rcases List.mem_append.1 hid with h | h
     ·exact ha id h
     ·have:id=i:=by simpa using h
      subst this;exact hi
theorem callStep_congr {d:Nat} {g:FuncId} {args:List V} {v:V} {u:List (Nat×O)} {F:List Nat} (hs:callStep call h σ d g args=some (v,u)) (hF:∀ id∈F,∃ o,getM σ.M id=some o∧∀ i∈o.ids,i∈F) (hsub:∀ id∈V.idsL args,id∈F)
  (hA:∀ id∈F,getM σ.M id=getM σ'.M id) (hW:∀ id∈u.map (·.1),getM σ.M id=getM σ'.M id):callStep call h σ' d g args=some (v,u):=by
 unfold callStep at hs ⊢
 have hlend:lendL σ args=lendL σ' args:=lendL_congr args fun id hid=>hA id (hsub id hid)
 rw [←hlend]
 split at hs<;>try (cases hs;done)
 rename_i args1 fz hl
 have hsub1:∀ id∈V.idsL args1,id∈F:=by
  split at hl
  ·cases hl;exact hsub
  ·exact fun id hid=>hsub id (lendL_ids args args1 fz hl id hid)
 dsimp only at hs ⊢
 split at hs<;>try (cases hs;done)
 rename_i ids hids
 have hidsF:∀ id∈ids,id∈F:=reach_sub hF 64 _ _ ids hids hsub1 (by simp)
 have hr:=(reach_congr (M':=σ'.M) 64 _ _ ids hids fun id hid=>hA id (hidsF id hid)).1
 simp only [hr]
 have ho:objsOf σ.M ids=objsOf σ'.M ids:=objsOf_congr ids fun id hid=>hA id (hidsF id hid)
 rw [←ho]
 split at hs<;>try (cases hs;done)
 rename_i objs hobjs
 split at hs<;>try (cases hs;done)
 rename_i hc
 rw [if_pos hc]
 split at hs<;>try (cases hs;done)
 rename_i r exts news hcl
 have hall:∀ nw:List (Nat×O),(∀ q∈nw,q.1∈u.map (·.1))→nw.all (fun q=>(getM σ.M q.1).isNone)=nw.all (fun q=>(getM σ'.M q.1).isNone):=by
  intro nw hnw
  induction nw with
  | nil=>rfl
  | cons q r ih =>
    simp only [List.all_cons]
    rw [hW q.1 (hnw q (by simp)),ih fun p hp=>hnw p (by simp [hp])]
 split at hs<;>try (cases hs;done)
 rename_i hc2
 have hkeys:∀ q∈newObjs d 0 (news.map (O.ren (fromCall ids d))),q.1∈u.map (·.1):=by
  intro q hq
  split at hs<;>cases hs
  ·simp only [List.map_append,List.mem_append];exact .inr (List.mem_map_of_mem hq)
  ·simp only [List.map_append,List.mem_append];exact .inr (.inl (List.mem_map_of_mem hq))
 rw [hall _ hkeys] at hc2
 rw [if_pos hc2]
 exact hs
end
end Go.Proofs.YtlelaenalbkbmaaDoorV