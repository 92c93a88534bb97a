/- The value interpreter: what is dropped,and other names for objects. -/
import Derived.Test.YtlelaenalbkbmaaDoorHVi19
namespace Go.Proofs.YtlelaenalbkbmaaDoorV
open Go
set_option linter.unusedVariables false
set_option linter.unusedSimpArgs false
section
variable {P:Program} {w0:World} {fp:Nat→Prop} {S0:Base} {σ σ':St} {a:Act} {w:World} {β:Nat→Value} {S:Nat→Prop} {o:Oper} {call:CallF} {h:Hints} {ops:Array Oper}
theorem Inv.sub (I:Inv w0 fp S0 σ a w β S) (hn:σ'.n=σ.n) (hF:∀ t,getF σ'.F t=getF σ.F t∨getF σ'.F t=.bad) (hM:∀ id o,getM σ'.M id=some o→getM σ.M id=some o) (hcF:∀ t,∀ id∈(getF σ'.F t).ids,(getM σ'.M id).isSome=true)
  (hcM:∀ i o,getM σ'.M i=some o→∀ id∈o.ids,(getM σ'.M id).isSome=true) (hext:∀ i,i<S0.k→(getM σ'.M (ExtB+i)).isSome=true):Inv w0 fp S0 σ' a w β S where
 defers:=I.defers
 size:=I.size.trans hn.symm
 slots:=fun t=>by
  rcases hF t with e | e
  ·rw [e];exact I.slots t
  ·rw [e];exact .bad _
 objs:=fun id o h=>I.objs id o (hM id o h)
 own:=fun id o g h=>I.own id o g (hM id o h)
 fro:=fun id m e rows g h=>I.fro id m e rows g (hM id _ h)
 inj:=fun i j o o' g h1 h2=>I.inj i j o o' g (hM i o h1) (hM j o' h2)
 closedF:=hcF
 closedM:=hcM
 Slt:=I.Slt
 S0S:=I.S0S
 SIn:=I.SIn
 ext:=fun i hi=>⟨hext i hi,(I.ext i hi).2⟩
 os:=I.os
 tape:=I.tape
 output:=I.output
 grow:=I.grow
 kept:=I.kept
 laid:=I.laid
theorem getF_keep (F:List (Nat×V)):∀ (ks:List Nat) (t:Nat),getF (ks.map fun t=>(t,getF F t)) t=if t∈ks then getF F t else .bad
 | [],t=>rfl
 | k::r,t=>by
   simp only [List.map_cons,getF,getF_keep F r t,List.mem_cons]
   by_cases e:k=t
   ·subst e;simp
   ·have:t≠k:=fun h=>e h.symm
    simp [e,this]
theorem keep_ok (I:Inv w0 fp S0 σ a w β S) {ks:List Nat} (hk:keepTo ks σ=some σ'):Inv w0 fp S0 σ' a w β S:=by
 unfold keepTo at hk
 dsimp only at hk
 split at hk<;>try (cases hk;done)
 rename_i ids hids
 split at hk<;>try (cases hk;done)
 rename_i objs hobjs
 split at hk<;>simp at hk
 rename_i hc
 obtain ⟨c1,c2,c3⟩:=hc
 subst hk
 obtain ⟨hlen,hget⟩:=objsOf_get ids objs hobjs
 have hM:∀ id o,getM (ids.zip objs) id=some o→getM σ.M id=some o∧o∈objs:=fun id o h=>by
  obtain ⟨i,h1,h2⟩:=getM_zip _ _ _ _ h
  obtain ⟨o',h3,h4⟩:=hget i id h1
  rw [h2] at h3;cases h3
  exact ⟨h4,List.mem_of_getElem? h2⟩
 have hs:∀ id,ids.contains id=true→(getM (ids.zip objs) id).isSome=true:=fun id h=>getM_zip_some ids objs id hlen (by simpa using h)
 refine I.sub rfl (fun t => ?_) (fun id o h=>(hM id o h).1) (fun t id hid => ?_) (fun i o ho id hid => ?_) fun i hi => ?_
 ·simp only [getF_keep]
  split
  ·exact .inl rfl
  ·exact .inr rfl
 ·refine hs id ((List.all_eq_true.1 c1) id ?_)
  simp only [getF_keep] at hid
  split at hid
  ·rename_i ht
   obtain ⟨i,hi,rfl⟩:=List.mem_iff_getElem.1 ht
   exact idsL_mem (i:=i) (y:=getF σ.F ks[i]) (by simp [hi]) hid
  ·simp [V.ids] at hid
 ·exact hs id ((List.all_eq_true.1 c2) id (List.mem_flatMap.2 ⟨o,(hM i o ho).2,hid⟩))
 ·refine hs _ ((List.all_eq_true.1 c3) _ ?_)
  exact List.mem_filter.2 ⟨getM_keys.1 (I.ext i hi).1,by simp⟩
theorem normR_ok (I:Inv w0 fp S0 σ a w β S) {k:Option (List Nat)} (hk:normR k σ=some σ'):Inv w0 fp S0 σ' a w β S:=by
 unfold normR at hk
 split at hk
 ·cases hk;exact I
 ·exact keep_ok I hk
theorem getF_keepR (F:List (Nat×V)) (f:Nat→Nat):∀ (ks:List Nat) (t:Nat),getF (ks.map fun t=>(t,(getF F t).ren f)) t=if t∈ks then (getF F t).ren f else .bad
 | [],t=>rfl
 | k::r,t=>by
   simp only [List.map_cons,getF,getF_keepR F f r t,List.mem_cons]
   by_cases e:k=t
   ·subst e;simp
   ·have:t≠k:=fun h=>e h.symm
    simp [e,this]
theorem Inv.renum (I:Inv w0 fp S0 σ a w β S) {f:Nat→Nat} (hn:σ'.n=σ.n) (hF:∀ t,getF σ'.F t=(getF σ.F t).ren f) (hM:∀ c o,getM σ'.M c=some o→∃ id o0,getM σ.M id=some o0∧o=o0.ren f∧f id=c)
  (hS:∀ id,(getM σ.M id).isSome=true→(getM σ'.M (f id)).isSome=true) (hinj:∀ i j,(getM σ.M i).isSome=true→(getM σ.M j).isSome=true→f i=f j→i=j) (hext:∀ i,i<S0.k→f (ExtB+i)=ExtB+i):∃ β',Inv w0 fp S0 σ' a w β' S:=by
 classical
 let β':Nat→Value:=fun c=>if h:∃ id,(getM σ.M id).isSome=true∧f id=c then β h.choose else β c
 have hβ:∀ id,(getM σ.M id).isSome=true→β' (f id)=β id:=fun id h=>by
  have hex:∃ id',(getM σ.M id').isSome=true∧f id'=f id:=⟨id,h,rfl⟩
  show (if h:∃ id',(getM σ.M id').isSome=true∧f id'=f id then β h.choose else β (f id))=β id
  rw [dif_pos hex]
  rw [hinj _ _ hex.choose_spec.1 h hex.choose_spec.2]
 refine ⟨β',{ defers:=I.defers,size:=I.size.trans hn.symm,slots:=fun q => ?_,objs:=fun id o h => ?_,own:=fun id o g h hown hg => ?_,fro:=fun id m e rows g h hg => ?_,inj:=fun i j o o' g h1 h2 h3 h4 h5 h6 => ?_,closedF:=fun q id hid => ?_,closedM:=fun i o h id hid => ?_,Slt:=I.Slt,S0S:=I.S0S,SIn:=I.SIn,ext:=fun i hi => ?_,os:=I.os,tape:=I.tape,output:=I.output,grow:=I.grow,kept:=I.kept,laid:=I.laid }⟩
 ·rw [hF]
  exact (I.slots q).ren _ fun id hid=>hβ id (I.closedF q id hid)
 ·obtain ⟨k,o',h1,rfl,rfl⟩:=hM id o h
  exact (I.objs k o' h1).ren _ (hβ k (by rw [h1];rfl)) fun i hi=>hβ i (I.closedM k o' h1 i hi)
 ·obtain ⟨k,o',h1,rfl,rfl⟩:=hM id o h
  rw [isOwn_ren] at hown
  rw [hβ k (by rw [h1];rfl)] at hg
  exact I.own k o' g h1 hown hg
 ·obtain ⟨k,o',h1,h2,rfl⟩:=hM id _ h
  rw [hβ k (by rw [h1];rfl)] at hg
  cases o' with
  | box=>cases h2
  | row ow m' e' rows' =>
    simp only [O.ren] at h2
    cases h2
    exact I.fro k m e rows g h1 hg
  | tab=>cases h2
  | lp=>cases h2
  | dead=>cases h2
 ·obtain ⟨k1,o1,a1,rfl,rfl⟩:=hM i o h1
  obtain ⟨k2,o2,b1,rfl,rfl⟩:=hM j o' h2
  rw [isOwn_ren] at h3 h4
  rw [hβ k1 (by rw [a1];rfl)] at h5
  rw [hβ k2 (by rw [b1];rfl)] at h6
  rw [I.inj k1 k2 o1 o2 g a1 b1 h3 h4 h5 h6]
 ·rw [hF,ids_ren,List.mem_map] at hid
  obtain ⟨id0,h1,rfl⟩:=hid
  exact hS id0 (I.closedF q id0 h1)
 ·obtain ⟨k,o',h1,rfl,rfl⟩:=hM i o h
  rw [oids_ren] at hid
  obtain ⟨id0,h2,rfl⟩:=List.mem_map.1 hid
  exact hS id0 (I.closedM k o' h1 id0 h2)
 ·obtain ⟨h1,h2⟩:=I.ext i hi
  have e:=hext i hi
  refine ⟨by have:=hS _ h1;rwa [e] at this,?_⟩
  have:=hβ _ h1
  rw [e] at this
  rw [this,h2]
theorem keepCanon_ok (I:Inv w0 fp S0 σ a w β S) {ks:List Nat} (hk:keepCanon ks σ=some σ'):∃ β',Inv w0 fp S0 σ' a w β' S:=by
 unfold keepCanon at hk
 dsimp only at hk
 split at hk<;>try (cases hk;done)
 rename_i ids hids
 split at hk<;>try (cases hk;done)
 rename_i objs hobjs
 split at hk<;>simp at hk
 rename_i hc
 obtain ⟨c1,c2,c3,c4,c5⟩:=hc
 have I1:Inv w0 fp S0 { σ with F:=ks.map fun t=>(t,getF σ.F t),M:=ids.zip objs } a w β S:=keep_ok (ks:=ks) I (by
  unfold keepTo
  dsimp only
  rw [hids]
  dsimp only
  rw [hobjs]
  dsimp only
  rw [if_pos ⟨c1,c2,c3⟩])
 obtain ⟨hlen,hget⟩:=objsOf_get ids objs hobjs
 subst hk
 have zipGet:∀ id o,getM (ids.zip objs) id=some o→∃ i,ids[i]?=some id∧objs[i]?=some o:=getM_zip ids objs
 have inIds:∀ id,(getM (ids.zip objs) id).isSome=true→ids.contains id=true:=fun id h=>by
  obtain ⟨o,ho⟩:=Option.isSome_iff_exists.1 h
  obtain ⟨i,h1,_⟩:=zipGet id o ho
  simpa using List.mem_of_getElem? h1
 have head:∀ id,ids.contains id=true→(ExtB≤id∧toHead ids id=id)∨(id<ExtB∧∃ k,toHead ids id=HeadB+k∧ids[k]?=some id∧k<900000):=fun id h=>by
  unfold toHead
  by_cases hb:ExtB≤id
  ·rw [if_pos hb];exact .inl ⟨hb,rfl⟩
  ·rw [if_neg hb]
   obtain ⟨k,h1,h2⟩:=toIdx_mem (base:=HeadB) h
   exact .inr ⟨by omega,k,h1,h2,by have:=(List.getElem?_eq_some_iff.1 h2).1;omega⟩
 refine I1.renum (f:=toHead ids) rfl (fun t => ?_) (fun c o h => ?_) (fun id h => ?_) (fun i j hi hj hij => ?_) fun i hi => ?_
 ·simp only [getF_keepR,getF_keep]
  split
  ·rfl
  ·rfl
 ·obtain ⟨i,h1,h2⟩:=getM_zip _ _ _ _ h
  rw [List.getElem?_map,Option.map_eq_some_iff] at h1 h2
  obtain ⟨id,h3,rfl⟩:=h1
  obtain ⟨o0,h4,rfl⟩:=h2
  refine ⟨id,o0,?_,rfl,rfl⟩
  obtain ⟨q,hq⟩:=Option.isSome_iff_exists.1 (getM_zip_some ids objs id hlen (List.mem_of_getElem? h3))
  obtain ⟨i2,h5,h6⟩:=zipGet id q hq
  have:=nodup_get ids c4 i i2 id h3 h5
  subst this
  rw [h4] at h6;cases h6
  exact hq
 ·have:=inIds id h
  exact getM_zip_some _ _ _ (by simpa using hlen) (List.mem_map_of_mem (by simpa using this))
 ·rcases head i (inIds i hi) with ⟨a1,a2⟩ | ⟨a1,k1,a2,a3,a4⟩<;>rcases head j (inIds j hj) with ⟨b1,b2⟩ | ⟨b1,k2,b2,b3,b4⟩
  ·rw [a2,b2] at hij;exact hij
  ·rw [a2,b2] at hij;simp only [ExtB,HeadB] at a1 hij;omega
  ·rw [a2,b2] at hij;simp only [ExtB,HeadB] at b1 hij;omega
  ·rw [a2,b2] at hij
   have:k1=k2:=by omega
   subst this
   rw [a3] at b3;exact Option.some.inj b3
 ·unfold toHead
  rw [if_pos (by omega)]
theorem put_same {a:Act} {s:Nat} {v:Value} (h:a.tmps.getD s undef=v):a.put (some s) v=a:=by
 have:a.tmps.setIfInBounds s v=a.tmps:=by
  apply Array.ext_getElem?
  intro i
  rw [Array.getElem?_setIfInBounds]
  split
  ·rename_i e
   subst e
   split
   ·rename_i hlt
    rw [Array.getD_eq_getD_getElem?,Array.getElem?_eq_getElem hlt] at h
    simp at h
    rw [Array.getElem?_eq_getElem hlt,h]
   ·rename_i hlt
    rw [Array.getElem?_eq_none (by omega)]
  ·rfl
 simp [Act.put,this]
theorem frzOne_ok {σ:St} {S:Nat→Prop} (s:Nat) (I:Inv w0 fp S0 σ a w β S) (hc:frzOne s σ=some σ'):∃ S',Inv w0 fp S0 σ' a w β S':=by
 have slot:∀ x u,lendV σ (getF σ.F s)=some (x,u)→s<σ.n→∃ S',Inv w0 fp S0 { σ with F:=(s,x)::σ.F,M:=u++σ.M } a w β S':=by
  intro x u hl hs
  obtain ⟨f1,f2,f3⟩:=lendV_ok I _ _ _ _ hl (I.slots s)
  have I1:=I.upd (UpdOk.freeze I f1 undef) (dst:=none) rfl
  have I2:=I1.upd (UpdOk.pure I1 f2 fun id hid => ?_) (dst:=some s) (decide_eq_true hs)
  ·rw [put_same (by simp [Act.put])] at I2
   exact ⟨_,I2⟩
  ·have:=I.closedF s id (f3 id hid)
   simp only [St.put,getM_append]
   split
   ·rfl
   ·exact this
 unfold frzOne at hc
 split at hc
 ·rename_i id off hs
  split at hc
  ·rename_i ty cells hM
   split at hc<;>try (cases hc;done)
   rename_i cells' u hl
   split at hc<;>try (cases hc;done)
   rename_i hu
   cases hc
   have hu:getM u id=none:=by
    cases hq:getM u id with
    | none=>rfl
    | some o =>
      have:id∈u.map (·.1):=getM_keys.1 (by rw [hq];rfl)
      obtain ⟨q,hq1,hq2⟩:=List.mem_map.1 this
      have:=List.all_eq_true.1 hu q hq1
      simp [hq2] at this
   obtain ⟨g,arr,h1,h2,h3,h4,h5⟩:=I.objs id _ hM
   obtain ⟨f1,f2,f3,f4⟩:=lendL_ok I cells cells' u arr.toList hl (by simpa using h3) fun i x v hx hv=>h5 i x v hx (by simpa using hv)
   have I1:=I.upd (UpdOk.freeze I f1 undef) (dst:=none) rfl
   have hM1:getM (σ.put none .bad u).M id=some (.box ty cells):=by
    simp only [St.put,getM_append,hu]
    exact hM
   have U:=UpdOk.write I1 hM1 (o1:=.box ty cells') (w':=w) (v:=.bad) (v':=undef) rfl rfl rfl rfl rfl rfl (fun _ _=>rfl) ⟨g,arr,h1,h2,by rw [h3,f2],h4,fun i x v hx hv=>f3 i x v hx (by simpa using hv)⟩ (fun i hi=>by
     rw [O.ids] at hi
     have:=I.closedM id _ hM i (by rw [O.ids];exact f4 i hi)
     simp only [St.put,getM_append]
     split
     ·rfl
     ·exact this) (.bad _) (by simp [V.ids])
   exact ⟨_,I1.upd U (dst:=none) rfl⟩
  ·cases hc;exact ⟨S,I⟩
 ·rename_i hne
  split at hc<;>try (cases hc;done)
  rename_i x u hl
  split at hc<;>try (cases hc;done)
  rename_i hs
  cases hc
  exact slot x u hl hs
theorem frzAll_ok:∀ (l:List Nat) (σ:St) (S:Nat→Prop),Inv w0 fp S0 σ a w β S→frzAll l σ=some σ'→∃ S',Inv w0 fp S0 σ' a w β S'
 | [],σ,S,I,hc=>by simp only [frzAll] at hc;cases hc;exact ⟨S,I⟩
 | s::r,σ,S,I,hc=>by
   simp only [frzAll] at hc
   split at hc<;>try (cases hc;done)
   rename_i σ1 h1
   obtain ⟨S1,I1⟩:=frzOne_ok s I h1
   exact frzAll_ok r _ _ I1 hc
theorem idsL_set {cs:List V} {j i:Nat} {x:V} (h:i∈V.idsL (cs.set j x)):i∈V.idsL cs∨i∈x.ids:=by
 induction cs generalizing j with
 | nil=>simp [V.idsL] at h
 | cons c r ih =>
   cases j with
   | zero =>
     rw [List.set_cons_zero,V.idsL] at h
     rw [V.idsL]
     rcases List.mem_append.1 h with h | h
     ·exact .inr h
     ·exact .inl (List.mem_append_right _ h)
   | succ j =>
     rw [List.set_cons_succ,V.idsL] at h
     rw [V.idsL]
     rcases List.mem_append.1 h with h | h
     ·exact .inl (List.mem_append_left _ h)
     ·rcases ih h with h | h
      ·exact .inl (List.mem_append_right _ h)
      ·exact .inr h
theorem softM_ok {σ:St} (I:Inv w0 fp S0 σ a w β S) {m:Nat} {q:Option (Nat×TypeId)} (hq:softOk σ.M m q=true):∃ β',Inv w0 fp S0 { σ with M:=softM m q++σ.M } a w β' S∧Rep w β' S (softNew m q) (.slice none 0 0)∧(∀ i∈(softNew m q).ids,(getM (softM m q++σ.M) i).isSome=true)∧∀ i o,getM σ.M i=some o→getM (softM m q++σ.M) i=some o:=by
 cases q with
 | none=>exact ⟨β,I,.d (.sl0 m none 0),fun i hi=>by simp [softNew,V.ids] at hi,fun i o h=>h⟩
 | some q =>
   obtain ⟨u,e⟩:=q
   simp only [softOk,Bool.and_eq_true,decide_eq_true_eq] at hq
   have hu:getM σ.M u=none:=by simpa using hq.1
   have hr:Rep w (upd β u (.slice none 0 0)) S (.own u) (.slice none 0 0):=by
    have:=Rep.own (w:=w) (β:=upd β u (.slice none 0 0)) (S:=S) u (by rw [upd_same];rfl)
    rwa [upd_same] at this
   have U:UpdOk w0 fp σ w β S .bad [(u,.row true m e [])] undef w (upd β u (.slice none 0 0)) S :=
    UpdOk.create I hu (o:=.row true m e []) (hv:=.slice none 0 0) rfl rfl rfl (Nat.le_refl _) (fun _ _=>rfl) (fun g hg=>by cases hg) rfl ⟨hq.2,by simp,[],by rw [upd_same];exact World.ownsRow_nil w 0 e m,by simp,by simp⟩ (fun id hid=>by cases hid) (.bad _) (fun id hid=>by simp [V.ids] at hid)
   refine ⟨_,I.upd U (dst:=none) rfl,hr,fun i hi => ?_,fun i o h => ?_⟩
   ·simp [softNew,V.ids] at hi;subst hi;simp [softM,getM]
   ·simp only [softM,List.cons_append,List.nil_append,getM]
    rw [if_neg fun e=>by subst e;rw [hu] at h;cases h]
    exact h
theorem tabOf_ok {σ:St} (I:Inv w0 fp S0 σ a w β S) {id m c:Nat} {e:TypeId} {cells:List V} {o:O} (hM:getM σ.M id=some o) (ht:tabOf o=some (m,e,c,cells)) :
  ORep w β S id (.tab m e c cells)∧o.isOwn=true∧∀ i∈V.idsL cells,(getM σ.M i).isSome=true:=by
 cases o with
 | row ow m' e' rows =>
   cases ow with
   | false=>cases ht
   | true =>
     simp only [tabOf,Option.some.injEq,Prod.mk.injEq] at ht
     obtain ⟨rfl,rfl,rfl,rfl⟩:=ht
     obtain ⟨h0,hw,xs,hown,hone,hc⟩:=I.objs id _ hM
     refine ⟨⟨h0,flat_len hw,xs,hown,hone,fun i x v hx hv => ?_⟩,rfl,fun i hi => ?_⟩
     ·obtain ⟨r,h1,h2⟩:=flat_get h0 hw hx
      obtain ⟨v',h3,h4⟩:=hc _ r _ x h1 h2
      rw [Nat.div_add_mod'] at h3
      rw [h3] at hv;cases hv
      exact .d h4
     ·rw [rows_ids (w:=w) (S:=S) ⟨hown.1,hw,hone,hc⟩] at hi
      cases hi
 | tab m' e' n' cells' =>
   simp only [tabOf,Option.some.injEq,Prod.mk.injEq] at ht
   obtain ⟨rfl,rfl,rfl,rfl⟩:=ht
   exact ⟨I.objs id _ hM,rfl,fun i hi=>I.closedM id _ hM i (by rw [O.ids];exact hi)⟩
 | _=>cases ht
theorem trim_ok {σ:St} (I:Inv w0 fp S0 σ a w β S) {s id m n c u:Nat} {e:TypeId} {cells:List V} (hs:getF σ.F s=.cut id m 0 n) (hM:getM σ.M id=some (.tab m e c cells)) (hpos:0<n) (hle:n≤c) (hu:getM σ.M u=none) (hsn:s<σ.n) :
  ∃ β',Inv w0 fp S0 { σ with F:=(s,.own u)::σ.F,M:=(u,.tab m e n (cells.take (n * m)))::(id,.dead)::σ.M } a w β' S:=by
 have hv:=I.slots s
 rw [hs] at hv
 generalize hgv:a.tmps.getD s undef=v at hv
 obtain ⟨hm0,hl,xs,hown,hone,hrep⟩:=I.objs id _ hM
 have hnm:n * m≤c * m:=Nat.mul_le_mul_right _ hle
 cases hv with
 | d h=>cases h
 | cut0=>omega
 | cut _ _ _ _ g N C ad cc hβ hc ha hr hn hK =>
   rcases hown.2 with ⟨e1,_⟩ | ⟨g',cap,cur,e1,_,hg,hnc,hcm,hcs,htake⟩
   ·rw [hβ] at e1;cases e1
   ·rw [hβ] at e1;cases e1
    have ea:=ha (by omega)
    subst ea
    have hcC:cc=C:=by omega
    subst hcC
    have hne:u≠id:=fun e=>by rw [e,hM] at hu;cases hu
    have hget:∀ i' o',getM [(u,O.tab m e n (cells.take (n * m))),(id,O.dead)] i'=some o'→(i'=u∧o'=.tab m e n (cells.take (n * m)))∨(i'=id∧o'=.dead):=by
     intro i' o' h
     simp only [getM] at h
     split at h
     ·rename_i e;cases h;exact .inl ⟨e.symm,rfl⟩
     ·split at h<;>simp at h
      rename_i e;exact .inr ⟨e.symm,h.symm⟩
    have hkid:(getM [(u,O.tab m e n (cells.take (n * m))),(id,O.dead)] id).isSome=true:=by simp [getM,hne]
    have hblk:blk (β id)=some g:=by rw [hβ];rfl
    have hv0:(Value.slice (some ⟨g,0 * m,none⟩) n cc)=.slice (some ⟨g,0,none⟩) n cc:=by rw [Nat.zero_mul]
    rw [hv0] at hgv
    have U:UpdOk w0 fp σ w β S (.own u) [(u,.tab m e n (cells.take (n * m))),(id,.dead)] (.slice (some ⟨g,0,none⟩) n cc) w (upd β u (.slice (some ⟨g,0,none⟩) n cc)) S:=by
     refine { new:=?_,os:=rfl,tape:=rfl,output:=rfl,grow:=Nat.le_refl _,touch:=fun _ _=>.inl rfl,S1:=fun _ h=>h,S2:=I.Slt,S4:=fun _ h=>.inl h,objs:=?_,own:=?_,fro:=?_,inj:=?_,closedM:=?_,rep:=?_,closedV:=?_ }
     ·intro i'
      by_cases h:i'=u
      ·subst h;exact .inr hu
      ·exact .inl (upd_ne β _ h)
     ·intro i' o' h
      rcases hget i' o' h with ⟨rfl,rfl⟩ | ⟨rfl,rfl⟩
      ·refine ⟨hm0,by rw [List.length_take,hl];exact Nat.min_eq_left hnm,xs.take (n * m),⟨by rw [List.length_take,hown.1];exact Nat.min_eq_left hnm,.inr ⟨g,cc,cur,upd_same _ _ _,Nat.zero_le _,hg,by omega,hcm,hcs,?_⟩⟩,fun v hv=>hone v (List.mem_of_mem_take hv),fun i x v hx hv => ?_⟩
       ·rw [←htake,List.take_take,Nat.min_eq_left hnm]
       ·rw [List.getElem?_take] at hx hv
        split at hx
        ·rename_i hi
         rw [if_pos hi] at hv
         exact (hrep i x v hx hv).mono (fun _ _=>rfl) (fun _ h=>h) fun id' hid'=>upd_ne _ _ fun e=>by
          have:=I.closedM id _ hM id' (by rw [O.ids];exact idsL_mem hx hid')
          rw [e,hu] at this;cases this
        ·cases hx
      ·trivial
     ·intro i' o' g2 h h1 h2
      rcases hget i' o' h with ⟨rfl,rfl⟩ | ⟨rfl,rfl⟩
      ·rw [upd_same] at h2;cases h2
       exact ⟨(I.own id _ _ hM rfl hblk).1,.inr ⟨id,_,hM,rfl,hblk,hkid⟩⟩
      ·cases h1
     ·intro i' m' e'' rows' g2 h
      rcases hget i' _ h with ⟨_,h⟩ | ⟨_,h⟩<;>cases h
     ·intro i1 i2 o1 o2 g2 q1 q2 q3 q4
      rcases hget i1 o1 q1 with ⟨rfl,rfl⟩ | ⟨rfl,rfl⟩
      ·rcases hget i2 o2 q2 with ⟨rfl,rfl⟩ | ⟨rfl,rfl⟩
       ·exact fun _ _=>rfl
       ·cases q4
      ·cases q3
     ·intro i' o' h id' hid
      rcases hget i' o' h with ⟨_,rfl⟩ | ⟨_,rfl⟩
      ·rw [O.ids] at hid
       exact .inr (I.closedM id _ hM id' (by rw [O.ids];exact idsL_take _ _ _ hid))
      ·cases hid
     ·have:=Rep.own (w:=w) (β:=upd β u (.slice (some ⟨g,0,none⟩) n cc)) (S:=S) u (by rw [upd_same];rfl)
      rwa [upd_same] at this
     ·intro i' hi'
      have:i'=u:=by simpa [V.ids] using hi'
      subst this
      exact .inl (by simp [getM])
    have I2:=I.upd U (dst:=some s) (decide_eq_true hsn)
    rw [put_same hgv] at I2
    exact ⟨_,I2⟩
theorem softOne_ok {σ:St} (I:Inv w0 fp S0 σ a w β S) {s m:Nat} {j:Option Nat} {q:Option (Nat×TypeId)} (hc:softOne σ s j m q=some σ'):∃ β',Inv w0 fp S0 σ' a w β' S:=by
 unfold softOne at hc
 split at hc
 ·split at hc
  ·rename_i hs
   split at hc<;>try (cases hc;done)
   rename_i hcond
   cases hc
   obtain ⟨β1,I1,hr,hi,_⟩:=softM_ok I hcond.1
   have hv:=rep_nil (by have:=I.slots s;rwa [hs] at this)
   have I2:=I1.upd (UpdOk.pure I1 hr hi) (dst:=some s) (decide_eq_true hcond.2)
   rw [put_same hv] at I2
   exact ⟨β1,I2⟩
  ·rename_i id m' off n hs
   split at hc
   ·rename_i u e'
    split at hc
    ·rename_i m0 e c cells hM
     split at hc<;>try (cases hc;done)
     rename_i hcond
     cases hc
     obtain ⟨rfl,rfl,c3,c4,c5,c6⟩:=hcond
     exact trim_ok I hs hM c3 c4 (by simpa using c5) c6
    ·cases hc;exact ⟨β,I⟩
   ·cases hc;exact ⟨β,I⟩
  ·cases hc;exact ⟨β,I⟩
 ·rename_i j
  split at hc
  ·rename_i id hs
   split at hc
   ·rename_i o hM
    split at hc
    ·rename_i m0 e c cells ht
     split at hc
     ·rename_i hcell
      split at hc<;>try (cases hc;done)
      rename_i hcond
      cases hc
      obtain ⟨β1,I1,hr,hi,hk⟩:=softM_ok I hcond
      have hM1:=hk _ _ hM
      obtain ⟨⟨h1,h2,xs,h3,h4,h5⟩,hown,hids⟩:=tabOf_ok I1 hM1 ht
      have U:=UpdOk.write I1 hM1 (o1:=.tab m0 e c (cells.set j (softNew m q))) (w':=w) (v:=.bad) (v':=undef) hown rfl rfl rfl rfl rfl (fun _ _=>rfl) ⟨h1,by rw [List.length_set];exact h2,xs,h3,h4,fun i x v hx hv=>by
       rw [List.getElem?_set] at hx
       split at hx
       ·rename_i e1
        subst e1
        split at hx
        ·cases hx
         have:=rep_nil (h5 _ _ v hcell hv)
         subst this
         exact hr
        ·cases hx
       ·exact h5 i x v hx hv⟩ (fun i hi'=>by
       rw [O.ids] at hi'
       rcases idsL_set hi' with h | h
       ·exact hids i h
       ·exact hi i h) (.bad _) (by simp [V.ids])
      exact ⟨β1,I1.upd U (dst:=none) rfl⟩
     ·cases hc;exact ⟨β,I⟩
    ·cases hc;exact ⟨β,I⟩
   ·cases hc;exact ⟨β,I⟩
  ·rename_i cs hs
   split at hc
   ·rename_i hcell
    split at hc<;>try (cases hc;done)
    rename_i hcond
    cases hc
    obtain ⟨β1,I1,hr,hi,_⟩:=softM_ok I hcond.1
    have hv:=I1.slots s
    have hs1:getF ({ σ with M:=softM m q++σ.M }:St).F s=.agg cs:=hs
    rw [hs1] at hv
    generalize hgv:a.tmps.getD s undef=v at hv
    cases hv with
    | d h=>cases h
    | agg _ arr h1 h2 h3 =>
      have hr2:Rep w β1 S (.agg (cs.set j (softNew m q))) (.agg arr):=.agg _ arr (by rw [List.length_set];exact h1) h2 fun i x v hx hv=>by
       rw [List.getElem?_set] at hx
       split at hx
       ·rename_i e1
        subst e1
        split at hx
        ·cases hx
         have:=rep_nil (h3 _ _ v hcell hv)
         subst this
         exact hr
        ·cases hx
       ·exact h3 i x v hx hv
      have I2:=I1.upd (UpdOk.pure I1 hr2 fun i hi'=>by
       rw [V.ids] at hi'
       rcases idsL_set hi' with h | h
       ·exact I1.closedF s i (by rw [hs1,V.ids];exact h)
       ·exact hi i h) (dst:=some s) (decide_eq_true hcond.2)
      rw [put_same hgv] at I2
      exact ⟨β1,I2⟩
   ·cases hc;exact ⟨β,I⟩
  ·rename_i id off hs
   split at hc
   ·rename_i ty cells hM
    split at hc
    ·rename_i hcell
     split at hc<;>try (cases hc;done)
     rename_i hcond
     cases hc
     obtain ⟨β1,I1,hr,hi,hk⟩:=softM_ok I hcond
     have hM1:=hk _ _ hM
     obtain ⟨g,arr,h1,h2,h3,h4,h5⟩:=I1.objs id _ hM1
     have U:=UpdOk.write I1 hM1 (o1:=.box ty (cells.set (off+j) (softNew m q))) (w':=w) (v:=.bad) (v':=undef) rfl rfl rfl rfl rfl rfl (fun _ _=>rfl) ⟨g,arr,h1,h2,by rw [List.length_set];exact h3,h4,fun i x v hx hv=>by
      rw [List.getElem?_set] at hx
      split at hx
      ·rename_i e1
       subst e1
       split at hx
       ·cases hx
        have:=rep_nil (h5 _ _ v hcell hv)
        subst this
        exact hr
       ·cases hx
      ·exact h5 i x v hx hv⟩ (fun i hi'=>by
      rw [O.ids] at hi'
      rcases idsL_set hi' with h | h
      ·exact I1.closedM id _ hM1 i (by rw [O.ids];exact h)
      ·exact hi i h) (.bad _) (by simp [V.ids])
     exact ⟨β1,I1.upd U (dst:=none) rfl⟩
    ·cases hc;exact ⟨β,I⟩
   ·cases hc;exact ⟨β,I⟩
  ·cases hc;exact ⟨β,I⟩
theorem softAll_ok:∀ (l:List (Nat×Option Nat×Nat×Option (Nat×TypeId))) (σ:St) (β:Nat→Value),Inv w0 fp S0 σ a w β S→softAll l σ=some σ'→∃ β',Inv w0 fp S0 σ' a w β' S
 | [],σ,β,I,hc=>by simp only [softAll] at hc;cases hc;exact ⟨β,I⟩
 | (s,j,m,q)::r,σ,β,I,hc=>by
   simp only [softAll] at hc
   split at hc<;>try (cases hc;done)
   rename_i σ1 h1
   obtain ⟨β1,I1⟩:=softOne_ok I h1
   exact softAll_ok r σ1 β1 I1 hc
theorem endR_ok (I:Inv w0 fp S0 σ a w β S) {fz:List Nat} {sf:List (Nat×Option Nat×Nat×Option (Nat×TypeId))} {k:Option (List Nat)} (hc:endR fz sf k σ=some σ'):∃ β' S',Inv w0 fp S0 σ' a w β' S':=by
 unfold endR at hc
 split at hc<;>try (cases hc;done)
 rename_i σ1 h1
 split at hc<;>try (cases hc;done)
 rename_i σ2 h2
 obtain ⟨S1,I1⟩:=frzAll_ok fz σ S I h1
 obtain ⟨β1,I2⟩:=softAll_ok sf σ1 β I1 h2
 exact ⟨β1,S1,normR_ok I2 hc⟩
theorem canonOne_ok (I:Inv w0 fp S0 σ a w β S) {s u m:Nat} {j:Option Nat} {e:TypeId} (hc:canonOne σ s j u m e=some σ'):∃ β',Inv w0 fp S0 σ' a w β' S:=by
 have nilRow:∀ (v:V) (v':Value),getM σ.M u=none→0<m→Rep w (upd β u (.slice none 0 0)) S v v'→(∀ id∈v.ids,id=u∨(getM σ.M id).isSome=true)→UpdOk w0 fp σ w β S v [(u,.row true m e [])] v' w (upd β u (.slice none 0 0)) S:=fun v v' hu h0 hr hids =>
  UpdOk.create I hu (o:=.row true m e []) (hv:=.slice none 0 0) rfl rfl rfl (Nat.le_refl _) (fun _ _=>rfl) (fun g hg=>by cases hg) rfl ⟨h0,by simp,[],by rw [upd_same];exact World.ownsRow_nil w 0 e m,by simp,by simp⟩ (fun id hid=>by cases hid) hr hids
 have hrown:Rep w (upd β u (.slice none 0 0)) S (.own u) (.slice none 0 0):=by
  have:=Rep.own (w:=w) (β:=upd β u (.slice none 0 0)) (S:=S) u (by rw [upd_same];rfl)
  rwa [upd_same] at this
 unfold canonOne at hc
 split at hc
 ·split at hc
  ·rename_i hs
   split at hc<;>simp at hc
   rename_i hcond
   obtain ⟨c1,c2,c3⟩:=hcond
   subst hc
   have hu:getM σ.M u=none:=by simpa using c1
   have hv:=I.slots s
   rw [hs] at hv
   have hv:=rep_nil hv
   have:=I.upd (nilRow (.own u) (.slice none 0 0) hu c2 hrown (fun id hid=>.inl (by simpa [V.ids] using hid))) (dst:=some s) (by simpa [dstOk] using c3)
   rw [put_same hv] at this
   exact ⟨_,this⟩
  ·cases hc;exact ⟨β,I⟩
 ·rename_i j
  split at hc
  ·rename_i id off hs
   split at hc
   ·rename_i ty cells hM
    split at hc
    ·rename_i hcell
     split at hc<;>simp at hc
     rename_i hcond
     obtain ⟨c1,c2⟩:=hcond
     subst hc
     have hu:getM σ.M u=none:=by simpa using c1
     have hne:id≠u:=fun h=>by rw [h,hu] at hM;cases hM
     have I1:=I.upd (nilRow .bad undef hu c2 (.bad _) (fun id hid=>by simp [V.ids] at hid)) (dst:=none) rfl
     have hM1:getM (σ.put none .bad [(u,.row true m e [])]).M id=some (.box ty cells):=by
      simp only [St.put,getM_append,getM]
      rw [if_neg fun h=>hne h.symm]
      exact hM
     obtain ⟨g,arr,h1,h2,h3,h4,h5⟩:=I1.objs id _ hM1
     have hlt:off+j<arr.size:=by rw [h3];exact (List.getElem?_eq_some_iff.1 hcell).1
     have U := UpdOk.write I1 hM1 (o1:=.box ty (cells.set (off+j) (.own u))) (w':=w) (v:=.bad) (v':=undef) rfl rfl rfl rfl rfl rfl (fun _ _=>rfl) ⟨g,arr,h1,h2,by rw [List.length_set];exact h3,h4,fun i x v hx hv=>by
      rw [List.getElem?_set] at hx
      split at hx
      ·rename_i e1
       subst e1
       rw [if_pos (by rw [←h3];exact hlt)] at hx
       cases hx
       have:=rep_nil (h5 _ _ v hcell hv)
       subst this
       exact hrown
      ·exact h5 i x v hx hv⟩ (fun i hi=>by
      rw [O.ids] at hi
      have:∀ (l:List V) (n:Nat),i∈V.idsL (l.set n (.own u))→i∈V.idsL l∨i=u:=by
       intro l
       induction l with
       | nil=>intro n h;simp [V.idsL] at h
       | cons c r ih =>
         intro n h
         cases n with
         | zero =>
           rw [List.set_cons_zero,V.idsL] at h
           rcases List.mem_append.1 h with h | h
           ·right;simpa [V.ids] using h
           ·left;rw [V.idsL];exact List.mem_append_right _ h
         | succ n =>
           rw [List.set_cons_succ,V.idsL] at h
           rcases List.mem_append.1 h with h | h
           ·left;rw [V.idsL];exact List.mem_append_left _ h
           ·rcases ih n h with h | h
            ·left;rw [V.idsL];exact List.mem_append_right _ h
            ·exact .inr h
      rcases this cells (off+j) hi with h | h
      ·exact I1.closedM id _ hM1 i (by rw [O.ids];exact h)
      ·subst h;simp [St.put,getM]) (.bad _) (by simp [V.ids])
     have I2:=I1.upd U (dst:=none) rfl
     exact ⟨_,I2⟩
    ·cases hc;exact ⟨β,I⟩
   ·cases hc;exact ⟨β,I⟩
  ·cases hc;exact ⟨β,I⟩
theorem canonAll_ok:∀ (l:List (Nat×Option Nat×Nat×Nat×TypeId)) (σ:St) (β:Nat→Value),Inv w0 fp S0 σ a w β S→canonAll l σ=some σ'→∃ β',Inv w0 fp S0 σ' a w β' S
 | [],σ,β,I,hc=>by simp only [canonAll] at hc;cases hc;exact ⟨β,I⟩
 | (s,j,u,m,e)::r,σ,β,I,hc=>by
   simp only [canonAll] at hc
   split at hc<;>try (cases hc;done)
   rename_i σ1 h1
   obtain ⟨β1,I1⟩:=canonOne_ok I h1
   exact canonAll_ok r σ1 β1 I1 hc
theorem headR_ok (I:Inv w0 fp S0 σ a w β S) {k:Option (List Nat)} {c:List (Nat×Option Nat×Nat×Nat×TypeId)} (hc:headR k c σ=some σ'):∃ β',Inv w0 fp S0 σ' a w β' S:=by
 unfold headR at hc
 split at hc<;>try (cases hc;done)
 rename_i σ1 h1
 obtain ⟨β1,I1⟩:=canonAll_ok c σ β I h1
 split at hc
 ·cases hc;exact ⟨β1,I1⟩
 ·exact keepCanon_ok I1 hc
theorem alloc_old (w:World) (o:Obj) {b:Nat} (h:b<w.heap.size):(w.alloc o).heap[b]?=w.heap[b]?:=push_old w o h
theorem Inv.kill (I:Inv w0 fp S0 σ a w β S) {d:Nat} (hd:(getM σ.M d).isSome=true):Inv w0 fp S0 { σ with M:=(d,.dead)::σ.M } a w β S:=by
 have get:∀ i o,getM ((d,O.dead)::σ.M) i=some o→(o=.dead)∨getM σ.M i=some o:=fun i o h=>by
  simp only [getM] at h
  split at h
  ·cases h;exact .inl rfl
  ·exact .inr h
 have some':∀ i,(getM σ.M i).isSome=true→(getM ((d,O.dead)::σ.M) i).isSome=true:=fun i h=>by
  simp only [getM]
  split
  ·rfl
  ·exact h
 refine { defers:=I.defers,size:=I.size,slots:=I.slots,objs:=fun i o h => ?_,own:=fun i o g h h1 h2 => ?_,fro:=fun i m e rows g h h1 => ?_,inj:=fun i j o o' g h1 h2 h3 h4 h5 h6 => ?_,closedF:=fun t id hid=>some' id (I.closedF t id hid),closedM:=fun i o h id hid => ?_,Slt:=I.Slt,S0S:=I.S0S,SIn:=I.SIn,ext:=fun i hi=>⟨some' _ (I.ext i hi).1,(I.ext i hi).2⟩,os:=I.os,tape:=I.tape,output:=I.output,grow:=I.grow,kept:=I.kept,laid:=I.laid }
 ·rcases get i o h with rfl | h
  ·trivial
  ·exact I.objs i o h
 ·rcases get i o h with rfl | h
  ·cases h1
  ·exact I.own i o g h h1 h2
 ·rcases get i _ h with h | h
  ·cases h
  ·exact I.fro i m e rows g h h1
 ·rcases get i o h1 with rfl | h1
  ·cases h3
  ·rcases get j o' h2 with rfl | h2
   ·cases h4
   ·exact I.inj i j o o' g h1 h2 h3 h4 h5 h6
 ·rcases get i o h with rfl | h
  ·simp [O.ids] at hid
  ·exact some' id (I.closedM i o h id hid)
theorem Inv.mark (I:Inv w0 fp S0 σ a w β S):Inv w0 fp S0 σ { a with defers:={ target:=.collected w.heap.size,args:=#[] }::a.defers } (w.alloc (.deferred (some []))) β S:=by
 have hw:∀ b,S b→(w.alloc (.deferred (some []))).heap[b]?=w.heap[b]?:=fun b hb=>alloc_old w _ (I.Slt b hb)
 have hsz:(w.alloc (.deferred (some []))).heap.size=w.heap.size+1:=by simp
 refine { defers:=?_,size:=I.size,slots:=fun t=>(I.slots t).mono hw (fun _ h=>h) (fun _ _=>rfl),objs:=fun id o h=>(I.objs id o h).mono hw (fun _ h=>h) (fun g hg hdead => ?_) rfl (fun _ _=>rfl),own:=I.own,fro:=I.fro,inj:=I.inj,closedF:=I.closedF,closedM:=I.closedM,Slt:=fun b hb=>by have:=I.Slt b hb;omega,S0S:=I.S0S,SIn:=I.SIn,ext:=I.ext,os:=I.os,tape:=I.tape,output:=I.output,grow:=by have:=I.grow;omega,kept:=fun b hb hf=>(alloc_old w _ (Nat.lt_of_lt_of_le hb I.grow)).trans (I.kept b hb hf),laid:=fun g cs h=>⟨(I.laid g cs h).1,fun β'=>((I.laid g cs h).2 β').mono hw (fun _ h=>h) (fun _ _=>rfl)⟩ }
 ·obtain ⟨Ds,h1,h2,h3⟩:=I.defers
  refine ⟨w.heap.size::Ds,by rw [h1];rfl,List.nodup_cons.2 ⟨fun hD => ?_,h2⟩,fun D hD => ?_⟩
  ·have:=(Array.getElem?_eq_some_iff.1 (h3 _ hD).2.1).1
   omega
  ·rcases List.mem_cons.1 hD with rfl | hD
   ·exact ⟨I.grow,World.alloc_heap_new w _,fun hS=>by have:=I.Slt _ hS;omega⟩
   ·obtain ⟨m1,m2,m3⟩:=h3 D hD
    exact ⟨m1,(alloc_old w _ (Array.getElem?_eq_some_iff.1 m2).1).trans m2,m3⟩
 ·have hlt:g<w.heap.size:=by
   cases hown:o.isOwn with
   | true=>exact (own_cells (I.objs id o h) hown hg).1
   | false =>
     cases o with
     | row ow m e rows=>cases ow with
       | true=>cases hown
       | false=>exact I.Slt g (I.fro id m e rows g h hg)
     | dead=>cases hdead
     | box=>cases hown
     | tab=>cases hown
     | lp=>cases hown
  exact alloc_old w _ hlt
theorem Inv.take {d:Deferred} {ds:List Deferred} {tmps:Array Value} (I:Inv w0 fp S0 σ { tmps:=tmps,defers:=d::ds } w β S):∃ D w',d.target=.collected D∧(Instr.takeDeferred D).run P w=.ok [] w'∧Inv w0 fp S0 σ { tmps:=tmps,defers:=ds } w' β S:=by
 obtain ⟨Ds,h1,h2,h3⟩:=I.defers
 cases Ds with
 | nil=>cases h1
 | cons D Ds =>
   simp only [List.map_cons,List.cons.injEq] at h1
   obtain ⟨rfl,rfl⟩:=h1
   obtain ⟨m1,m2,m3⟩:=h3 D (by simp)
   have hne:∀ b,b≠D→(w.putObj D (.deferred none)).heap[b]?=w.heap[b]?:=fun b hb=>World.putObj_heap_other hb
   have hw:∀ b,S b→(w.putObj D (.deferred none)).heap[b]?=w.heap[b]?:=fun b hb=>hne b fun e=>m3 (e▸hb)
   refine ⟨D,w.putObj D (.deferred none),rfl,run_takeDeferred m2,?_⟩
   refine { defers:=?_,size:=I.size,slots:=fun t=>(I.slots t).mono hw (fun _ h=>h) (fun _ _=>rfl),objs:=fun id o h=>(I.objs id o h).mono hw (fun _ h=>h) (fun g hg hdead=>hne g fun e => ?_) rfl (fun _ _=>rfl),own:=I.own,fro:=I.fro,inj:=I.inj,closedF:=I.closedF,closedM:=I.closedM,Slt:=fun b hb=>by rw [World.putObj_size];exact I.Slt b hb,S0S:=I.S0S,SIn:=I.SIn,ext:=I.ext,os:=I.os,tape:=I.tape,output:=I.output,grow:=by rw [World.putObj_size];exact I.grow,kept:=fun b hb hf=>(hne b (by omega)).trans (I.kept b hb hf),laid:=fun g cs h=>⟨(I.laid g cs h).1,fun β'=>((I.laid g cs h).2 β').mono hw (fun _ h=>h) (fun _ _=>rfl)⟩ }
   ·refine ⟨Ds,rfl,(List.nodup_cons.1 h2).2,fun D' hD' => ?_⟩
    obtain ⟨n1,n2,n3⟩:=h3 D' (by simp [hD'])
    exact ⟨n1,(hne D' fun e=>(List.nodup_cons.1 h2).1 (e▸hD')).trans n2,n3⟩
   ·subst e
    cases hown:o.isOwn with
    | true=>exact (own_cells (I.objs id o h) hown hg).2 m2
    | false =>
      cases o with
      | row ow m e rows=>cases ow with
        | true=>cases hown
        | false=>exact m3 (I.fro id m e rows g h hg)
      | dead=>cases hdead
      | box=>cases hown
      | tab=>cases hown
      | lp=>cases hown
theorem inv_newLp (I:Inv w0 fp S0 σ a w β S) {d fn:Nat} {F:List (Nat×V)} {ps:List Nat} {asg body:Code} {r:Loop} (hd:getM σ.M d=none) (hps:r.params.toList=ps) (ha:r.assign=asg) (hb:r.body=body) (hst:r.state=.ready) (hpe:r.pending=none)
  (ht:r.tmps=a.tmps) (hF:∀ t,getF F t=getF σ.F t∨getF F t=.bad) (hcl:∀ id∈V.idsL (F.map (·.2)),(getM σ.M id).isSome=true) :
  Inv w0 fp S0 { σ with M:=(d,.lp fn σ.n F ps asg body 0 .norm)::σ.M } a (w.alloc (.loop r)) (upd β d (.func (.yield w.heap.size) #[] #[])) S:=by
 have hw:∀ b,S b→(w.alloc (.loop r)).heap[b]?=w.heap[b]?:=fun b hb=>alloc_old w _ (I.Slt b hb)
 have hne:∀ id,(getM σ.M id).isSome=true→upd β d (.func (.yield w.heap.size) #[] #[]) id=β id:=fun id h=>upd_ne _ _ fun e=>by rw [e,hd] at h;cases h
 refine I.upd (σ:=σ) (v:=.bad) (v':=undef) (dst:=none) (UpdOk.create I hd (w':=w.alloc (.loop r)) (o:=.lp fn σ.n F ps asg body 0 .norm) (hv:=.func (.yield w.heap.size) #[] #[]) rfl rfl rfl (by simp) (fun b hb=>alloc_old w _ hb) (fun g hg=>by cases hg;exact Nat.le_refl _) rfl ?_ hcl (.bad _) (by simp [V.ids])) rfl
 refine ⟨w.heap.size,r,upd_same _ _ _,World.alloc_heap_new w _,hps,ha,hb,hst,hpe,by rw [ht];exact I.size,fun t => ?_⟩
 rw [ht]
 rcases hF t with e | e
 ·rw [e]
  exact (I.slots t).mono hw (fun _ h=>h) fun id hid=>hne id (I.closedF t id hid)
 ·rw [e];exact .bad _
theorem inv_setLp (I:Inv w0 fp S0 σ a w β S) {id fn n l st st':Nat} {F:List (Nat×V)} {ps:List Nat} {asg body:Code} {r:Loop} {out out':Out} (hM:getM σ.M id=some (.lp fn n F ps asg body st out)) (hβ:β id=.func (.yield l) #[] #[]) (hl:w.heap[l]?=some (.loop r)) :
  Inv w0 fp S0 { σ with M:=(id,.lp fn n F ps asg body st' out')::σ.M } a (w.putObj l (.loop { r with state:=lpState st',pending:=out'.jump })) β S:=by
 obtain ⟨l',r',h1,h2,h3,h4,h5,h6,h7,h8,h9⟩:=I.objs id _ hM
 rw [hβ] at h1;cases h1
 rw [hl] at h2;cases h2
 have hlt:l<w.heap.size:=(Array.getElem?_eq_some_iff.1 hl).1
 have hnS:¬S l:=(I.own id _ l hM rfl (by rw [hβ];rfl)).1
 have hw:∀ b,S b→(w.putObj l (.loop { r with state:=lpState st',pending:=out'.jump })).heap[b]?=w.heap[b]?:=fun b hb=>World.putObj_heap_other fun e=>hnS (e▸hb)
 refine I.upd (σ:=σ) (v:=.bad) (v':=undef) (dst:=none) (UpdOk.write I hM rfl (w':=w.putObj l (.loop { r with state:=lpState st',pending:=out'.jump })) (o1:=.lp fn n F ps asg body st' out') rfl rfl rfl rfl (by simp) (fun b hb=>World.putObj_heap_other fun (e:b=l)=>hb (by rw [hβ,e];rfl)) ?_ (fun i hi=>I.closedM id (.lp fn n F ps asg body st out) hM i hi) (.bad _) (by simp [V.ids])) rfl
 exact ⟨l,_,hβ,World.putObj_heap_same hlt,h3,h4,h5,rfl,rfl,h8,fun t=>(h9 t).mono hw (fun _ h=>h) fun _ _=>rfl⟩
end
end Go.Proofs.YtlelaenalbkbmaaDoorV