/- The value interpreter: a call's effect,and every operation. -/
import Derived.Test.YtlelaenalbkbmaaDoorHVi12
namespace Go.Proofs.YtlelaenalbkbmaaDoorV
open Go
set_option linter.unusedVariables false
set_option linter.unusedSimpArgs false
theorem getM_zip:∀ (ids:List Nat) (os:List O) (id:Nat) (o:O),getM (ids.zip os) id=some o→∃ i:Nat,ids[i]?=some id∧os[i]?=some o
 | [],os,id,o,h=>by simp [getM] at h
 | x::r,[],id,o,h=>by simp [getM] at h
 | x::r,q::os,id,o,h=>by
   simp only [List.zip_cons_cons,getM] at h
   split at h
   ·rename_i e;cases h;exact ⟨0,by simp [e],by simp⟩
   ·obtain ⟨i,h1,h2⟩:=getM_zip r os id o h
    exact ⟨i+1,by simpa using h1,by simpa using h2⟩
theorem getM_zip_some:∀ (ids:List Nat) (os:List O) (id:Nat),os.length=ids.length→id∈ids→(getM (ids.zip os) id).isSome=true
 | [],os,id,_,h=>by simp at h
 | x::r,[],id,h,_=>by simp at h
 | x::r,q::os,id,hl,h=>by
   simp only [List.zip_cons_cons,getM]
   split
   ·rfl
   ·rename_i e
    exact getM_zip_some r os id (by simpa using hl) ((List.mem_cons.1 h).resolve_left fun h=>e h.symm)
theorem getM_new {d:Nat}:∀ (l:List O) (s id:Nat) (o:O),getM (newObjs d s l) id=some o→∃ j,id=newId d (s+j)∧l[j]?=some o
 | [],s,id,o,h=>by simp [newObjs,getM] at h
 | q::r,s,id,o,h=>by
   simp only [newObjs,getM] at h
   split at h
   ·rename_i e;cases h;exact ⟨0,by simpa using e.symm,by simp⟩
   ·obtain ⟨j,h1,h2⟩:=getM_new r (s+1) id o h
    exact ⟨j+1,by rw [h1];congr 1;omega,by simpa using h2⟩
theorem getM_new_some {d:Nat}:∀ (l:List O) (s j:Nat),j<l.length→(getM (newObjs d s l) (newId d (s+j))).isSome=true
 | [],s,j,h=>by simp at h
 | q::r,s,j,h=>by
   simp only [newObjs,getM]
   split
   ·rfl
   ·rename_i e
    cases j with
    | zero=>exact absurd rfl e
    | succ j =>
      have:=getM_new_some (d:=d) r (s+1) j (by simpa using h)
      rwa [show s+1+j=s+(j+1) from by omega] at this
section
variable {P:Program} {w0:World} {fp:Nat→Prop} {S0:Base} {σ:St} {a:Act} {w:World} {β:Nat→Value} {S:Nat→Prop} {o:Oper}
open Classical in
noncomputable def newβ (β βr:Nat→Value) (d n:Nat):Nat→Value:=fun id=>if ∃ j,j<n∧id=newId d j then βr (RetB+(id - d) / 10000) else β id
theorem newβ_new {β βr:Nat→Value} {d n j:Nat} (h:j<n):newβ β βr d n (newId d j)=βr (RetB+j):=by
 unfold newβ
 rw [if_pos ⟨j,h,rfl⟩]
 congr 2
 simp only [newId]
 omega
theorem newβ_old {β βr:Nat→Value} {d n id:Nat} (h:∀ j,j<n→id≠newId d j):newβ β βr d n id=β id:=by
 unfold newβ
 rw [if_neg]
 rintro ⟨j,h1,h2⟩
 exact h j h1 h2
theorem from_call (I:Inv w0 fp S0 σ a w β S) {ids:List Nat} {objs:List O} (hobjs:objsOf σ.M ids=some objs) (hlt:ids.length<1000000) {d:Nat} {r:V} {exts news:List O} (hel:exts.length=ids.length)
  (hnw:(newObjs d 0 (news.map (O.ren (fromCall ids d)))).all (fun q=>(getM σ.M q.1).isNone)=true) {v':Value} {w':World} {βr:Nat→Value} {S':Nat→Prop}
  (Ir:Inv w (fun b=>∃ id o,id∈ids∧getM σ.M id=some o∧o.isOwn=true∧blk (β id)=some b) (baseOf S (fun i=>β (ids.getD (i - ExtB) 0)) ids.length) (outSt r exts news) ⟨#[v'],[]⟩ w' βr S') :
  UpdOk w0 fp σ w β S (r.ren (fromCall ids d)) (ids.zip (exts.map (O.ren (fromCall ids d)))++newObjs d 0 (news.map (O.ren (fromCall ids d)))) v' w' (newβ β βr d news.length) S':=by
 obtain ⟨hlen,hget⟩:=objsOf_get ids objs hobjs
 have hnone:∀ j,j<news.length→getM σ.M (newId d j)=none:=fun j hj=>by
  have h1:=getM_new_some (d:=d) (news.map (O.ren (fromCall ids d))) 0 j (by simpa using hj)
  rw [Nat.zero_add] at h1
  obtain ⟨q,hq,he⟩:=List.mem_map.1 (getM_keys.1 h1)
  have:=(List.all_eq_true.1 hnw) q hq
  rw [he] at this
  simpa using this
 have hids:∀ id∈ids,(getM σ.M id).isSome=true:=fun id h=>by
  obtain ⟨i,hi,rfl⟩:=List.mem_iff_getElem.1 h
  obtain ⟨o,_,ho⟩:=hget i ids[i] (List.getElem?_eq_getElem hi)
  rw [ho];rfl
 have hnot:∀ id∈ids,∀ j,j<news.length→id≠newId d j:=fun id h j hj e=>by
  have:=hids id h
  rw [e,hnone j hj] at this;cases this
 have outGet:∀ c o,getM (outSt r exts news).M c=some o→(∃ i,c=ExtB+i∧i<ids.length∧exts[i]?=some o)∨∃ j,c=RetB+j∧j<news.length∧news[j]?=some o:=by
  intro c o h
  simp only [outSt,getM_append,getM_idxs] at h
  by_cases hc:ExtB≤c
  ·rw [if_pos hc] at h
   cases he:exts[c - ExtB]? with
   | some o' =>
     simp only [he] at h;cases h
     exact .inl ⟨c - ExtB,by omega,by rw [←hel];exact (List.getElem?_eq_some_iff.1 he).1,he⟩
   | none =>
     simp only [he] at h
     split at h<;>try (cases h;done)
     exact .inr ⟨c - RetB,by omega,(List.getElem?_eq_some_iff.1 h).1,h⟩
  ·rw [if_neg hc] at h
   simp only at h
   split at h<;>try (cases h;done)
   rename_i h2
   simp only [ExtB,RetB] at hc h2
   omega
 have outExt:∀ i,i<ids.length→∃ o,exts[i]?=some o∧getM (outSt r exts news).M (ExtB+i)=some o:=fun i hi=>by
  have hi':i<exts.length:=by omega
  refine ⟨exts[i],List.getElem?_eq_getElem hi',?_⟩
  simp only [outSt,getM_append,getM_idxs]
  rw [if_pos (by omega),Nat.add_sub_cancel_left,List.getElem?_eq_getElem hi']
 have outNew:∀ j,j<news.length→∃ o,news[j]?=some o∧getM (outSt r exts news).M (RetB+j)=some o:=fun j hj=>by
  refine ⟨news[j],List.getElem?_eq_getElem hj,?_⟩
  simp only [outSt,getM_append,getM_idxs]
  rw [if_pos (by simp only [ExtB,RetB];omega)]
  have:exts[RetB+j - ExtB]?=none:=List.getElem?_eq_none (by simp only [ExtB,RetB];omega)
  rw [this]
  simp only
  rw [if_pos (by omega),Nat.add_sub_cancel_left,List.getElem?_eq_getElem hj]
 have backE:∀ i,i<ids.length→fromCall ids d (ExtB+i)=ids.getD i 0:=fun i hi=>by
  unfold fromCall
  rw [if_neg (by simp only [ExtB,RetB];omega),if_pos (by omega),Nat.add_sub_cancel_left]
 have backR:∀ j,fromCall ids d (RetB+j)=newId d j:=fun j=>by
  unfold fromCall
  rw [if_pos (by omega),Nat.add_sub_cancel_left]
 have getD_get:∀ (i:Nat) id,ids[i]?=some id→ids.getD i 0=id:=fun i id h=>by rw [List.getD_eq_getElem?_getD,h];rfl
 have βE:∀ i,i<ids.length→βr (ExtB+i)=β (ids.getD i 0):=fun i hi=>by
  have:=(Ir.ext i hi).2
  rw [this]
  simp only [baseOf,Nat.add_sub_cancel_left]
 have hβ:∀ c,(getM (outSt r exts news).M c).isSome=true→newβ β βr d news.length (fromCall ids d c)=βr c:=fun c hc=>by
  obtain ⟨o,ho⟩:=Option.isSome_iff_exists.1 hc
  rcases outGet c o ho with ⟨i,rfl,hi,_⟩ | ⟨j,rfl,hj,_⟩
  ·rw [backE i hi,βE i hi]
   refine newβ_old (hnot _ ?_)
   rw [List.getD_eq_getElem?_getD,List.getElem?_eq_getElem hi]
   simp
  ·rw [backR j]
   exact newβ_new hj
 have key:∀ id o,getM (ids.zip (exts.map (O.ren (fromCall ids d)))++newObjs d 0 (news.map (O.ren (fromCall ids d)))) id=some o→∃ c o',getM (outSt r exts news).M c=some o'∧o=o'.ren (fromCall ids d)∧fromCall ids d c=id:=by
  intro id o h
  rw [getM_append] at h
  cases hz:getM (ids.zip (exts.map (O.ren (fromCall ids d)))) id with
  | some o' =>
    simp only [hz] at h;cases h
    obtain ⟨i,h1,h2⟩:=getM_zip _ _ _ _ hz
    rw [List.getElem?_map,Option.map_eq_some_iff] at h2
    obtain ⟨q,h3,rfl⟩:=h2
    have hi:i<ids.length:=(List.getElem?_eq_some_iff.1 h1).1
    obtain ⟨q',h4,h5⟩:=outExt i hi
    rw [h3] at h4;cases h4
    exact ⟨ExtB+i,q,h5,rfl,by rw [backE i hi];exact getD_get i id h1⟩
  | none =>
    simp only [hz] at h
    obtain ⟨j,rfl,h2⟩:=getM_new _ _ _ _ h
    rw [List.getElem?_map,Option.map_eq_some_iff] at h2
    obtain ⟨q,h3,rfl⟩:=h2
    obtain ⟨q',h4,h5⟩:=outNew j (List.getElem?_eq_some_iff.1 h3).1
    rw [h3] at h4;cases h4
    exact ⟨RetB+j,q,h5,rfl,by rw [backR j,Nat.zero_add]⟩
 have uSome:∀ c,(getM (outSt r exts news).M c).isSome=true→(getM (ids.zip (exts.map (O.ren (fromCall ids d)))++newObjs d 0 (news.map (O.ren (fromCall ids d)))) (fromCall ids d c)).isSome=true:=fun c hc=>by
  obtain ⟨o,ho⟩:=Option.isSome_iff_exists.1 hc
  rw [getM_append]
  rcases outGet c o ho with ⟨i,rfl,hi,_⟩ | ⟨j,rfl,hj,_⟩
  ·rw [backE i hi]
   have hmem:ids.getD i 0∈ids:=by rw [List.getD_eq_getElem?_getD,List.getElem?_eq_getElem hi];simp
   have:=getM_zip_some ids (exts.map (O.ren (fromCall ids d))) _ (by simpa using hel) hmem
   cases hz:getM (ids.zip (exts.map (O.ren (fromCall ids d)))) (ids.getD i 0) with
   | some _=>rfl
   | none=>rw [hz] at this;cases this
  ·rw [backR j]
   have:=getM_new_some (d:=d) (news.map (O.ren (fromCall ids d))) 0 j (by simpa using hj)
   rw [Nat.zero_add] at this
   cases hz:getM (ids.zip (exts.map (O.ren (fromCall ids d)))) (newId d j) with
   | some _=>rfl
   | none=>exact this
 have uIds:∀ id∈ids,(getM (ids.zip (exts.map (O.ren (fromCall ids d)))++newObjs d 0 (news.map (O.ren (fromCall ids d)))) id).isSome=true:=fun id h=>by
  have:=getM_zip_some ids (exts.map (O.ren (fromCall ids d))) id (by simpa using hel) h
  rw [getM_append]
  cases hz:getM (ids.zip (exts.map (O.ren (fromCall ids d)))) id with
  | some _=>rfl
  | none=>rw [hz] at this;cases this
 have third:∀ b,(∃ id o,id∈ids∧getM σ.M id=some o∧o.isOwn=true∧blk (β id)=some b)→∃ id o,getM σ.M id=some o∧o.isOwn=true∧blk (β id)=some b∧(getM (ids.zip (exts.map (O.ren (fromCall ids d)))++newObjs d 0 (news.map (O.ren (fromCall ids d)))) id).isSome=true:=by
  rintro b ⟨id,o,h1,h2,h3,h4⟩
  exact ⟨id,o,h2,h3,h4,uIds id h1⟩
 refine { new:=?_,os:=Ir.os,tape:=Ir.tape,output:=Ir.output,grow:=Ir.grow,touch:=?_,S1:=Ir.S0S,S2:=Ir.Slt,S4:=?_,objs:=?_,own:=?_,fro:=?_,inj:=?_,closedM:=?_,rep:=?_,closedV:=?_ }
 ·intro id
  by_cases h:∃ j,j<news.length∧id=newId d j
  ·obtain ⟨j,hj,rfl⟩:=h
   exact .inr (hnone j hj)
  ·exact .inl (newβ_old fun j hj e=>h ⟨j,hj,e⟩)
 ·intro b hb
  by_cases h:∃ id o,id∈ids∧getM σ.M id=some o∧o.isOwn=true∧blk (β id)=some b
  ·exact .inr (third b h)
  ·exact .inl (Ir.kept b hb h)
 ·intro b hb
  rcases Ir.SIn b hb with h | h | h
  ·exact .inl h
  ·exact .inr (.inr (third b h))
  ·exact .inr (.inl h)
 ·intro id o h
  obtain ⟨c,o',h1,rfl,rfl⟩:=key id o h
  exact (Ir.objs c o' h1).ren (fromCall ids d) (hβ c (by rw [h1];rfl)) fun i hi=>hβ i (Ir.closedM c o' h1 i hi)
 ·intro id o g h hown hg
  obtain ⟨c,o',h1,rfl,rfl⟩:=key id o h
  rw [isOwn_ren] at hown
  rw [hβ c (by rw [h1];rfl)] at hg
  obtain ⟨h2,h3⟩:=Ir.own c o' g h1 hown hg
  refine ⟨h2,?_⟩
  rcases h3 with h3 | h3
  ·exact .inr (third g h3)
  ·exact .inl h3
 ·intro id m e rows g h hg
  obtain ⟨c,o',h1,h2,rfl⟩:=key id _ h
  rw [hβ c (by rw [h1];rfl)] at hg
  cases o' with
  | box=>cases h2
  | row ow m' e' rows' =>
    simp only [O.ren] at h2
    cases h2
    exact Ir.fro c m e rows g h1 hg
  | tab=>cases h2
  | lp=>cases h2
  | dead=>cases h2
 ·intro i j o1 o2 g h1 h2 h3 h4 h5 h6
  obtain ⟨c1,p1,a1,rfl,rfl⟩:=key i o1 h1
  obtain ⟨c2,p2,b1,rfl,rfl⟩:=key j o2 h2
  rw [isOwn_ren] at h3 h4
  rw [hβ c1 (by rw [a1];rfl)] at h5
  rw [hβ c2 (by rw [b1];rfl)] at h6
  rw [Ir.inj c1 c2 p1 p2 g a1 b1 h3 h4 h5 h6]
 ·intro i o h id hid
  obtain ⟨c,o',h1,rfl,rfl⟩:=key i o h
  rw [oids_ren] at hid
  obtain ⟨id1,h7,rfl⟩:=List.mem_map.1 hid
  exact .inl (uSome id1 (Ir.closedM c o' h1 id1 h7))
 ·have hs:=Ir.slots 0
  have hcl:=Ir.closedF 0
  simp only [outSt,getF,if_true] at hs hcl
  exact hs.ren (fromCall ids d) fun id hid=>hβ id (hcl id hid)
 ·intro id hid
  have hcl:=Ir.closedF 0
  simp only [outSt,getF,if_true] at hcl
  rw [ids_ren] at hid
  obtain ⟨id1,h7,rfl⟩:=List.mem_map.1 hid
  exact .inl (uSome id1 (hcl id1 h7))
mutual
theorem lendV_ok (I:Inv w0 fp S0 σ a w β S):∀ (x y:V) (u:List (Nat×O)) (v:Value),lendV σ x=some (y,u)→Rep w β S x v→FrzOk σ u∧Rep w β (frS β S u) y v∧∀ id∈y.ids,id∈x.ids
 | .own id,y,u,v,h,hr=>by
   rw [lendV] at h
   obtain ⟨h1,h2,h3⟩:=frz_ok I h hr
   refine ⟨h1,.d h3,fun i hi => ?_⟩
   have:y.ids=[]:=by cases h3<;>simp [V.ids]
   rw [this] at hi;cases hi
 | .cut id m o n,y,u,v,h,hr=>by
   rw [lendV] at h
   obtain ⟨h1,h2,h3⟩:=frz_ok I h hr
   refine ⟨h1,.d h3,fun i hi => ?_⟩
   have:y.ids=[]:=by cases h3<;>simp [V.ids]
   rw [this] at hi;cases hi
 | .agg cs,y,u,v,h,hr=>by
   rw [lendV] at h
   split at h<;>simp at h
   rename_i l u' hl
   obtain ⟨rfl,rfl⟩:=h
   cases hr with
   | d hr=>cases hr
   | agg _ arr hs hone hc =>
     obtain ⟨h1,h2,h3,h4⟩:=lendL_ok I cs l u' arr.toList hl (by simpa using hs) fun i x v hx hv=>hc i x v hx (by simpa using hv)
     exact ⟨h1,.agg l arr (by rw [hs,h2]) hone fun i x v hx hv=>h3 i x v hx (by simpa using hv),fun i hi=>by rw [V.ids] at hi ⊢;exact h4 i hi⟩
 | .p q,y,u,v,h,hr=>by simp only [lendV] at h;cases h;exact ⟨fun _ _ h=>by (cases h),hr.mono (fun _ _=>rfl) (fun _ h=>.inl h) (fun _ _=>rfl),fun _ h=>h⟩
 | .nil,y,u,v,h,hr=>by simp only [lendV] at h;cases h;exact ⟨fun _ _ h=>by (cases h),hr.mono (fun _ _=>rfl) (fun _ h=>.inl h) (fun _ _=>rfl),fun _ h=>h⟩
 | .sl m rows,y,u,v,h,hr=>by simp only [lendV] at h;cases h;exact ⟨fun _ _ h=>by (cases h),hr.mono (fun _ _=>rfl) (fun _ h=>.inl h) (fun _ _=>rfl),fun _ h=>h⟩
 | .rpt cs k,y,u,v,h,hr=>by simp only [lendV] at h;cases h;exact ⟨fun _ _ h=>by (cases h),hr.mono (fun _ _=>rfl) (fun _ h=>.inl h) (fun _ _=>rfl),fun _ h=>h⟩
 | .ptr id k,y,u,v,h,hr=>by simp only [lendV] at h;cases h;exact ⟨fun _ _ h=>by (cases h),hr.mono (fun _ _=>rfl) (fun _ h=>.inl h) (fun _ _=>rfl),fun _ h=>h⟩
 | .ept id m k j,y,u,v,h,hr=>by simp only [lendV] at h;cases h;exact ⟨fun _ _ h=>by (cases h),hr.mono (fun _ _=>rfl) (fun _ h=>.inl h) (fun _ _=>rfl),fun _ h=>h⟩
 | .tup vs,y,u,v,h,hr=>by simp only [lendV] at h;cases h;exact ⟨fun _ _ h=>by (cases h),hr.mono (fun _ _=>rfl) (fun _ h=>.inl h) (fun _ _=>rfl),fun _ h=>h⟩
 | .fn f cs,y,u,v,h,hr=>by simp only [lendV] at h;cases h;exact ⟨fun _ _ h=>by (cases h),hr.mono (fun _ _=>rfl) (fun _ h=>.inl h) (fun _ _=>rfl),fun _ h=>h⟩
 | .yld id,y,u,v,h,hr=>by simp only [lendV] at h;cases h;exact ⟨fun _ _ h=>by (cases h),hr.mono (fun _ _=>rfl) (fun _ h=>.inl h) (fun _ _=>rfl),fun _ h=>h⟩
 | .bsl id m n,y,u,v,h,hr=>by simp only [lendV] at h;cases h;exact ⟨fun _ _ h=>by (cases h),hr.mono (fun _ _=>rfl) (fun _ h=>.inl h) (fun _ _=>rfl),fun _ h=>h⟩
 | .bad,y,u,v,h,hr=>by simp only [lendV] at h;cases h;exact ⟨fun _ _ h=>by (cases h),hr.mono (fun _ _=>rfl) (fun _ h=>.inl h) (fun _ _=>rfl),fun _ h=>h⟩
 | .coin,y,u,v,h,hr=>by simp only [lendV] at h;cases h;exact ⟨fun _ _ h=>by (cases h),hr.mono (fun _ _=>rfl) (fun _ h=>.inl h) (fun _ _=>rfl),fun _ h=>h⟩
theorem lendL_ok (I:Inv w0 fp S0 σ a w β S):∀ (cs ys:List V) (u:List (Nat×O)) (l:List Value),lendL σ cs=some (ys,u)→l.length=cs.length→(∀ (i:Nat) x v,cs[i]?=some x→l[i]?=some v→Rep w β S x v) →
  FrzOk σ u∧ys.length=cs.length∧(∀ (i:Nat) y v,ys[i]?=some y→l[i]?=some v→Rep w β (frS β S u) y v)∧∀ id∈V.idsL ys,id∈V.idsL cs
 | [],ys,u,l,h,hl,_=>by
   rw [lendL] at h
   cases h
   exact ⟨fun _ _ h=>by (cases h),rfl,by simp,fun _ h=>h⟩
 | c::r,ys,u,l,h,hl,hr=>by
   cases l with
   | nil=>simp at hl
   | cons v l =>
     rw [lendL] at h
     split at h<;>simp at h
     rename_i x u1 y u2 h1 h2
     obtain ⟨rfl,rfl⟩:=h
     obtain ⟨a1,a2,a3⟩:=lendV_ok I c x u1 v h1 (hr 0 c v (by simp) (by simp))
     obtain ⟨b1,b2,b3,b4⟩:=lendL_ok I r y u2 l h2 (by simpa using hl) fun i x v hx hv=>hr (i+1) x v (by simpa using hx) (by simpa using hv)
     refine ⟨a1.append b1,by simp [b2],fun i z q hz hq => ?_,fun id hid => ?_⟩
     ·cases i with
      | zero=>simp at hz hq;subst hz hq;exact a2.mono (fun _ _=>rfl) frS_left (fun _ _=>rfl)
      | succ i=>simp at hz hq;exact (b3 i z q hz hq).mono (fun _ _=>rfl) frS_right (fun _ _=>rfl)
     ·rw [V.idsL] at hid ⊢
      rcases List.mem_append.1 hid with h | h
      ·exact List.mem_append_left _ (a3 id h)
      ·exact List.mem_append_right _ (b4 id h)
end
theorem flat_rep {r:V} (h:flatV r=true) {v:Value} {w':World} {β':Nat→Value} {S':Nat→Prop} (hr:Rep w β S r v):Rep w' β' S' r v:=by
 cases r<;>simp [flatV] at h
 case p q=>have e:=rep_p hr;subst e;exact .d (.p _)
 case tup vs =>
  cases hr with
  | d hr=>cases hr
  | tup _ arr hs hc =>
    refine .tup vs arr hs fun i x v hx hv => ?_
    have:=h x (List.mem_of_getElem? hx)
    have h2:=hc i x v hx hv
    cases x<;>simp at this
    have e:=rep_p h2
    subst e
    exact .d (.p _)
theorem flat_ids {r:V} (h:flatV r=true):r.ids=[]:=by
 cases r<;>simp [flatV] at h
 case p q=>simp [V.ids]
 case tup vs =>
  rw [V.ids]
  induction vs with
  | nil=>simp [V.idsL]
  | cons c l ih =>
    have h0:=h c (by simp)
    cases c<;>simp at h0
    rw [V.idsL,ih fun x hx=>h x (by simp [hx])]
    simp [V.ids]
theorem flat_ren {r:V} (h:flatV r=true) (f:Nat→Nat):r.ren f=r:=by
 cases r<;>simp [flatV] at h
 case p q=>simp [V.ren]
 case tup vs =>
  rw [V.ren,renL_map]
  congr 1
  conv=>rhs;rw [←List.map_id vs]
  refine List.map_congr_left fun x hx => ?_
  have h0:=h x hx
  cases x<;>simp at h0
  simp [V.ren]
theorem isPV_p {x:V} (h:isPV x=true):∃ q,x=.p q:=by
 cases x<;>simp [isPV] at h
 exact ⟨_,rfl⟩
theorem flatO_box {o:O} (h:flatO o=true):∃ ty cells,o=.box ty cells∧∀ x∈cells,∃ q,x=.p q:=by
 cases o<;>simp [flatO] at h
 exact ⟨_,_,rfl,fun x hx=>isPV_p (h x hx)⟩
theorem flatO_ren {o:O} (h:flatO o=true) (f:Nat→Nat):o.ren f=o:=by
 obtain ⟨ty,cells,rfl,hc⟩:=flatO_box h
 rw [O.ren,renL_map]
 congr 1
 conv=>rhs;rw [←List.map_id cells]
 refine List.map_congr_left fun x hx => ?_
 obtain ⟨q,rfl⟩:=hc x hx
 simp [V.ren]
theorem UpdOk.flat (I:Inv w0 fp S0 σ a w β S) {fz:List (Nat×O)} (f1:FrzOk σ fz) {r:V} {u:List (Nat×O)} {v':Value} {w':World} {β':Nat→Value} {S':Nat→Prop}
  (U:UpdOk w0 fp (σ.put none .bad fz) w β (frS β S fz) r u v' w' β' S') (hr:flatV r=true) (hu:∀ id o,getM u id=some o→∃ ty cells,o=.box ty cells∧∀ x∈cells,∃ q,x=.p q):UpdOk w0 fp σ w β S r u v' w' β' S:=by
 have own':∀ id o,getM (σ.put none .bad fz).M id=some o→o.isOwn=true→getM σ.M id=some o:=fun id o h1 h2=>by
  simp only [St.put,getM_append] at h1
  cases hq:getM fz id with
  | none=>simpa [hq] using h1
  | some o' =>
    rw [hq] at h1
    simp only [Option.some.injEq] at h1
    obtain ⟨own,m,e',r',_,e2⟩:=f1 id o' hq
    rw [←h1,e2] at h2
    cases h2
 refine { new:=fun id=>(U.new id).imp_right fun h => ?_,os:=U.os,tape:=U.tape,output:=U.output,grow:=U.grow,touch:=fun b hb=>(U.touch b hb).imp_right fun ⟨id,o,h1,h2,h3,h4⟩=>⟨id,o,own' id o h1 h2,h2,h3,h4⟩,S1:=fun _ h=>h,S2:=fun b hb=>Nat.lt_of_lt_of_le (I.Slt b hb) U.grow,S4:=fun _ h=>.inl h,objs:=fun id o h => ?_,own:=fun id o g h1 h2 h3 => ?_,fro:=fun id m e rows g h => ?_,inj:=U.inj,closedM:=fun i o h id hid => ?_,rep:=flat_rep hr U.rep,closedV:=fun id hid=>by rw [flat_ids hr] at hid;cases hid }
 ·simp only [St.put,getM_append] at h
  cases hq:getM fz id with
  | none=>simpa [hq] using h
  | some o'=>rw [hq] at h;cases h
 ·obtain ⟨ty,cells,rfl,hc⟩:=hu id o h
  obtain ⟨g,arr,e1,e2,e3,e4,e5⟩:=U.objs id _ h
  refine ⟨g,arr,e1,e2,e3,e4,fun i x v hx hv => ?_⟩
  obtain ⟨q,rfl⟩:=hc x (List.mem_of_getElem? hx)
  have e:=rep_p (e5 i _ v hx hv)
  subst e
  exact .d (.p _)
 ·obtain ⟨q1,q2⟩:=U.own id o g h1 h2 h3
  exact ⟨fun hs=>q1 (U.S1 g (.inl hs)),q2.imp_right fun ⟨id,o,h1,h2,h3,h4⟩=>⟨id,o,own' id o h1 h2,h2,h3,h4⟩⟩
 ·obtain ⟨ty,cells,e,_⟩:=hu _ _ h
  cases e
 ·obtain ⟨ty,cells,rfl,hc⟩:=hu _ _ h
  rw [O.ids] at hid
  exfalso
  clear h
  induction cells with
  | nil=>simp [V.idsL] at hid
  | cons c l ih =>
    obtain ⟨q,rfl⟩:=hc c (by simp)
    rw [V.idsL] at hid
    simp only [V.ids,List.nil_append] at hid
    exact ih (fun x hx=>hc x (by simp [hx])) hid
theorem getM_zip_mem:∀ (ids:List Nat) (os:List O) (id:Nat) (o:O),getM (ids.zip os) id=some o→o∈os
 | [],os,id,o,h=>by simp [getM] at h
 | i::ids,[],id,o,h=>by simp [getM] at h
 | i::ids,q::os,id,o,h=>by
   simp only [List.zip_cons_cons,getM] at h
   split at h
   ·cases h;simp
   ·exact List.mem_cons_of_mem _ (getM_zip_mem ids os id o h)
end
end Go.Proofs.YtlelaenalbkbmaaDoorV