/- The value interpreter: calls. What it says of a function is what the program's function does. -/
import Derived.Test.YtlelaenalbkbmaaDoorHVi21
namespace Go.Proofs.YtlelaenalbkbmaaDoorV
open Go
set_option linter.unusedVariables false
set_option linter.unusedSimpArgs false
section
variable {P:Program} {w0:World} {fp:Nat→Prop} {S0:Base} {σ σ':St} {a:Act} {w:World} {β:Nat→Value} {S:Nat→Prop} {o:Oper} {call:CallF} {h:Hints} {ops:Array Oper}
theorem resV_run (I:Inv w0 fp S0 σ a w β S):∀ (rs:List ResultVar) (l:List V),resV P σ rs=some l→∃ vs:List Value,vs.length=l.length∧(∀ (i:Nat) x v,l[i]?=some x→vs[i]?=some v→Rep w β S x v)∧(∀ id∈V.idsL l,(getM σ.M id).isSome=true) ∧
  (rs.mapM (fun r=>(match r with
   | .tmp t=>pure (a.tmps.getD t undef)
   | .cell b t=>do loadVar t (←asAddr (a.tmps.getD b undef)):Sem Value))).run P w=.ok vs w
 | [],l,hr=>by
   simp only [resV] at hr
   cases hr
   exact ⟨[],rfl,by simp,by simp [V.idsL],by simp⟩
 | .tmp t::r,l,hr=>by
   simp only [resV,Option.map_eq_some_iff] at hr
   obtain ⟨l',h1,rfl⟩:=hr
   obtain ⟨vs,h2,h3,h4,h5⟩:=resV_run I r l' h1
   refine ⟨a.tmps.getD t undef::vs,by simp [h2],fun i x v hx hv => ?_,fun id hid => ?_,?_⟩
   ·cases i with
    | zero=>simp at hx hv;subst hx hv;simpa using I.slots t
    | succ i=>exact h3 i x v (by simpa using hx) (by simpa using hv)
   ·rw [V.idsL] at hid
    rcases List.mem_append.1 hid with h | h
    ·exact I.closedF t id h
    ·exact h4 id h
   ·simp only [List.mapM_cons,Sem.run_bind,Sem.run_pure,Result.andThen_ok] at h5 ⊢
    rw [h5]
    rfl
 | .cell b t::r,l,hr=>by
   simp only [resV] at hr
   split at hr<;>simp at hr
   rename_i v0 l' h0 h1
   subst hr
   obtain ⟨vs,h2,h3,h4,h5⟩:=resV_run I r l' h1
   obtain ⟨bb,off,v',e1,e2,e3⟩:=load_run (P:=P) I h0 (I.slots b)
   refine ⟨v'::vs,by simp [h2],fun i x v hx hv => ?_,fun id hid => ?_,?_⟩
   ·cases i with
    | zero=>simp at hx hv;subst hx hv;exact e3
    | succ i=>exact h3 i x v (by simpa using hx) (by simpa using hv)
   ·rw [V.idsL] at hid
    rcases List.mem_append.1 hid with h | h
    ·exact loadV_closed I h0 (I.slots b) id h
    ·exact h4 id h
   ·simp only [List.mapM_cons,Sem.run_bind,Sem.run_pure,Result.andThen_ok] at h5 ⊢
    rw [e1]
    rw [show asAddr (.pointer (some ⟨bb,off,none⟩))=(pure ⟨bb,off,none⟩:Sem Addr) from rfl]
    simp only [Sem.run_pure,Result.andThen_ok,e2]
    rw [h5]
    rfl
theorem results_run (I:Inv w0 fp S0 σ a w β S) {fn:Func} {l:List V} (hr:resV P σ fn.results.toList=some l):∃ v,(results fn a.tmps).run P w=.ok v w∧Rep w β S (oneOf l) v∧∀ id∈(oneOf l).ids,(getM σ.M id).isSome=true:=by
 obtain ⟨vs,h2,h3,h4,h5⟩:=resV_run I _ l hr
 have hm:(fn.results.mapM (fun r=>(match r with
   | .tmp t=>pure (a.tmps.getD t undef)
   | .cell b t=>do loadVar t (←asAddr (a.tmps.getD b undef)):Sem Value))).run P w=.ok vs.toArray w:=by
  rw [←Array.toArray_toList (xs:=fn.results),List.mapM_toArray]
  simp only [Sem.run_map,h5,Result.andThen_ok]
 have hrun:(results fn a.tmps).run P w=.ok (if h:vs.toArray.size=1 then vs.toArray[0] else .tuple vs.toArray) w:=by
  unfold results
  simp only [Sem.run_bind]
  have:∀ (r:ResultVar),(match r with
   | .tmp t=>pure (a.tmps.getD t undef)
   | .cell b t=>do loadVar t (←asAddr (a.tmps.getD b undef)):Sem Value)=(match r with
   | .tmp t=>pure (a.tmps.getD t undef)
   | .cell b t=>do loadVar t (←asAddr (a.tmps.getD b undef)):Sem Value):=fun r=>rfl
  erw [hm]
  rfl
 cases l with
 | nil =>
   have:vs=[]:=List.eq_nil_of_length_eq_zero (by simpa using h2)
   subst this
   exact ⟨_,hrun,.tup [] #[] rfl (by simp),by simp [oneOf,V.ids,V.idsL]⟩
 | cons x r =>
   cases r with
   | nil =>
     cases vs with
     | nil=>simp at h2
     | cons v r2 =>
       have:r2=[]:=List.eq_nil_of_length_eq_zero (by simpa using h2)
       subst this
       refine ⟨v,by simpa using hrun,h3 0 x v (by simp) (by simp),fun id hid=>h4 id ?_⟩
       rw [V.idsL]
       exact List.mem_append_left _ hid
   | cons y r =>
     refine ⟨.tuple vs.toArray,?_,.tup _ _ (by simpa using h2) fun i x v hx hv=>h3 i x v hx (by simpa using hv),fun id hid=>h4 id (by simpa [oneOf,V.ids] using hid)⟩
     rw [hrun]
     have:¬(vs.toArray.size=1):=by simp [h2]
     rw [dif_neg this]
theorem finishR_ok {k:Nat} (hk:S0.k=k) (hlt:k<1000000) (I:Inv w0 fp S0 σ a w β S) {rr r:V} {v:Value} {exts news:List O} (hrep:Rep w β S rr v) (hrc:∀ id∈rr.ids,(getM σ.M id).isSome=true) (hf:finishR rr k σ=some (r,exts,news)):Post w0 fp S0 r exts news (.returned v) w:=by
 unfold finishR at hf
 split at hf<;>try (cases hf;done)
 rename_i ex hex
 split at hf<;>try (cases hf;done)
 rename_i ids0 hids0
 dsimp only at hf
 split at hf<;>try (cases hf;done)
 rename_i nw hnw
 split at hf<;>simp at hf
 rename_i hc
 obtain ⟨hnd,hal,hcl⟩:=hc
 obtain ⟨rfl,rfl,rfl⟩:=hf
 generalize hidq:ids0.filter (fun x=>decide (x<ExtB))=ids at *
 have hidlt:∀ id∈ids,id<ExtB:=fun id h=>by
  rw [←hidq] at h
  simpa using (List.mem_filter.1 h).2
 obtain ⟨elen,eget⟩:=objsOf_get _ _ hex
 obtain ⟨nlen,nget⟩:=objsOf_get _ _ hnw
 have elen:ex.length=k:=by simpa using elen
 have eget:∀ i,i<k→∃ o,ex[i]?=some o∧getM σ.M (ExtB+i)=some o:=fun i hi=>eget i (ExtB+i) (by simp [hi])
 let f:=toIdx RetB ids
 let β':Nat→Value:=fun i=>if RetB≤i then β (ids.getD (i - RetB) 0) else β i
 have inIds:∀ id,ids.contains id=true→∃ j,f id=RetB+j∧ids[j]?=some id:=fun id h=>toIdx_mem h
 have notIn:∀ i,i<k→f (ExtB+i)=ExtB+i:=fun i hi=>by
  have:idxOf ids (ExtB+i)=none:=by
   cases hq:idxOf ids (ExtB+i) with
   | none=>rfl
   | some q =>
     exfalso
     have:∀ (l:List Nat) q,idxOf l (ExtB+i)=some q→(ExtB+i)∈l:=by
      intro l
      induction l with
      | nil=>intro q h;simp [idxOf] at h
      | cons x r ih =>
        intro q h
        simp only [idxOf] at h
        split at h
        ·rename_i e;simp [e]
        ·rw [Option.map_eq_some_iff] at h
         obtain ⟨q',h1,_⟩:=h
         exact List.mem_cons_of_mem _ (ih q' h1)
     have:=hidlt _ (this ids q hq)
     omega
  show toIdx RetB ids (ExtB+i)=ExtB+i
  simp [toIdx,this]
 have hβ:∀ id,(ids.contains id=true∨∃ i,i<k∧id=ExtB+i)→β' (f id)=β id:=fun id h=>by
  rcases h with h | ⟨i,hi,rfl⟩
  ·obtain ⟨j,h1,h2⟩:=inIds id h
   show (if RetB≤f id then β (ids.getD (f id - RetB) 0) else β (f id))=β id
   rw [h1,if_pos (by omega),Nat.add_sub_cancel_left,List.getD_eq_getElem?_getD,h2]
   rfl
  ·rw [notIn i hi]
   show (if RetB≤ExtB+i then β (ids.getD (ExtB+i - RetB) 0) else β (ExtB+i))=β (ExtB+i)
   rw [if_neg (by simp only [ExtB,RetB];omega)]
 have known:∀ id,id∈rr.ids++ex.flatMap O.ids++nw.flatMap O.ids→ids.contains id=true∨∃ i,i<k∧id=ExtB+i:=fun id hid=>by
  have:=(List.all_eq_true.1 hcl) id hid
  simp only [Bool.or_eq_true,Bool.and_eq_true,decide_eq_true_eq] at this
  rcases this with h | ⟨h1,h2⟩
  ·exact .inl h
  ·exact .inr ⟨id - ExtB,by omega,by omega⟩
 have outGet:∀ c o,getM (outSt (rr.ren f) (ex.map (O.ren f)) (nw.map (O.ren f))).M c=some o→∃ id o0,getM σ.M id=some o0∧o=o0.ren f∧f id=c∧(o0∈ex∨o0∈nw)∧β' c=β id∧((∃ i,i<k∧id=ExtB+i)∨∃ j,c=RetB+j∧ids[j]?=some id):=by
  intro c o h
  simp only [outSt,getM_append,getM_idxs] at h
  by_cases hc:ExtB≤c
  ·rw [if_pos hc] at h
   cases he:(ex.map (O.ren f))[c - ExtB]? with
   | some o' =>
     simp only [he] at h;cases h
     rw [List.getElem?_map,Option.map_eq_some_iff] at he
     obtain ⟨o0,h1,rfl⟩:=he
     have hi:c - ExtB<k:=by rw [←elen];exact (List.getElem?_eq_some_iff.1 h1).1
     obtain ⟨o1,h2,h3⟩:=eget _ hi
     rw [h1] at h2;cases h2
     have hfc:=notIn _ hi
     have hcc:ExtB+(c - ExtB)=c:=by omega
     refine ⟨ExtB+(c - ExtB),o0,h3,rfl,by rw [hfc,hcc],.inl (List.mem_of_getElem? h1),?_,.inl ⟨_,hi,rfl⟩⟩
     have:=hβ (ExtB+(c - ExtB)) (.inr ⟨_,hi,rfl⟩)
     rw [hfc] at this
     rw [←this,hcc]
   | none =>
     simp only [he] at h
     split at h<;>try (cases h;done)
     rename_i hcr
     rw [List.getElem?_map,Option.map_eq_some_iff] at h
     obtain ⟨o0,h1,rfl⟩:=h
     have hj:c - RetB<ids.length:=by rw [←nlen];exact (List.getElem?_eq_some_iff.1 h1).1
     obtain ⟨o1,h2,h3⟩:=nget (c - RetB) ids[c - RetB] (List.getElem?_eq_getElem hj)
     rw [h1] at h2;cases h2
     obtain ⟨q,e1,e2⟩:=inIds ids[c - RetB] (by simp)
     have hq:=nodup_get ids hnd q (c - RetB) _ e2 (List.getElem?_eq_getElem hj)
     have hfc:f ids[c - RetB]=c:=by rw [e1,hq];omega
     refine ⟨ids[c - RetB],o0,h3,rfl,hfc,.inr (List.mem_of_getElem? h1),?_,.inr ⟨c - RetB,by omega,List.getElem?_eq_getElem hj⟩⟩
     have:=hβ ids[c - RetB] (.inl (by simp))
     rwa [hfc] at this
  ·rw [if_neg hc] at h
   simp only at h
   split at h<;>try (cases h;done)
   rename_i h2
   simp only [ExtB,RetB] at hc h2
   omega
 have outSome:∀ id,(ids.contains id=true∨∃ i,i<k∧id=ExtB+i)→(getM (outSt (rr.ren f) (ex.map (O.ren f)) (nw.map (O.ren f))).M (f id)).isSome=true:=fun id hid=>by
  simp only [outSt,getM_append,getM_idxs]
  rcases hid with hid | ⟨i,hi,rfl⟩
  ·obtain ⟨j,h1,h2⟩:=inIds id hid
   obtain ⟨o1,h3,_⟩:=nget j id h2
   rw [h1,if_pos (by simp only [ExtB,RetB];omega)]
   have:(ex.map (O.ren f))[RetB+j - ExtB]?=none:=List.getElem?_eq_none (by rw [List.length_map,elen];simp only [ExtB,RetB];omega)
   rw [this]
   simp only
   rw [if_pos (by omega),Nat.add_sub_cancel_left,List.getElem?_map,h3]
   rfl
  ·obtain ⟨o1,h3,_⟩:=eget i hi
   rw [notIn i hi,if_pos (by omega),Nat.add_sub_cancel_left,List.getElem?_map,h3]
   rfl
 refine ⟨v,β',S,rfl,by rw [List.length_map,elen,hk],by rw [List.length_map,elen];exact hlt,?_⟩
 refine { defers:=Marks.nil,size:=rfl,slots:=fun t => ?_,objs:=fun c o h => ?_,own:=fun c o g h hown hg => ?_,fro:=fun c m e rows g h hg => ?_,inj:=fun i j o o' g h1 h2 h3 h4 h5 h6 => ?_,closedF:=fun t id hid => ?_,closedM:=fun i o h id hid => ?_,Slt:=I.Slt,S0S:=I.S0S,SIn:=I.SIn,ext:=fun i hi => ?_,os:=I.os,tape:=I.tape,output:=I.output,grow:=I.grow,kept:=I.kept,laid:=I.laid }
 ·simp only [outSt,getF]
  split
  ·rename_i e
   subst e
   simpa using hrep.ren (β':=β') f fun id hid=>hβ id (known id (by simp [hid]))
  ·exact .bad _
 ·obtain ⟨id,o0,h1,rfl,rfl,h2,h3,_⟩:=outGet c o h
  refine (I.objs id o0 h1).ren f h3 fun i hi=>hβ i (known i ?_)
  rcases h2 with h2 | h2
  ·exact List.mem_append_left _ (List.mem_append_right _ (List.mem_flatMap.2 ⟨o0,h2,hi⟩))
  ·exact List.mem_append_right _ (List.mem_flatMap.2 ⟨o0,h2,hi⟩)
 ·obtain ⟨id,o0,h1,rfl,rfl,h2,h3,_⟩:=outGet c o h
  rw [isOwn_ren] at hown
  rw [h3] at hg
  exact I.own id o0 g h1 hown hg
 ·obtain ⟨id,o0,h1,h4,rfl,h2,h3,_⟩:=outGet c _ h
  rw [h3] at hg
  cases o0 with
  | box=>cases h4
  | row ow m' e' rows' =>
    simp only [O.ren] at h4
    cases h4
    exact I.fro id m e rows g h1 hg
  | tab=>cases h4
  | lp=>cases h4
  | dead=>cases h4
 ·obtain ⟨id1,p1,a1,rfl,rfl,a2,a3,_⟩:=outGet i o h1
  obtain ⟨id2,p2,b1,rfl,rfl,b2,b3,_⟩:=outGet j o' h2
  rw [isOwn_ren] at h3 h4
  rw [a3] at h5
  rw [b3] at h6
  rw [I.inj id1 id2 p1 p2 g a1 b1 h3 h4 h5 h6]
 ·simp only [outSt,getF] at hid
  split at hid
  ·rw [ids_ren] at hid
   obtain ⟨id0,h1,rfl⟩:=List.mem_map.1 hid
   exact outSome id0 (known id0 (by simp [h1]))
  ·simp [V.ids] at hid
 ·obtain ⟨id1,o0,h1,rfl,rfl,h2,h3,_⟩:=outGet i o h
  rw [oids_ren] at hid
  obtain ⟨id0,h4,rfl⟩:=List.mem_map.1 hid
  refine outSome id0 (known id0 ?_)
  rcases h2 with h2 | h2
  ·exact List.mem_append_left _ (List.mem_append_right _ (List.mem_flatMap.2 ⟨o0,h2,h4⟩))
  ·exact List.mem_append_right _ (List.mem_flatMap.2 ⟨o0,h2,h4⟩)
 ·rw [hk] at hi
  have h1:=outSome (ExtB+i) (.inr ⟨i,hi,rfl⟩)
  have h2:=hβ (ExtB+i) (.inr ⟨i,hi,rfl⟩)
  rw [notIn i hi] at h1 h2
  exact ⟨h1,h2.trans (I.ext i (by rw [hk];exact hi)).2⟩
theorem finish_ok {fn:Func} {k:Nat} (hk:S0.k=k) (hlt:k<1000000) (I:Inv w0 fp S0 σ a w β S) {r:V} {exts news:List O} (hf:finish P fn k σ=some (r,exts,news)):∃ v,(results fn a.tmps).run P w=.ok v w∧Post w0 fp S0 r exts news (.returned v) w:=by
 unfold finish at hf
 split at hf<;>try (cases hf;done)
 rename_i l hr
 obtain ⟨v,hrun,hrep,hrc⟩:=results_run (P:=P) I hr
 exact ⟨v,hrun,finishR_ok hk hlt I hrep hrc hf⟩
theorem marks_okR {F:Fence} {n:Nat} {fn:Func} {tmps:Array Value} {R:Ending→World→Prop} (hf:∀ (w:World),Inv w0 fp S0 σ { tmps:=tmps,defers:=[] } w β S→∃ v,(results fn tmps).run P w=.ok v w∧R (.returned v) w):∀ (ds:List Deferred) (w:World),Inv w0 fp S0 σ { tmps:=tmps,defers:=ds } w β S →
  LeavesInM F n P fn tmps R ds .returning w
 | [],w,I=>by
   obtain ⟨v,h1,h2⟩:=hf w I
   exact ⟨v,h1,h2⟩
 | d::ds,w,I=>by
   obtain ⟨D,w',h1,h2,I'⟩:=I.take (P:=P)
   exact ⟨by simp,.inl ⟨D,w',h1,h2,marks_okR hf ds w' I'⟩⟩
theorem marks_ok {F:Fence} {n:Nat} {fn:Func} {k:Nat} (hk:S0.k=k) (hlt:k<1000000) {tmps:Array Value} {r:V} {exts news:List O} (hf:finish P fn k σ=some (r,exts,news)) (ds:List Deferred) (w:World) (I:Inv w0 fp S0 σ { tmps:=tmps,defers:=ds } w β S) :
  LeavesInM F n P fn tmps (Post w0 fp S0 r exts news) ds .returning w:=marks_okR (fun w I=>finish_ok hk hlt I hf) ds w I
theorem round_ok (hcall:CallOk P call) (hm:P.follows .mixedOrders=true) {k:Nat} {args:List V} {exts:List O} {r:V} {exts' news:List O} (hc:roundS P call h k args exts=some (r,exts',news)) (w:World) (fp S:Nat→Prop) (β:Nat→Value) (vals:Array Value) (hv:vals.size=args.length) (hlt:exts.length<1000000)
  (I:Inv w fp (baseOf S β exts.length) (inSt args exts vals.size) ⟨vals,[]⟩ w β S):Does P YB vals w (Post w fp (baseOf S β exts.length) r exts' news):=by
 unfold roundS at hc
 split at hc<;>try (cases hc;done)
 rename_i id hlast
 split at hc<;>try (cases hc;done)
 rename_i fn n F ps x y hlp
 split at hc<;>try (cases hc;done)
 rename_i hcond
 obtain ⟨hge,hlen,hps,hnx,hny⟩:=hcond
 split at hc<;>try (cases hc;done)
 rename_i σ1 h1
 split at hc<;>try (cases hc;done)
 rename_i fn1 n1 F1 ps1 x1 y1 hM1
 split at hc<;>try (cases hc;done)
 rename_i out σ2 h2
 split at hc<;>try (cases hc;done)
 rename_i fn2 n2 F2 ps2 x2 y2 hM2
 -- the arguments,and the record
 have hargs:args=args.dropLast++[.yld id]:=by
  rw [List.getLast?_eq_some_iff] at hlast
  obtain ⟨ys,rfl⟩:=hlast
  simp
 have hM0:getM (idxs ExtB exts) id=some (.lp fn n F ps x y 0 .norm):=by rw [getM_idxs,if_pos hge];exact hlp
 have hidlt:id - ExtB<exts.length:=(List.getElem?_eq_some_iff.1 hlp).1
 have hid:ExtB+(id - ExtB)=id:=by omega
 obtain ⟨l,rec,q1,q2,q3,q4,q5,q6,q7,q8,q9⟩:=I.objs id _ hM0
 have hsl:=I.slots (args.length - 1)
 have hget:getF (params 0 args) (args.length - 1)=.yld id:=by
  rw [getF_params,if_pos (Nat.zero_le _),Nat.sub_zero,hargs]
  simp
 simp only [inSt,hget] at hsl
 obtain ⟨pre,vl,rfl⟩:∃ (pre:Array Value) (vl:Value),vals=pre.push vl:=by
  obtain ⟨L⟩:=vals
  have hL:L≠[]:=fun e=>by subst e;rw [hargs] at hv;simp at hv
  exact ⟨L.dropLast.toArray,L.getLast hL,by rw [List.push_toArray,List.dropLast_concat_getLast]⟩
 have hpre:pre.size=ps.length:=by simp at hv;omega
 have hvl:vl=.func (.yield l) #[] #[]:=by
  have e:(pre.push vl).getD (args.length - 1) undef=vl:=by
   have:args.length - 1=pre.size:=by omega
   rw [this];simp
  rw [e] at hsl
  cases hsl with
  | d h=>cases h
  | yld _ l' hb=>rw [hb] at q1;cases q1;rfl
 subst hvl
 have hnl:¬YB<YB:=Nat.lt_irrefl _
 unfold Does
 rw [if_neg hnl]
 refine ⟨l,pre,rec.fn,(rec.params.zip pre).foldl (fun tmps (t,a)=>tmps.setIfInBounds t a) rec.tmps,x,y,rfl,?_,fun ro n0 => ?_⟩
 ·have:=run_yield (P:=P) (args:=pre) q2 (by rw [hpre,←q3];simp)
  rw [q4,q5] at this
  exact this
 -- the round begins
 have J0:Inv w fp (baseOf S β exts.length) { n:=n,F:=putAll ps args F,M:=idxs ExtB exts } { tmps:=(rec.params.zip pre).foldl (fun tmps (t,a)=>tmps.setIfInBounds t a) rec.tmps,defers:=[] } w β S:=by
  have e:(rec.params.zip pre).foldl (fun tmps (t,a)=>tmps.setIfInBounds t a) rec.tmps=(ps.zip pre.toList).foldl (fun tmps q=>tmps.setIfInBounds q.1 q.2) rec.tmps:=by
   rw [←Array.foldl_toList,Array.toList_zip,q3]
  rw [e]
  have put:∀ (ps:List Nat) (aq:List V) (vs:List Value) (F:List (Nat×V)) (T:Array Value),vs.length=ps.length→ps.length≤aq.length→(∀ p∈ps,p<T.size)→(∀ (i:Nat) x v,aq[i]?=some x→vs[i]?=some v→Rep w β S x v)→(∀ t,Rep w β S (getF F t) (T.getD t undef))→(∀ id∈V.idsL aq,(getM (idxs ExtB exts) id).isSome=true)→(∀ t,∀ id∈(getF F t).ids,(getM (idxs ExtB exts) id).isSome=true) →
    ((ps.zip vs).foldl (fun tmps q=>tmps.setIfInBounds q.1 q.2) T).size=T.size∧(∀ t,Rep w β S (getF (putAll ps aq F) t) (((ps.zip vs).foldl (fun tmps q=>tmps.setIfInBounds q.1 q.2) T).getD t undef))∧∀ t,∀ id∈(getF (putAll ps aq F) t).ids,(getM (idxs ExtB exts) id).isSome=true:=by
   intro ps
   induction ps with
   | nil =>
     intro aq vs F T _ _ _ _ h1 _ h2
     have e:putAll [] aq F=F:=by cases aq<;>rfl
     exact ⟨rfl,fun t=>by rw [e];exact h1 t,fun t=>by rw [e];exact h2 t⟩
   | cons p ps ih =>
     intro aq vs F T hl1 hl2 hlt' hr h1 hcA h2
     cases aq with
     | nil=>simp at hl2
     | cons z aq =>
       cases vs with
       | nil=>simp at hl1
       | cons v vs =>
         simp only [List.zip_cons_cons,List.foldl_cons,putAll]
         have hp:=hlt' p (by simp)
         have:=ih aq vs ((p,z)::F) (T.setIfInBounds p v) (by simpa using hl1) (by simpa using hl2) (fun q hq=>by simpa using hlt' q (by simp [hq])) (fun i x v hx hv=>hr (i+1) x v (by simpa using hx) (by simpa using hv)) (fun t => ?_) (fun id hid=>hcA id (by rw [V.idsL];exact List.mem_append_right _ hid)) (fun t id hid => ?_)
         ·exact ⟨by simpa using this.1,this.2⟩
         ·rw [getD_set _ _ _ _ _ hp]
          simp only [getF]
          split
          ·exact hr 0 z v (by simp) (by simp)
          ·exact h1 t
         ·simp only [getF] at hid
          split at hid
          ·exact hcA id (by rw [V.idsL];exact List.mem_append_left _ hid)
          ·exact h2 t id hid
  have hA:∀ (i:Nat) x v,args[i]?=some x→pre.toList[i]?=some v→Rep w β S x v:=fun i x v hx hv'=>by
   have hs:=I.slots i
   have hi:i<pre.size:=by have:=(List.getElem?_eq_some_iff.1 hv').1;simpa using this
   simp only [inSt,getF_params,Nat.zero_le,if_true,Nat.sub_zero,hx,Option.getD_some] at hs
   have e2:(pre.push (Value.func (.yield l) #[] #[])).getD i undef=v:=by
    rw [Array.getD_eq_getD_getElem?,Array.getElem?_push_lt hi]
    have:pre.toList[i]?=some pre[i]:=by simp [hi]
    rw [hv'] at this
    cases this
    rfl
   rwa [e2] at hs
  have hcA:∀ id∈V.idsL args,(getM (idxs ExtB exts) id).isSome=true:=fun id hid=>by
   have:∀ (l:List V),(∀ (i:Nat) x,l[i]?=some x→∀ id∈x.ids,(getM (idxs ExtB exts) id).isSome=true)→∀ id∈V.idsL l,(getM (idxs ExtB exts) id).isSome=true:=by
    intro l
    induction l with
    | nil=>intro _ id h;simp [V.idsL] at h
    | cons c r ih =>
      intro h id hid
      rw [V.idsL] at hid
      rcases List.mem_append.1 hid with h' | h'
      ·exact h 0 c (by simp) id h'
      ·exact ih (fun i x hx=>h (i+1) x (by simpa using hx)) id h'
   refine this args (fun i x hx id hid => ?_) id hid
   have:=I.closedF i id
   simp only [inSt,getF_params,Nat.zero_le,if_true,Nat.sub_zero,hx,Option.getD_some] at this
   exact this hid
  have hcF:∀ t,∀ id∈(getF F t).ids,(getM (idxs ExtB exts) id).isSome=true:=fun t i hi=>I.closedM id _ hM0 i (getF_ids hi)
  obtain ⟨p1,p2,p3⟩:=put ps args pre.toList F rec.tmps (by simpa using hpre) (by omega) (fun p hp=>by rw [q8];simpa using (List.all_eq_true.1 hps) p hp) hA q9 hcA hcF
  exact { defers:=Marks.nil,size:=by rw [p1,q8],slots:=p2,objs:=I.objs,own:=I.own,fro:=I.fro,inj:=I.inj,closedF:=p3,closedM:=I.closedM,Slt:=I.Slt,S0S:=I.S0S,SIn:=I.SIn,ext:=I.ext,os:=I.os,tape:=I.tape,output:=I.output,grow:=I.grow,kept:=I.kept,laid:=I.laid }
 have recOf:∀ {σ:St} {a:Act} {w':World} {β':Nat→Value} {S':Nat→Prop},Inv w fp (baseOf S β exts.length) σ a w' β' S'→β' id=.func (.yield l) #[] #[]:=fun I'=>by
  have:=(I'.ext (id - ExtB) hidlt).2
  rw [hid] at this
  rw [this]
  simp only [baseOf,hid]
  exact q1
 refine roundIn_of_wpIn trivial ?_
 show x.wpIn (FF (some l)) n0 P _ _ w
 refine wpIn_mono ((exec_ok hcall hm (ro:=some l) (n0:=n0) x (.inr hnx)).1 _ _ _ h1 _ w β S J0) fun e a1 w1 hx => ?_
 cases e with
 | exit _=>obtain ⟨h,_⟩:=hx;cases h
 | goto _=>obtain ⟨h,_⟩:=hx;cases h
 | ret=>obtain ⟨h,_⟩:=hx;cases h
 | panic _=>exact hx.elim
 | outgrown=>exact hx.elim
 | normal =>
   obtain ⟨_,β1,S1,I1⟩:=hx
   have hb1:=recOf I1
   obtain ⟨l1,r1,e1,e2,e3,e4,e5,e6,e7,e8,e9⟩:=I1.objs id _ hM1
   rw [hb1] at e1;cases e1
   have I1':=inv_setLp I1 (st':=1) (out':=.norm) hM1 hb1 e2
   have hbusy:({ r1 with state:=lpState 1,pending:=Out.norm.jump }:Loop)={ r1 with state:=.busy }:=by
    have:r1.pending=none:=e7
    cases r1
    simp at this
    subst this
    rfl
   rw [hbusy] at I1'
   refine ⟨w1.putObj l (.loop { r1 with state:=.busy }),run_beginRound e2 e6,?_⟩
   refine wpIn_mono ((exec_ok hcall hm (ro:=some l) (n0:=n0) y (.inr hny)).1 _ _ _ h2 _ _ β1 S1 I1') fun e a2 w2 hx => ?_
   have fin:∀ (β2:Nat→Value) (S2:Nat→Prop),Inv w fp (baseOf S β exts.length) σ2 a2 w2 β2 S2→∃ v w',(Instr.endRound l out.jump).run P w2=.ok v w'∧Post w fp (baseOf S β exts.length) r exts' news (.returned v) w':=fun β2 S2 I2=>by
    have hb2:=recOf I2
    obtain ⟨l2,r2,f1,f2,f3,f4,f5,f6,f7,f8,f9⟩:=I2.objs id _ hM2
    rw [hb2] at f1;cases f1
    have I2':=inv_setLp I2 (st':=if out.isNorm then 0 else 2) (out':=out) hM2 hb2 f2
    refine ⟨_,_,run_endRound out.jump f2,?_⟩
    have he:({ r2 with state:=lpState (if out.isNorm then 0 else 2),pending:=out.jump }:Loop)={ r2 with state:=if out.jump.isNone then .ready else .done,pending:=out.jump }:=by
     cases out<;>rfl
    rw [he] at I2'
    have hbool:out.jump.isNone=out.isNorm:=by cases out<;>rfl
    rw [hbool] at I2' ⊢
    refine finishR_ok rfl hlt I2' (.d (.p _)) (by simp [V.ids]) ?_
    exact hc
   cases e with
   | normal=>obtain ⟨rfl,β2,S2,I2⟩:=hx;exact fin β2 S2 I2
   | ret=>obtain ⟨rfl,β2,S2,I2⟩:=hx;exact fin β2 S2 I2
   | exit _=>obtain ⟨rfl,β2,S2,I2⟩:=hx;exact fin β2 S2 I2
   | goto _=>obtain ⟨rfl,β2,S2,I2⟩:=hx;exact fin β2 S2 I2
   | panic _=>exact hx.elim
   | outgrown=>exact hx.elim
def CtxOk (P:Program) (ctx:FuncId→Option (List V→List O→Option (V×List O×List O))):Prop :=
 ∀ f g,ctx f=some g→∀ args exts r exts' news,g args exts=some (r,exts',news) →
  f<YB∧FnOk P f∧∀ (w:World) (fp S:Nat→Prop) (β:Nat→Value) (vals:Array Value),vals.size=args.length→exts.length<1000000 →
   Inv w fp (baseOf S β exts.length) (inSt args exts vals.size) ⟨vals,[]⟩ w β S→Calls P f vals w (Post w fp (baseOf S β exts.length) r exts' news)
theorem callV_ok (hm:P.follows .mixedOrders=true) {ctx:FuncId→Option (List V→List O→Option (V×List O×List O))} (hctx:CtxOk P ctx):∀ k,CallOk P (callV P ctx h k)
 | 0=>fun f args exts r exts' news hc=>by simp only [callV] at hc;cases hc
 | k+1=>fun f args exts r exts' news hc=>by
   simp only [callV] at hc
   intro w fp S β vals hv hlt I
   split at hc
   ·rename_i hy
    subst hy
    exact round_ok (callV_ok hm hctx k) hm hc w fp S β vals hv hlt I
   ·rename_i hy
    split at hc
    ·rename_i g hg
     obtain ⟨h1,h2,h3⟩:=hctx f g hg args exts r exts' news hc
     unfold Does
     rw [if_pos h1]
     exact ⟨h2,h3 w fp S β vals hv hlt I⟩
    ·split at hc<;>try (cases hc;done)
     rename_i fn hfn
     split at hc<;>try (cases hc;done)
     rename_i c hb
     split at hc<;>try (cases hc;done)
     rename_i hname
     have hlast:f<YB:=by
      have h9:¬YB<f+1:=fun e=>hname (.inr (.inr e))
      exact Nat.lt_of_succ_le (Nat.le_of_not_lt h9)
     unfold Does
     rw [if_pos hlast]
     refine ⟨⟨fn,hfn,fun e=>hname (.inl e),by rw [hb];rfl⟩,?_⟩
     have hn:vals.size≤fn.ntmps:=by
      have:¬fn.ntmps<args.length:=fun e=>hname (.inr (.inl e))
      omega
     have I0:Inv w fp (baseOf S β exts.length) { n:=fn.ntmps,F:=params 0 args,M:=idxs ExtB exts } { tmps:=vals++Array.replicate (fn.ntmps - vals.size) undef,defers:=[] } w β S:=by
      refine { defers:=Marks.nil,size:=by simp;omega,slots:=fun t => ?_,objs:=I.objs,own:=I.own,fro:=I.fro,inj:=I.inj,closedF:=I.closedF,closedM:=I.closedM,Slt:=I.Slt,S0S:=I.S0S,SIn:=I.SIn,ext:=I.ext,os:=I.os,tape:=I.tape,output:=I.output,grow:=I.grow,kept:=I.kept,laid:=I.laid }
      have hs:=I.slots t
      simp only [inSt] at hs
      by_cases ht:t<vals.size
      ·have:(vals++Array.replicate (fn.ntmps - vals.size) undef).getD t undef=vals.getD t undef:=by
        rw [Array.getD_eq_getD_getElem?,Array.getD_eq_getD_getElem?,Array.getElem?_append_left ht]
       rw [this]
       exact hs
      ·have:getF (params 0 args) t=.bad:=by
        rw [getF_params,if_pos (Nat.zero_le _),List.getElem?_eq_none (by omega)]
        rfl
       simp only [this]
       exact .bad _
     refine (callsIn_wide (n:=0)).1 (callsIn_of_wp_marks (F:=Fence.wide) hfn hb trivial ?_)
     show c.wpIn (FF none) 0 P _ _ w
     have hrec:=callV_ok hm hctx k
     split at hc
     ·rename_i σ1 h1
      refine wpIn_mono ((exec_ok hrec hm (ro:=none) (n0:=0) c (.inl rfl)).1 _ _ _ h1 _ w β S I0) fun e a1 w1 hx => ?_
      cases e with
      | normal =>
        obtain ⟨_,β1,S1,I1⟩:=hx
        exact marks_ok rfl hlt hc _ _ I1
      | ret=>obtain ⟨hq,_⟩:=hx;cases hq
      | exit _=>obtain ⟨hq,_⟩:=hx;cases hq
      | goto _=>obtain ⟨hq,_⟩:=hx;cases hq
      | panic _=>exact hx.elim
      | outgrown=>exact hx.elim
     ·rename_i σ1 h1
      refine wpIn_mono ((exec_ok hrec hm (ro:=none) (n0:=0) c (.inl rfl)).1 _ _ _ h1 _ w β S I0) fun e a1 w1 hx => ?_
      cases e with
      | ret =>
        obtain ⟨_,β1,S1,I1⟩:=hx
        exact marks_ok rfl hlt hc _ _ I1
      | normal=>obtain ⟨hq,_⟩:=hx;cases hq
      | exit _=>obtain ⟨hq,_⟩:=hx;cases hq
      | goto _=>obtain ⟨hq,_⟩:=hx;cases hq
      | panic _=>exact hx.elim
      | outgrown=>exact hx.elim
     ·cases hc
#print axioms callV_ok
end
end Go.Proofs.YtlelaenalbkbmaaDoorV