/- The value interpreter: every operation does what the interpreter says. -/
import Derived.Test.YtlelaenalbkbmaaDoorHVi13
namespace Go.Proofs.YtlelaenalbkbmaaDoorV
open Go
set_option linter.unusedVariables false
set_option linter.unusedSimpArgs false
section
variable {P:Program} {w0:World} {fp:Nat→Prop} {S0:Base} {σ:St} {a:Act} {w:World} {β:Nat→Value} {S:Nat→Prop} {o:Oper} {call:CallF} {h:Hints}
theorem enter_run {f:FuncId} (hf:FnOk P f) {args:Array Value}:(callFunc f args).run P w=.ok (.enter f args) w:=by
 obtain ⟨fn,h1,h2,h3⟩:=hf
 have h4:fn.body.isNone=false:=by cases hb:fn.body<;>simp_all
 simp only [callFunc,Sem.run_bind,run_program,Result.andThen_ok,h1]
 simp [h2,h4]
def CalleeIs (v:Value) (g:FuncId) (arr:Array Value):Prop:=if g<YB then v=.func (.func g) #[] arr else ∃ l,v=.func (.yield l) #[] #[]∧arr = #[.func (.yield l) #[] #[]]
theorem callee_run (I:Inv w0 fp S0 σ a w β S) {x:Operand} {g:FuncId} {cs:List V} (hc:calleeOf σ x=some (g,cs)) :
  ∃ arr:Array Value,CalleeIs (a.eval x) g arr∧arr.size=cs.length∧(∀ (i:Nat) y v,cs[i]?=some y→arr[i]?=some v→Rep w β S y v)∧∀ id∈V.idsL cs,(getM σ.M id).isSome=true:=by
 unfold calleeOf at hc
 unfold CalleeIs
 split at hc
 ·split at hc<;>try (cases hc;done)
  rename_i hy
  cases hc
  simp only [if_pos hy]
  exact ⟨#[],rfl,rfl,by simp,by simp [V.idsL]⟩
 ·have hx:=evalV_rep I x
  have hcl:=evalV_closed I x
  split at hc<;>try (cases hc;done)
  ·rename_i f fa fb e
   split at hc<;>try (cases hc;done)
   rename_i hz
   cases hc
   obtain ⟨z1,z2,z3⟩:=hz
   have z1:fa = #[]:=by simpa using z1
   have z2:fb = #[]:=by simpa using z2
   subst z1 z2
   rw [e] at hx
   simp only [if_pos z3]
   exact ⟨#[],rep_p hx,rfl,by simp,by simp [V.idsL]⟩
  ·rename_i f cs' e
   split at hc<;>try (cases hc;done)
   rename_i hy
   cases hc
   simp only [if_pos hy]
   rw [e] at hx hcl
   generalize a.eval x=xv at hx
   cases hx with
   | d hx=>cases hx
   | fn _ _ arr hs hr=>exact ⟨arr,rfl,hs,hr,fun id hid=>hcl id (by rw [V.ids];exact hid)⟩
  ·rename_i id e
   cases hc
   simp only [if_neg (Nat.lt_irrefl YB)]
   rw [e] at hx hcl
   have hx':=hx
   generalize a.eval x=xv at hx
   cases hx with
   | d hx=>cases hx
   | yld _ l hb =>
     refine ⟨#[.func (.yield l) #[] #[]],⟨l,rfl,rfl⟩,rfl,fun i y v hy hv => ?_,fun id' hid=>hcl id' (by simpa [V.idsL] using hid)⟩
     cases i with
     | zero=>simp at hy hv;subst hy hv;exact .yld id l hb
     | succ i=>simp at hy
theorem call_args (I:Inv w0 fp S0 σ a w β S) {args:Array Operand} {arr:Array Value} {cs:List V} (hs:arr.size=cs.length) (hr:∀ (i:Nat) y v,cs[i]?=some y→arr[i]?=some v→Rep w β S y v) :
  (args.map a.eval++arr).size=(args.toList.map (evalV σ)++cs).length∧∀ (i:Nat) x v,(args.toList.map (evalV σ)++cs)[i]?=some x→(args.map a.eval++arr)[i]?=some v→Rep w β S x v:=by
 refine ⟨by simp [hs],fun i x v hx hv => ?_⟩
 by_cases hi:i<args.size
 ·rw [List.getElem?_append_left (by simpa using hi),List.getElem?_map,Option.map_eq_some_iff] at hx
  obtain ⟨y,hy,rfl⟩:=hx
  rw [Array.getElem?_append_left (by simpa using hi),Array.getElem?_map,Option.map_eq_some_iff] at hv
  obtain ⟨z,hz,rfl⟩:=hv
  have:y=z:=by
   have:args[i]?=some y:=by simpa using hy
   rw [hz] at this;exact (Option.some.inj this).symm
  subst this
  exact evalV_rep I y
 ·rw [List.getElem?_append_right (by simpa using hi)] at hx
  rw [Array.getElem?_append_right (by simpa using hi)] at hv
  simp only [List.length_map,Array.length_toList] at hx
  simp only [Array.size_map] at hv
  exact hr _ x v hx hv
theorem does_op {x:Operand} {g:FuncId} {args:Array Operand} {ts:Array TypeId} {arr vals:Array Value} {R:Ending→World→Prop} (ho:o.op=.call { callee:=.value x,args:=args,argTypes:=ts })
  (hx:CalleeIs (a.eval x) g arr) (hV:args.map a.eval++arr=vals) (hd:Does P g vals w R) {ro:Option Nat} {n:Nat} {K:Act→World→Prop} {Q:Exit→Act→World→Prop} (hR:∀ e w',R e w'→∃ v,e=.returned v∧K (a.put o.dst v) w') :
  o.wpIn (FF ro) n P a w K Q:=by
 refine ⟨fun _ _=>trivial,?_⟩
 rw [Oper.semAt_plain _ _ _ (by intro c hc;rw [ho] at hc;cases hc)]
 unfold Does at hd
 unfold CalleeIs at hx
 split at hd
 ·rename_i hg
  rw [if_pos hg] at hx
  obtain ⟨hf,hc⟩:=hd
  have hrun:(execOp a.eval o).run P w=.ok (.enter g vals) w:=by
   have:=enter_run (w:=w) hf (args:=vals)
   simp only [execOp,ho,resolve,Sem.run_bind,hx,Deferred.ofValue,Sem.run_pure,Result.andThen_ok,invoke]
   simpa [hV] using this
  rw [hrun,Oper.uponIn_enter]
  refine ⟨fun h=>by simp [FF,Fence.wide] at h,?_⟩
  have hc2:CallsIn (FF ro) (n - 1) P g vals w R:=(callsIn_wide (n:=n - 1)).2 hc
  refine hc2.mono fun e w' he => ?_
  obtain ⟨v,rfl,hk⟩:=hR e w' he
  exact hk
 ·rename_i hg
  rw [if_neg hg] at hx
  obtain ⟨l0,pre,f,tmps,asg,body,h1,h2,h3⟩:=hd
  obtain ⟨l,e1,e2⟩:=hx
  subst e2
  have hpp:pre=args.map a.eval∧l0=l:=by
   rw [←hV,←Array.push_eq_append] at h1
   obtain ⟨q1,q2⟩:=Array.push_eq_push.1 h1
   simp at q1
   exact ⟨q2.symm,q1.symm⟩
  obtain ⟨rfl,rfl⟩:=hpp
  have hrun:(execOp a.eval o).run P w=.ok (.round l0 f tmps asg body) w:=by
   simp only [execOp,ho,resolve,Sem.run_bind,e1,Deferred.ofValue,Sem.run_pure,Result.andThen_ok,invoke]
   simpa using h2
  rw [hrun,Oper.uponIn_round]
  refine ⟨fun h=>by simp [FF,Fence.wide] at h,?_⟩
  refine (h3 ro (n - 1)).mono fun e w' he => ?_
  obtain ⟨v,rfl,hk⟩:=hR e w' he
  exact hk
theorem new_mem {d:Nat}:∀ (l:List O) (s j:Nat) (hj:j<l.length),(newId d (s+j),l[j])∈newObjs d s l
 | [],s,j,hj=>by simp at hj
 | q::r,s,j,hj=>by
   cases j with
   | zero=>simp [newObjs]
   | succ j =>
     have:=new_mem (d:=d) r (s+1) j (by simpa using hj)
     rw [show s+1+j=s+(j+1) from by omega] at this
     simpa [newObjs] using .inr this
theorem callStep_does (hcall:CallOk P call) (I:Inv w0 fp S0 σ a w β S) {g:FuncId} {d:Nat} {A:List V} {vals:Array Value} {v:V} {u:List (Nat×O)} (ha1:vals.size=A.length)
  (ha2:∀ (i:Nat) x v,A[i]?=some x→vals[i]?=some v→Rep w β S x v) (hstep:callStep call h σ d g A=some (v,u)) :
  Does P g vals w fun e w'=>∃ v',e=.returned v'∧∀ dst,dstOk σ.n dst=true→∃ β' S',Inv w0 fp S0 (σ.put dst v u) (a.put dst v') w' β' S'∧∀ id,(getM σ.M id).isSome=true→β' id=β id:=by
 unfold callStep at hstep
 split at hstep<;>try (cases hstep;done)
 rename_i args1 fz hlend
 dsimp only at hstep
 split at hstep<;>try (cases hstep;done)
 rename_i ids hids
 split at hstep<;>try (cases hstep;done)
 rename_i objs hobjs
 split at hstep<;>try (cases hstep;done)
 rename_i hconds
 obtain ⟨hal,hA,hO,hnd,hlt⟩:=hconds
 split at hstep<;>try (cases hstep;done)
 rename_i r exts news hcl3
 split at hstep<;>try (cases hstep;done)
 rename_i hc2
 obtain ⟨hel,hnw,hfzk⟩:=hc2
 have hpost:=hcall _ _ _ _ _ _ hcl3
 obtain ⟨hlen,_⟩:=objsOf_get _ objs hobjs
 -- from a state in which the arguments are told by args1
 have core:∀ {σ1:St} {S1:Nat→Prop} (I1:Inv w0 fp S0 σ1 a w β S1),objsOf σ1.M ids=some objs→vals.size=args1.length→(∀ (i:Nat) x v,args1[i]?=some x→vals[i]?=some v→Rep w β S1 x v) →
   Does P g vals w fun e w'=>∃ v' βr S',e=.returned v'∧Inv w (fun b=>∃ id o,id∈ids∧getM σ1.M id=some o∧o.isOwn=true∧blk (β id)=some b) (baseOf S1 (fun i=>β (ids.getD (i - ExtB) 0)) ids.length) (outSt r exts news) ⟨#[v'],[]⟩ w' βr S':=by
  intro σ1 S1 I1 hob hsz hrep
  have hent:=entry_ok I1 hsz hrep hob hA hO hnd
  have:=hpost w _ S1 _ vals (by rw [hsz,renL_map];simp) (by simpa [hlen] using hlt) hent
  refine this.mono fun e w' hp => ?_
  obtain ⟨v',βr,S',h1,h2,h3,h4⟩:=hp
  refine ⟨v',βr,S',h1,?_⟩
  simpa [hlen] using h4
 have finish:∀ {σ1:St} {S1:Nat→Prop} (I1:Inv w0 fp S0 σ1 a w β S1) (hM:∀ id,(getM σ1.M id).isSome=true→(getM σ.M id).isSome=true),objsOf σ1.M ids=some objs→vals.size=args1.length→(∀ (i:Nat) x v,args1[i]?=some x→vals[i]?=some v→Rep w β S1 x v)→σ1.n=σ.n →
   Does P g vals w fun e w'=>∃ v',e=.returned v'∧∀ dst,dstOk σ.n dst=true→∃ β' S',Inv w0 fp S0 (σ1.put dst (r.ren (fromCall ids d)) (ids.zip (exts.map (O.ren (fromCall ids d)))++newObjs d 0 (news.map (O.ren (fromCall ids d))))) (a.put dst v') w' β' S'∧∀ id,(getM σ.M id).isSome=true→β' id=β id:=by
  intro σ1 S1 I1 hM hob hsz hrep hn
  refine (core I1 hob hsz hrep).mono fun e w' hp => ?_
  obtain ⟨v',βr,S',rfl,Ir⟩:=hp
  have hnw1:(newObjs d 0 (news.map (O.ren (fromCall ids d)))).all (fun q=>(getM σ1.M q.1).isNone)=true:=by
   refine List.all_eq_true.2 fun q hq => ?_
   have:=(List.all_eq_true.1 hnw) q hq
   cases h1:getM σ1.M q.1 with
   | none=>rfl
   | some o' =>
     have h2:=hM q.1 (by rw [h1];rfl)
     cases h3:getM σ.M q.1 with
     | none=>rw [h3] at h2;cases h2
     | some _=>rw [h3] at this;cases this
  have U:=from_call I1 hob hlt hel hnw1 Ir
  refine ⟨v',rfl,fun dst hdk=>⟨_,_,I1.upd U (by rw [hn];exact hdk),fun id hid => ?_⟩⟩
  rcases U.new id with e | e
  ·exact e
  ·exact newβ_old fun j hj e2=>by
    have:=(List.all_eq_true.1 hnw) (newId d j,((news.map (O.ren (fromCall ids d)))[j]'(by simpa using hj))) (by have:=new_mem (d:=d) (news.map (O.ren (fromCall ids d))) 0 j (by simpa using hj);rwa [Nat.zero_add] at this)
    rw [←e2] at this
    cases hq:getM σ.M id with
    | none=>rw [hq] at hid;cases hid
    | some _=>rw [hq] at this;cases this
 by_cases hg:h.gives g=true
 ·rw [if_pos hg] at hlend
  cases hlend
  simp only [List.isEmpty_nil,Bool.true_eq,true_or,if_true] at hstep
  cases hstep
  exact finish I (fun _ h=>h) hobjs ha1 ha2 rfl
 ·rw [if_neg hg] at hlend
  obtain ⟨f1,f2,f3,f4⟩:=lendL_ok I A args1 fz vals.toList hlend (by simpa using ha1) fun i x v hx hv=>ha2 i x v hx (by simpa using hv)
  have hMfz:∀ id,(getM (σ.put none .bad fz).M id).isSome=true→(getM σ.M id).isSome=true:=fun id hid=>by
   simp only [St.put,getM_append] at hid
   cases hq:getM fz id with
   | none=>simpa [hq] using hid
   | some o'=>obtain ⟨own,m,e',r',h6,_⟩:=f1 id o' hq;rw [h6];rfl
  have hob1:objsOf (σ.put none .bad fz).M ids=some objs:=by
   have:∀ (l:List Nat) (os:List O),(∀ id∈l,getM fz id=none)→objsOf σ.M l=some os→objsOf (fz++σ.M) l=some os:=by
    intro l
    induction l with
    | nil=>intro os _ h;exact h
    | cons x r ih =>
      intro os hn h
      simp only [objsOf] at h ⊢
      split at h<;>simp at h
      rename_i o' l' h1 h2
      have e1:getM (fz++σ.M) x=some o':=by rw [getM_append,hn x (by simp)];exact h1
      have e2:=ih l' (fun id hid=>hn id (by simp [hid])) h2
      rw [e1,e2]
      simpa using h
   refine this _ _ (fun id hid => ?_) hobjs
   cases hq:getM fz id with
   | none=>rfl
   | some o' =>
     obtain ⟨q,hq1,hq2⟩:=List.mem_map.1 (getM_keys.1 (show (getM fz id).isSome=true by rw [hq];rfl))
     have:=(List.all_eq_true.1 hfzk) q hq1
     rw [hq2] at this
     simp [hid] at this
  have hsz1:vals.size=args1.length:=by rw [ha1,f2]
  have hrep1:∀ (i:Nat) x v,args1[i]?=some x→vals[i]?=some v→Rep w β (frS β S fz) x v:=fun i x v hx hv=>f3 i x v hx (by simpa using hv)
  split at hstep
  ·rename_i hflat
   cases hstep
   rcases hflat with hflat | ⟨q1,q2,q3⟩ | ⟨q1,q3,q4⟩
   ·have:fz=[]:=by simpa using hflat
    subst this
    refine finish I (fun _ h=>h) hobjs hsz1 (fun i x v hx hv=>(hrep1 i x v hx hv).mono (fun _ _=>rfl) (fun b hb => ?_) (fun _ _=>rfl)) rfl
    rcases hb with hb | ⟨id,h1,_⟩
    ·exact hb
    ·cases h1
   ·have e1:ids=[]:=by simpa using q2
    have e2:news=[]:=by simpa using q3
    subst e2
    have hu:ids.zip (exts.map (O.ren (fromCall ids d)))++newObjs d 0 (([]:List O).map (O.ren (fromCall ids d)))=[]:=by rw [e1];rfl
    rw [hu,flat_ren q1]
    have I1:=I.upd (UpdOk.freeze I f1 undef) (dst:=none) rfl
    refine (core I1 hob1 hsz1 hrep1).mono fun e w' hp => ?_
    obtain ⟨v',βr,S',rfl,Ir⟩:=hp
    have hsl:=Ir.slots 0
    simp only [outSt,getF,if_true] at hsl
    have hkeep:∀ b,b<w.heap.size→w'.heap[b]?=w.heap[b]?:=fun b hb=>Ir.kept b hb fun hbad=>by
     obtain ⟨id,o',h1,_⟩:=hbad
     rw [e1] at h1;cases h1
    refine ⟨v',rfl,fun dst hdk=>⟨β,S,I.upd (v:=r) (u:=[]) (v':=v') (w':=w') (β':=β) (S':=S) ?_ hdk,fun _ _=>rfl⟩⟩
    refine { new:=fun _=>.inl rfl,os:=Ir.os,tape:=Ir.tape,output:=Ir.output,grow:=Ir.grow,touch:=fun b hb=>.inl (hkeep b hb),S1:=fun _ h=>h,S2:=fun b hb=>Nat.lt_of_lt_of_le (I.Slt b hb) Ir.grow,S4:=fun _ h=>.inl h,objs:=fun _ _ h=>(by cases h),own:=fun _ _ _ h=>(by cases h),fro:=fun _ _ _ _ _ h=>(by cases h),inj:=fun _ _ _ _ _ h=>(by cases h),closedM:=fun _ _ h=>(by cases h),rep:=flat_rep q1 hsl,closedV:=fun id hid=>by rw [flat_ids q1] at hid;cases hid }
   ·have e2:news=[]:=by simpa using q3
    subst e2
    rw [flat_ren q1]
    have I1:=I.upd (UpdOk.freeze I f1 undef) (dst:=none) rfl
    refine (core I1 hob1 hsz1 hrep1).mono fun e w' hp => ?_
    obtain ⟨v',βr,S',rfl,Ir⟩:=hp
    have U:=from_call (d:=d) I1 hob1 hlt hel (by rfl) Ir
    rw [flat_ren q1] at U
    have U2:=UpdOk.flat I f1 U q1 fun id o ho=>by
     have ho':getM (ids.zip (exts.map (O.ren (fromCall ids d)))) id=some o:=by simpa [newObjs] using ho
     obtain ⟨x,hx,rfl⟩:=List.mem_map.1 (getM_zip_mem _ _ _ _ ho')
     have hfx:=(List.all_eq_true.1 q4) x hx
     rw [flatO_ren hfx]
     exact flatO_box hfx
    refine ⟨v',rfl,fun dst hdk=>⟨_,_,I.upd U2 hdk,fun id hid => ?_⟩⟩
    rcases U2.new id with e | e
    ·exact e
    ·rw [e] at hid;cases hid
  ·cases hstep
   rw [←List.append_assoc]
   have I1:=I.upd (UpdOk.freeze I f1 undef) (dst:=none) rfl
   refine (finish I1 hMfz hob1 hsz1 hrep1 rfl).mono fun e w' hp => ?_
   obtain ⟨v',rfl,hp⟩:=hp
   refine ⟨v',rfl,fun dst hdk => ?_⟩
   obtain ⟨β',S',I',hb⟩:=hp dst hdk
   refine ⟨β',S',?_,hb⟩
   have e1:∀ (v:V) (u1:List (Nat×O)),(σ.put none .bad fz).put dst v u1=σ.put dst v (u1++fz):=fun v u1=>by simp [St.put]
   rwa [e1] at I'
theorem callStep_ok (hcall:CallOk P call) (I:Inv w0 fp S0 σ a w β S) {x:Operand} {g:FuncId} {cs:List V} {d:Nat} {args:Array Operand} {ts:Array TypeId} {v:V} {u:List (Nat×O)} (ho:o.op=.call { callee:=.value x,args:=args,argTypes:=ts })
  (hc:calleeOf σ x=some (g,cs)) (hstep:callStep call h σ d g (args.toList.map (evalV σ)++cs)=some (v,u)) (hdk:dstOk σ.n o.dst=true):OpOk P w0 fp S0 σ a w o v u:=by
 obtain ⟨arr,hx,hs,hr,hcl⟩:=callee_run I hc
 obtain ⟨ha1,ha2⟩:=call_args (args:=args) I hs hr
 intro ro n K Q hK
 refine does_op ho hx rfl (callStep_does hcall I ha1 ha2 hstep) fun e w' hp => ?_
 obtain ⟨v',rfl,hp⟩:=hp
 obtain ⟨β',S',I',_⟩:=hp o.dst hdk
 exact ⟨v',rfl,hK _ _ _ _ I'⟩
end
end Go.Proofs.YtlelaenalbkbmaaDoorV