/- The value interpreter: every operation does what the interpreter says. -/
import Derived.Test.YtiompmmbjpjjeaaDoorHVi6
import Derived.Test.YtiompmmbjpjjeaaDoorHVi13
namespace Go.Proofs.YtiompmmbjpjjeaaDoorV
open Go
set_option linter.unusedVariables false
set_option linter.unusedSimpArgs false
section
variable {P:Program} {w0:World} {fp:Nat→Prop} {S0:Base} {σ:St} {a:Act} {w:World} {β:Nat→Value} {S:Nat→Prop} {o:Oper} {call:CallF} {h:Hints}
theorem enter_run {f:FuncId} (hf:FnOk P f) {args:Array Value}:(callFunc f args).run P w=.ok (.enter f args) w:=by
 obtain ⟨fn,h1,h2,h3⟩:=hf
 have h4:fn.body.isNone=false:=by cases hb:fn.body<;>simp_all
 simp only [callFunc,Sem.run_bind,run_program,Result.andThen_ok,h1]
 simp [h2,h4]
def CalleeIs (v:Value) (g:FuncId) (arr:Array Value):Prop:=if g<YB then v=.func (.func g) #[] arr else ∃ l,v=.func (.yield l) #[] #[]∧arr = #[.func (.yield l) #[] #[]]
theorem callee_run (I:Inv w0 fp S0 σ a w β S) {x:Operand} {g:FuncId} {cs:List V} (hc:calleeOf σ x=some (g,cs)) :
  ∃ arr:Array Value,CalleeIs (a.eval x) g arr∧arr.size=cs.length∧(∀ (i:Nat) y v,cs[i]?=some y→arr[i]?=some v→Rep w β S y v)∧∀ id∈V.idsL cs,(getM σ.M id).isSome=true:=by
 unfold calleeOf at hc
 unfold CalleeIs
 split at hc
 ·split at hc<;>try (cases hc;done)
  rename_i hy
  cases hc
  simp only [if_pos hy]
  exact ⟨#[],rfl,rfl,by simp,by simp [V.idsL]⟩
 ·have hx:=evalV_rep I x
  have hcl:=evalV_closed I x
  split at hc<;>try (cases hc;done)
  ·rename_i f fa fb e
   split at hc<;>try (cases hc;done)
   rename_i hz
   cases hc
   obtain ⟨z1,z2,z3⟩:=hz
   have z1:fa = #[]:=by simpa using z1
   have z2:fb = #[]:=by simpa using z2
   subst z1 z2
   rw [e] at hx
   simp only [if_pos z3]
   exact ⟨#[],rep_p hx,rfl,by simp,by simp [V.idsL]⟩
  ·rename_i f cs' e
   split at hc<;>try (cases hc;done)
   rename_i hy
   cases hc
   simp only [if_pos hy]
   rw [e] at hx hcl
   generalize a.eval x=xv at hx
   cases hx with
   | d hx=>cases hx
   | fn _ _ arr hs hr=>exact ⟨arr,rfl,hs,hr,fun id hid=>hcl id (by rw [V.ids];exact hid)⟩
  ·rename_i id e
   cases hc
   simp only [if_neg (Nat.lt_irrefl YB)]
   rw [e] at hx hcl
   have hx':=hx
   generalize a.eval x=xv at hx
   cases hx with
   | d hx=>cases hx
   | yld _ l hb =>
     refine ⟨#[.func (.yield l) #[] #[]],⟨l,rfl,rfl⟩,rfl,fun i y v hy hv => ?_,fun id' hid=>hcl id' (by simpa [V.idsL] using hid)⟩
     cases i with
     | zero=>simp at hy hv;subst hy hv;exact .yld id l hb
     | succ i=>simp at hy
theorem call_args (I:Inv w0 fp S0 σ a w β S) {args:Array Operand} {arr:Array Value} {cs:List V} (hs:arr.size=cs.length) (hr:∀ (i:Nat) y v,cs[i]?=some y→arr[i]?=some v→Rep w β S y v) :
  (args.map a.eval++arr).size=(args.toList.map (evalV σ)++cs).length∧∀ (i:Nat) x v,(args.toList.map (evalV σ)++cs)[i]?=some x→(args.map a.eval++arr)[i]?=some v→Rep w β S x v:=by
 refine ⟨by simp [hs],fun i x v hx hv => ?_⟩
 by_cases hi:i<args.size
 ·rw [List.getElem?_append_left (by simpa using hi),List.getElem?_map,Option.map_eq_some_iff] at hx
  obtain ⟨y,hy,rfl⟩:=hx
  rw [Array.getElem?_append_left (by simpa using hi),Array.getElem?_map,Option.map_eq_some_iff] at hv
  obtain ⟨z,hz,rfl⟩:=hv
  have:y=z:=by
   have:args[i]?=some y:=by simpa using hy
   rw [hz] at this;exact (Option.some.inj this).symm
  subst this
  exact evalV_rep I y
 ·rw [List.getElem?_append_right (by simpa using hi)] at hx
  rw [Array.getElem?_append_right (by simpa using hi)] at hv
  simp only [List.length_map,Array.length_toList] at hx
  simp only [Array.size_map] at hv
  exact hr _ x v hx hv
theorem does_op {x:Operand} {g:FuncId} {args:Array Operand} {ts:Array TypeId} {arr vals:Array Value} {R:Ending→World→Prop} (ho:o.op=.call { callee:=.value x,args:=args,argTypes:=ts })
  (hx:CalleeIs (a.eval x) g arr) (hV:args.map a.eval++arr=vals) (hd:Does P g vals w R) {ro:Option Nat} {n:Nat} {K:Act→World→Prop} {Q:Exit→Act→World→Prop} (hR:∀ e w',R e w'→∃ v,e=.returned v∧K (a.put o.dst v) w') :
  o.wpIn (FF ro) n P a w K Q:=by
 refine ⟨fun _ _=>trivial,?_⟩
 rw [Oper.semAt_plain _ _ _ (by intro c hc;rw [ho] at hc;cases hc)]
 unfold Does at hd
 unfold CalleeIs at hx
 split at hd
 ·rename_i hg
  rw [if_pos hg] at hx
  obtain ⟨hf,hc⟩:=hd
  have hrun:(execOp a.eval o).run P w=.ok (.enter g vals) w:=by
   have:=enter_run (w:=w) hf (args:=vals)
   simp only [execOp,ho,resolve,Sem.run_bind,hx,Deferred.ofValue,Sem.run_pure,Result.andThen_ok,invoke]
   simpa [hV] using this
  rw [hrun,Oper.uponIn_enter]
  refine ⟨fun h=>by simp [FF,Fence.wide] at h,?_⟩
  have hc2:CallsIn (FF ro) (n - 1) P g vals w R:=(callsIn_wide (n:=n - 1)).2 hc
  refine hc2.mono fun e w' he => ?_
  obtain ⟨v,rfl,hk⟩:=hR e w' he
  exact hk
 ·rename_i hg
  rw [if_neg hg] at hx
  obtain ⟨l0,pre,f,tmps,asg,body,h1,h2,h3⟩:=hd
  obtain ⟨l,e1,e2⟩:=hx
  subst e2
  have hpp:pre=args.map a.eval∧l0=l:=by
   rw [←hV,←Array.push_eq_append] at h1
   obtain ⟨q1,q2⟩:=Array.push_eq_push.1 h1
   simp at q1
   exact ⟨q2.symm,q1.symm⟩
  obtain ⟨rfl,rfl⟩:=hpp
  have hrun:(execOp a.eval o).run P w=.ok (.round l0 f tmps asg body) w:=by
   simp only [execOp,ho,resolve,Sem.run_bind,e1,Deferred.ofValue,Sem.run_pure,Result.andThen_ok,invoke]
   simpa using h2
  rw [hrun,Oper.uponIn_round]
  refine ⟨fun h=>by simp [FF,Fence.wide] at h,?_⟩
  refine (h3 ro (n - 1)).mono fun e w' he => ?_
  obtain ⟨v,rfl,hk⟩:=hR e w' he
  exact hk
theorem new_mem {d:Nat}:∀ (l:List O) (s j:Nat) (hj:j<l.length),(newId d (s+j),l[j])∈newObjs d s l
 | [],s,j,hj=>by simp at hj
 | q::r,s,j,hj=>by
   cases j with
   | zero=>simp [newObjs]
   | succ j =>
     have:=new_mem (d:=d) r (s+1) j (by simpa using hj)
     rw [show s+1+j=s+(j+1) from by omega] at this
     simpa [newObjs] using .inr this
theorem callStep_does (hcall:CallOk P call) (I:Inv w0 fp S0 σ a w β S) {g:FuncId} {d:Nat} {A:List V} {vals:Array Value} {v:V} {u:List (Nat×O)} (ha1:vals.size=A.length)
  (ha2:∀ (i:Nat) x v,A[i]?=some x→vals[i]?=some v→Rep w β S x v) (hstep:callStep call h σ d g A=some (v,u)) :
  Does P g vals w fun e w'=>∃ v',e=.returned v'∧∀ dst,dstOk σ.n dst=true→∃ β' S',Inv w0 fp S0 (σ.put dst v u) (a.put dst v') w' β' S'∧∀ id,(getM σ.M id).isSome=true→β' id=β id:=by
 unfold callStep at hstep
 split at hstep<;>try (cases hstep;done)
 rename_i args1 fz hlend
 dsimp only at hstep
 split at hstep<;>try (cases hstep;done)
 rename_i ids hids
 split at hstep<;>try (cases hstep;done)
 rename_i objs hobjs
 split at hstep<;>try (cases hstep;done)
 rename_i hconds
 obtain ⟨hal,hA,hO,hnd,hlt⟩:=hconds
 split at hstep<;>try (cases hstep;done)
 rename_i r exts news hcl3
 split at hstep<;>try (cases hstep;done)
 rename_i hc2
 obtain ⟨hel,hnw,hfzk⟩:=hc2
 have hpost:=hcall _ _ _ _ _ _ hcl3
 obtain ⟨hlen,_⟩:=objsOf_get _ objs hobjs
 -- from a state in which the arguments are told by args1
 have core:∀ {σ1:St} {S1:Nat→Prop} (I1:Inv w0 fp S0 σ1 a w β S1),objsOf σ1.M ids=some objs→vals.size=args1.length→(∀ (i:Nat) x v,args1[i]?=some x→vals[i]?=some v→Rep w β S1 x v) →
   Does P g vals w fun e w'=>∃ v' βr S',e=.returned v'∧Inv w (fun b=>∃ id o,id∈ids∧getM σ1.M id=some o∧o.isOwn=true∧blk (β id)=some b) (baseOf S1 (fun i=>β (ids.getD (i - ExtB) 0)) ids.length) (outSt r exts news) ⟨#[v'],[]⟩ w' βr S':=by
  intro σ1 S1 I1 hob hsz hrep
  have hent:=entry_ok I1 hsz hrep hob hA hO hnd
  have:=hpost w _ S1 _ vals (by rw [hsz,renL_map];simp) (by simpa [hlen] using hlt) hent
  refine this.mono fun e w' hp => ?_
  obtain ⟨v',βr,S',h1,h2,h3,h4⟩:=hp
  refine ⟨v',βr,S',h1,?_⟩
  simpa [hlen] using h4
 have finish:∀ {σ1:St} {S1:Nat→Prop} (I1:Inv w0 fp S0 σ1 a w β S1) (hM:∀ id,(getM σ1.M id).isSome=true→(getM σ.M id).isSome=true),objsOf σ1.M ids=some objs→vals.size=args1.length→(∀ (i:Nat) x v,args1[i]?=some x→vals[i]?=some v→Rep w β S1 x v)→σ1.n=σ.n →
   Does P g vals w fun e w'=>∃ v',e=.returned v'∧∀ dst,dstOk σ.n dst=true→∃ β' S',Inv w0 fp S0 (σ1.put dst (r.ren (fromCall ids d)) (ids.zip (exts.map (O.ren (fromCall ids d)))++newObjs d 0 (news.map (O.ren (fromCall ids d))))) (a.put dst v') w' β' S'∧∀ id,(getM σ.M id).isSome=true→β' id=β id:=by
  intro σ1 S1 I1 hM hob hsz hrep hn
  refine (core I1 hob hsz hrep).mono fun e w' hp => ?_
  obtain ⟨v',βr,S',rfl,Ir⟩:=hp
  have hnw1:(newObjs d 0 (news.map (O.ren (fromCall ids d)))).all (fun q=>(getM σ1.M q.1).isNone)=true:=by
   refine List.all_eq_true.2 fun q hq => ?_
   have:=(List.all_eq_true.1 hnw) q hq
   cases h1:getM σ1.M q.1 with
   | none=>rfl
   | some o' =>
     have h2:=hM q.1 (by rw [h1];rfl)
     cases h3:getM σ.M q.1 with
     | none=>rw [h3] at h2;cases h2
     | some _=>rw [h3] at this;cases this
  have U:=from_call I1 hob hlt hel hnw1 Ir
  refine ⟨v',rfl,fun dst hdk=>⟨_,_,I1.upd U (by rw [hn];exact hdk),fun id hid => ?_⟩⟩
  rcases U.new id with e | e
  ·exact e
  ·exact newβ_old fun j hj e2=>by
    have:=(List.all_eq_true.1 hnw) (newId d j,((news.map (O.ren (fromCall ids d)))[j]'(by simpa using hj))) (by have:=new_mem (d:=d) (news.map (O.ren (fromCall ids d))) 0 j (by simpa using hj);rwa [Nat.zero_add] at this)
    rw [←e2] at this
    cases hq:getM σ.M id with
    | none=>rw [hq] at hid;cases hid
    | some _=>rw [hq] at this;cases this
 by_cases hg:h.gives g=true
 ·rw [if_pos hg] at hlend
  cases hlend
  simp only [List.isEmpty_nil,Bool.true_eq,true_or,if_true] at hstep
  cases hstep
  exact finish I (fun _ h=>h) hobjs ha1 ha2 rfl
 ·rw [if_neg hg] at hlend
  obtain ⟨f1,f2,f3,f4⟩:=lendL_ok I A args1 fz vals.toList hlend (by simpa using ha1) fun i x v hx hv=>ha2 i x v hx (by simpa using hv)
  have hMfz:∀ id,(getM (σ.put none .bad fz).M id).isSome=true→(getM σ.M id).isSome=true:=fun id hid=>by
   simp only [St.put,getM_append] at hid
   cases hq:getM fz id with
   | none=>simpa [hq] using hid
   | some o'=>obtain ⟨own,m,e',r',h6,_⟩:=f1 id o' hq;rw [h6];rfl
  have hob1:objsOf (σ.put none .bad fz).M ids=some objs:=by
   have:∀ (l:List Nat) (os:List O),(∀ id∈l,getM fz id=none)→objsOf σ.M l=some os→objsOf (fz++σ.M) l=some os:=by
    intro l
    induction l with
    | nil=>intro os _ h;exact h
    | cons x r ih =>
      intro os hn h
      simp only [objsOf] at h ⊢
      split at h<;>simp at h
      rename_i o' l' h1 h2
      have e1:getM (fz++σ.M) x=some o':=by rw [getM_append,hn x (by simp)];exact h1
      have e2:=ih l' (fun id hid=>hn id (by simp [hid])) h2
      rw [e1,e2]
      simpa using h
   refine this _ _ (fun id hid => ?_) hobjs
   cases hq:getM fz id with
   | none=>rfl
   | some o' =>
     obtain ⟨q,hq1,hq2⟩:=List.mem_map.1 (getM_keys.1 (show (getM fz id).isSome=true by rw [hq];rfl))
     have:=(List.all_eq_true.1 hfzk) q hq1
     rw [hq2] at this
     simp [hid] at this
  have hsz1:vals.size=args1.length:=by rw [ha1,f2]
  have hrep1:∀ (i:Nat) x v,args1[i]?=some x→vals[i]?=some v→Rep w β (frS β S fz) x v:=fun i x v hx hv=>f3 i x v hx (by simpa using hv)
  split at hstep
  ·rename_i hflat
   cases hstep
   rcases hflat with hflat | ⟨q1,q2,q3⟩ | ⟨q1,q3,q4⟩
   ·have:fz=[]:=by simpa using hflat
    subst this
    refine finish I (fun _ h=>h) hobjs hsz1 (fun i x v hx hv=>(hrep1 i x v hx hv).mono (fun _ _=>rfl) (fun b hb => ?_) (fun _ _=>rfl)) rfl
    rcases hb with hb | ⟨id,h1,_⟩
    ·exact hb
    ·cases h1
   ·have e1:ids=[]:=by simpa using q2
    have e2:news=[]:=by simpa using q3
    subst e2
    have hu:ids.zip (exts.map (O.ren (fromCall ids d)))++newObjs d 0 (([]:List O).map (O.ren (fromCall ids d)))=[]:=by rw [e1];rfl
    rw [hu,flat_ren q1]
    have I1:=I.upd (UpdOk.freeze I f1 undef) (dst:=none) rfl
    refine (core I1 hob1 hsz1 hrep1).mono fun e w' hp => ?_
    obtain ⟨v',βr,S',rfl,Ir⟩:=hp
    have hsl:=Ir.slots 0
    simp only [outSt,getF,if_true] at hsl
    have hkeep:∀ b,b<w.heap.size→w'.heap[b]?=w.heap[b]?:=fun b hb=>Ir.kept b hb fun hbad=>by
     obtain ⟨id,o',h1,_⟩:=hbad
     rw [e1] at h1;cases h1
    refine ⟨v',rfl,fun dst hdk=>⟨β,S,I.upd (v:=r) (u:=[]) (v':=v') (w':=w') (β':=β) (S':=S) ?_ hdk,fun _ _=>rfl⟩⟩
    refine { new:=fun _=>.inl rfl,os:=Ir.os,tape:=Ir.tape,output:=Ir.output,grow:=Ir.grow,touch:=fun b hb=>.inl (hkeep b hb),S1:=fun _ h=>h,S2:=fun b hb=>Nat.lt_of_lt_of_le (I.Slt b hb) Ir.grow,S4:=fun _ h=>.inl h,objs:=fun _ _ h=>(by cases h),own:=fun _ _ _ h=>(by cases h),fro:=fun _ _ _ _ _ h=>(by cases h),inj:=fun _ _ _ _ _ h=>(by cases h),closedM:=fun _ _ h=>(by cases h),rep:=flat_rep q1 hsl,closedV:=fun id hid=>by rw [flat_ids q1] at hid;cases hid }
   ·have e2:news=[]:=by simpa using q3
    subst e2
    rw [flat_ren q1]
    have I1:=I.upd (UpdOk.freeze I f1 undef) (dst:=none) rfl
    refine (core I1 hob1 hsz1 hrep1).mono fun e w' hp => ?_
    obtain ⟨v',βr,S',rfl,Ir⟩:=hp
    have U:=from_call (d:=d) I1 hob1 hlt hel (by rfl) Ir
    rw [flat_ren q1] at U
    have U2:=UpdOk.flat I f1 U q1 fun id o ho=>by
     have ho':getM (ids.zip (exts.map (O.ren (fromCall ids d)))) id=some o:=by simpa [newObjs] using ho
     obtain ⟨x,hx,rfl⟩:=List.mem_map.1 (getM_zip_mem _ _ _ _ ho')
     have hfx:=(List.all_eq_true.1 q4) x hx
     rw [flatO_ren hfx]
     exact flatO_box hfx
    refine ⟨v',rfl,fun dst hdk=>⟨_,_,I.upd U2 hdk,fun id hid => ?_⟩⟩
    rcases U2.new id with e | e
    ·exact e
    ·rw [e] at hid;cases hid
  ·cases hstep
   rw [←List.append_assoc]
   have I1:=I.upd (UpdOk.freeze I f1 undef) (dst:=none) rfl
   refine (finish I1 hMfz hob1 hsz1 hrep1 rfl).mono fun e w' hp => ?_
   obtain ⟨v',rfl,hp⟩:=hp
   refine ⟨v',rfl,fun dst hdk => ?_⟩
   obtain ⟨β',S',I',hb⟩:=hp dst hdk
   refine ⟨β',S',?_,hb⟩
   have e1:∀ (v:V) (u1:List (Nat×O)),(σ.put none .bad fz).put dst v u1=σ.put dst v (u1++fz):=fun v u1=>by simp [St.put]
   rwa [e1] at I'
theorem callStep_ok (hcall:CallOk P call) (I:Inv w0 fp S0 σ a w β S) {x:Operand} {g:FuncId} {cs:List V} {d:Nat} {args:Array Operand} {ts:Array TypeId} {v:V} {u:List (Nat×O)} (ho:o.op=.call { callee:=.value x,args:=args,argTypes:=ts })
  (hc:calleeOf σ x=some (g,cs)) (hstep:callStep call h σ d g (args.toList.map (evalV σ)++cs)=some (v,u)) (hdk:dstOk σ.n o.dst=true):OpOk P w0 fp S0 σ a w o v u:=by
 obtain ⟨arr,hx,hs,hr,hcl⟩:=callee_run I hc
 obtain ⟨ha1,ha2⟩:=call_args (args:=args) I hs hr
 intro ro n K Q hK
 refine does_op ho hx rfl (callStep_does hcall I ha1 ha2 hstep) fun e w' hp => ?_
 obtain ⟨v',rfl,hp⟩:=hp
 obtain ⟨β',S',I',_⟩:=hp o.dst hdk
 exact ⟨v',rfl,hK _ _ _ _ I'⟩
end
section
variable {P:Program} {w0:World} {fp:Nat→Prop} {S0:Base} {σ:St} {a:Act} {w:World} {β:Nat→Value} {S:Nat→Prop} {o:Oper}
theorem mpInfo_ok {t:TypeId} {fs:List Field} {z:Value} (h:mpInfo P t=some (fs,z)):∃ (kt vt:TypeId) (fa:Array Field),P.underlying t=some (.map kt vt)∧P.underlying kt=some (.struct fa)∧fa.toList=fs∧P.stoodInHeld kt=false∧keyFs P 0 fa.toList=true∧∀ w,(zeroValue vt).run P w=.ok z w:=by
 unfold mpInfo at h
 split at h<;>try (cases h;done)
 rename_i kt vt ht
 split at h<;>try (cases h;done)
 rename_i fa i hk hi
 split at h<;>try (cases h;done)
 rename_i z' hz
 split at h<;>simp at h
 rename_i hc
 obtain ⟨rfl,rfl⟩:=h
 exact ⟨kt,vt,fa,ht,hk,rfl,hc.1,hc.2,fun w=>by simp [zeroValue,typeInfo,hi,hz]⟩
theorem mpOf_ok (I:Inv w0 fp S0 σ a w β S) {x:V} {v:Value} {id n:Nat} {es:List (List Value×Value)} (h:mpOf σ x=some (id,n,es)) (hr:Rep w β S x v) :
 ∃ r,v=.map (some r)∧x=.mp id∧getM σ.M id=some (.mp n es)∧β id=.map (some r)∧(∀ e∈es,e.1.length=n)∧w.heap[r]?=some (.map (mpEntries 0 es).toArray es.length):=by
 unfold mpOf at h
 split at h<;>try (cases h;done)
 rename_i id'
 split at h<;>simp at h
 rename_i n' es' hM
 obtain ⟨rfl,rfl,rfl⟩:=h
 obtain ⟨h0,r,h1,h2⟩:=I.objs _ _ hM
 cases hr with
 | d h=>cases h
 | mp _ r' hβ =>
  rw [h1] at hβ
  cases hβ
  exact ⟨r,rfl,rfl,hM,h1,h0,h2⟩
theorem plainL_ok:∀ {cs:List V} {ks:List Value},plainL cs=some ks→cs=ks.map .p
 | [],ks,h=>by simp [plainL] at h;subst h;rfl
 | .p v::r,ks,h=>by
  simp only [plainL,Option.map_eq_some_iff] at h
  obtain ⟨l,h1,rfl⟩:=h
  rw [plainL_ok h1];rfl
 | .nil::_,_,h=>by simp [plainL] at h
 | .sl _ _::_,_,h=>by simp [plainL] at h
 | .rpt _ _::_,_,h=>by simp [plainL] at h
 | .own _::_,_,h=>by simp [plainL] at h
 | .cut _ _ _ _::_,_,h=>by simp [plainL] at h
 | .ptr _ _::_,_,h=>by simp [plainL] at h
 | .ept _ _ _ _::_,_,h=>by simp [plainL] at h
 | .agg _::_,_,h=>by simp [plainL] at h
 | .tup _::_,_,h=>by simp [plainL] at h
 | .fn _ _::_,_,h=>by simp [plainL] at h
 | .yld _::_,_,h=>by simp [plainL] at h
 | .bsl _ _ _::_,_,h=>by simp [plainL] at h
 | .mp _::_,_,h=>by simp [plainL] at h
 | .bad::_,_,h=>by simp [plainL] at h
theorem mpKey_ok {x:V} {v:Value} {ks:List Value} (h:mpKey x=some ks) (hr:Rep w β S x v):v=.agg ks.toArray:=by
 unfold mpKey at h
 split at h<;>try (cases h;done)
 rename_i cs
 have hc:=plainL_ok h
 subst hc
 cases hr with
 | d h=>cases h
 | agg _ arr hs hone hcell =>
  congr 1
  apply Array.ext (by simpa using hs)
  intro i h1 h2
  have h3:i<ks.length:=by simpa using h2
  have:=hcell i (.p ks[i]) arr[i] (by simp [h3]) (Array.getElem?_eq_getElem h1)
  have e:=rep_p this
  simpa using e
theorem lookup_ok (I:Inv w0 fp S0 σ a w β S) {t:TypeId} {x k:Operand} {v:V} (ho:o.op=.lookup t x k false) (h:lookupV P σ t (evalV σ x) (evalV σ k)=some v):POk P σ a w β S o v:=by
 unfold lookupV at h
 split at h<;>try (cases h;done)
 rename_i fs z id n es ks h1 h2 h3
 split at h<;>simp at h
 rename_i hl
 replace hl:=hl.1
 obtain ⟨res,h4,rfl⟩:=h
 obtain ⟨kt,vt,fa,ht,hu,rfl,hs,hk,hz⟩:=mpInfo_ok h1
 obtain ⟨r,e1,_,_,_,_,hb⟩:=mpOf_ok I h2 (evalV_rep I x)
 have e2:=mpKey_ok h3 (evalV_rep I k)
 have hrun:=run_lookup_mp (w:=w) ht hu hs hk (by simpa using hl.2) (hz w) hb h4
 refine ⟨⟨mpAns z res,?_,.d (.p _)⟩,by simp [V.ids]⟩
 simp only [execOp,ho,e1,e2]
 cases res with
 | none=>simp [hrun,mpAns]
 | some q=>obtain ⟨m,u⟩:=q;simp [hrun,mpAns]
theorem mp_upd (I:Inv w0 fp S0 σ a w β S) {id n r:Nat} {es es':List (List Value×Value)} (hM:getM σ.M id=some (.mp n es)) (hβ:β id=.map (some r)) (hb:w.heap[r]?=some (.map (mpEntries 0 es).toArray es.length)) (hn:∀ e∈es',e.1.length=n) {v:V} {v':Value}
 (hr:Rep (w.putObj r (.map (mpEntries 0 es').toArray es'.length)) β S v v') (hvc:v.ids=[]):UpdOk w0 fp σ w β S v [(id,.mp n es')] v' (w.putObj r (.map (mpEntries 0 es').toArray es'.length)) β S:=by
 have hlt:r<w.heap.size:=(Array.getElem?_eq_some_iff.1 hb).1
 refine UpdOk.write I hM rfl (w':=w.putObj r (.map (mpEntries 0 es').toArray es'.length)) (o1:=.mp n es') rfl rfl rfl rfl (by simp) (fun b hb=>World.putObj_heap_other fun (e:b=r)=>hb (by rw [hβ,e];rfl)) ⟨hn,r,hβ,World.putObj_heap_same hlt⟩ (fun i hi=>by cases hi) hr (fun i hi=>by rw [hvc] at hi;cases hi)
theorem mpPut_len {n:Nat} {es:List (List Value×Value)} {ks:List Value} {v:Value} {r:Option (Nat×Value)} (h:∀ e∈es,e.1.length=n) (hk:ks.length=n):∀ e∈mpPut es ks v r,e.1.length=n:=by
 intro e he
 cases r with
 | none =>
  rcases List.mem_append.1 he with h1 | h1
  ·exact h e h1
  ·rw [List.mem_singleton.1 h1];exact hk
 | some q =>
  rcases List.mem_or_eq_of_mem_set he with h1 | h1
  ·exact h e h1
  ·rw [h1];exact hk
theorem mpEnter_len {n:Nat} {es:List (List Value×Value)} {ks:List Value} {z:Value} {r:Option (Nat×Value)} (h:∀ e∈es,e.1.length=n) (hk:ks.length=n):∀ e∈mpEnter es ks z r,e.1.length=n:=by
 intro e he
 cases r with
 | none =>
  rcases List.mem_append.1 he with h1 | h1
  ·exact h e h1
  ·rw [List.mem_singleton.1 h1];exact hk
 | some q=>exact h e he
theorem mapUpdate_ok (I:Inv w0 fp S0 σ a w β S) {t:TypeId} {x k y:Operand} {u:List (Nat×O)} (ho:o.op=.mapUpdate t x k y) (h:mapUpdateV P σ t (evalV σ x) (evalV σ k) (evalV σ y)=some u) (hdk:dstOk σ.n o.dst=true):OpOk P w0 fp S0 σ a w o (.tup []) u:=by
 unfold mapUpdateV at h
 split at h<;>try (cases h;done)
 rename_i fs z id n es ks val h1 h2 h3 h5
 split at h<;>simp at h
 rename_i hl
 obtain ⟨res,h4,rfl⟩:=h
 obtain ⟨kt,vt,fa,ht,hu,rfl,hs,hk,hz⟩:=mpInfo_ok h1
 obtain ⟨r,e1,_,hM,hβ,hlen,hb⟩:=mpOf_ok I h2 (evalV_rep I x)
 have e2:=mpKey_ok h3 (evalV_rep I k)
 have e3:=rep_p (h5▸evalV_rep I y)
 have hn:n=fa.size:=by simpa using hl.1
 have hrun:=run_update_mp (w:=w) (val:=val) ht hu hs hk (by simpa using hl.2) (fun e he=>by rw [hlen e he,hn]) hb h4
 refine OpOk.skip I (β':=β) (S':=S) ?_ (mp_upd I hM hβ hb (es':=mpPut es ks val res) (mpPut_len hlen (by rw [hl.2,hl.1])) (.tup [] #[] rfl (by simp)) (by simp [V.ids,V.idsL])) hdk
 simp only [execOp,ho,e1,e2,e3]
 simp [hrun]
theorem mapEntry_ok (I:Inv w0 fp S0 σ a w β S) {t:TypeId} {x k:Operand} {v:V} {u:List (Nat×O)} (ho:o.op=.mapEntry t x k) (h:mapEntryV P σ t (evalV σ x) (evalV σ k)=some (v,u)) (hdk:dstOk σ.n o.dst=true):OpOk P w0 fp S0 σ a w o v u:=by
 unfold mapEntryV at h
 split at h<;>try (cases h;done)
 rename_i fs z id n es ks h1 h2 h3
 split at h<;>simp at h
 rename_i hl
 replace hl:=hl.1
 obtain ⟨res,h4,rfl,rfl⟩:=h
 obtain ⟨kt,vt,fa,ht,hu,rfl,hs,hk,hz⟩:=mpInfo_ok h1
 obtain ⟨r,e1,_,hM,hβ,hlen,hb⟩:=mpOf_ok I h2 (evalV_rep I x)
 have e2:=mpKey_ok h3 (evalV_rep I k)
 have hn:n=fa.size:=by simpa using hl.1
 have hrun:=run_entry_mp (w:=w) ht hu hs hk (by simpa using hl.2) (fun e he=>by rw [hlen e he,hn]) (hz w) hb h4
 refine OpOk.value I (v':=.tuple #[mpAns z res,.int .i64 (mpStamp es res:Nat)]) (β':=β) (S':=S) ?_ (mp_upd I hM hβ hb (es':=mpEnter es ks z res) (mpEnter_len hlen (by rw [hl.2,hl.1])) (.tup _ #[_,_] rfl ?_) (by simp [V.ids,V.idsL])) hdk
 ·simp only [execOp,ho,e1,e2]
  simp [hrun]
 ·intro i y v' h5 h6
  match i,h5,h6 with
  | 0,h5,h6=>simp at h5 h6;subst h5;subst h6;exact .d (.p _)
  | 1,h5,h6=>simp at h5 h6;subst h5;subst h6;exact .d (.p _)
  | i+2,h5,h6=>simp at h5
theorem entryStore_ok (I:Inv w0 fp S0 σ a w β S) {t:TypeId} {x s y:Operand} {u:List (Nat×O)} (ho:o.op=.entryStore t x s y) (h:entryStoreV σ (evalV σ x) (evalV σ s) (evalV σ y)=some u) (hdk:dstOk σ.n o.dst=true):OpOk P w0 fp S0 σ a w o (.tup []) u:=by
 unfold entryStoreV at h
 split at h<;>try (cases h;done)
 rename_i id n es i val h1 h2 h3
 split at h<;>try (cases h;done)
 rename_i hi
 split at h<;>simp at h
 rename_i k' v0 hg
 subst h
 obtain ⟨r,e1,_,hM,hβ,hlen,hb⟩:=mpOf_ok I h1 (evalV_rep I x)
 have e2:=rep_p (h2▸evalV_rep I s)
 have e3:=rep_p (h3▸evalV_rep I y)
 obtain ⟨j,rfl⟩:=Int.eq_ofNat_of_zero_le hi
 have hg':es[j]?=some (k',v0):=by simpa using hg
 have hrun:=run_entryStore_mp (P:=P) (w:=w) (t:=t) (val:=val) hg' hb
 refine OpOk.skip I (β':=β) (S':=S) ?_ (mp_upd I hM hβ hb (es':=es.set j (k',val)) (fun e he => ?_) (.tup [] #[] rfl (by simp)) (by simp [V.ids,V.idsL])) hdk
 ·simp only [execOp,ho,e1,e2,e3]
  simp [hrun]
 ·rcases List.mem_or_eq_of_mem_set he with h1 | h1
  ·exact hlen e h1
  ·rw [h1];exact hlen (k',v0) (List.mem_of_getElem? hg')
theorem makeMap_ok (I:Inv w0 fp S0 σ a w β S) {d:Nat} {t:TypeId} {v:V} {u:List (Nat×O)} (ho:o.op=.makeMap t none) (hd:o.dst=some d) (h:makeMapV P σ d t=some (v,u)) (hdk:dstOk σ.n o.dst=true):OpOk P w0 fp S0 σ a w o v u:=by
 unfold makeMapV at h
 split at h<;>try (cases h;done)
 rename_i fs z h1
 split at h<;>simp at h
 rename_i hM
 obtain ⟨rfl,rfl⟩:=h
 have hold:∀ b,b<w.heap.size→(w.alloc (.map #[] 0)).heap[b]?=w.heap[b]?:=fun b hb=>push_old w _ hb
 refine OpOk.value I (v':=.map (some w.heap.size)) (w':=w.alloc (.map #[] 0)) ?_ (UpdOk.create I (by simpa using hM) (w':=w.alloc (.map #[] 0)) (o:=.mp fs.length []) (hv:=.map (some w.heap.size)) rfl rfl rfl (by simp) hold (fun g hg=>by cases hg;exact Nat.le_refl _) rfl ⟨by simp,w.heap.size,upd_same _ _ _,World.alloc_heap_new w _⟩ (fun i hi=>by cases hi) (.mp d w.heap.size (upd_same _ _ _)) (fun i hi=>.inl (by simpa [V.ids] using hi))) hdk
 simp [execOp,ho,Instr.makeMap]
theorem mpLen_ok (I:Inv w0 fp S0 σ a w β S) {x:Operand} {t kt vt:TypeId} {id n:Nat} {es:List (List Value×Value)} {args:Array Operand} {ts:Array TypeId} (ho:o.op=.call { callee:=.builtin .len,args:=args,argTypes:=ts }) (ha:args.toList=[x]) (ht:ts.toList=[t])
 (hu:P.underlying t=some (.map kt vt)) (h:mpOf σ (evalV σ x)=some (id,n,es)):POk P σ a w β S o (.p (.int .i64 (es.length:Nat))):=by
 obtain ⟨r,e1,_,hM,hβ,hlen,hb⟩:=mpOf_ok I h (evalV_rep I x)
 have ea:args = #[x]:=by apply Array.ext';simpa using ha
 have et:ts = #[t]:=by apply Array.ext';simpa using ht
 subst ea;subst et
 refine ⟨⟨.int .i64 (es.length:Nat),?_,.d (.p _)⟩,by simp [V.ids]⟩
 simp [execOp,ho,resolve,invoke,builtin,e1,Builtin.len_,run_underlying hu,mp_get hb,mpEntries_len,goInt]
def ExtZ (P:Program) (fs:List Field) (z:Value) (es es':List (List Value×Value)):Prop:=∃ l,es'=es++l∧∀ e∈l,e.2=z∧keyTyped P e.1 fs=true
theorem ExtZ.refl {fs:List Field} {z:Value} (es:List (List Value×Value)):ExtZ P fs z es es:=⟨[],by simp,by simp⟩
theorem ExtZ.trans {fs:List Field} {z:Value} {a b c:List (List Value×Value)} (h:ExtZ P fs z a b) (h':ExtZ P fs z b c):ExtZ P fs z a c:=by
 obtain ⟨l,rfl,h1⟩:=h
 obtain ⟨l',rfl,h2⟩:=h'
 exact ⟨l++l',by simp,fun e he=>(List.mem_append.1 he).elim (h1 e) (h2 e)⟩
theorem flatEq_typed {ks ks':List Value}:∀ (fs:List Field) (i:Nat),keyFs P i fs=true→keyTyped P ks fs=true→keyTyped P ks' fs=true→∃ b,flatEq P (ks.map .p) (ks'.map .p) fs=some b
 | [],_,_,_,_=>⟨true,rfl⟩
 | f::fs,i,hk,h1,h2=>by
  simp only [keyFs,Bool.and_eq_true] at hk
  obtain ⟨⟨⟨hn,ho⟩,hu⟩,hk⟩:=hk
  simp only [keyTyped,Bool.and_eq_true] at h1 h2
  obtain ⟨c,hc⟩:=flatEq_typed fs (i+1) hk h1.2 h2.2
  obtain ⟨h1,_⟩:=h1
  obtain ⟨h2,_⟩:=h2
  split at h1<;>try (cases h1;done)
  rename_i q a q' g1 g2
  split at h2<;>try (cases h2;done)
  rename_i q2 a2 q2' g3 g4
  rw [g2] at g4
  cases g4
  simp only [decide_eq_true_eq] at h1 h2
  subst h1;subst h2
  refine ⟨(a==a2)&&c,?_⟩
  have hn' : f.name ≠ "_" := by simpa using hn
  rw [flatEq,if_pos hn',hc,g2]
  unfold fieldEq
  simp [g1,g3,cellEq,andO]
theorem mpFind_app {fs:List Field} {ks:List Value}:∀ (es l:List (List Value×Value)) (i:Nat) (r:Option (Nat×Value)),mpFind P fs ks es i=some r→mpFind P fs ks (es++l) i=match r with | some q=>some (some q) | none=>mpFind P fs ks l (i+es.length)
 | [],l,i,r,h=>by simp [mpFind] at h;subst h;simp
 | (k',v)::es,l,i,r,h=>by
  simp only [List.cons_append,mpFind] at h ⊢
  split at h
  ·cases h;rfl
  ·rw [mpFind_app es l (i+1) r h]
   cases r with
   | none=>simp only [List.length_cons];rw [show i+1+es.length=i+(es.length+1) by omega]
   | some q=>rfl
  ·cases h
theorem mpFind_zero {fs:List Field} {ks:List Value} {z:Value} (hk:keyFs P 0 fs=true) (ht:keyTyped P ks fs=true):∀ (l:List (List Value×Value)) (i:Nat),(∀ e∈l,e.2=z∧keyTyped P e.1 fs=true)→∃ r,mpFind P fs ks l i=some r∧mpAns z r=z
 | [],i,_=>⟨none,rfl,rfl⟩
 | (k',v)::l,i,h=>by
  obtain ⟨b,hb⟩:=flatEq_typed (ks:=ks) (ks':=k') fs 0 hk ht (h (k',v) (by simp)).2
  simp only [mpFind,hb]
  cases b with
  | true=>exact ⟨_,rfl,(h (k',v) (by simp)).1⟩
  | false=>exact mpFind_zero hk ht l (i+1) fun e he=>h e (by simp [he])
theorem mpFind_ext {fs:List Field} {ks:List Value} {z:Value} {es es':List (List Value×Value)} {r:Option (Nat×Value)} (hk:keyFs P 0 fs=true) (ht:keyTyped P ks fs=true) (h:mpFind P fs ks es 0=some r) (he:ExtZ P fs z es es'):∃ r',mpFind P fs ks es' 0=some r'∧mpAns z r'=mpAns z r:=by
 obtain ⟨l,rfl,hl⟩:=he
 rw [mpFind_app es l 0 r h]
 cases r with
 | some q=>exact ⟨_,rfl,rfl⟩
 | none=>exact mpFind_zero hk ht l _ hl
def ObjExt (P:Program) (t:TypeId) (o o':Option O):Prop:=o'=o∨∃ fs z n es es',mpInfo P t=some (fs,z)∧o=some (.mp n es)∧o'=some (.mp n es')∧ExtZ P fs z es es'
theorem ObjExt.trans {t:TypeId} {a b c:Option O} (h:ObjExt P t a b) (h':ObjExt P t b c):ObjExt P t a c:=by
 rcases h with rfl | ⟨fs,z,n,es,es',h1,h2,h3,h4⟩
 ·exact h'
 ·rcases h' with rfl | ⟨fs',z',n',es1,es1',g1,g2,g3,g4⟩
  ·exact .inr ⟨fs,z,n,es,es',h1,h2,h3,h4⟩
  ·rw [h1] at g1;cases g1
   rw [h3] at g2;cases g2
   exact .inr ⟨fs,z,n,es,es1',h1,h2,g3,h4.trans g4⟩
theorem lookup_stable {σ':St} {t:TypeId} {x k v:V} (h:lookupV P σ t x k=some v) (he:∀ id,x=.mp id→ObjExt P t (getM σ.M id) (getM σ'.M id)):lookupV P σ' t x k=some v:=by
 unfold lookupV at h ⊢
 split at h<;>try (cases h;done)
 rename_i fs z id n es ks h1 h2 h3
 unfold mpOf at h2
 split at h2<;>try (cases h2;done)
 rename_i id'
 split at h2<;>simp at h2
 rename_i n' es' hM
 obtain ⟨rfl,rfl,rfl⟩:=h2
 split at h<;>simp at h
 rename_i hc
 obtain ⟨r,h4,rfl⟩:=h
 obtain ⟨kt,vt,fa,ht,hu,hfa,hs,hk,hz⟩:=mpInfo_ok h1
 rw [hfa] at hk
 rcases he _ rfl with e | ⟨fs',z',n2,es1,es2,g1,g2,g3,g4⟩
 ·simp [h1,h3,mpOf,e,hM,hc,h4]
 ·rw [h1] at g1;cases g1
  rw [hM] at g2;cases g2
  obtain ⟨r',e1,e2⟩:=mpFind_ext hk hc.2 h4 g4
  simp [h1,h3,mpOf,g3,hc,e1,e2]
theorem entry_ext {t:TypeId} {x k v:V} {u:List (Nat×O)} (h:mapEntryV P σ t x k=some (v,u)):∃ id q,x=.mp id∧u=[(id,q)]∧ObjExt P t (getM σ.M id) (some q):=by
 unfold mapEntryV at h
 split at h<;>try (cases h;done)
 rename_i fs z id n es ks h1 h2 h3
 unfold mpOf at h2
 split at h2<;>try (cases h2;done)
 rename_i id'
 split at h2<;>simp at h2
 rename_i n' es' hM
 obtain ⟨rfl,rfl,rfl⟩:=h2
 split at h<;>simp at h
 rename_i hc
 obtain ⟨r,h4,rfl,rfl⟩:=h
 refine ⟨_,_,rfl,rfl,.inr ⟨fs,z,n',es',mpEnter es' ks z r,h1,hM,rfl,?_⟩⟩
 cases r with
 | none=>exact ⟨[(ks,z)],rfl,fun e he=>by rw [List.mem_singleton.1 he];exact ⟨rfl,hc.2⟩⟩
 | some q=>exact ExtZ.refl es'
end
end Go.Proofs.YtiompmmbjpjjeaaDoorV