/- The value interpreter: an operation's effect hangs on what it looks at alone. -/
import Derived.Test.YtlelaenalbkbmaaDoorHVi16
namespace Go.Proofs.YtlelaenalbkbmaaDoorV
open Go
set_option linter.unusedVariables false
set_option linter.unusedSimpArgs false
section
variable {P:Program} {call:CallF} {h:Hints} {σ σ':St} {o:Oper}
theorem plainOp_congr (hev:∀ x∈o.op.operands,evalV σ x=evalV σ' x):plainOp P σ o=plainOp P σ' o:=by
 unfold plainOp
 have h1:o.op.operands.all (fun x=>(toVal (evalV σ x)).isSome)=o.op.operands.all (fun x=>(toVal (evalV σ' x)).isSome):=by
  rw [←Array.all_toList,←Array.all_toList,Bool.eq_iff_iff,List.all_eq_true,List.all_eq_true]
  exact ⟨fun h x hx=>by rw [←hev x (by simpa using hx)];exact h x hx,fun h x hx=>by rw [hev x (by simpa using hx)];exact h x hx⟩
 rw [h1]
 by_cases hc:isSelect o.op=false∧(o.op.operands.all fun x=>(toVal (evalV σ' x)).isSome)=true
 ·rw [if_pos hc,if_pos hc]
  rw [execOp_congr o (not_select hc.1) (ρ:=fun x=>(toVal (evalV σ x)).getD undef) (ρ':=fun x=>(toVal (evalV σ' x)).getD undef) fun x hx=>by show (toVal (evalV σ x)).getD undef=(toVal (evalV σ' x)).getD undef;rw [hev x hx]]
 ·rw [if_neg hc,if_neg hc]
theorem calleeOf_congr {x:Operand} (hev:evalV σ x=evalV σ' x):calleeOf σ x=calleeOf σ' x:=by
 unfold calleeOf
 cases x<;>simp only []<;>rw [hev]
theorem calleeOf_ids {x:Operand} {f:FuncId} {cs:List V} (hc:calleeOf σ x=some (f,cs)):∀ id∈V.idsL cs,id∈(evalV σ x).ids:=by
 unfold calleeOf at hc
 split at hc
 ·split at hc<;>try (cases hc;done)
  cases hc;simp [V.idsL]
 ·split at hc<;>try (cases hc;done)
  ·split at hc<;>try (cases hc;done)
   cases hc;simp [V.idsL]
  ·rename_i e
   split at hc<;>try (cases hc;done)
   cases hc
   rw [e,V.ids]
   exact fun _ h=>h
  ·rename_i e
   cases hc
   rw [e]
   simp [V.ids,V.idsL]
theorem foot_sub {F:List Nat} (hf:footOf σ o=some F):∀ id∈slotsOfOp σ o,id∈F:=by
 unfold footOf at hf
 intro id hid
 split at hf
 ·split at hf
  ·exact (reach_mono 64 _ _ F hf).2 id hid
  ·cases hf;exact hid
 ·cases hf;exact hid
theorem step_congr {v:V} {u:List (Nat×O)} {F:List Nat} (hs:step P call h σ o=some (v,u)) (hev:∀ x∈o.op.operands,evalV σ x=evalV σ' x) (hreach:footOf σ o=some F)
  (hA:∀ id∈F,getM σ.M id=getM σ'.M id) (hW:∀ id∈u.map (·.1),getM σ.M id=getM σ'.M id):step P call h σ' o=some (v,u):=by
 have hsub:isPure o.op=false→∀ x∈o.op.operands,∀ id∈(evalV σ x).ids,id∈F:=fun hn x hx id hid=>foot_sub hreach id (by rw [slotsOfOp,hn];exact List.mem_flatMap.2 ⟨x,by simpa using hx,hid⟩)
 have hv:isPure o.op=false→∀ x∈o.op.operands,∀ id∈(evalV σ x).ids,getM σ.M id=getM σ'.M id:=fun hn x hx id hid=>hA id (hsub hn x hx id hid)
 have hp:=plainOp_congr (P:=P) hev
 unfold step at hs ⊢
 split at hs
 case h_1 x ho =>
  simp only [ho,Op.operands] at hev
  rw [←hev x (by simp)];exact hs
 case h_2 x ho =>
  simp only [ho,Op.operands] at hev
  rw [←hev x (by simp)];exact hs
 case h_3 c x y ho =>
  simp only [ho,Op.operands] at hev
  rw [←hev c (by simp),←hev x (by simp),←hev y (by simp)];exact hs
 case h_4 t ho =>
  simp only [ho,Op.operands] at hev
  split at hs<;>try (cases hs;done)
  exact allocV_congr hs hW
 case h_5 t x ho =>
  simp only [ho,Op.operands] at hev
  split at hs<;>try (cases hs;done)
  rw [←hev x (by simp)]
  exact boxV_congr hs hW
 case h_6 t ps ho =>
  simp only [ho,Op.operands] at hev
  have hm:(ps.toList.map fun q=>(q.1,evalV σ q.2))=ps.toList.map fun q=>(q.1,evalV σ' q.2):=List.map_congr_left fun p hp=>by rw [hev p.2 (by simpa using ⟨p.1,by simpa using hp⟩)]
  have:buildV P σ t ps.toList=buildV P σ' t ps.toList:=by unfold buildV;rw [hm]
  rw [←this];exact hs
 case h_7 t len ps ho =>
  replace hsub:=hsub (by rw [ho];rfl)
  replace hv:=hv (by rw [ho];rfl)
  simp only [ho,Op.operands] at hev hv hsub
  split at hs<;>try (cases hs;done)
  exact buildSliceV_congr hs (fun p hp=>hev p.2 (by simpa using ⟨p.1,by simpa using hp⟩)) (fun p hp=>hv p.2 (by simpa using ⟨p.1,by simpa using hp⟩)) hW
 case h_8 t x ho =>
  replace hsub:=hsub (by rw [ho];rfl)
  replace hv:=hv (by rw [ho];rfl)
  simp only [ho,Op.operands] at hev hv hsub
  rw [←hev x (by simp),←loadV_congr (hv x (by simp))];exact hs
 case h_9 t x y ho =>
  replace hsub:=hsub (by rw [ho];rfl)
  replace hv:=hv (by rw [ho];rfl)
  simp only [ho,Op.operands] at hev hv hsub
  rw [←hev x (by simp),←hev y (by simp),←storeV_congr (hv x (by simp)) (hv y (by simp))];exact hs
 case h_10 x ho =>
  simp only [ho,Op.operands] at hev
  rw [←hev x (by simp)];exact hs
 case h_11 op t x y t' ho =>
  simp only [ho,Op.operands] at hev
  have:binV P σ o op t x y=binV P σ' o op t x y:=by unfold binV;rw [hev x (by simp),hev y (by simp),hp]
  rw [←this];exact hs
 case h_12 s t x ho =>
  replace hsub:=hsub (by rw [ho];rfl)
  replace hv:=hv (by rw [ho];rfl)
  simp only [ho,Op.operands] at hev hv hsub
  have h1:convV P σ o s t x=convV P σ' o s t x:=by unfold convV;rw [hev x (by simp),hp]
  have key:strV P σ' s t (evalV σ x)=strV P σ s t (evalV σ x):=(strV_congr (hv x (by simp))).symm
  rw [←hev x (by simp),←h1]
  generalize evalV σ x=y at hs key ⊢
  cases y<;>first
   | exact hs
   | (simp only [] at hs ⊢;rw [key];exact hs)
 case h_13 t x lo hi mx ho =>
  replace hsub:=hsub (by rw [ho];rfl)
  replace hv:=hv (by rw [ho];rfl)
  simp only [ho,Op.operands] at hev hv hsub
  rw [←hev x (by simp),←hp]
  have key:sliceV P σ' t (evalV σ x) lo hi mx=sliceV P σ t (evalV σ x) lo hi mx:=(sliceV_congr (hv x (by simp)) (fun z hz=>hev z (by simp [hz])) (fun z hz=>hev z (by simp [hz])) (fun z hz=>hev z (by simp [hz]))).symm
  generalize evalV σ x=y at hs key ⊢
  cases y<;>first
   | exact hs
   | (simp only [] at hs ⊢;rw [key];exact hs)
 case h_14 s x f ho =>
  simp only [ho,Op.operands] at hev
  rw [←hev x (by simp)];exact hs
 case h_15 t x f ho =>
  simp only [ho,Op.operands] at hev
  have:fieldV P σ o t x f=fieldV P σ' o t x f:=by unfold fieldV;rw [hev x (by simp)]
  rw [←this];exact hs
 case h_16 t x i ho =>
  replace hsub:=hsub (by rw [ho];rfl)
  replace hv:=hv (by rw [ho];rfl)
  simp only [ho,Op.operands] at hev hv hsub
  rw [←hev x (by simp),←hev i (by simp),←indexAddrV_congr (hv x (by simp))];exact hs
 case h_17 t x i ho =>
  simp only [ho,Op.operands] at hev
  have:arrIdxV P σ o t x i=arrIdxV P σ' o t x i:=by unfold arrIdxV;rw [hev x (by simp),hev i (by simp),hp]
  rw [←this];exact hs
 case h_18 t i ho =>
  simp only [ho,Op.operands] at hev
  rw [←hev t (by simp)];exact hs
 case h_19 f first captured ho =>
  simp only [ho,Op.operands] at hev
  have:captured.toList.map (evalV σ)=captured.toList.map (evalV σ'):=List.map_congr_left fun p hp=>hev p (by simp;exact .inr (by simpa using hp))
  rw [←this];exact hs
 case h_20 t l c ho =>
  simp only [ho,Op.operands] at hev
  split at hs<;>try (cases hs;done)
  rw [←hev l (by simp),←hev c (by simp)]
  exact makeV_congr hs hW
 case h_21 c ho =>
  replace hsub:=hsub (by rw [ho];rfl)
  replace hv:=hv (by rw [ho];rfl)
  simp only [ho,Op.operands] at hev hv hsub
  obtain ⟨callee,args,ts⟩:=c
  cases callee with
  | invoke r m=>simp at hs
  | value f =>
    simp only [Call.operands] at hev hv hsub
    dsimp only at hs ⊢
    have hargs:args.toList.map (evalV σ)=args.toList.map (evalV σ'):=List.map_congr_left fun p hp=>hev p (by simp;exact .inr (by simpa using hp))
    have hf:f∈(#[f]:Array Operand)++args:=by simp
    have hF:=reach_closed 64 _ _ F (by simpa only [footOf,ho] using hreach) (by simp)
    rw [←calleeOf_congr (hev f hf),←hargs]
    have idsA:∀ cs g,calleeOf σ f=some (g,cs)→∀ id∈V.idsL (args.toList.map (evalV σ)++cs),id∈F:=by
     intro cs g hc
     have hl:∀ x∈args.toList,∀ id∈(evalV σ x).ids,id∈F:=fun x hx=>hsub x (by simp;exact .inr (by simpa using hx))
     generalize args.toList=l at hl
     induction l with
     | nil=>exact fun id hid=>hsub f hf id (calleeOf_ids hc id hid)
     | cons c r ih =>
       intro id hid
       rw [List.map_cons,List.cons_append,V.idsL] at hid
       rcases List.mem_append.1 hid with h | h
       ·exact hl c (by simp) id h
       ·exact ih (fun x hx=>hl x (by simp [hx])) id h
    cases hc:calleeOf σ f with
    | none=>rw [hc] at hs;cases hd:o.dst<;>rw [hd] at hs<;>cases hs
    | some q =>
      obtain ⟨g,cs⟩:=q
      rw [hc] at hs
      cases hd:o.dst with
      | some d=>rw [hd] at hs;exact callStep_congr hs hF (idsA _ _ hc) hA hW
      | none=>rw [hd] at hs;exact callStep_congr hs hF (idsA _ _ hc) hA hW
  | builtin b =>
    simp only [Call.operands] at hev hv hsub
    have hargs:args.toList.map (evalV σ)=args.toList.map (evalV σ'):=List.map_congr_left fun p hp=>hev p (by simpa using hp)
    have hl:∀ y∈args.toList,∀ id∈(evalV σ y).ids,getM σ.M id=getM σ'.M id:=fun y hy=>hv y (by simpa using hy)
    cases b<;>dsimp only at hs ⊢<;>try (cases hs;done)
    case append =>
     rw [←hargs]
     split at hs<;>try (cases hs;done)
     rename_i s x t t' d ha ht hd
     split at hs<;>try (cases hs;done)
     have hs1:∃ y∈args.toList,evalV σ y=s:=List.mem_map.1 (by rw [ha];simp)
     have hx1:∃ y∈args.toList,evalV σ y=x:=List.mem_map.1 (by rw [ha];simp)
     obtain ⟨y1,m1,rfl⟩:=hs1
     obtain ⟨y2,m2,rfl⟩:=hx1
     rename_i htt
     rw [if_pos htt]
     exact appendV_congr hs (hl y1 m1) (hl y2 m2) hW
    case copy =>
     rw [←hargs]
     split at hs<;>try (cases hs;done)
     rename_i s x t t' ha ht
     split at hs<;>try (cases hs;done)
     have hs1:∃ y∈args.toList,evalV σ y=s:=List.mem_map.1 (by rw [ha];simp)
     have hx1:∃ y∈args.toList,evalV σ y=x:=List.mem_map.1 (by rw [ha];simp)
     obtain ⟨y1,m1,rfl⟩:=hs1
     obtain ⟨y2,m2,rfl⟩:=hx1
     rename_i htt
     rw [if_pos htt,←copyV_congr (hl y1 m1) (hl y2 m2)]
     exact hs
    case clear =>
     rw [←hargs]
     split at hs<;>try (cases hs;done)
     rename_i s t ha ht
     have hs1:∃ y∈args.toList,evalV σ y=s:=List.mem_map.1 (by rw [ha];simp)
     obtain ⟨y1,m1,rfl⟩:=hs1
     rw [←clearV_congr (hl y1 m1)]
     exact hs
    case len =>
     split at hs<;>try (cases hs;done)
     rename_i x t ha ht
     have hx:x∈args.toList:=by rw [ha];simp
     rw [←hev x (by simpa using hx),←hp]
     have key:lenV σ' (evalV σ x)=lenV σ (evalV σ x):=(lenV_congr (hl x hx)).symm
     generalize evalV σ x=y at hs key ⊢
     generalize P.underlying t=pd at hs ⊢
     cases pd with
     | none=>cases y<;>exact hs
     | some d=>cases d<;>cases y<;>first
       | exact hs
       | (dsimp only at hs ⊢;rw [key];exact hs)
    case max=>rw [←hargs];exact hs
    case min=>rw [←hargs];exact hs
 case h_22=>rw [←hp];exact hs
end
section
variable {P:Program} {w0:World} {fp:Nat→Prop} {S0:Base} {σ σ':St} {a:Act} {w:World} {β:Nat→Value} {S:Nat→Prop} {o:Oper} {call:CallF} {h:Hints} {ops:Array Oper}
theorem Inv.drew (I:Inv w0 fp S0 σ a w β S) (n:Nat):Inv w0 fp S0 σ a { w with drawn:=n } β S:=by
 have hw:∀ b,S b→({ w with drawn:=n }:World).heap[b]?=w.heap[b]?:=fun _ _=>rfl
 refine { defers:=I.defers,size:=I.size,slots:=fun t=>(I.slots t).mono hw (fun _ h=>h) (fun _ _=>rfl),objs:=fun id o h=>(I.objs id o h).mono hw (fun _ h=>h) (fun _ _ _=>rfl) rfl (fun _ _=>rfl),own:=I.own,fro:=I.fro,inj:=I.inj,closedF:=I.closedF,closedM:=I.closedM,Slt:=I.Slt,S0S:=I.S0S,SIn:=I.SIn,ext:=I.ext,os:=I.os,tape:=I.tape,output:=I.output,grow:=I.grow,kept:=I.kept,laid:=fun g cs h=>⟨(I.laid g cs h).1,fun β'=>((I.laid g cs h).2 β').mono hw (fun _ h=>h) (fun _ _=>rfl)⟩ }
def Eqv (σ σ':St):Prop:=σ.n=σ'.n∧(∀ t,getF σ.F t=getF σ'.F t)∧∀ id,getM σ.M id=getM σ'.M id
theorem Inv.eqv (I:Inv w0 fp S0 σ a w β S) (e:Eqv σ σ'):Inv w0 fp S0 σ' a w β S:=by
 obtain ⟨e1,e2,e3⟩:=e
 refine { defers:=I.defers,size:=I.size.trans e1,slots:=fun t=>e2 t▸I.slots t,objs:=fun id o h=>I.objs id o ((e3 id).trans h),own:=fun id o g h=>I.own id o g ((e3 id).trans h),fro:=fun id m e rows g h=>I.fro id m e rows g ((e3 id).trans h),inj:=fun i j o o' g h1 h2=>I.inj i j o o' g ((e3 i).trans h1) ((e3 j).trans h2),closedF:=fun t id hid => ?_,closedM:=fun i o h id hid => ?_,Slt:=I.Slt,S0S:=I.S0S,SIn:=I.SIn,ext:=fun i hi => ?_,os:=I.os,tape:=I.tape,output:=I.output,grow:=I.grow,kept:=I.kept,laid:=I.laid }
 ·rw [←e3];exact I.closedF t id (by rw [e2];exact hid)
 ·rw [←e3];exact I.closedM i o ((e3 i).trans h) id hid
 ·rw [←e3];exact I.ext i hi
theorem guard_ok (I:Inv w0 fp S0 σ a w β S) {b:Bool} (hg:guardOn ops σ o=some b):Region.wanted o (yielded ops a.tmps)=b:=by
 unfold guardOn at hg
 unfold Region.wanted
 split at hg
 ·rename_i hq;cases hg;rw [hq]
 ·rename_i j want hq
  rw [hq]
  simp only []
  unfold yielded
  split at hg
  ·rename_i d hd
   rw [hd]
   have hs:=I.slots d
   simp only [Option.bind_some]
   have hget:∀ v,v≠undef→a.tmps.getD d undef=v→a.tmps[d]?=some v:=fun v hv h=>by
    rw [Array.getD_eq_getD_getElem?] at h
    cases hx:a.tmps[d]? with
    | none=>rw [hx] at h;exact absurd h.symm hv
    | some y=>rw [hx] at h;simp at h;rw [h]
   split at hg<;>try (cases hg;done)
   ·rename_i b' e
    rw [e] at hs
    have:=hget (.bool b') (by simp [undef]) (rep_p hs)
    rw [this]
    cases hg
    cases b'<;>cases want<;>rfl
   ·rename_i q hq2 e
    rw [e] at hs
    have hv:=rep_p hs
    cases hg
    cases hx:a.tmps[d]? with
    | none=>rfl
    | some y =>
      rw [Array.getD_eq_getD_getElem?,hx] at hv
      simp at hv
      subst hv
      cases y<;>first
       | rfl
       | (rename_i b';exact (hq2 b' rfl).elim)
   ·rename_i vs e
    rw [e] at hs
    cases hg
    cases hx:a.tmps[d]? with
    | none=>rfl
    | some y =>
      rw [Array.getD_eq_getD_getElem?,hx] at hs
      simp at hs
      cases hs with
      | d h=>cases h
      | tup=>rfl
  ·rename_i hd
   rw [hd]
   cases hg
   rfl
theorem stepG_ok (hcall:CallOk P call) (I:Inv w0 fp S0 σ a w β S) {v:V} {u:List (Nat×O)} (hs:stepG P call h ops σ o=some (v,u)) (hdk:dstOk σ.n o.dst=true) {ro:Option Nat} {n:Nat} {K:Act→World→Prop} {Q:Exit→Act→World→Prop} (hK:∀ a' w' β' S',Inv w0 fp S0 (σ.put o.dst v u) a' w' β' S'→K a' w') :
  if Region.wanted o (yielded ops a.tmps)=true then o.wpIn (FF ro) n P a w K Q else (∀ f,o.about P w a.eval=some f→(FF ro).fn f)∧K (a.put o.dst undef) w:=by
 unfold stepG at hs
 split at hs<;>try (cases hs;done)
 ·rename_i hg
  rw [guard_ok I hg,if_pos rfl]
  exact step_ok hcall I hs hdk ro n K Q hK
 ·rename_i hg
  rw [guard_ok I hg]
  cases hs
  exact ⟨fun _ _=>trivial,hK _ _ _ _ (I.upd (UpdOk.pure I undef_rep (by simp [V.ids,V.idsL])) hdk)⟩
theorem seq_ok (hcall:CallOk P call) {ro:Option Nat} {n:Nat} {Q:Exit→Act→World→Prop}:∀ (l:List Oper) (σ:St) (a:Act) (w:World) (β:Nat→Value) (S:Nat→Prop) (es:List (Option Eff)),execOps P call h ops l σ=some (σ',es)→Inv w0 fp S0 σ a w β S →
  (∀ a' w' β' S',Inv w0 fp S0 σ' a' w' β' S'→Q .normal a' w')→wpListIn (FF ro) n P ops Q l a w
 | [],σ,a,w,β,S,es,he,I,hQ=>by
   simp only [execOps] at he
   cases he
   exact hQ _ _ _ _ I
 | o::l,σ,a,w,β,S,es,he,I,hQ=>by
   simp only [execOps] at he
   split at he<;>try (cases he;done)
   rename_i v u hs
   split at he<;>try (cases he;done)
   rename_i hd
   split at he<;>try (cases he;done)
   rename_i σ1 es1 he1
   cases he
   show if _ then _ else _
   exact stepG_ok hcall I hs hd fun a' w' β' S' I'=>seq_ok hcall l _ a' w' β' S' es1 he1 I' hQ
structure Tr where
 o:Oper
 v:V
 u:List (Nat×O)
def run (σ:St) (T:List Tr):St:=T.foldl (fun σ x=>σ.put x.o.dst x.v x.u) σ
def app (L:Nat→Bool):Nat→List Tr→St→St
 | _,[],σ=>σ
 | i,x::r,σ=>app L (i+1) r (if L i then σ.put x.o.dst x.v x.u else σ)
def lastF (L:Nat→Bool):Nat→List Tr→Nat→Option V
 | _,[],_=>none
 | i,x::r,t=>match lastF L (i+1) r t with
   | some v=>some v
   | none=>if L i=true∧x.o.dst=some t then some x.v else none
def lastM (L:Nat→Bool):Nat→List Tr→Nat→Option O
 | _,[],_=>none
 | i,x::r,id=>match lastM L (i+1) r id with
   | some v=>some v
   | none=>if L i=true then getM x.u id else none
theorem getF_app {L:Nat→Bool}:∀ (T:List Tr) (i:Nat) (σ:St) (t:Nat),getF (app L i T σ).F t=match lastF L i T t with | some v=>v | none=>getF σ.F t
 | [],i,σ,t=>rfl
 | x::r,i,σ,t=>by
   simp only [app,lastF]
   rw [getF_app r (i+1) _ t]
   cases lastF L (i+1) r t with
   | some v=>rfl
   | none =>
     simp only []
     cases hL:L i with
     | false=>simp
     | true =>
       simp only [if_true,St.put,true_and]
       cases hd:x.o.dst with
       | none=>simp
       | some d =>
         simp only [getF]
         by_cases e:d=t
         ·simp [e]
         ·simp [e]
theorem getM_app {L:Nat→Bool}:∀ (T:List Tr) (i:Nat) (σ:St) (id:Nat),getM (app L i T σ).M id=match lastM L i T id with | some v=>some v | none=>getM σ.M id
 | [],i,σ,id=>rfl
 | x::r,i,σ,id=>by
   simp only [app,lastM]
   rw [getM_app r (i+1) _ id]
   cases lastM L (i+1) r id with
   | some v=>rfl
   | none =>
     simp only []
     cases hL:L i with
     | false=>simp
     | true =>
       simp only [if_true,St.put,getM_append]
       cases getM x.u id<;>rfl
theorem app_n {L:Nat→Bool}:∀ (T:List Tr) (i:Nat) (σ:St),(app L i T σ).n=σ.n
 | [],i,σ=>rfl
 | x::r,i,σ=>by
   simp only [app]
   rw [app_n r]
   split<;>rfl
theorem lastF_congr {L L':Nat→Bool} {t:Nat}:∀ (T:List Tr) (i:Nat),(∀ (j:Nat) x,T[j]?=some x→x.o.dst=some t→L (i+j)=L' (i+j))→lastF L i T t=lastF L' i T t
 | [],i,_=>rfl
 | x::r,i,hh=>by
   simp only [lastF]
   have e:=lastF_congr (L:=L) (L':=L') r (i+1) fun j y hy hd=>by
    have:=hh (j+1) y (by simpa using hy) hd
    rwa [show i+(j+1)=i+1+j from by omega] at this
   rw [e]
   cases lastF L' (i+1) r t with
   | some v=>rfl
   | none =>
     simp only []
     by_cases hd:x.o.dst=some t
     ·have:=hh 0 x (by simp) hd
      simp only [Nat.add_zero] at this
      rw [this]
     ·simp [hd]
theorem lastM_congr {L L':Nat→Bool} {id:Nat}:∀ (T:List Tr) (i:Nat),(∀ (j:Nat) x,T[j]?=some x→(getM x.u id).isSome=true→L (i+j)=L' (i+j))→lastM L i T id=lastM L' i T id
 | [],i,_=>rfl
 | x::r,i,hh=>by
   simp only [lastM]
   have e:=lastM_congr (L:=L) (L':=L') r (i+1) fun j y hy hd=>by
    have:=hh (j+1) y (by simpa using hy) hd
    rwa [show i+(j+1)=i+1+j from by omega] at this
   rw [e]
   cases lastM L' (i+1) r id with
   | some v=>rfl
   | none =>
     simp only []
     cases hd:getM x.u id with
     | none=>simp
     | some q =>
       have:=hh 0 x (by simp) (by rw [hd];rfl)
       simp only [Nat.add_zero] at this
       rw [this]
theorem lastF_none {L:Nat→Bool} {t:Nat}:∀ (T:List Tr) (i:Nat),(∀ (j:Nat) x,T[j]?=some x→x.o.dst=some t→L (i+j)=false)→lastF L i T t=none
 | [],i,_=>rfl
 | x::r,i,hh=>by
   simp only [lastF]
   rw [lastF_none r (i+1) fun j y hy hd=>by have:=hh (j+1) y (by simpa using hy) hd;rwa [show i+(j+1)=i+1+j from by omega] at this]
   simp only []
   by_cases hd:x.o.dst=some t
   ·have:=hh 0 x (by simp) hd
    simp only [Nat.add_zero] at this
    simp [this]
   ·simp [hd]
theorem lastM_none {L:Nat→Bool} {id:Nat}:∀ (T:List Tr) (i:Nat),(∀ (j:Nat) x,T[j]?=some x→(getM x.u id).isSome=true→L (i+j)=false)→lastM L i T id=none
 | [],i,_=>rfl
 | x::r,i,hh=>by
   simp only [lastM]
   rw [lastM_none r (i+1) fun j y hy hd=>by have:=hh (j+1) y (by simpa using hy) hd;rwa [show i+(j+1)=i+1+j from by omega] at this]
   simp only []
   cases hd:getM x.u id with
   | none=>simp
   | some q =>
     have:=hh 0 x (by simp) (by rw [hd];rfl)
     simp only [Nat.add_zero] at this
     simp [this]
theorem lastF_at {L:Nat→Bool} {t:Nat}:∀ (T:List Tr) (i k:Nat) (x:Tr),T[k]?=some x→L (i+k)=true→x.o.dst=some t→(∀ (j:Nat) y,k<j→T[j]?=some y→y.o.dst=some t→L (i+j)=false)→lastF L i T t=some x.v
 | [],i,k,x,h,_,_,_=>by simp at h
 | y::r,i,0,x,h,hL,hd,hl=>by
   simp at h;subst h
   simp only [lastF]
   rw [lastF_none r (i+1) fun j z hz hdz=>by have:=hl (j+1) z (by omega) (by simpa using hz) hdz;rwa [show i+(j+1)=i+1+j from by omega] at this]
   simp only [Nat.add_zero] at hL
   simp [hL,hd]
 | y::r,i,k+1,x,h,hL,hd,hl=>by
   simp only [lastF]
   rw [lastF_at r (i+1) k x (by simpa using h) (by rwa [show i+1+k=i+(k+1) from by omega]) hd fun j z hj hz hdz=>by have:=hl (j+1) z (by omega) (by simpa using hz) hdz;rwa [show i+(j+1)=i+1+j from by omega] at this]
theorem lastM_at {L:Nat→Bool} {id:Nat} {q:O}:∀ (T:List Tr) (i k:Nat) (x:Tr),T[k]?=some x→L (i+k)=true→getM x.u id=some q→(∀ (j:Nat) y,k<j→T[j]?=some y→(getM y.u id).isSome=true→L (i+j)=false)→lastM L i T id=some q
 | [],i,k,x,h,_,_,_=>by simp at h
 | y::r,i,0,x,h,hL,hd,hl=>by
   simp at h;subst h
   simp only [lastM]
   rw [lastM_none r (i+1) fun j z hz hdz=>by have:=hl (j+1) z (by omega) (by simpa using hz) hdz;rwa [show i+(j+1)=i+1+j from by omega] at this]
   simp only [Nat.add_zero] at hL
   simp [hL,hd]
 | y::r,i,k+1,x,h,hL,hd,hl=>by
   simp only [lastM]
   rw [lastM_at r (i+1) k x (by simpa using h) (by rwa [show i+1+k=i+(k+1) from by omega]) hd fun j z hj hz hdz=>by have:=hl (j+1) z (by omega) (by simpa using hz) hdz;rwa [show i+(j+1)=i+1+j from by omega] at this]
theorem run_eq_app:∀ (T:List Tr) (n i:Nat) (σ:St),run σ (T.take n)=app (fun j=>decide (j<i+n)) i T σ
 | [],n,i,σ=>by simp [run,app]
 | x::r,0,i,σ=>by
   simp only [List.take_zero,run,List.foldl_nil,app]
   have:∀ (T:List Tr) (k:Nat) (σ:St),i≤k→app (fun j=>decide (j<i+0)) k T σ=σ:=by
    intro T
    induction T with
    | nil=>intro k σ _;rfl
    | cons y r ih =>
      intro k σ hk
      simp only [app]
      rw [if_neg (by simp;omega)]
      exact ih (k+1) σ (by omega)
   rw [if_neg (by simp)]
   exact (this r (i+1) σ (by omega)).symm
 | x::r,n+1,i,σ=>by
   simp only [List.take_succ_cons,run,List.foldl_cons,app]
   rw [if_pos (by simp)]
   have:=run_eq_app r n (i+1) (σ.put x.o.dst x.v x.u)
   simp only [run] at this
   rw [this]
   congr 1
   funext j
   rw [show i+1+n=i+(n+1) from by omega]
theorem exec_trace:∀ (l:List Oper) (σ:St) (es:List (Option Eff)),execOps P call h ops l σ=some (σ',es)→∃ T:List Tr,T.map Tr.o=l∧es.length=l.length∧σ'=run σ T ∧
  ∀ (i:Nat) x,T[i]?=some x→stepG P call h ops (run σ (T.take i)) x.o=some (x.v,x.u)∧dstOk σ.n x.o.dst=true∧es[i]?=some (effOf (run σ (T.take i)) x.o x.u)
 | [],σ,es,he=>by
   simp only [execOps] at he
   cases he
   exact ⟨[],rfl,rfl,rfl,by simp⟩
 | o::l,σ,es,he=>by
   simp only [execOps] at he
   split at he<;>try (cases he;done)
   rename_i v u hs
   split at he<;>try (cases he;done)
   rename_i hd
   split at he<;>try (cases he;done)
   rename_i σ1 es1 he1
   cases he
   obtain ⟨T,h1,h2,h3,h4⟩:=exec_trace l _ es1 he1
   refine ⟨⟨o,v,u⟩::T,by simp [h1],by simp [h2],by rw [h3];rfl,fun i x hx => ?_⟩
   cases i with
   | zero =>
     simp at hx
     subst hx
     exact ⟨hs,hd,rfl⟩
   | succ i =>
     obtain ⟨h5,h6,h7⟩:=h4 i x (by simpa using hx)
     exact ⟨h5,h6,by simpa [run] using h7⟩
theorem evalV_congr {x:Operand} (hx:∀ t,x=.tmp t→getF σ.F t=getF σ'.F t):evalV σ x=evalV σ' x:=by
 cases x with
 | tmp t=>exact hx t rfl
 | _=>rfl
theorem stepG_congr {v:V} {u:List (Nat×O)} {F:List Nat} (hs:stepG P call h ops σ o=some (v,u)) (hsl:∀ t∈o.looksAt ops,getF σ.F t=getF σ'.F t) (hreach:footOf σ o=some F)
  (hA:∀ id∈F,getM σ.M id=getM σ'.M id) (hW:∀ id∈u.map (·.1),getM σ.M id=getM σ'.M id):stepG P call h ops σ' o=some (v,u):=by
 have hev:∀ x∈o.op.operands,evalV σ x=evalV σ' x:=fun x hx=>evalV_congr fun t e=>hsl t (List.mem_append_left _ (List.mem_filterMap.2 ⟨x,by simpa using hx,by rw [e]⟩))
 have hg:guardOn ops σ o=guardOn ops σ' o:=by
  unfold guardOn
  cases hgd:o.guard with
  | none=>rfl
  | some q =>
    obtain ⟨j,b⟩:=q
    simp only []
    cases hd:(ops[j]?).bind (·.dst) with
    | none=>rfl
    | some d =>
      simp only []
      rw [hsl d (List.mem_append_right _ (by simp [hgd,hd]))]
 unfold stepG at hs ⊢
 rw [←hg]
 split at hs<;>try (cases hs;done)
 ·exact step_congr hs hev hreach hA hW
 ·exact hs
end
end Go.Proofs.YtlelaenalbkbmaaDoorV