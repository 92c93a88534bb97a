/- The value interpreter: code. -/
import Derived.Test.YtlelaenalbkbmaaDoorHVi20
namespace Go.Proofs.YtlelaenalbkbmaaDoorV
open Go
set_option linter.unusedVariables false
set_option linter.unusedSimpArgs false
section
variable {P:Program} {w0:World} {fp:Nat→Prop} {S0:Base} {σ σ':St} {a:Act} {w:World} {β:Nat→Value} {S:Nat→Prop} {o:Oper} {call:CallF} {h:Hints} {ops:Array Oper}
def XPost (w0:World) (fp:Nat→Prop) (S0:Base) (out:Out) (σ':St):Exit→Act→World→Prop
 | .normal,a,w=>out=.norm∧∃ β S,Inv w0 fp S0 σ' a w β S
 | .exit i,a,w=>out=.exit i∧∃ β S,Inv w0 fp S0 σ' a w β S
 | .goto l,a,w=>out=.goto l∧∃ β S,Inv w0 fp S0 σ' a w β S
 | .ret,a,w=>out=.ret∧∃ β S,Inv w0 fp S0 σ' a w β S
 | _,_,_=>False
theorem XPost.canon {out:Out} {e:Exit} {ks:List Nat} (hx:XPost w0 fp S0 out σ e a w) (hk:keepCanon ks σ=some σ'):XPost w0 fp S0 out σ' e a w:=by
 have inv:(∃ β S,Inv w0 fp S0 σ a w β S)→∃ β S,Inv w0 fp S0 σ' a w β S:=fun ⟨β,S,I⟩=>let ⟨β',I'⟩:=keepCanon_ok I hk;⟨β',S,I'⟩
 cases e with
 | normal=>exact ⟨hx.1,inv hx.2⟩
 | exit i=>exact ⟨hx.1,inv hx.2⟩
 | goto i=>exact ⟨hx.1,inv hx.2⟩
 | ret=>exact ⟨hx.1,inv hx.2⟩
 | panic c=>exact hx.elim
 | outgrown=>exact hx.elim
theorem joinR_ok {r1 r2:Option (Out×St)} {out:Out} (hj:joinR r1 r2=some (out,σ')) :
  ∃ σ1 σ2,r1=some (out,σ1)∧r2=some (out,σ2)∧keepCanon (σ1.F.map (·.1)) σ1=some σ'∧keepCanon (σ2.F.map (·.1)) σ2=some σ':=by
 unfold joinR at hj
 split at hj<;>try (cases hj;done)
 rename_i o1 σ1 o2 σ2
 split at hj<;>try (cases hj;done)
 rename_i τ1 τ2 h1 h2
 split at hj<;>try (cases hj;done)
 rename_i he
 cases he
 cases hj
 exact ⟨σ1,σ2,rfl,rfl,h1,h2⟩
theorem bindsOn_mem {e:Array Edge} {l:List Nat} (h:bindsOn e=l) (i:Nat):i∈l↔∃ x∈e,Region.binds .any x=true∧x.on=i:=by
 subst h
 unfold bindsOn
 rw [List.mem_map]
 constructor
 ·rintro ⟨x,hx,rfl⟩
  obtain ⟨h1,h2⟩:=List.mem_filter.1 hx
  exact ⟨x,by simpa using h1,h2,rfl⟩
 ·rintro ⟨x,h1,h2,rfl⟩
  exact ⟨x,List.mem_filter.2 ⟨by simpa using h1,h2⟩,rfl⟩
theorem coin_ok (h:Hints) (hcall:CallOk P call) (hm:P.follows .mixedOrders=true) {cc dd:Nat} (hD:coinD P ops.toList=some (cc,dd)) (hc:coinS σ cc dd=some σ') (I:Inv w0 fp S0 σ a w β S) {ro:Option Nat} {n:Nat} {id:Nat} {Q:Exit→Act→World→Prop}
  (hQ:∀ a' w' β' S',Inv w0 fp S0 σ' a' w' β' S'→Q .normal a' w'):(Code.region id ops true).wpIn (FF ro) n P Q a w:=by
 unfold coinS at hc
 split at hc<;>try (cases hc;done)
 rename_i hcd2
 obtain ⟨hcn,hdn,hM⟩:=hcd2
 cases hc
 unfold coinD at hD
 split at hD<;>try (cases hD;done)
 rename_i c t r0 p0 e0 t1 c1 r1 p1 e1 t2 c2 r2 p2 e2 d t3 c3 r3 p3 e3 hops
 split at hD<;>try (cases hD;done)
 rename_i i hi hu
 split at hD<;>try (cases hD;done)
 rename_i z hz
 split at hD<;>try (cases hD;done)
 rename_i hcond
 obtain ⟨rfl,rfl,rfl,rfl,rfl,rfl,hcd,hsz,b0,b1,b2,b3⟩:=hcond
 cases hD
 have hM:getM σ.M cc=none:=by simpa using hM
 have hops':ops = #[⟨some cc,.alloc t3,r0,p0,e0,none⟩,⟨none,.store t3 (.tmp cc) (.const (.bool true)),r1,p1,e1,none⟩,⟨none,.store t3 (.tmp cc) (.const (.bool false)),r2,p2,e2,none⟩,⟨some dd,.load t3 (.tmp cc),r3,p3,e3,none⟩]:=by
  apply Array.ext'
  rw [hops]
 have s0:stepG P call h ops σ ⟨some cc,.alloc t3,r0,p0,e0,none⟩=some (.ptr cc 0,[(cc,.box t3 [z])]):=by
  simp [stepG,guardOn,step,allocV,hi,hz,hM]
 have sS:∀ (τ:St) (y:V) (b:Bool) (r:TypeId) (p:String) (e:Array Edge),getF τ.F cc=.ptr cc 0→getM τ.M cc=some (.box t3 [y]) →
   stepG P call h ops τ ⟨none,.store t3 (.tmp cc) (.const (.bool b)),r,p,e,none⟩=some (.tup [],[(cc,.box t3 [.p (.bool b)])]):=by
  intro τ y b r p e h1 h2
  simp [stepG,guardOn,step,storeV,hi,evalV,ofVal,ofVal1,ofCell,cellsOf,Value.oneCell',h1,h2,hsz,overlay]
 have sL:∀ (τ:St) (y:V),getF τ.F cc=.ptr cc 0→getM τ.M cc=some (.box t3 [y])→stepG P call h ops τ ⟨some dd,.load t3 (.tmp cc),r3,p3,e3,none⟩=some (y,[]):=by
  intro τ y h1 h2
  simp [stepG,guardOn,step,loadV,hi,hu,evalV,cellsAt,isAggD,h1,h2]
 have fin:∀ (b b':Bool) (a':Act) (w':World) (β':Nat→Value) (S':Nat→Prop),Inv w0 fp S0 ((((σ.put (some cc) (.ptr cc 0) [(cc,.box t3 [z])]).put none (.tup []) [(cc,.box t3 [.p (.bool b')])]).put none (.tup []) [(cc,.box t3 [.p (.bool b)])]).put (some dd) (.p (.bool b)) []) a' w' β' S'→Q .normal a' w':=by
  intro b b' a' w' β' S' I'
  have hv:=I'.slots dd
  have hv2:a'.tmps.getD dd undef=.bool b:=rep_p (by simpa [St.put,getF] using hv)
  have I2:=I'.upd (UpdOk.pure I' (.coin b) (by simp [V.ids])) (dst:=some dd) (decide_eq_true hdn)
  rw [put_same hv2] at I2
  have I3:=I2.kill (d:=cc) (by simp [St.put,getM])
  refine hQ a' w' β' S' (I3.eqv ⟨rfl,fun q => ?_,fun q => ?_⟩)
  ·simp only [St.put,getF]
   by_cases h1:dd=q
   ·simp [h1]
   ·simp [h1]
  ·simp only [St.put,getM,List.cons_append,List.nil_append]
   by_cases h1:cc=q
   ·simp [h1]
   ·simp [h1]
 have getr:∀ {listed:Array Bool} {j:Nat},j∈Region.ready .any ops listed→listed.getD j true=false∧∃ o,ops[j]?=some o∧∀ k∈bindsOn o.after,listed.getD k false=true:=by
  intro listed j hj
  obtain ⟨h1,o,h2,h3⟩:=mem_ready.1 hj
  refine ⟨h1,o,h2,fun k hk => ?_⟩
  obtain ⟨x,hx,hb,rfl⟩:=(bindsOn_mem rfl k).1 hk
  exact h3 x hx hb
 have isr:∀ {listed:Array Bool} {j:Nat} {o:Oper},listed.getD j true=false→ops[j]?=some o→(∀ k∈bindsOn o.after,listed.getD k false=true)→j∈Region.ready .any ops listed:=by
  intro listed j o h1 h2 h3
  exact mem_ready.2 ⟨h1,o,h2,fun e he hb=>h3 e.on ((bindsOn_mem rfl e.on).2 ⟨e,he,hb,rfl⟩)⟩
 have o0:ops[0]?=some ⟨some cc,.alloc t3,r0,p0,e0,none⟩:=by rw [hops'];rfl
 have o1:ops[1]?=some ⟨none,.store t3 (.tmp cc) (.const (.bool true)),r1,p1,e1,none⟩:=by rw [hops'];rfl
 have o2:ops[2]?=some ⟨none,.store t3 (.tmp cc) (.const (.bool false)),r2,p2,e2,none⟩:=by rw [hops'];rfl
 have o3:ops[3]?=some ⟨some dd,.load t3 (.tmp cc),r3,p3,e3,none⟩:=by rw [hops'];rfl
 have o4:∀ j,4≤j→ops[j]?=none:=fun j hj=>by rw [hops'];exact Array.getElem?_eq_none (by simpa using hj)
 have last:∀ (b b':Bool) (a':Act) (w':World) (β':Nat→Value) (S':Nat→Prop),Inv w0 fp S0 (((σ.put (some cc) (.ptr cc 0) [(cc,.box t3 [z])]).put none (.tup []) [(cc,.box t3 [.p (.bool b')])]).put none (.tup []) [(cc,.box t3 [.p (.bool b)])]) a' w' β' S'→wpAnyIn (FF ro) n P .any ops Q 1 #[true,true,true,false] a' w':=by
  intro b b' a' w' β' S' I'
  refine ⟨fun h0 => ?_,fun j hj => ?_⟩
  ·have:3∈Region.ready .any ops #[true,true,true,false]:=isr rfl o3 (fun k hk=>by rw [b3] at hk;simp at hk;rcases hk with rfl | rfl | rfl<;>rfl)
   rw [h0] at this;cases this
  ·obtain ⟨h1,o,h2,h3⟩:=getr hj
   have hj3:j=3:=by
    by_cases h4:4≤j
    ·rw [o4 j h4] at h2;cases h2
    ·rcases (by omega:j=0∨j=1∨j=2∨j=3) with rfl | rfl | rfl | rfl<;>first | rfl | (cases h1)
   subst hj3
   unfold wpOpIn
   rw [o3]
   refine stepG_ok hcall I' (sL _ (.p (.bool b)) (by simp [St.put,getF]) (by simp [St.put,getM])) (decide_eq_true hdn) fun a2 w2 β2 S2 I2 => ?_
   refine ⟨?_,fin b b' a2 w2 β2 S2 I2⟩
   refine List.eq_nil_iff_forall_not_mem.2 fun j hj => ?_
   obtain ⟨h1,o,h2,h3⟩:=getr hj
   by_cases h4:4≤j
   ·rw [o4 j h4] at h2;cases h2
   ·rcases (by omega:j=0∨j=1∨j=2∨j=3) with rfl | rfl | rfl | rfl<;>cases h1
 have mid:∀ (k k':Nat) (b b':Bool) (r r':TypeId) (p p':String) (e e':Array Edge),(k=1∧k'=2∨k=2∧k'=1)→ops[k']?=some ⟨none,.store t3 (.tmp cc) (.const (.bool b)),r,p,e,none⟩→bindsOn e=[0]→∀ (a':Act) (w':World) (β':Nat→Value) (S':Nat→Prop),Inv w0 fp S0 ((σ.put (some cc) (.ptr cc 0) [(cc,.box t3 [z])]).put none (.tup []) [(cc,.box t3 [.p (.bool b')])]) a' w' β' S'→wpAnyIn (FF ro) n P .any ops Q 2 (#[true,false,false,false].setIfInBounds k true) a' w':=by
  intro k k' b b' r r' p p' e e' hk ok hb a' w' β' S' I'
  refine ⟨fun h0 => ?_,fun j hj => ?_⟩
  ·have:k'∈Region.ready .any ops (#[true,false,false,false].setIfInBounds k true):=isr (by rcases hk with ⟨rfl,rfl⟩ | ⟨rfl,rfl⟩<;>rfl) ok (fun q hq=>by rw [hb] at hq;simp at hq;subst hq;rcases hk with ⟨rfl,rfl⟩ | ⟨rfl,rfl⟩<;>rfl)
   rw [h0] at this;cases this
  ·obtain ⟨h1,o,h2,h3⟩:=getr hj
   have hjk:j=k':=by
    by_cases h4:4≤j
    ·rw [o4 j h4] at h2;cases h2
    ·rcases (by omega:j=0∨j=1∨j=2∨j=3) with rfl | rfl | rfl | rfl
     ·rcases hk with ⟨rfl,rfl⟩ | ⟨rfl,rfl⟩<;>cases h1
     ·rcases hk with ⟨rfl,rfl⟩ | ⟨rfl,rfl⟩<;>first | rfl | (cases h1)
     ·rcases hk with ⟨rfl,rfl⟩ | ⟨rfl,rfl⟩<;>first | rfl | (cases h1)
     ·rw [o3] at h2;cases h2
      have g1:=h3 1 (by rw [b3];simp)
      have g2:=h3 2 (by rw [b3];simp)
      rcases hk with ⟨rfl,rfl⟩ | ⟨rfl,rfl⟩
      ·cases g2
      ·cases g1
   subst hjk
   unfold wpOpIn
   rw [ok]
   refine stepG_ok hcall I' (sS _ (.p (.bool b')) b _ _ _ (by simp [St.put,getF]) (by simp [St.put,getM])) rfl fun a2 w2 β2 S2 I2 => ?_
   have e1:(#[true,false,false,false].setIfInBounds k true).setIfInBounds j true = #[true,true,true,false]:=by rcases hk with ⟨rfl,rfl⟩ | ⟨rfl,rfl⟩<;>rfl
   rw [e1]
   exact last b b' a2 w2 β2 S2 I2
 refine wpIn_region_any hm ?_
 have hsize:ops.size=4:=by rw [hops'];rfl
 rw [hsize]
 refine ⟨fun h0 => ?_,fun j hj => ?_⟩
 ·have:0∈Region.ready .any ops (Array.replicate 4 false):=isr rfl o0 (fun k hk=>by rw [b0] at hk;cases hk)
  rw [h0] at this;cases this
 ·obtain ⟨h1,o,h2,h3⟩:=getr hj
  have hj0:j=0:=by
   by_cases h4:4≤j
   ·rw [o4 j h4] at h2;cases h2
   ·rcases (by omega:j=0∨j=1∨j=2∨j=3) with rfl | rfl | rfl | rfl
    ·rfl
    ·rw [o1] at h2;cases h2;cases h3 0 (by rw [b1];simp)
    ·rw [o2] at h2;cases h2;cases h3 0 (by rw [b2];simp)
    ·rw [o3] at h2;cases h2;cases h3 0 (by rw [b3];simp)
  subst hj0
  unfold wpOpIn
  rw [o0]
  refine stepG_ok hcall (I.drew (w.drawn+1)) s0 (decide_eq_true hcn) fun a1 w1 β1 S1 I1 => ?_
  refine ⟨fun h0 => ?_,fun j hj => ?_⟩
  ·have:1∈Region.ready .any ops ((Array.replicate 4 false).setIfInBounds 0 true):=isr rfl o1 (fun k hk=>by rw [b1] at hk;simp at hk;subst hk;rfl)
   rw [h0] at this;cases this
  ·obtain ⟨h1,o,h2,h3⟩:=getr hj
   by_cases h4:4≤j
   ·rw [o4 j h4] at h2;cases h2
   ·rcases (by omega:j=0∨j=1∨j=2∨j=3) with rfl | rfl | rfl | rfl
    ·cases h1
    ·unfold wpOpIn
     rw [o1]
     refine stepG_ok hcall I1 (sS _ z true _ _ _ (by simp [St.put,getF]) (by simp [St.put,getM])) rfl fun a2 w2 β2 S2 I2=>mid 1 2 false true r2 r1 p2 p1 e2 e1 (.inl ⟨rfl,rfl⟩) o2 b2 a2 w2 β2 S2 I2
    ·unfold wpOpIn
     rw [o2]
     refine stepG_ok hcall I1 (sS _ z false _ _ _ (by simp [St.put,getF]) (by simp [St.put,getM])) rfl fun a2 w2 β2 S2 I2=>mid 2 1 true false r1 r2 p1 p2 e1 e2 (.inr ⟨rfl,rfl⟩) o1 b1 a2 w2 β2 S2 I2
    ·rw [o3] at h2;cases h2;cases h3 1 (by rw [b3];simp)
theorem region_ok (hcall:CallOk P call) (hm:P.follows .mixedOrders=true) {ro:Option Nat} {n:Nat} {fn fuel id:Nat} {draw:Bool} {out:Out} (he:exec P call h fn fuel none (.region id ops draw) σ=some (out,σ')) (I:Inv w0 fp S0 σ a w β S):(Code.region id ops draw).wpIn (FF ro) n P (XPost w0 fp S0 out σ') a w:=by
 simp only [exec] at he
 have hend:∀ (σ1:St),(endR (h.frz fn id) (h.soft fn id) (h.keep fn id) σ1).map ((Out.norm,·))=some (out,σ')→out=.norm∧∀ a' w' β' S',Inv w0 fp S0 σ1 a' w' β' S'→XPost w0 fp S0 .norm σ' .normal a' w':=fun σ1 he=>by
  rw [Option.map_eq_some_iff] at he
  obtain ⟨σ2,h2,h3⟩:=he
  cases h3
  refine ⟨rfl,fun a' w' β' S' I' => ?_⟩
  obtain ⟨β2,S2,I2⟩:=endR_ok I' h2
  exact ⟨rfl,β2,S2,I2⟩
 split at he
 ·rename_i c d hcf
  split at he<;>try (cases he;done)
  rename_i σ2 h2
  obtain ⟨rfl,hQ⟩:=hend σ2 he
  cases draw with
  | false=>cases hcf
  | true=>exact coin_ok h hcall hm hcf h2 I hQ
 split at he<;>try (cases he;done)
 rename_i σ1 es h1
 split at he<;>try (cases he;done)
 rename_i hd
 obtain ⟨rfl,hQ⟩:=hend σ1 he
 rcases hd with hd | ⟨hs,hf⟩
 ·subst hd
  exact wpIn_region_list (seq_ok hcall _ _ _ _ _ _ _ h1 I hQ)
 ·cases draw with
  | true=>exact draw_ok hcall hm h1 hs hf I hQ
  | false=>exact wpIn_region_list (seq_ok hcall _ _ _ _ _ _ _ h1 I hQ)
theorem exec_label {fn fuel:Nat} {l:Nat}:∀ (c:Code) (σ:St) (r:Out×St),exec P call h fn fuel (some l) c σ=some r→∃ rest,findLabel c l=some rest
 | .seq x y,σ,r,he=>by
   simp only [exec] at he
   simp only [findLabel]
   split at he
   ·rename_i hs
    obtain ⟨q,hq⟩:=Option.isSome_iff_exists.1 hs
    rw [hq]
    exact ⟨_,rfl⟩
   ·rename_i hs
    have hn:findLabel x l=none:=by
     cases hq:findLabel x l with
     | none=>rfl
     | some q=>rw [hq] at hs;exact absurd rfl hs
    rw [hn]
    exact exec_label y σ r he
 | .label l',σ,r,he=>by
   simp only [exec] at he
   split at he<;>try (cases he;done)
   rename_i e
   exact ⟨.skip,by simp [findLabel,e]⟩
 | .skip,σ,r,he=>by simp only [exec] at he;cases he
 | .region ..,σ,r,he=>by simp only [exec] at he;cases he
 | .cond ..,σ,r,he=>by simp only [exec] at he;cases he
 | .block ..,σ,r,he=>by simp only [exec] at he;cases he
 | .loop ..,σ,r,he=>by simp only [exec] at he;cases he
 | .rangeFunc ..,σ,r,he=>by simp only [exec] at he;cases he
 | .exit ..,σ,r,he=>by simp only [exec] at he;cases he
 | .scope ..,σ,r,he=>by simp only [exec] at he;cases he
 | .goto ..,σ,r,he=>by simp only [exec] at he;cases he
 | .ret,σ,r,he=>by simp only [exec] at he;cases he
 | .refuse ..,σ,r,he=>by simp only [exec] at he;cases he
theorem stepR_scope {b:Frame} {k:List Item} {cs:List Frame} {c:Code}:Go.step P (lone (b.atR a (.code (.scope c)::k)) cs w)=.next (lone (b.atR a (.code c::.inScope c::k)) cs w) :=
 step_lone_go (by simp [Go.stepG,Go.stepG.exec,Frame.atR])
theorem stepR_inScope {b:Frame} {k:List Item} {cs:List Frame} {c:Code}:Go.step P (lone (b.atR a (.inScope c::k)) cs w)=.next (lone (b.atR a k) cs w) :=
 step_lone_go (by simp [Go.stepG,Go.stepG.exec,Frame.atR])
theorem lp_get {σ:St} {d:Nat} {u:List (Nat×O)} {o:O} (h:getM u d=some o):getM (u++σ.M) d=some o:=by rw [getM_append,h]
theorem range_ok (hcall:CallOk P call) {n fn:Nat} {g:Operand} {ps:Array Tmp} {x y:Code} {out:Out} (he:rangeS call h fn σ g ps.toList x y=some (out,σ')) (I:Inv w0 fp S0 σ a w β S) :
  (Code.rangeFunc g ps x y).wpIn (FF none) n P (XPost w0 fp S0 out σ') a w:=by
 unfold rangeS at he
 split at he<;>try (cases he;done)
 rename_i f cs hcal
 split at he<;>try (cases he;done)
 rename_i ks hks
 split at he<;>try (cases he;done)
 rename_i hc
 obtain ⟨hfY,hnone⟩:=hc
 have hnone:getM σ.M (400000+firstReg y)=none:=by simpa using hnone
 split at he<;>try (cases he;done)
 rename_i v0 u hstep
 split at he<;>try (cases he;done)
 rename_i fn1 n1 F1 ps1 a1 b1 st out1 hget
 split at he<;>try (cases he;done)
 rename_i hst
 rw [Option.map_eq_some_iff] at he
 obtain ⟨σ9,hnorm,he⟩:=he
 cases he
 generalize hd:400000+firstReg y=d at *
 obtain ⟨arr,hx,hs,hr,hcl⟩:=callee_run I hcal
 unfold CalleeIs at hx
 rw [if_pos hfY] at hx
 refine wpIn_rangeFunc fun fn0 _ => ?_
 have I0:=I.mark
 have hcl0:∀ id∈V.idsL ((ks.map fun t=>(t,getF σ.F t)).map (·.2)),(getM σ.M id).isSome=true:=fun id hid=>by
  have:∀ l:List Nat,id∈V.idsL ((l.map fun t=>(t,getF σ.F t)).map (·.2))→(getM σ.M id).isSome=true:=by
   intro l
   induction l with
   | nil=>intro h;simp [V.idsL] at h
   | cons t r ih =>
     intro h
     rw [List.map_cons,List.map_cons,V.idsL] at h
     rcases List.mem_append.1 h with h | h
     ·exact I.closedF t id h
     ·exact ih h
  exact this ks hid
 obtain ⟨rec,hrec⟩:∃ rec:Loop,rec={ state:=.ready,pending:=none,fn:=fn0,tmps:=a.tmps,params:=ps,assign:=x,body:=y,defers:=w.heap.size }:=⟨_,rfl⟩
 have I1:=inv_newLp I0 (fn:=fn) (F:=ks.map fun t=>(t,getF σ.F t)) (ps:=ps.toList) (asg:=x) (body:=y) (r:=rec) (d:=d) hnone (by rw [hrec]) (by rw [hrec]) (by rw [hrec]) (by rw [hrec]) (by rw [hrec]) (by rw [hrec]) (fun t=>by rw [getF_keep];split<;>simp) hcl0
 have hsz:(w.alloc (.deferred (some []))).heap.size=w.heap.size+1:=by simp
 rw [hsz] at I1
 obtain ⟨W1,hW1⟩:∃ W1,(w.alloc (.deferred (some []))).alloc (.loop rec)=W1:=⟨_,rfl⟩
 rw [hW1] at I1
 have hkeep:∀ id,(getM σ.M id).isSome=true→upd β d (.func (.yield (w.heap.size+1)) #[] #[]) id=β id:=fun id hid=>upd_ne _ _ fun e=>by rw [e,hnone] at hid;cases hid
 have hwS:∀ b,S b→W1.heap[b]?=w.heap[b]?:=fun b hb=>by
  have:=I.Slt b hb
  rw [←hW1,alloc_old _ _ (by simp;omega),alloc_old _ _ this]
 have hvals:(#[Value.func (.yield (w.heap.size+1)) #[] #[]]++arr).size=(V.yld d::cs).length:=by simp [hs];omega
 have hreps:∀ (i:Nat) x v,(V.yld d::cs)[i]?=some x→(#[Value.func (.yield (w.heap.size+1)) #[] #[]]++arr)[i]?=some v→Rep W1 (upd β d (.func (.yield (w.heap.size+1)) #[] #[])) S x v:=by
  intro i x v hx hv
  cases i with
  | zero =>
    simp at hx
    rw [Array.getElem?_append_left (by simp)] at hv
    simp at hv
    subst hx hv
    exact .yld d _ (upd_same _ _ _)
  | succ i =>
    rw [Array.getElem?_append_right (by simp)] at hv
    simp at hx hv
    exact (hr i x v hx hv).mono hwS (fun _ h=>h) fun id hid=>hkeep id (hcl id (idsL_mem hx hid))
 have hdoes:=callStep_does hcall I1 hvals hreps hstep
 unfold Does at hdoes
 rw [if_pos hfY] at hdoes
 obtain ⟨hfn,hcalls⟩:=hdoes
 refine ⟨w.heap.size+1,[{ target:=.collected w.heap.size,args:=#[] }],W1,{ target:=.fn (.func f) arr,args:=#[.func (.yield (w.heap.size+1)) #[] #[]] },W1,f,#[.func (.yield (w.heap.size+1)) #[] #[]]++arr,W1,?_,?_,fun _ _=>trivial,?_,fun h=>by simp [FF,Fence.wide] at h,?_⟩
 ·rw [←hW1,hrec];exact run_enterLoop_outer _ _ _ _ _
 ·simp only [resolve,hx]
  simp [go_sem]
 ·have:=enter_run (P:=P) (w:=W1) hfn (args:=#[.func (.yield (w.heap.size+1)) #[] #[]]++arr)
  simp only [invoke]
  exact this
 ·have hc2:CallsIn (FF none) (n - 1) P f (#[.func (.yield (w.heap.size+1)) #[] #[]]++arr) W1 _:=(callsIn_wide (n:=n - 1)).2 hcalls
  refine hc2.mono fun e w' hp => ?_
  obtain ⟨v',rfl,hp⟩:=hp
  obtain ⟨β2,S2,I2,hb2⟩:=hp none rfl
  have hβ2:β2 d=.func (.yield (w.heap.size+1)) #[] #[]:=(hb2 d (by simp [getM])).trans (upd_same _ _ _)
  have hM2:getM (St.put { σ with M:=(d,.lp fn σ.n (ks.map fun t=>(t,getF σ.F t)) ps.toList x y 0 .norm)::σ.M } none v0 u).M d=some (.lp fn1 n1 F1 ps1 a1 b1 st out):=lp_get hget
  obtain ⟨l',r',q1,q2,q3,q4,q5,q6,q7,q8,q9⟩:=I2.objs d _ hM2
  rw [hβ2] at q1;cases q1
  have I3:=inv_setLp I2 (st':=3) (out':=out) hM2 hβ2 q2
  have hbusy:r'.state≠.busy:=by
   rw [q6]
   match st,hst with
   | 0,_=>simp [lpState]
   | 1,h=>exact absurd rfl h
   | 2,_=>simp [lpState]
   | n+3,_=>simp [lpState]
  have I4:Inv w0 fp S0 { σ with M:=(d,.dead)::(u++σ.M) } { a with defers:=[{ target:=.collected w.heap.size,args:=#[] }]++a.defers } (w'.putObj (w.heap.size+1) (.loop { r' with state:=.exhausted })) β2 S2:=by
   have e:({ r' with state:=lpState 3,pending:=out.jump }:Loop)={ r' with state:=.exhausted }:=by rw [←q7];rfl
   rw [e] at I3
   refine (I3.kill (d:=d) (by simp [getM])).eqv ⟨rfl,fun t=>rfl,fun id => ?_⟩
   simp only [St.put,getM,getM_append]
   by_cases e:d=id
   ·rw [if_pos e,if_pos e]
   ·rw [if_neg e,if_neg e,if_neg e,if_neg e]
  have I4:=normR_ok I4 hnorm
  refine ⟨out.jump,w'.putObj (w.heap.size+1) (.loop { r' with state:=.exhausted }),by rw [←q7];exact run_endLoop q2 hbusy,?_⟩
  cases out with
  | norm=>exact ⟨rfl,β2,S2,I4⟩
  | exit i=>exact wpIn_exit ⟨rfl,β2,S2,I4⟩
  | goto l=>exact wpIn_goto ⟨rfl,β2,S2,I4⟩
  | ret=>exact wpIn_ret ⟨rfl,β2,S2,I4⟩
theorem exec_ok (hcall:CallOk P call) (hm:P.follows .mixedOrders=true) {ro:Option Nat} {n0:Nat} {fn fuel:Nat}:∀ (c:Code),(ro=none∨noRange c=true) →
  (∀ (σ:St) (out:Out) (σ':St),exec P call h fn fuel none c σ=some (out,σ')→∀ (a:Act) (w:World) (β:Nat→Value) (S:Nat→Prop),Inv w0 fp S0 σ a w β S→c.wpIn (FF ro) n0 P (XPost w0 fp S0 out σ') a w) ∧
  ∀ (l:Nat) (σ:St) (out:Out) (σ':St),exec P call h fn fuel (some l) c σ=some (out,σ')→∀ rest,findLabel c l=some rest→∀ (a:Act) (w:World) (β:Nat→Value) (S:Nat→Prop),Inv w0 fp S0 σ a w β S→rest.wpIn (FF ro) n0 P (XPost w0 fp S0 out σ') a w:=by
 intro c
 induction c with
 | skip =>
   intro hro
   refine ⟨fun σ out σ' he a w β S I => ?_,fun l σ out σ' he=>by simp only [exec] at he;cases he⟩
   simp only [exec] at he
   cases he
   exact wpIn_skip ⟨rfl,β,S,I⟩
 | region id ops draw =>
   intro hro
   exact ⟨fun σ out σ' he a w β S I=>region_ok hcall hm he I,fun l σ out σ' he=>by simp only [exec] at he;cases he⟩
 | seq x y ihx ihy =>
   intro hro
   have ihx:=ihx (hro.imp (fun h=>h) fun h=>by simp only [noRange,Bool.and_eq_true] at h;exact h.1)
   have ihy:=ihy (hro.imp (fun h=>h) fun h=>by simp only [noRange,Bool.and_eq_true] at h;exact h.2)
   have rule:∀ (x':Code) (r:Option (Out×St)) (out:Out) (σ':St),(match r with | some (.norm,σ1)=>exec P call h fn fuel none y σ1 | r=>r)=some (out,σ')→∀ (a:Act) (w:World),(∀ out1 σ1,r=some (out1,σ1)→x'.wpIn (FF ro) n0 P (XPost w0 fp S0 out1 σ1) a w)→(Code.seq x' y).wpIn (FF ro) n0 P (XPost w0 fp S0 out σ') a w:=by
    intro x' r out σ' hr a w hx
    cases r with
    | none=>cases hr
    | some q =>
      obtain ⟨out1,σ1⟩:=q
      refine wpIn_seq (wpIn_mono (hx out1 σ1 rfl) fun e a1 w1 he => ?_)
      cases e with
      | normal =>
        obtain ⟨rfl,β1,S1,I1⟩:=he
        exact ihy.1 σ1 out σ' hr a1 w1 β1 S1 I1
      | exit i=>obtain ⟨rfl,hI⟩:=he;cases hr;exact ⟨rfl,hI⟩
      | goto i=>obtain ⟨rfl,hI⟩:=he;cases hr;exact ⟨rfl,hI⟩
      | ret=>obtain ⟨rfl,hI⟩:=he;cases hr;exact ⟨rfl,hI⟩
      | panic c=>exact he.elim
      | outgrown=>exact he.elim
   refine ⟨fun σ out σ' he a w β S I => ?_,fun l σ out σ' he rest hrest a w β S I => ?_⟩
   ·simp only [exec] at he
    exact rule x _ out σ' he a w fun out1 σ1 h1=>ihx.1 σ out1 σ1 h1 a w β S I
   ·simp only [exec] at he
    simp only [findLabel] at hrest
    split at he
    ·rename_i hs
     obtain ⟨q,hq⟩:=Option.isSome_iff_exists.1 hs
     rw [hq] at hrest
     cases hrest
     exact rule q _ out σ' he a w fun out1 σ1 h1=>ihx.2 l σ out1 σ1 h1 q hq a w β S I
    ·rename_i hs
     have hn:findLabel x l=none:=by
      cases hq:findLabel x l with
      | none=>rfl
      | some q=>rw [hq] at hs;exact absurd rfl hs
     rw [hn] at hrest
     exact ihy.2 l σ out σ' he rest hrest a w β S I
 | cond c x y ihx ihy =>
   intro hro
   have ihx:=ihx (hro.imp (fun h=>h) fun h=>by simp only [noRange,Bool.and_eq_true] at h;exact h.1)
   have ihy:=ihy (hro.imp (fun h=>h) fun h=>by simp only [noRange,Bool.and_eq_true] at h;exact h.2)
   refine ⟨fun σ out σ' he a w β S I => ?_,fun l σ out σ' he=>by simp only [exec] at he;cases he⟩
   simp only [exec] at he
   split at he<;>try (cases he;done)
   ·rename_i hc
    exact wpIn_cond_true (rep_p (hc▸evalV_rep I c)) (ihx.1 σ out σ' he a w β S I)
   ·rename_i hc
    exact wpIn_cond_false (rep_p (hc▸evalV_rep I c)) (ihy.1 σ out σ' he a w β S I)
   ·rename_i hc
    obtain ⟨σ1,σ2,h1,h2,k1,k2⟩:=joinR_ok he
    have hr:=evalV_rep I c
    rw [hc] at hr
    generalize hv:a.eval c=v at hr
    cases hr with
    | d h=>cases h
    | coin b =>
      cases b with
      | true=>exact wpIn_cond_true hv (wpIn_mono (ihx.1 σ out σ1 h1 a w β S I) fun e a1 w1 hx=>hx.canon k1)
      | false=>exact wpIn_cond_false hv (wpIn_mono (ihy.1 σ out σ2 h2 a w β S I) fun e a1 w1 hx=>hx.canon k2)
 | block id x ih =>
   intro hro
   have ih:=ih (hro.imp (fun h=>h) fun h=>by simpa only [noRange] using h)
   refine ⟨fun σ out σ' he a w β S I => ?_,fun l σ out σ' he=>by simp only [exec] at he;cases he⟩
   simp only [exec] at he
   split at he
   ·rename_i i σ1 h1
    refine wpIn_block (wpIn_mono (ih.1 σ _ σ1 h1 a w β S I) fun e a1 w1 hx => ?_)
    cases e with
    | exit j =>
      obtain ⟨hj,hI⟩:=hx
      cases hj
      simp only [Exit.inBlock]
      split at he
      ·rename_i e;cases he;rw [if_pos e];exact ⟨rfl,hI⟩
      ·rename_i e;cases he;rw [if_neg e];exact ⟨rfl,hI⟩
    | normal=>obtain ⟨hj,_⟩:=hx;cases hj
    | goto _=>obtain ⟨hj,_⟩:=hx;cases hj
    | ret=>obtain ⟨hj,_⟩:=hx;cases hj
    | panic c=>exact hx.elim
    | outgrown=>exact hx.elim
   ·rename_i hne
    refine wpIn_block (wpIn_mono (ih.1 σ out σ' he a w β S I) fun e a1 w1 hx => ?_)
    cases e with
    | exit j =>
      obtain ⟨rfl,hI⟩:=hx
      exact absurd he (hne j σ')
    | normal=>exact hx
    | goto _=>exact hx
    | ret=>exact hx
    | panic c=>exact hx.elim
    | outgrown=>exact hx.elim
 | loop x ih =>
   intro hro
   have ih:=ih (hro.imp (fun h=>h) fun h=>by simpa only [noRange] using h)
   refine ⟨fun σ out σ' he a w β S I => ?_,fun l σ out σ' he=>by simp only [exec] at he;cases he⟩
   simp only [exec] at he
   refine wpIn_loop_rounds fuel ?_
   have key:∀ (n:Nat) (σ:St) (a:Act) (w:World) (β:Nat→Value) (S:Nat→Prop),iter (fun σ=>match headR (h.head fn (firstReg x)) (h.canon fn (firstReg x)) σ with
     | some σ'=>exec P call h fn fuel none x σ'
     | none=>none) n σ=some (out,σ')→Inv w0 fp S0 σ a w β S→Code.roundsIn (FF ro) n0 P x (XPost w0 fp S0 out σ') n a w:=by
    intro n
    induction n with
    | zero=>intro σ a w β S hi;cases hi
    | succ n ihn =>
      intro σ a w β S hi I
      rw [roundsIn_succ]
      simp only [iter] at hi
      split at hi
      ·rename_i σ2 hr
       split at hr<;>try (cases hr;done)
       rename_i σ1 h1
       obtain ⟨β1,I1⟩:=headR_ok I h1
       refine wpIn_mono (ih.1 σ1 _ _ hr a w β1 S I1) fun e a2 w2 hx => ?_
       cases e with
       | normal =>
         obtain ⟨_,β2,S2,I2⟩:=hx
         exact ihn _ a2 w2 β2 S2 hi I2
       | exit j=>obtain ⟨hj,_⟩:=hx;cases hj
       | goto j=>obtain ⟨hj,_⟩:=hx;cases hj
       | ret=>obtain ⟨hj,_⟩:=hx;cases hj
       | panic c=>exact hx.elim
       | outgrown=>exact hx.elim
      ·rename_i hne
       split at hi<;>try (cases hi;done)
       rename_i σ1 h1
       obtain ⟨β1,I1⟩:=headR_ok I h1
       refine wpIn_mono (ih.1 σ1 _ _ hi a w β1 S I1) fun e a2 w2 hx => ?_
       cases e with
       | normal =>
         obtain ⟨rfl,_⟩:=hx
         exact absurd (by simp only [h1];exact hi) (hne σ')
       | exit j=>exact hx
       | goto j=>exact hx
       | ret=>exact hx
       | panic c=>exact hx.elim
       | outgrown=>exact hx.elim
   exact key fuel σ a w β S he I
 | rangeFunc f ps x y _ _ =>
   intro hro
   refine ⟨fun σ out σ' he a w β S I => ?_,fun l σ out σ' he=>by (simp only [exec] at he;cases he)⟩
   rcases hro with rfl | hro
   ·simp only [exec] at he
    exact range_ok hcall he I
   ·simp [noRange] at hro
 | exit id =>
   intro hro
   refine ⟨fun σ out σ' he a w β S I => ?_,fun l σ out σ' he=>by simp only [exec] at he;cases he⟩
   simp only [exec] at he
   cases he
   exact wpIn_exit ⟨rfl,β,S,I⟩
 | scope x ih =>
   intro hro
   have ih:=ih (hro.imp (fun h=>h) fun h=>by simpa only [noRange] using h)
   refine ⟨fun σ out σ' he a w β S I => ?_,fun l σ out σ' he=>by simp only [exec] at he;cases he⟩
   simp only [exec] at he
   intro b k cs hbr hb hroom
   have key:∀ (n:Nat) (out1:Out) (σ1:St),jumps (fun l σ=>exec P call h fn fuel (some l) x σ) n (some (out1,σ1))=some (out,σ')→∀ (m:Machine) (e:Exit) (a1:Act) (w1:World),XPost w0 fp S0 out1 σ1 e a1 w1→ArrivesIn (Machine.fenced P (FF ro)) P m b (.inScope x::k) cs e a1 w1 →
     ∃ e2 a2 w2,XPost w0 fp S0 out σ' e2 a2 w2∧ArrivesIn (Machine.fenced P (FF ro)) P m b k cs e2 a2 w2:=by
    intro n
    induction n with
    | zero =>
      intro out1 σ1 hj m e a1 w1 hx harr
      cases e with
      | normal=>obtain ⟨rfl,hI⟩:=hx;simp only [jumps] at hj;cases hj;exact ⟨.normal,a1,w1,⟨rfl,hI⟩,StepsIn.trans harr (.one (fenced_calm hb hroom rfl) stepR_inScope)⟩
      | exit i=>obtain ⟨rfl,hI⟩:=hx;simp only [jumps] at hj;cases hj;exact ⟨.exit i,a1,w1,⟨rfl,hI⟩,fun k' hk=>harr.1 k' (by simp [exitTo,hk]),fun hr hk=>harr.2 hr (by simp [exitTo,hk])⟩
      | goto l=>obtain ⟨rfl,hI⟩:=hx;simp only [jumps] at hj;cases hj
      | ret=>obtain ⟨rfl,hI⟩:=hx;simp only [jumps] at hj;cases hj;exact ⟨.ret,a1,w1,⟨rfl,hI⟩,harr⟩
      | panic c=>exact hx.elim
      | outgrown=>exact hx.elim
    | succ n ihn =>
      intro out1 σ1 hj m e a1 w1 hx harr
      cases e with
      | normal=>obtain ⟨rfl,hI⟩:=hx;simp only [jumps] at hj;cases hj;exact ⟨.normal,a1,w1,⟨rfl,hI⟩,StepsIn.trans harr (.one (fenced_calm hb hroom rfl) stepR_inScope)⟩
      | exit i=>obtain ⟨rfl,hI⟩:=hx;simp only [jumps] at hj;cases hj;exact ⟨.exit i,a1,w1,⟨rfl,hI⟩,fun k' hk=>harr.1 k' (by simp [exitTo,hk]),fun hr hk=>harr.2 hr (by simp [exitTo,hk])⟩
      | goto l =>
        obtain ⟨rfl,β1,S1,I1⟩:=hx
        simp only [jumps] at hj
        cases hr:exec P call h fn fuel (some l) x σ1 with
        | none=>rw [hr] at hj;cases n<;>simp [jumps] at hj
        | some q =>
          obtain ⟨out2,σ2⟩:=q
          rw [hr] at hj
          obtain ⟨rest,hrest⟩:=exec_label x σ1 _ hr
          have hg:gotoIn l (.inScope x::k)=some (.code rest::.inScope x::k):=by simp [gotoIn,hrest]
          obtain ⟨e2,a2,w2,hq2,harr2⟩:=ih.2 l σ1 out2 σ2 hr rest hrest a1 w1 β1 S1 I1 b (.inScope x::k) cs hbr hb hroom
          exact ihn out2 σ2 hj m e2 a2 w2 hq2 (.of_steps (harr.1 _ hg) harr2)
      | ret=>obtain ⟨rfl,hI⟩:=hx;simp only [jumps] at hj;cases hj;exact ⟨.ret,a1,w1,⟨rfl,hI⟩,harr⟩
      | panic c=>exact hx.elim
      | outgrown=>exact hx.elim
   cases hr:exec P call h fn fuel none x σ with
   | none=>rw [hr] at he;cases fuel<;>simp [jumps] at he
   | some q =>
     obtain ⟨out1,σ1⟩:=q
     rw [hr] at he
     obtain ⟨e1,a1,w1,hq1,harr1⟩:=ih.1 σ out1 σ1 hr a w β S I b (.inScope x::k) cs hbr hb hroom
     exact key fuel out1 σ1 he _ e1 a1 w1 hq1 (.of_steps (.one (fenced_calm hb hroom rfl) stepR_scope) harr1)
 | label l =>
   intro hro
   refine ⟨fun σ out σ' he a w β S I => ?_,fun l' σ out σ' he rest hrest a w β S I => ?_⟩
   ·simp only [exec] at he
    cases he
    exact wpIn_label ⟨rfl,β,S,I⟩
   ·simp only [exec] at he
    split at he<;>try (cases he;done)
    rename_i e
    cases he
    simp [findLabel,e] at hrest
    subst hrest
    exact wpIn_skip ⟨rfl,β,S,I⟩
 | goto l =>
   intro hro
   refine ⟨fun σ out σ' he a w β S I => ?_,fun l σ out σ' he=>by simp only [exec] at he;cases he⟩
   simp only [exec] at he
   cases he
   exact wpIn_goto ⟨rfl,β,S,I⟩
 | ret =>
   intro hro
   refine ⟨fun σ out σ' he a w β S I => ?_,fun l σ out σ' he=>by simp only [exec] at he;cases he⟩
   simp only [exec] at he
   cases he
   exact wpIn_ret ⟨rfl,β,S,I⟩
 | refuse why =>
   intro hro
   exact ⟨fun σ out σ' he=>by (simp only [exec] at he;cases he),fun l σ out σ' he=>by (simp only [exec] at he;cases he)⟩
end
end Go.Proofs.YtlelaenalbkbmaaDoorV