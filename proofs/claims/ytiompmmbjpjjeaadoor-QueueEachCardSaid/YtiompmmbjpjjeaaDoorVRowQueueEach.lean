/- The row of QueueEach over its plain law. -/
import Derived.Test.YtiompmmbjpjjeaaDoorRows
import Derived.Test.YtiompmmbjpjjeaaDoorVPureQueueEach
import Derived.Test.YtiompmmbjpjjeaaDoorHVi23
import Derived.WalkKit
import Derived.ProofKit
import Derived.OpenShut
import Derived.ShutString
import Derived.ChangeOld
import Derived.Below
import Derived.SizedLaws
import Derived.KernelRfl
import Derived.Test.YtiompmmbjpjjeaaDoorCards
import Derived.Test.YtiompmmbjpjjeaaDoorTie
import Derived.LaidMore
import Derived.Lay
import Derived.SevenTiedAt
import Derived.Stop.Joined
namespace Go.Proofs.YtiompmmbjpjjeaaDoor.queueEach
open Go.ChangeShapes Go.WideShapes Go.ChangeAt Go.RowKit Go.Proofs.YtiompmmbjpjjeaaDoorV
set_option linter.unusedVariables false
theorem own:ownKnob Tryd.prog.godebug=none:=by kernel_rfl
theorem laidOut:laidOutB Tryd.prog=true:=by kernel_rfl
set_option maxRecDepth 100000 in
theorem lifted (os:Os) (started:os.Started) (H:Type) (enc:TypeId×Value→H) :
 ReturnsInHanded {} Tryd.checked os 6 .any (fun w args=>(Rows.queueEachSpec.pre enc Tryd.prog Tryd.f6 Rows.queueEachRow.domain false w args∧laidMetH Tryd.prog Rows.queueEachRow.laid w)∧sizedMet enc Tryd.prog Tryd.f6 (OpenSpec.ofChange Rows.queueEachSpec) false w args) (Rows.queueEachSpec.post enc Tryd.prog Tryd.f6 false true false false):=by
 refine returnsInHanded_of_change_and (C:=Tryd.checked) (X:=fun w _=>laidMetH Tryd.prog Rows.queueEachRow.laid w) (fun _ _ _ hh h=>h.of_heap hh) own started (by kernel_rfl) Tryd.func6
  (ChangeSpec.witness_shaped (enc:=enc) (C:=Tryd.checked) (os:=os) (X:=fun w _=>laidMetH Tryd.prog Rows.queueEachRow.laid w) false (World.laidAll Tryd.prog os Rows.queueEachRow.laid) #[.agg #[.int .i64 0,.int .i64 0,.slice none 0 0,.slice none 0 0,.int .i64 0,.slice none 0 0,.int .i64 0],.agg #[.slice none 0 0]] 8 (World.laidAll_os _ _ _)
   (World.shaped_of_ZipB (by kernel_rfl) (by kernel_rfl)) (by kernel_rfl) (by kernel_rfl) (by kernel_rfl)
   (by rw [MakeChecks.laidMetH_plain _ _ _ (by kernel_rfl)];exact laidMet_laidAll _ (by kernel_rfl) (by kernel_rfl))) ?_
 intro W base args ds gs before hval0 hW hcnd hsz0 hL _
 have hsz:(DataW.weightsEach Tryd.prog (Tryd.f6.params.toList++Rows.queueEachSpec.plain.varTypes Tryd.prog) (ds++gs)).all (· ≤ reachBytes)=true:=hsz0
 have hval:∀ (j:Nat) t v,Tryd.f6.params[j]?=some t→args[j]?=some v→Value.okWide Tryd.prog W .any base t v:=hval0
 have hW':=hW
 obtain ⟨p,q,hA0,hV,rfl,hfz,hnd⟩:=hW
 have hA:DataW.TrodAll enc Tryd.prog W 0 (fun _=>true) true Tryd.f6.params.toList args.toList ds p:=hA0
 rw [Tryd.params6] at hA hval hsz
 obtain ⟨v0,vs0,d0,ds0,p0,q0,hargs,rfl,rfl,h0,r0⟩:=trodAll_cons hA
 obtain ⟨v1,vs1,d1,ds1,p1,q1,rfl,rfl,rfl,h1,r1⟩:=trodAll_cons r0
 obtain ⟨rfl,rfl,rfl⟩:=trodAll_nil r1
 obtain rfl:args = #[v0,v1]:=by cases args;simp_all
 obtain ⟨rfl,rfl⟩:=trodVars_none hV
 have k0:=h0
 have lt0:∀ x∈p0,x.block<W.heap.size:=by obtain ⟨m,hm⟩:=k0;exact DataW.trod_lt m _ _ _ hm
 obtain ⟨x0,K0,g0⟩:=OpensV.arg (OpensV.iso (OpensV.struct Tryd.underlying28 (by kernel_rfl) (OpensVF.cons rfl (OpensV.int Tryd.underlying3 (by kernel_rfl)) (OpensVF.cons rfl (OpensV.struct Tryd.underlying24 (by kernel_rfl) (OpensVF.cons rfl (OpensV.int Tryd.underlying3 (by kernel_rfl)) (OpensVF.one rfl (OpensV.slice 6 Tryd.underlying22 (by kernel_rfl) (by kernel_rfl) (by decide) (B:=48) (by kernel_rfl) (OpensV.iso (OpensV.struct Tryd.underlying54 (by kernel_rfl) (OpensVF.cons rfl (OpensV.int Tryd.underlying3 (by kernel_rfl)) (OpensVF.cons rfl (OpensV.int Tryd.underlying3 (by kernel_rfl)) (OpensVF.cons rfl (OpensV.int Tryd.underlying3 (by kernel_rfl)) (OpensVF.cons rfl (OpensV.int Tryd.underlying3 (by kernel_rfl)) (OpensVF.cons rfl (OpensV.int Tryd.underlying3 (by kernel_rfl)) (OpensVF.one rfl (OpensV.int Tryd.underlying3 (by kernel_rfl))))))))) (fun x:T54=>(x.From,x.To,x.Start,x.End,x.Rate,x.Delay)) (fun p=>(⟨p.1,p.2.1,p.2.2.1,p.2.2.2.1,p.2.2.2.2.1,p.2.2.2.2.2⟩:T54)) (fun _=>rfl)))))) (OpensVF.cons rfl (OpensV.slice 1 Tryd.underlying25 (by kernel_rfl) (by kernel_rfl) (by decide) (B:=8) (by kernel_rfl) (OpensV.int Tryd.underlying3 (by kernel_rfl))) (OpensVF.cons rfl (OpensV.int Tryd.underlying3 (by kernel_rfl)) (OpensVF.cons rfl (OpensV.slice 3 Tryd.underlying26 (by kernel_rfl) (by kernel_rfl) (by decide) (B:=24) (by kernel_rfl) (OpensV.iso (OpensV.struct Tryd.underlying44 (by kernel_rfl) (OpensVF.cons rfl (OpensV.int Tryd.underlying3 (by kernel_rfl)) (OpensVF.cons rfl (OpensV.int Tryd.underlying42 (by kernel_rfl)) (OpensVF.one rfl (OpensV.int Tryd.underlying3 (by kernel_rfl)))))) (fun x:T44=>(x.Source,x.Seq,x.Offset)) (fun p=>(⟨p.1,p.2.1,p.2.2⟩:T44)) (fun _=>rfl))) (OpensVF.one rfl (OpensV.int Tryd.underlying3 (by kernel_rfl))))))))) (fun x:T28=>(x.Node,(x.Plan_Nodes,x.Plan_Contacts),x.Left,x.Now,x.Busy,x.Room)) (fun p=>(⟨p.1,p.2.1.1,p.2.1.2,p.2.2.1,p.2.2.2.1,p.2.2.2.2.1,p.2.2.2.2.2⟩:T28)) (fun _=>rfl)) hsz (j:=0) (t:=28) rfl rfl h0
 obtain ⟨z0,rfl,_⟩:=okWide_struct Tryd.underlying28 (hval 0 28 v0 rfl rfl)
 have R0:Rep W (fun _=>undef) (fun b=>b<W.heap.size) (V.agg (encT28 x0)) (.agg z0):=RDs.aggr K0
 have k1:=h1
 have lt1:∀ x∈p1,x.block<W.heap.size:=by obtain ⟨m,hm⟩:=k1;exact DataW.trod_lt m _ _ _ hm
 obtain ⟨x1,K1,g1⟩:=OpensV.arg (OpensV.iso (OpensV.struct Tryd.underlying31 (by kernel_rfl) (OpensVF.one rfl (OpensV.slice 11 Tryd.underlying29 (by kernel_rfl) (by kernel_rfl) (by decide) (B:=104) (by kernel_rfl) (OpensV.iso (OpensV.struct Tryd.underlying47 (by kernel_rfl) (OpensVF.cons rfl (OpensV.int Tryd.underlying3 (by kernel_rfl)) (OpensVF.cons rfl (OpensV.int Tryd.underlying3 (by kernel_rfl)) (OpensVF.cons rfl (OpensV.int Tryd.underlying42 (by kernel_rfl)) (OpensVF.cons rfl (OpensV.int Tryd.underlying3 (by kernel_rfl)) (OpensVF.cons rfl (OpensV.int Tryd.underlying3 (by kernel_rfl)) (OpensVF.cons rfl (OpensV.int Tryd.underlying3 (by kernel_rfl)) (OpensVF.cons rfl (OpensV.int Tryd.underlying3 (by kernel_rfl)) (OpensVF.cons rfl (OpensV.int Tryd.underlying3 (by kernel_rfl)) (OpensVF.cons rfl (OpensV.int Tryd.underlying3 (by kernel_rfl)) (OpensVF.cons rfl (OpensV.int Tryd.underlying3 (by kernel_rfl)) (OpensVF.one rfl (OpensV.slice 1 Tryd.underlying45 (by kernel_rfl) (by kernel_rfl) (by decide) (B:=1) (by kernel_rfl) (OpensV.int Tryd.underlying5 (by kernel_rfl))))))))))))))) (fun x:T47=>(x.Source,x.Dest,x.Seq,x.Created,x.Lifetime,x.HopLimit,x.Hops,x.Priority,x.Offset,x.Total,x.Payload)) (fun p=>(⟨p.1,p.2.1,p.2.2.1,p.2.2.2.1,p.2.2.2.2.1,p.2.2.2.2.2.1,p.2.2.2.2.2.2.1,p.2.2.2.2.2.2.2.1,p.2.2.2.2.2.2.2.2.1,p.2.2.2.2.2.2.2.2.2.1,p.2.2.2.2.2.2.2.2.2.2⟩:T47)) (fun _=>rfl))))) (fun x:T31=>x.List) (fun p=>(⟨p⟩:T31)) (fun _=>rfl)) hsz (j:=1) (t:=31) rfl rfl h1
 obtain ⟨z1,rfl,_⟩:=okWide_struct Tryd.underlying31 (hval 1 31 v1 rfl rfl)
 have R1:Rep W (fun _=>undef) (fun b=>b<W.heap.size) (V.agg (encT31 x1)) (.agg z1):=RDs.aggr K1
 clear hA0 hval0 hsz0 hsz
 obtain ⟨k,hk⟩:=pureQueueEach x0 x1 g0 g1
 have hc:callV Tryd.prog ctx hints k 6 [V.agg (encT28 x0),V.agg (encT31 x1)] []=some (.p (.bool true),[],[]):=f6_ok k x0.Node x0.Plan_Nodes x0.Plan_Contacts x0.Left x0.Now x0.Busy x0.Room x1.List _ hk
 refine (law_calls mixed ctxOk (by decide) hc rfl (fun i x v hx hv => ?_) rfl (fun g cs h=>by simp [lay] at h)).mono fun e W' ⟨he,bel⟩ => ?_
 ·match i,hx,hv with
  | 0,hx,hv=>cases hx;cases hv;exact R0
  | 1,hx,hv=>cases hx;cases hv;exact R1
  | i+2,hx,hv=>simp at hx
 subst he
 exact ⟨_,rfl,_,_,_,[],_,[],hW',trodAll_mk1 (shut_bool Tryd.underlying4 _),(trodAll_cons_mk (Below.trod laidOut (by kernel_rfl) (of_decide_eq_true (by kernel_rfl)) k0 bel lt0) (trodAll_cons_mk (Below.trod laidOut (by kernel_rfl) (of_decide_eq_true (by kernel_rfl)) k1 bel lt1) trodAll_mk0)),rfl,bel.frame _,fun h=>by cases h⟩
theorem over:Rows.queueEachRow.holds Tryd.pinned (OpenSpec.ofChange Rows.queueEachSpec) :=
 OpenClaim.holds_of_wide 6 Tryd.f6 rfl rfl rfl rfl rfl rfl rfl ⟨rfl,rfl,rfl,rfl,rfl⟩ rfl rfl rfl rfl rfl (by kernel_rfl) Tryd.func6 (by kernel_rfl)
  (of_decide_eq_true (by kernel_rfl)) (by unfold Func.isWrapper;first | (rw [if_pos (by decide +kernel)];kernel_rfl) | (rw [if_neg (by decide +kernel)];exact ⟨rfl,rfl⟩))
  (fun os started H enc _=>lifted os started H enc)
set_option maxRecDepth 100000 in
theorem proved:Rows.QueueEachCardSaid :=
 Claim7.holds_tied_plain_at .later [] [.data, .pinned] true (true, "13ba4ca5a6da681b8f4ca7c68c6ea7e43d6b99dbcc411ccda2eeaf7aa1f31b2d") false over (fun _ h => by cases h) (by kernel_rfl) (fun _ h => by cases h) queueEach_row_tie rfl ⟨rfl, rfl⟩ (by kernel_rfl) rfl
  (fun f fn hf hfn=>by
   obtain rfl : f = 6 := Option.some.inj ((show Tryd.prog.funcNamed "heliograph/heliographlaw20.QueueEach" = some 6 by kernel_rfl).symm.trans hf) |>.symm
   obtain rfl:fn=Tryd.f6:=(Option.some.inj (Tryd.func6.symm.trans hfn)).symm
   exact ⟨by kernel_rfl,fun j t ht=>by
    rw [Tryd.params6] at ht
    have hm:t∈([28,31]:List TypeId):=by simpa using Array.mem_of_getElem? ht
    have hall:(([28,31]:List TypeId).all fun u => !Tryd.prog.wantsStandIn u)=true:=by kernel_rfl
    exact (show Tryd.prog.wantsStandIn t=false by simpa using List.all_eq_true.1 hall t hm)⟩)
  (by kernel_rfl)
#print axioms proved
end Go.Proofs.YtiompmmbjpjjeaaDoor.queueEach
namespace Go.Proofs.YtiompmmbjpjjeaaDoor
theorem queueEach_holds:Rows.QueueEachCardSaid:=queueEach.proved
end Go.Proofs.YtiompmmbjpjjeaaDoor