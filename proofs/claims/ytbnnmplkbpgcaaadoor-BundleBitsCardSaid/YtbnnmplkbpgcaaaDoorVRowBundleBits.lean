/- The row of BundleBits over its plain law. -/
import Derived.Test.YtbnnmplkbpgcaaaDoorRows
import Derived.Test.YtbnnmplkbpgcaaaDoorVPureBundleBits
import Derived.Test.YtbnnmplkbpgcaaaDoorHVi23
import Derived.WalkKit
import Derived.ProofKit
import Derived.OpenShut
import Derived.ShutString
import Derived.ChangeOld
import Derived.Below
import Derived.SizedLaws
import Derived.KernelRfl
import Derived.Test.YtbnnmplkbpgcaaaDoorHVi28
import Derived.Test.YtbnnmplkbpgcaaaDoorCards
import Derived.Test.YtbnnmplkbpgcaaaDoorTie
import Derived.LaidMore
import Derived.Lay
import Derived.SevenTiedAt
import Derived.Stop.Joined
namespace Go.Proofs.YtbnnmplkbpgcaaaDoor.bundleBits
open Go.ChangeShapes Go.WideShapes Go.ChangeAt Go.RowKit Go.Proofs.YtbnnmplkbpgcaaaDoorV
set_option linter.unusedVariables false
theorem own:ownKnob Tryd.prog.godebug=none:=by kernel_rfl
theorem laidOut:laidOutB Tryd.prog=true:=by kernel_rfl
set_option maxRecDepth 100000 in
theorem lifted (os:Os) (started:os.Started) (H:Type) (enc:TypeId×Value→H) :
 ReturnsInHanded {} Tryd.checked os 5 .any (fun w args=>(Rows.bundleBitsSpec.pre enc Tryd.prog Tryd.f5 Rows.bundleBitsRow.domain false w args∧laidMetH Tryd.prog Rows.bundleBitsRow.laid w)∧sizedMet enc Tryd.prog Tryd.f5 (OpenSpec.ofChange Rows.bundleBitsSpec) false w args) (Rows.bundleBitsSpec.post enc Tryd.prog Tryd.f5 false true false false):=by
 refine returnsInHanded_of_change_and (C:=Tryd.checked) (X:=fun w _=>laidMetH Tryd.prog Rows.bundleBitsRow.laid w) (fun _ _ _ hh h=>h.of_heap hh) own started (by kernel_rfl) Tryd.func5
  (ChangeSpec.witness_shaped (enc:=enc) (C:=Tryd.checked) (os:=os) (X:=fun w _=>laidMetH Tryd.prog Rows.bundleBitsRow.laid w) false (World.laidAll Tryd.prog os Rows.bundleBitsRow.laid) #[.agg #[.int .i64 0,.int .i64 0,.int .u32 0,.int .i64 0,.int .i64 0,.int .i64 0,.int .i64 0,.int .i64 0,.int .i64 0,.int .i64 0,.slice none 0 0],.int .i64 0] 8 (World.laidAll_os _ _ _)
   (World.shaped_of_ZipB (by kernel_rfl) (by kernel_rfl)) (by kernel_rfl) (by kernel_rfl) (by kernel_rfl)
   (by rw [MakeChecks.laidMetH_plain _ _ _ (by kernel_rfl)];exact laidMet_laidAll _ (by kernel_rfl) (by kernel_rfl))) ?_
 intro W base args ds gs before hval0 hW hcnd hsz0 hL _
 have hsz:(DataW.weightsEach Tryd.prog (Tryd.f5.params.toList++Rows.bundleBitsSpec.plain.varTypes Tryd.prog) (ds++gs)).all (· ≤ reachBytes)=true:=hsz0
 have hval:∀ (j:Nat) t v,Tryd.f5.params[j]?=some t→args[j]?=some v→Value.okWide Tryd.prog W .any base t v:=hval0
 have hW':=hW
 obtain ⟨p,q,hA0,hV,rfl,hfz,hnd⟩:=hW
 have hA:DataW.TrodAll enc Tryd.prog W 0 (fun _=>true) true Tryd.f5.params.toList args.toList ds p:=hA0
 rw [Tryd.params5] at hA hval hsz
 obtain ⟨v0,vs0,d0,ds0,p0,q0,hargs,rfl,rfl,h0,r0⟩:=trodAll_cons hA
 obtain ⟨v1,vs1,d1,ds1,p1,q1,rfl,rfl,rfl,h1,r1⟩:=trodAll_cons r0
 obtain ⟨rfl,rfl,rfl⟩:=trodAll_nil r1
 obtain rfl:args = #[v0,v1]:=by cases args;simp_all
 obtain ⟨rfl,rfl⟩:=trodVars_none hV
 have k0:=h0
 have lt0:∀ x∈p0,x.block<W.heap.size:=by obtain ⟨m,hm⟩:=k0;exact DataW.trod_lt m _ _ _ hm
 obtain ⟨x0,K0,g0⟩:=OpensV.arg (OpensV.iso (OpensV.struct Tryd.underlying26 (by kernel_rfl) (OpensVF.cons rfl (OpensV.int Tryd.underlying3 (by kernel_rfl)) (OpensVF.cons rfl (OpensV.int Tryd.underlying3 (by kernel_rfl)) (OpensVF.cons rfl (OpensV.int Tryd.underlying24 (by kernel_rfl)) (OpensVF.cons rfl (OpensV.int Tryd.underlying3 (by kernel_rfl)) (OpensVF.cons rfl (OpensV.int Tryd.underlying3 (by kernel_rfl)) (OpensVF.cons rfl (OpensV.int Tryd.underlying3 (by kernel_rfl)) (OpensVF.cons rfl (OpensV.int Tryd.underlying3 (by kernel_rfl)) (OpensVF.cons rfl (OpensV.int Tryd.underlying3 (by kernel_rfl)) (OpensVF.cons rfl (OpensV.int Tryd.underlying3 (by kernel_rfl)) (OpensVF.cons rfl (OpensV.int Tryd.underlying3 (by kernel_rfl)) (OpensVF.one rfl (OpensV.slice 1 Tryd.underlying22 (by kernel_rfl) (by kernel_rfl) (by decide) (B:=1) (by kernel_rfl) (OpensV.int Tryd.underlying5 (by kernel_rfl))))))))))))))) (fun x:T26=>(x.Source,x.Dest,x.Seq,x.Created,x.Lifetime,x.HopLimit,x.Hops,x.Priority,x.Offset,x.Total,x.Payload)) (fun p=>(⟨p.1,p.2.1,p.2.2.1,p.2.2.2.1,p.2.2.2.2.1,p.2.2.2.2.2.1,p.2.2.2.2.2.2.1,p.2.2.2.2.2.2.2.1,p.2.2.2.2.2.2.2.2.1,p.2.2.2.2.2.2.2.2.2.1,p.2.2.2.2.2.2.2.2.2.2⟩:T26)) (fun _=>rfl)) hsz (j:=0) (t:=26) rfl rfl h0
 obtain ⟨z0,rfl,_⟩:=okWide_struct Tryd.underlying26 (hval 0 26 v0 rfl rfl)
 have R0:Rep W (fun _=>undef) (fun b=>b<W.heap.size) (V.agg (encT26 x0)) (.agg z0):=RDs.aggr K0
 have k1:=h1
 have lt1:∀ x∈p1,x.block<W.heap.size:=by obtain ⟨m,hm⟩:=k1;exact DataW.trod_lt m _ _ _ hm
 obtain ⟨x1,K1,g1⟩:=OpensV.arg (OpensV.int Tryd.underlying3 (by kernel_rfl)) hsz (j:=1) (t:=3) rfl rfl h1
 obtain ⟨z1,rfl⟩:=okWide_int Tryd.underlying3 (hval 1 3 v1 rfl rfl)
 have R1:Rep W (fun _=>undef) (fun b=>b<W.heap.size) (V.p (Value.int .i64 x1)) _:=RDs.cell K1 rfl
 clear hA0 hval0 hsz0 hsz
 obtain ⟨k,hk⟩:=pureBundleBits x0 x1 g0 g1
 have hc:callV Tryd.prog ctx hints k 5 [V.agg (encT26 x0),V.p (Value.int .i64 x1)] []=some (.p (.bool true),[],[]):=f5_ok k x0.Source x0.Dest x0.Seq x0.Created x0.Lifetime x0.HopLimit x0.Hops x0.Priority x0.Offset x0.Total x0.Payload x1 _ hk
 refine (law_calls mixed ctxOk (by decide) hc rfl (fun i x v hx hv => ?_) rfl (layRep (tabsOf hL (by kernel_rfl) (.tail _ (.head _)) ((show Rows.laid_unicode_utf8_acceptRanges=Lib.acceptData by kernel_rfl)▸.head _)))).mono fun e W' ⟨he,bel⟩ => ?_
 ·match i,hx,hv with
  | 0,hx,hv=>cases hx;cases hv;exact R0
  | 1,hx,hv=>cases hx;cases hv;exact R1
  | i+2,hx,hv=>simp at hx
 subst he
 exact ⟨_,rfl,_,_,_,[],_,[],hW',trodAll_mk1 (shut_bool Tryd.underlying4 _),(trodAll_cons_mk (Below.trod laidOut (by kernel_rfl) (of_decide_eq_true (by kernel_rfl)) k0 bel lt0) (trodAll_cons_mk (Below.trod laidOut (by kernel_rfl) (of_decide_eq_true (by kernel_rfl)) k1 bel lt1) trodAll_mk0)),rfl,bel.frame _,fun h=>by cases h⟩
theorem over:Rows.bundleBitsRow.holds Tryd.pinned (OpenSpec.ofChange Rows.bundleBitsSpec) :=
 OpenClaim.holds_of_wide 5 Tryd.f5 rfl rfl rfl rfl rfl rfl rfl ⟨rfl,rfl,rfl,rfl,rfl⟩ rfl rfl rfl rfl rfl (by kernel_rfl) Tryd.func5 (by kernel_rfl)
  (of_decide_eq_true (by kernel_rfl)) (by unfold Func.isWrapper;first | (rw [if_pos (by decide +kernel)];kernel_rfl) | (rw [if_neg (by decide +kernel)];exact ⟨rfl,rfl⟩))
  (fun os started H enc _=>lifted os started H enc)
set_option maxRecDepth 100000 in
theorem proved:Rows.BundleBitsCardSaid :=
 Claim7.holds_tied_plain_at .later [] [.data, .pinned] true (true, "7852ad45a36809b396c453242f632351dbef721a7dc13a8474df7a2a37d2c316") false over (fun _ h => by cases h) (by kernel_rfl) (fun _ h => by cases h) bundleBits_row_tie rfl ⟨rfl, rfl⟩ (by kernel_rfl) rfl
  (fun f fn hf hfn=>by
   obtain rfl : f = 5 := Option.some.inj ((show Tryd.prog.funcNamed "heliograph/heliographlaw09.BundleBits" = some 5 by kernel_rfl).symm.trans hf) |>.symm
   obtain rfl:fn=Tryd.f5:=(Option.some.inj (Tryd.func5.symm.trans hfn)).symm
   exact ⟨by kernel_rfl,fun j t ht=>by
    rw [Tryd.params5] at ht
    have hm:t∈([26,3]:List TypeId):=by simpa using Array.mem_of_getElem? ht
    have hall:(([26,3]:List TypeId).all fun u => !Tryd.prog.wantsStandIn u)=true:=by kernel_rfl
    exact (show Tryd.prog.wantsStandIn t=false by simpa using List.all_eq_true.1 hall t hm)⟩)
  (by kernel_rfl)
#print axioms proved
end Go.Proofs.YtbnnmplkbpgcaaaDoor.bundleBits
namespace Go.Proofs.YtbnnmplkbpgcaaaDoor
theorem bundleBits_holds:Rows.BundleBitsCardSaid:=bundleBits.proved
end Go.Proofs.YtbnnmplkbpgcaaaDoor