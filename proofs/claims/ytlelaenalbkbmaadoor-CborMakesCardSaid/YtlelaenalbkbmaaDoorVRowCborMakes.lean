/- The row of CborMakes over its plain law. -/
import Derived.Test.YtlelaenalbkbmaaDoorRows
import Derived.Test.YtlelaenalbkbmaaDoorVPureCborMakes
import Derived.Test.YtlelaenalbkbmaaDoorHVi23
import Derived.WalkKit
import Derived.ProofKit
import Derived.OpenShut
import Derived.ShutString
import Derived.ChangeOld
import Derived.Below
import Derived.SizedLaws
import Derived.KernelRfl
import Derived.Test.YtlelaenalbkbmaaDoorHVi28
import Derived.Test.YtlelaenalbkbmaaDoorCards
import Derived.Test.YtlelaenalbkbmaaDoorTie
import Derived.LaidMore
import Derived.Lay
import Derived.SevenTiedAt
import Derived.Stop.Joined
namespace Go.Proofs.YtlelaenalbkbmaaDoor.cborMakes
open Go.ChangeShapes Go.WideShapes Go.ChangeAt Go.RowKit Go.Proofs.YtlelaenalbkbmaaDoorV
set_option linter.unusedVariables false
theorem own:ownKnob Tryd.prog.godebug=none:=by kernel_rfl
theorem laidOut:laidOutB Tryd.prog=true:=by kernel_rfl
theorem opensR28:OpensV Tryd.prog encT28 28 (fun _=>True):=by
 intro N
 induction N using Nat.strongRecOn with
 | _ N ih =>
  refine OpensN.as (OpensN.iso (OpensN.struct Tryd.underlying28 (by kernel_rfl) ?_ (fun M hM=>(OpensNF.cons rfl ((OpensV.int Tryd.underlying3 (by kernel_rfl)) M) (OpensNF.cons rfl ((OpensV.int Tryd.underlying24 (by kernel_rfl)) M) (OpensNF.cons rfl ((OpensV.slice 1 Tryd.underlying25 (by kernel_rfl) (by kernel_rfl) (by decide) (B:=1) (by kernel_rfl) (OpensV.int Tryd.underlying5 (by kernel_rfl))) M) (OpensNF.one rfl (OpensN.slice 4 Tryd.underlying26 (by kernel_rfl) (by kernel_rfl) (by decide) (B:=64) (by kernel_rfl) (fun x=>by rw [encT28_eq];kernel_rfl) (fun M' hM'=>ih M' (by omega))))))))) (fun x:T28=>(x.Kind,x.Num,x.Bytes,x.Items)) (fun p=>(⟨p.1,p.2.1,p.2.2.1,p.2.2.2⟩:T28)) (fun _=>rfl)) (fun x => ?_)
  ·intro x;rfl
  ·exact encT28_eq.symm
set_option maxRecDepth 100000 in
theorem lifted (os:Os) (started:os.Started) (H:Type) (enc:TypeId×Value→H) :
 ReturnsInHanded {} Tryd.checked os 4 .any (fun w args=>(Rows.cborMakesSpec.pre enc Tryd.prog Tryd.f4 Rows.cborMakesRow.domain false w args∧laidMetH Tryd.prog Rows.cborMakesRow.laid w)∧sizedMet enc Tryd.prog Tryd.f4 (OpenSpec.ofChange Rows.cborMakesSpec) false w args) (Rows.cborMakesSpec.post enc Tryd.prog Tryd.f4 false true false false):=by
 refine returnsInHanded_of_change_and (C:=Tryd.checked) (X:=fun w _=>laidMetH Tryd.prog Rows.cborMakesRow.laid w) (fun _ _ _ hh h=>h.of_heap hh) own started (by kernel_rfl) Tryd.func4
  (ChangeSpec.witness_shaped (enc:=enc) (C:=Tryd.checked) (os:=os) (X:=fun w _=>laidMetH Tryd.prog Rows.cborMakesRow.laid w) false (World.laidAll Tryd.prog os Rows.cborMakesRow.laid) #[.int .u64 0,.slice none 0 0,.slice none 0 0] 8 (World.laidAll_os _ _ _)
   (World.shaped_of_ZipB (by kernel_rfl) (by kernel_rfl)) (by kernel_rfl) (by kernel_rfl) (by kernel_rfl)
   (by rw [MakeChecks.laidMetH_plain _ _ _ (by kernel_rfl)];exact laidMet_laidAll _ (by kernel_rfl) (by kernel_rfl))) ?_
 intro W base args ds gs before hval0 hW hcnd hsz0 hL _
 have hsz:(DataW.weightsEach Tryd.prog (Tryd.f4.params.toList++Rows.cborMakesSpec.plain.varTypes Tryd.prog) (ds++gs)).all (· ≤ reachBytes)=true:=hsz0
 have hval:∀ (j:Nat) t v,Tryd.f4.params[j]?=some t→args[j]?=some v→Value.okWide Tryd.prog W .any base t v:=hval0
 have hW':=hW
 obtain ⟨p,q,hA0,hV,rfl,hfz,hnd⟩:=hW
 have hA:DataW.TrodAll enc Tryd.prog W 0 (fun _=>true) true Tryd.f4.params.toList args.toList ds p:=hA0
 rw [Tryd.params4] at hA hval hsz
 obtain ⟨v0,vs0,d0,ds0,p0,q0,hargs,rfl,rfl,h0,r0⟩:=trodAll_cons hA
 obtain ⟨v1,vs1,d1,ds1,p1,q1,rfl,rfl,rfl,h1,r1⟩:=trodAll_cons r0
 obtain ⟨v2,vs2,d2,ds2,p2,q2,rfl,rfl,rfl,h2,r2⟩:=trodAll_cons r1
 obtain ⟨rfl,rfl,rfl⟩:=trodAll_nil r2
 obtain rfl:args = #[v0,v1,v2]:=by cases args;simp_all
 obtain ⟨rfl,rfl⟩:=trodVars_none hV
 have k0:=h0
 have lt0:∀ x∈p0,x.block<W.heap.size:=by obtain ⟨m,hm⟩:=k0;exact DataW.trod_lt m _ _ _ hm
 obtain ⟨x0,K0,g0⟩:=OpensV.arg (OpensV.int Tryd.underlying24 (by kernel_rfl)) hsz (j:=0) (t:=24) rfl rfl h0
 obtain ⟨z0,rfl⟩:=okWide_int Tryd.underlying24 (hval 0 24 v0 rfl rfl)
 have R0:Rep W (fun _=>undef) (fun b=>b<W.heap.size) (V.p (Value.int .u64 x0)) _:=RDs.cell K0 rfl
 have k1:=h1
 have lt1:∀ x∈p1,x.block<W.heap.size:=by obtain ⟨m,hm⟩:=k1;exact DataW.trod_lt m _ _ _ hm
 obtain ⟨x1,K1,g1⟩:=OpensV.arg (OpensV.slice 1 Tryd.underlying25 (by kernel_rfl) (by kernel_rfl) (by decide) (B:=1) (by kernel_rfl) (OpensV.int Tryd.underlying5 (by kernel_rfl))) hsz (j:=1) (t:=25) rfl rfl h1
 obtain ⟨za1,zl1,zc1,rfl⟩:=okWide_slice Tryd.underlying25 (hval 1 25 v1 rfl rfl)
 have R1:Rep W (fun _=>undef) (fun b=>b<W.heap.size) (V.sl 1 (rowsOf (encI .u8) x1)) _:=RDs.cell K1 rfl
 have k2:=h2
 have lt2:∀ x∈p2,x.block<W.heap.size:=by obtain ⟨m,hm⟩:=k2;exact DataW.trod_lt m _ _ _ hm
 obtain ⟨x2,K2,g2⟩:=OpensV.arg (OpensV.slice 6 Tryd.underlying22 (by kernel_rfl) (by kernel_rfl) (by decide) (B:=72) (by kernel_rfl) (OpensV.iso (OpensV.struct Tryd.underlying49 (by kernel_rfl) (OpensVF.cons rfl (OpensV.struct Tryd.underlying28 (by kernel_rfl) (OpensVF.cons rfl (OpensV.int Tryd.underlying3 (by kernel_rfl)) (OpensVF.cons rfl (OpensV.int Tryd.underlying24 (by kernel_rfl)) (OpensVF.cons rfl (OpensV.slice 1 Tryd.underlying25 (by kernel_rfl) (by kernel_rfl) (by decide) (B:=1) (by kernel_rfl) (OpensV.int Tryd.underlying5 (by kernel_rfl))) (OpensVF.one rfl (OpensV.slice 4 Tryd.underlying26 (by kernel_rfl) (by kernel_rfl) (by decide) (B:=64) (by kernel_rfl) opensR28)))))) (OpensVF.cons rfl (OpensV.bool Tryd.underlying4 (by kernel_rfl)) (OpensVF.one rfl (OpensV.bool Tryd.underlying4 (by kernel_rfl)))))) (fun x:T49=>((x.Item_Kind,x.Item_Num,x.Item_Bytes,x.Item_Items),x.Open,x.Close)) (fun p=>(⟨p.1.1,p.1.2.1,p.1.2.2.1,p.1.2.2.2,p.2.1,p.2.2⟩:T49)) (fun _=>rfl))) hsz (j:=2) (t:=22) rfl rfl h2
 obtain ⟨za2,zl2,zc2,rfl⟩:=okWide_slice Tryd.underlying22 (hval 2 22 v2 rfl rfl)
 have R2:Rep W (fun _=>undef) (fun b=>b<W.heap.size) (V.sl 6 (rowsOf encT49 x2)) _:=RDs.cell K2 rfl
 clear hA0 hval0 hsz0 hsz
 obtain ⟨k,hk⟩:=pureCborMakes x0 x1 x2 g0 g1 g2
 have hc:callV Tryd.prog ctx hints k 4 [V.p (Value.int .u64 x0),V.sl 1 (rowsOf (encI .u8) x1),V.sl 6 (rowsOf encT49 x2)] []=some (.p (.bool true),[],[]):=f4_ok k x0 x1 x2 _ hk
 refine (law_calls mixed ctxOk (by decide) hc rfl (fun i x v hx hv => ?_) rfl (layRep (tabsOf hL (by kernel_rfl) (.tail _ (.head _)) ((show Rows.laid_unicode_utf8_acceptRanges=Lib.acceptData by kernel_rfl)▸.head _)))).mono fun e W' ⟨he,bel⟩ => ?_
 ·match i,hx,hv with
  | 0,hx,hv=>cases hx;cases hv;exact R0
  | 1,hx,hv=>cases hx;cases hv;exact R1
  | 2,hx,hv=>cases hx;cases hv;exact R2
  | i+3,hx,hv=>simp at hx
 subst he
 exact ⟨_,rfl,_,_,_,[],_,[],hW',trodAll_mk1 (shut_bool Tryd.underlying4 _),(trodAll_cons_mk (Below.trod laidOut (by kernel_rfl) (of_decide_eq_true (by kernel_rfl)) k0 bel lt0) (trodAll_cons_mk (Below.trod laidOut (by kernel_rfl) (of_decide_eq_true (by kernel_rfl)) k1 bel lt1) (trodAll_cons_mk (Below.trod laidOut (by kernel_rfl) (of_decide_eq_true (by kernel_rfl)) k2 bel lt2) trodAll_mk0))),rfl,bel.frame _,fun h=>by cases h⟩
theorem over:Rows.cborMakesRow.holds Tryd.pinned (OpenSpec.ofChange Rows.cborMakesSpec) :=
 OpenClaim.holds_of_wide 4 Tryd.f4 rfl rfl rfl rfl rfl rfl rfl ⟨rfl,rfl,rfl,rfl,rfl⟩ rfl rfl rfl rfl rfl (by kernel_rfl) Tryd.func4 (by kernel_rfl)
  (of_decide_eq_true (by kernel_rfl)) (by unfold Func.isWrapper;first | (rw [if_pos (by decide +kernel)];kernel_rfl) | (rw [if_neg (by decide +kernel)];exact ⟨rfl,rfl⟩))
  (fun os started H enc _=>lifted os started H enc)
set_option maxRecDepth 100000 in
theorem proved:Rows.CborMakesCardSaid :=
 Claim7.holds_tied_plain_at .later [] [.data, .pinned] true (true, "7814ac63a2ac76ffb0b57afccbc5b7795bd19b697778d169a6d2bae0559d7ac3") false over (fun _ h => by cases h) (by kernel_rfl) (fun _ h => by cases h) cborMakes_row_tie rfl ⟨rfl, rfl⟩ (by kernel_rfl) rfl
  (fun f fn hf hfn=>by
   obtain rfl : f = 4 := Option.some.inj ((show Tryd.prog.funcNamed "heliograph/heliographlaw07.CborMakes" = some 4 by kernel_rfl).symm.trans hf) |>.symm
   obtain rfl:fn=Tryd.f4:=(Option.some.inj (Tryd.func4.symm.trans hfn)).symm
   exact ⟨by kernel_rfl,fun j t ht=>by
    rw [Tryd.params4] at ht
    have hm:t∈([24,25,22]:List TypeId):=by simpa using Array.mem_of_getElem? ht
    have hall:(([24,25,22]:List TypeId).all fun u => !Tryd.prog.wantsStandIn u)=true:=by kernel_rfl
    exact (show Tryd.prog.wantsStandIn t=false by simpa using List.all_eq_true.1 hall t hm)⟩)
  (by kernel_rfl)
#print axioms proved
end Go.Proofs.YtlelaenalbkbmaaDoor.cborMakes
namespace Go.Proofs.YtlelaenalbkbmaaDoor
theorem cborMakes_holds:Rows.CborMakesCardSaid:=cborMakes.proved
end Go.Proofs.YtlelaenalbkbmaaDoor