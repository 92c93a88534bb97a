/- The row of AgentWhole over its plain law. -/
import Derived.Test.YticggdfaehneeaaRows
import Derived.Test.YticggdfaehneeaaVPureAgentWhole
import Derived.Test.YticggdfaehneeaaHVi23
import Derived.WalkKit
import Derived.ProofKit
import Derived.OpenShut
import Derived.ShutString
import Derived.ChangeOld
import Derived.Below
import Derived.SizedLaws
import Derived.KernelRfl
namespace Go.Proofs.Yticggdfaehneeaa.agentWhole
open Go.ChangeShapes Go.WideShapes Go.ChangeAt Go.RowKit Go.Proofs.YticggdfaehneeaaV
set_option linter.unusedVariables false
theorem own:ownKnob Try.prog.godebug=none:=by kernel_rfl
theorem laidOut:laidOutB Try.prog=true:=by kernel_rfl
set_option maxRecDepth 100000 in
theorem lifted (os:Os) (started:os.Started) (H:Type) (enc:TypeId×Value→H) :
 ReturnsInHanded {} Try.checked os 4 .any (Rows.agentWholeSpec.pre6 enc Try.prog Try.f4 Rows.agentWholeRow.domain false) (Rows.agentWholeSpec.post enc Try.prog Try.f4 false true false false):=by
 refine returnsInHanded_of_change_sized (C:=Try.checked) own started (by kernel_rfl) Try.func4
  (ChangeSpec.witness6 (enc:=enc) (C:=Try.checked) false ⟨#[],#[.slice none 0 0,.int .i64 0,.slice none 0 0],[]⟩ 8 (by kernel_rfl) (by kernel_rfl) (by kernel_rfl) (by kernel_rfl)) ?_
 intro W base args ds gs before hval0 hW hcnd hsz0 _
 have hsz:(DataW.weightsEach Try.prog (Try.f4.params.toList++Rows.agentWholeSpec.plain.varTypes Try.prog) (ds++gs)).all (· ≤ reachBytes)=true:=hsz0
 have hval:∀ (j:Nat) t v,Try.f4.params[j]?=some t→args[j]?=some v→Value.okWide Try.prog W .any base t v:=hval0
 have hW':=hW
 obtain ⟨p,q,hA0,hV,rfl,hfz,hnd⟩:=hW
 have hA:DataW.TrodAll enc Try.prog W 0 (fun _=>true) true Try.f4.params.toList args.toList ds p:=hA0
 rw [Try.params4] at hA hval hsz
 obtain ⟨v0,vs0,d0,ds0,p0,q0,hargs,rfl,rfl,h0,r0⟩:=trodAll_cons hA
 obtain ⟨v1,vs1,d1,ds1,p1,q1,rfl,rfl,rfl,h1,r1⟩:=trodAll_cons r0
 obtain ⟨v2,vs2,d2,ds2,p2,q2,rfl,rfl,rfl,h2,r2⟩:=trodAll_cons r1
 obtain ⟨rfl,rfl,rfl⟩:=trodAll_nil r2
 obtain rfl:args = #[v0,v1,v2]:=by cases args;simp_all
 obtain ⟨rfl,rfl⟩:=trodVars_none hV
 have k0:=h0
 have lt0:∀ x∈p0,x.block<W.heap.size:=by obtain ⟨m,hm⟩:=k0;exact DataW.trod_lt m _ _ _ hm
 obtain ⟨x0,K0,g0⟩:=OpensV.arg (OpensV.slice 1 Try.underlying29 (by kernel_rfl) (by kernel_rfl) (by decide) (B:=1) (by kernel_rfl) (OpensV.int Try.underlying5 (by kernel_rfl))) hsz (j:=0) (t:=29) rfl rfl h0
 obtain ⟨za0,zl0,zc0,rfl⟩:=okWide_slice Try.underlying29 (hval 0 29 v0 rfl rfl)
 have R0:Rep W (fun _=>undef) (fun b=>b<W.heap.size) (V.sl 1 (rowsOf (encI .u8) x0)) _:=RDs.cell K0 rfl
 have k1:=h1
 have lt1:∀ x∈p1,x.block<W.heap.size:=by obtain ⟨m,hm⟩:=k1;exact DataW.trod_lt m _ _ _ hm
 obtain ⟨x1,K1,g1⟩:=OpensV.arg (OpensV.int Try.underlying3 (by kernel_rfl)) hsz (j:=1) (t:=3) rfl rfl h1
 obtain ⟨z1,rfl⟩:=okWide_int Try.underlying3 (hval 1 3 v1 rfl rfl)
 have R1:Rep W (fun _=>undef) (fun b=>b<W.heap.size) (V.p (Value.int .i64 x1)) _:=RDs.cell K1 rfl
 have k2:=h2
 have lt2:∀ x∈p2,x.block<W.heap.size:=by obtain ⟨m,hm⟩:=k2;exact DataW.trod_lt m _ _ _ hm
 obtain ⟨x2,K2,g2⟩:=OpensV.arg (OpensV.slice 1 Try.underlying44 (by kernel_rfl) (by kernel_rfl) (by decide) (B:=8) (by kernel_rfl) (OpensV.int Try.underlying3 (by kernel_rfl))) hsz (j:=2) (t:=44) rfl rfl h2
 obtain ⟨za2,zl2,zc2,rfl⟩:=okWide_slice Try.underlying44 (hval 2 44 v2 rfl rfl)
 have R2:Rep W (fun _=>undef) (fun b=>b<W.heap.size) (V.sl 1 (rowsOf (encI .i64) x2)) _:=RDs.cell K2 rfl
 clear hA0 hval0 hsz0 hsz
 obtain ⟨k,hk⟩:=pureAgentWhole x0 x1 x2 g0 g1 g2
 have hc:callV Try.prog ctx hints k 4 [V.sl 1 (rowsOf (encI .u8) x0),V.p (Value.int .i64 x1),V.sl 1 (rowsOf (encI .i64) x2)] []=some (.p (.bool true),[],[]):=f4_ok k x0 x1 x2 _ hk
 refine (law_calls mixed ctxOk (by decide) hc rfl (fun i x v hx hv => ?_) rfl (fun g cs h=>by simp [lay] at h)).mono fun e W' ⟨he,bel⟩ => ?_
 ·match i,hx,hv with
  | 0,hx,hv=>cases hx;cases hv;exact R0
  | 1,hx,hv=>cases hx;cases hv;exact R1
  | 2,hx,hv=>cases hx;cases hv;exact R2
  | i+3,hx,hv=>simp at hx
 subst he
 exact ⟨_,rfl,_,_,_,[],_,[],hW',trodAll_mk1 (shut_bool Try.underlying4 _),(trodAll_cons_mk (Below.trod laidOut (by kernel_rfl) (of_decide_eq_true (by kernel_rfl)) k0 bel lt0) (trodAll_cons_mk (Below.trod laidOut (by kernel_rfl) (of_decide_eq_true (by kernel_rfl)) k1 bel lt1) (trodAll_cons_mk (Below.trod laidOut (by kernel_rfl) (of_decide_eq_true (by kernel_rfl)) k2 bel lt2) trodAll_mk0))),rfl,bel.frame _,fun h=>by cases h⟩
theorem over:Rows.agentWholeRow.holds Try.pinned (OpenSpec.ofChange Rows.agentWholeSpec) :=
 OpenClaim.holds_of_wide 4 Try.f4 rfl rfl rfl rfl rfl rfl rfl ⟨rfl,rfl,rfl,rfl,rfl⟩ rfl rfl rfl rfl rfl (by kernel_rfl) Try.func4 (by kernel_rfl)
  (of_decide_eq_true (by kernel_rfl)) (by unfold Func.isWrapper;first | (rw [if_pos (by decide +kernel)];kernel_rfl) | (rw [if_neg (by decide +kernel)];exact ⟨rfl,rfl⟩))
  (fun os started H enc _=>lifted os started H enc)
theorem proved:Rows.AgentWholeSaid:=over
#print axioms proved
end Go.Proofs.Yticggdfaehneeaa.agentWhole
namespace Go.Proofs.Yticggdfaehneeaa
theorem agentWhole_holds:Rows.AgentWholeSaid:=agentWhole.proved
end Go.Proofs.Yticggdfaehneeaa