/- The row of AgentOnce over its plain law. -/
import Derived.Test.YticggdfaehneeaaRows
import Derived.Test.YticggdfaehneeaaVPureAgentOnce
import Derived.Test.YticggdfaehneeaaHVi23
import Derived.WalkKit
import Derived.ProofKit
import Derived.OpenShut
import Derived.ShutString
import Derived.ChangeOld
import Derived.Below
import Derived.SizedLaws
import Derived.KernelRfl
namespace Go.Proofs.Yticggdfaehneeaa.agentOnce
open Go.ChangeShapes Go.WideShapes Go.ChangeAt Go.RowKit Go.Proofs.YticggdfaehneeaaV
set_option linter.unusedVariables false
theorem own : ownKnob Try.prog.godebug = none := by kernel_rfl
theorem laidOut : laidOutB Try.prog = true := by kernel_rfl
set_option maxRecDepth 100000 in
theorem lifted (os : Os) (started : os.Started) (H : Type) (enc : TypeId × Value → H) :
  ReturnsInHanded {} Try.checked os 5 .any (Rows.agentOnceSpec.pre6 enc Try.prog Try.f5 Rows.agentOnceRow.domain false) (Rows.agentOnceSpec.post enc Try.prog Try.f5 false true false false) := by
 refine returnsInHanded_of_change_sized (C := Try.checked) own started (by kernel_rfl) Try.func5
  (ChangeSpec.witness6 (enc := enc) (C := Try.checked) false ⟨#[],#[.agg #[.int .i64 0,.int .u32 0,.slice none 0 0,.slice none 0 0],.agg #[.int .i64 0,.int .i64 0,.int .u32 0,.int .i64 0,.int .i64 0,.int .i64 0,.int .i64 0,.int .i64 0,.int .i64 0,.int .i64 0,.slice none 0 0],.int .i64 0],[]⟩ 8 (by kernel_rfl) (by kernel_rfl) (by kernel_rfl) (by kernel_rfl)) ?_
 intro W base args ds gs before hval0 hW hcnd hsz0 _
 have hsz : (DataW.weightsEach Try.prog (Try.f5.params.toList ++ Rows.agentOnceSpec.plain.varTypes Try.prog) (ds ++ gs)).all (· ≤ reachBytes) = true := hsz0
 have hval : ∀ (j : Nat) t v,Try.f5.params[j]? = some t → args[j]? = some v → Value.okWide Try.prog W .any base t v := hval0
 have hW' := hW
 obtain ⟨p,q,hA0,hV,rfl,hfz,hnd⟩ := hW
 have hA : DataW.TrodAll enc Try.prog W 0 (fun _ => true) true Try.f5.params.toList args.toList ds p := hA0
 rw [Try.params5] at hA hval hsz
 obtain ⟨v0,vs0,d0,ds0,p0,q0,hargs,rfl,rfl,h0,r0⟩ := trodAll_cons hA
 obtain ⟨v1,vs1,d1,ds1,p1,q1,rfl,rfl,rfl,h1,r1⟩ := trodAll_cons r0
 obtain ⟨v2,vs2,d2,ds2,p2,q2,rfl,rfl,rfl,h2,r2⟩ := trodAll_cons r1
 obtain ⟨rfl,rfl,rfl⟩ := trodAll_nil r2
 obtain rfl : args = #[v0,v1,v2] := by cases args; simp_all
 obtain ⟨rfl,rfl⟩ := trodVars_none hV
 have k0 := h0
 have lt0 : ∀ x ∈ p0,x.block < W.heap.size := by obtain ⟨m,hm⟩ := k0; exact DataW.trod_lt m _ _ _ hm
 obtain ⟨x0,K0,g0⟩ := OpensV.arg (OpensV.iso (OpensV.struct Try.underlying26 (by kernel_rfl) (OpensVF.cons rfl (OpensV.int Try.underlying3 (by kernel_rfl)) (OpensVF.cons rfl (OpensV.int Try.underlying22 (by kernel_rfl)) (OpensVF.cons rfl (OpensV.slice 4 Try.underlying23 (by kernel_rfl) (by kernel_rfl) (by decide) (B := 32) (by kernel_rfl) (OpensV.iso (OpensV.struct Try.underlying65 (by kernel_rfl) (OpensVF.cons rfl (OpensV.struct Try.underlying63 (by kernel_rfl) (OpensVF.cons rfl (OpensV.int Try.underlying3 (by kernel_rfl)) (OpensVF.cons rfl (OpensV.int Try.underlying22 (by kernel_rfl)) (OpensVF.one rfl (OpensV.int Try.underlying3 (by kernel_rfl)))))) (OpensVF.one rfl (OpensV.int Try.underlying3 (by kernel_rfl))))) (fun x : T65 => ((x.Key_Source,x.Key_Seq,x.Key_Offset),x.N)) (fun p => (⟨p.1.1,p.1.2.1,p.1.2.2,p.2⟩ : T65)) (fun _ => rfl))) (OpensVF.one rfl (OpensV.slice 11 Try.underlying24 (by kernel_rfl) (by kernel_rfl) (by decide) (B := 104) (by kernel_rfl) (OpensV.iso (OpensV.struct Try.underlying39 (by kernel_rfl) (OpensVF.cons rfl (OpensV.int Try.underlying3 (by kernel_rfl)) (OpensVF.cons rfl (OpensV.int Try.underlying3 (by kernel_rfl)) (OpensVF.cons rfl (OpensV.int Try.underlying22 (by kernel_rfl)) (OpensVF.cons rfl (OpensV.int Try.underlying3 (by kernel_rfl)) (OpensVF.cons rfl (OpensV.int Try.underlying3 (by kernel_rfl)) (OpensVF.cons rfl (OpensV.int Try.underlying3 (by kernel_rfl)) (OpensVF.cons rfl (OpensV.int Try.underlying3 (by kernel_rfl)) (OpensVF.cons rfl (OpensV.int Try.underlying3 (by kernel_rfl)) (OpensVF.cons rfl (OpensV.int Try.underlying3 (by kernel_rfl)) (OpensVF.cons rfl (OpensV.int Try.underlying3 (by kernel_rfl)) (OpensVF.one rfl (OpensV.slice 1 Try.underlying29 (by kernel_rfl) (by kernel_rfl) (by decide) (B := 1) (by kernel_rfl) (OpensV.int Try.underlying5 (by kernel_rfl))))))))))))))) (fun x : T39 => (x.Source,x.Dest,x.Seq,x.Created,x.Lifetime,x.HopLimit,x.Hops,x.Priority,x.Offset,x.Total,x.Payload)) (fun p => (⟨p.1,p.2.1,p.2.2.1,p.2.2.2.1,p.2.2.2.2.1,p.2.2.2.2.2.1,p.2.2.2.2.2.2.1,p.2.2.2.2.2.2.2.1,p.2.2.2.2.2.2.2.2.1,p.2.2.2.2.2.2.2.2.2.1,p.2.2.2.2.2.2.2.2.2.2⟩ : T39)) (fun _ => rfl)))))))) (fun x : T26 => (x.Node,x.Next,x.Seen,x.Parts)) (fun p => (⟨p.1,p.2.1,p.2.2.1,p.2.2.2⟩ : T26)) (fun _ => rfl)) hsz (j := 0) (t := 26) rfl rfl h0
 obtain ⟨z0,rfl,_⟩ := okWide_struct Try.underlying26 (hval 0 26 v0 rfl rfl)
 have R0 : Rep W (fun _ => undef) (fun b => b < W.heap.size) (V.agg (encT26 x0)) (.agg z0) := RDs.aggr K0
 have k1 := h1
 have lt1 : ∀ x ∈ p1,x.block < W.heap.size := by obtain ⟨m,hm⟩ := k1; exact DataW.trod_lt m _ _ _ hm
 obtain ⟨x1,K1,g1⟩ := OpensV.arg (OpensV.iso (OpensV.struct Try.underlying39 (by kernel_rfl) (OpensVF.cons rfl (OpensV.int Try.underlying3 (by kernel_rfl)) (OpensVF.cons rfl (OpensV.int Try.underlying3 (by kernel_rfl)) (OpensVF.cons rfl (OpensV.int Try.underlying22 (by kernel_rfl)) (OpensVF.cons rfl (OpensV.int Try.underlying3 (by kernel_rfl)) (OpensVF.cons rfl (OpensV.int Try.underlying3 (by kernel_rfl)) (OpensVF.cons rfl (OpensV.int Try.underlying3 (by kernel_rfl)) (OpensVF.cons rfl (OpensV.int Try.underlying3 (by kernel_rfl)) (OpensVF.cons rfl (OpensV.int Try.underlying3 (by kernel_rfl)) (OpensVF.cons rfl (OpensV.int Try.underlying3 (by kernel_rfl)) (OpensVF.cons rfl (OpensV.int Try.underlying3 (by kernel_rfl)) (OpensVF.one rfl (OpensV.slice 1 Try.underlying29 (by kernel_rfl) (by kernel_rfl) (by decide) (B := 1) (by kernel_rfl) (OpensV.int Try.underlying5 (by kernel_rfl))))))))))))))) (fun x : T39 => (x.Source,x.Dest,x.Seq,x.Created,x.Lifetime,x.HopLimit,x.Hops,x.Priority,x.Offset,x.Total,x.Payload)) (fun p => (⟨p.1,p.2.1,p.2.2.1,p.2.2.2.1,p.2.2.2.2.1,p.2.2.2.2.2.1,p.2.2.2.2.2.2.1,p.2.2.2.2.2.2.2.1,p.2.2.2.2.2.2.2.2.1,p.2.2.2.2.2.2.2.2.2.1,p.2.2.2.2.2.2.2.2.2.2⟩ : T39)) (fun _ => rfl)) hsz (j := 1) (t := 39) rfl rfl h1
 obtain ⟨z1,rfl,_⟩ := okWide_struct Try.underlying39 (hval 1 39 v1 rfl rfl)
 have R1 : Rep W (fun _ => undef) (fun b => b < W.heap.size) (V.agg (encT39 x1)) (.agg z1) := RDs.aggr K1
 have k2 := h2
 have lt2 : ∀ x ∈ p2,x.block < W.heap.size := by obtain ⟨m,hm⟩ := k2; exact DataW.trod_lt m _ _ _ hm
 obtain ⟨x2,K2,g2⟩ := OpensV.arg (OpensV.int Try.underlying3 (by kernel_rfl)) hsz (j := 2) (t := 3) rfl rfl h2
 obtain ⟨z2,rfl⟩ := okWide_int Try.underlying3 (hval 2 3 v2 rfl rfl)
 have R2 : Rep W (fun _ => undef) (fun b => b < W.heap.size) (V.p (Value.int .i64 x2)) _ := RDs.cell K2 rfl
 clear hA0 hval0 hsz0 hsz
 obtain ⟨k,hk⟩ := pureAgentOnce x0 x1 x2 g0 g1 g2
 have hc : callV Try.prog ctx hints k 5 [V.agg (encT26 x0),V.agg (encT39 x1),V.p (Value.int .i64 x2)] [] = some (.p (.bool true),[],[]) := f5_aiirrzai10rzi_ok k x0.Node x0.Next x0.Seen x0.Parts x1.Source x1.Dest x1.Seq x1.Created x1.Lifetime x1.HopLimit x1.Hops x1.Priority x1.Offset x1.Total x1.Payload x2 _ hk
 refine (law_calls mixed ctxOk (by decide) hc rfl (fun i x v hx hv => ?_) rfl (fun g cs h => by simp [lay] at h)).mono fun e W' ⟨he,bel⟩ => ?_
 ·match i,hx,hv with
  | 0,hx,hv => cases hx; cases hv; exact R0
  | 1,hx,hv => cases hx; cases hv; exact R1
  | 2,hx,hv => cases hx; cases hv; exact R2
  | i + 3,hx,hv => simp at hx
 subst he
 exact ⟨_,rfl,_,_,_,[],_,[],hW',trodAll_mk1 (shut_bool Try.underlying4 _),(trodAll_cons_mk (Below.trod laidOut (by kernel_rfl) (of_decide_eq_true (by kernel_rfl)) k0 bel lt0) (trodAll_cons_mk (Below.trod laidOut (by kernel_rfl) (of_decide_eq_true (by kernel_rfl)) k1 bel lt1) (trodAll_cons_mk (Below.trod laidOut (by kernel_rfl) (of_decide_eq_true (by kernel_rfl)) k2 bel lt2) trodAll_mk0))),rfl,bel.frame _,fun h => by cases h⟩
theorem over : Rows.agentOnceRow.holds Try.pinned (OpenSpec.ofChange Rows.agentOnceSpec) :=
 OpenClaim.holds_of_wide 5 Try.f5 rfl rfl rfl rfl rfl rfl rfl ⟨rfl,rfl,rfl,rfl,rfl⟩ rfl rfl rfl rfl rfl (by kernel_rfl) Try.func5 (by kernel_rfl)
  (of_decide_eq_true (by kernel_rfl)) (by unfold Func.isWrapper; first | (rw [if_pos (by decide +kernel)]; kernel_rfl) | (rw [if_neg (by decide +kernel)]; exact ⟨rfl,rfl⟩))
  (fun os started H enc _ => lifted os started H enc)
theorem proved : Rows.AgentOnceSaid := over
#print axioms proved
end Go.Proofs.Yticggdfaehneeaa.agentOnce
namespace Go.Proofs.Yticggdfaehneeaa
theorem agentOnce_holds : Rows.AgentOnceSaid := agentOnce.proved
end Go.Proofs.Yticggdfaehneeaa