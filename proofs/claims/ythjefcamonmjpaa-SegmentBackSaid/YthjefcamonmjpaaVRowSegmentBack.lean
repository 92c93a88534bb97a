/- The row of SegmentBack over its plain law. -/
import Derived.Test.YthjefcamonmjpaaRows
import Derived.Test.YthjefcamonmjpaaVPureSegmentBack
import Derived.Test.YthjefcamonmjpaaHVi23
import Derived.WalkKit
import Derived.ProofKit
import Derived.OpenShut
import Derived.ShutString
import Derived.ChangeOld
import Derived.Below
import Derived.SizedLaws
import Derived.KernelRfl
namespace Go.Proofs.Ythjefcamonmjpaa.segmentBack
open Go.ChangeShapes Go.WideShapes Go.ChangeAt Go.RowKit Go.Proofs.YthjefcamonmjpaaV
set_option linter.unusedVariables false
theorem own : ownKnob Try.prog.godebug = none := by kernel_rfl
theorem laidOut : laidOutB Try.prog = true := by kernel_rfl
set_option maxRecDepth 100000 in
theorem lifted (os : Os) (started : os.Started) (H : Type) (enc : TypeId × Value → H) :
    ReturnsInHanded {} Try.checked os 5 .any (Rows.segmentBackSpec.pre6 enc Try.prog Try.f5 Rows.segmentBackRow.domain false) (Rows.segmentBackSpec.post enc Try.prog Try.f5 false true false false) := by
  refine returnsInHanded_of_change_sized (C := Try.checked) own started (by kernel_rfl) Try.func5
    (ChangeSpec.witness6 (enc := enc) (C := Try.checked) false ⟨#[], #[.agg #[.int .i64 0, .int .i64 0, .int .u32 0, .int .u32 0, .int .u32 0, .int .i64 0, .int .i64 0, .int .i64 0, .int .i64 0, .int .i64 0, .bool false, .slice none 0 0, .slice none 0 0], .slice none 0 0], []⟩ 8 (by kernel_rfl) (by kernel_rfl) (by kernel_rfl) (by kernel_rfl)) ?_
  intro W base args ds gs before hval0 hW hcnd hsz0 _
  have hsz : (DataW.weightsEach Try.prog (Try.f5.params.toList ++ Rows.segmentBackSpec.plain.varTypes Try.prog) (ds ++ gs)).all (· ≤ reachBytes) = true := hsz0
  have hval : ∀ (j : Nat) t v, Try.f5.params[j]? = some t → args[j]? = some v → Value.okWide Try.prog W .any base t v := hval0
  have hW' := hW
  obtain ⟨p, q, hA0, hV, rfl, hfz, hnd⟩ := hW
  have hA : DataW.TrodAll enc Try.prog W 0 (fun _ => true) true Try.f5.params.toList args.toList ds p := hA0
  rw [Try.params5] at hA hval hsz
  obtain ⟨v0, vs0, d0, ds0, p0, q0, hargs, rfl, rfl, h0, r0⟩ := trodAll_cons hA
  obtain ⟨v1, vs1, d1, ds1, p1, q1, rfl, rfl, rfl, h1, r1⟩ := trodAll_cons r0
  obtain ⟨rfl, rfl, rfl⟩ := trodAll_nil r1
  obtain rfl : args = #[v0, v1] := by cases args; simp_all
  obtain ⟨rfl, rfl⟩ := trodVars_none hV
  have k0 := h0
  have lt0 : ∀ x ∈ p0, x.block < W.heap.size := by obtain ⟨m, hm⟩ := k0; exact DataW.trod_lt m _ _ _ hm
  obtain ⟨x0, K0, g0⟩ := OpensV.arg (OpensV.iso (OpensV.struct Try.underlying26 (by kernel_rfl) (OpensVF.cons rfl (OpensV.int Try.underlying3 (by kernel_rfl)) (OpensVF.cons rfl (OpensV.int Try.underlying3 (by kernel_rfl)) (OpensVF.cons rfl (OpensV.int Try.underlying22 (by kernel_rfl)) (OpensVF.cons rfl (OpensV.int Try.underlying22 (by kernel_rfl)) (OpensVF.cons rfl (OpensV.int Try.underlying22 (by kernel_rfl)) (OpensVF.cons rfl (OpensV.int Try.underlying3 (by kernel_rfl)) (OpensVF.cons rfl (OpensV.int Try.underlying3 (by kernel_rfl)) (OpensVF.cons rfl (OpensV.int Try.underlying3 (by kernel_rfl)) (OpensVF.cons rfl (OpensV.int Try.underlying3 (by kernel_rfl)) (OpensVF.cons rfl (OpensV.int Try.underlying3 (by kernel_rfl)) (OpensVF.cons rfl (OpensV.bool Try.underlying4 (by kernel_rfl)) (OpensVF.cons rfl (OpensV.slice 1 Try.underlying23 (by kernel_rfl) (by kernel_rfl) (by decide) (B := 1) (by kernel_rfl) (OpensV.int Try.underlying5 (by kernel_rfl))) (OpensVF.one rfl (OpensV.slice 2 Try.underlying24 (by kernel_rfl) (by kernel_rfl) (by decide) (B := 16) (by kernel_rfl) (OpensV.iso (OpensV.struct Try.underlying45 (by kernel_rfl) (OpensVF.cons rfl (OpensV.int Try.underlying3 (by kernel_rfl)) (OpensVF.one rfl (OpensV.int Try.underlying3 (by kernel_rfl))))) (fun x : T45 => (x.At, x.N)) (fun p => (⟨p.1, p.2⟩ : T45)) (fun _ => rfl))))))))))))))))) (fun x : T26 => (x.Kind, x.Source, x.Session, x.Serial, x.Checks, x.Offset, x.Total, x.Lower, x.Upper, x.Reason, x.Check, x.Data, x.Claims)) (fun p => (⟨p.1, p.2.1, p.2.2.1, p.2.2.2.1, p.2.2.2.2.1, p.2.2.2.2.2.1, p.2.2.2.2.2.2.1, p.2.2.2.2.2.2.2.1, p.2.2.2.2.2.2.2.2.1, p.2.2.2.2.2.2.2.2.2.1, p.2.2.2.2.2.2.2.2.2.2.1, p.2.2.2.2.2.2.2.2.2.2.2.1, p.2.2.2.2.2.2.2.2.2.2.2.2⟩ : T26)) (fun _ => rfl)) hsz (j := 0) (t := 26) rfl rfl h0
  obtain ⟨z0, rfl, _⟩ := okWide_struct Try.underlying26 (hval 0 26 v0 rfl rfl)
  have R0 : Rep W (fun _ => undef) (fun b => b < W.heap.size) (V.agg (encT26 x0)) (.agg z0) := RDs.aggr K0
  have k1 := h1
  have lt1 : ∀ x ∈ p1, x.block < W.heap.size := by obtain ⟨m, hm⟩ := k1; exact DataW.trod_lt m _ _ _ hm
  obtain ⟨x1, K1, g1⟩ := OpensV.arg (OpensV.slice 1 Try.underlying23 (by kernel_rfl) (by kernel_rfl) (by decide) (B := 1) (by kernel_rfl) (OpensV.int Try.underlying5 (by kernel_rfl))) hsz (j := 1) (t := 23) rfl rfl h1
  obtain ⟨za1, zl1, zc1, rfl⟩ := okWide_slice Try.underlying23 (hval 1 23 v1 rfl rfl)
  have R1 : Rep W (fun _ => undef) (fun b => b < W.heap.size) (V.sl 1 (rowsOf (encI .u8) x1)) _ := RDs.cell K1 rfl
  clear hA0 hval0 hsz0 hsz
  obtain ⟨k, hk⟩ := pureSegmentBack x0 x1 g0 g1
  have hc : callV Try.prog ctx hints k 5 [V.agg (encT26 x0), V.sl 1 (rowsOf (encI .u8) x1)] [] = some (.p (.bool true), [], []) := f5_ai10brrzr_ok k x0.Kind x0.Source x0.Session x0.Serial x0.Checks x0.Offset x0.Total x0.Lower x0.Upper x0.Reason x0.Check x0.Data x0.Claims x1 _ hk
  refine (law_calls mixed ctxOk hc rfl (fun i x v hx hv => ?_) rfl).mono fun e W' ⟨he, bel⟩ => ?_
  · match i, hx, hv with
    | 0, hx, hv => cases hx; cases hv; exact R0
    | 1, hx, hv => cases hx; cases hv; exact R1
    | i + 2, hx, hv => simp at hx
  subst he
  exact ⟨_, rfl, _, _, _, [], _, [], hW', trodAll_mk1 (shut_bool Try.underlying4 _), (trodAll_cons_mk (Below.trod laidOut (by kernel_rfl) (of_decide_eq_true (by kernel_rfl)) k0 bel lt0) (trodAll_cons_mk (Below.trod laidOut (by kernel_rfl) (of_decide_eq_true (by kernel_rfl)) k1 bel lt1) trodAll_mk0)), rfl, bel.frame _, fun h => by cases h⟩
theorem over : Rows.segmentBackRow.holds Try.pinned (OpenSpec.ofChange Rows.segmentBackSpec) :=
  OpenClaim.holds_of_wide 5 Try.f5 rfl rfl rfl rfl rfl rfl rfl ⟨rfl, rfl, rfl, rfl, rfl⟩ rfl rfl rfl rfl rfl (by kernel_rfl) Try.func5 (by kernel_rfl)
    (of_decide_eq_true (by kernel_rfl)) (by unfold Func.isWrapper; first | (rw [if_pos (by decide +kernel)]; kernel_rfl) | (rw [if_neg (by decide +kernel)]; exact ⟨rfl, rfl⟩))
    (fun os started H enc _ => lifted os started H enc)
theorem proved : Rows.SegmentBackSaid := over
#print axioms proved
end Go.Proofs.Ythjefcamonmjpaa.segmentBack
namespace Go.Proofs.Ythjefcamonmjpaa
/-- The row, under a short name, for the claim. -/
theorem segmentBack_holds : Rows.SegmentBackSaid := segmentBack.proved
end Go.Proofs.Ythjefcamonmjpaa
