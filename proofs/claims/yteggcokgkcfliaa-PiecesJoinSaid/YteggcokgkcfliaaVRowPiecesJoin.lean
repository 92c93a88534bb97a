/- The row of PiecesJoin over its plain law. -/
import Derived.Test.YteggcokgkcfliaaRows
import Derived.Test.YteggcokgkcfliaaVPurePiecesJoin
import Derived.Test.YteggcokgkcfliaaHVi23
import Derived.WalkKit
import Derived.ProofKit
import Derived.OpenShut
import Derived.ShutString
import Derived.ChangeOld
import Derived.Below
import Derived.SizedLaws
import Derived.KernelRfl
namespace Go.Proofs.Yteggcokgkcfliaa.piecesJoin
open Go.ChangeShapes Go.WideShapes Go.ChangeAt Go.RowKit Go.Proofs.YteggcokgkcfliaaV
set_option linter.unusedVariables false
theorem own : ownKnob Try.prog.godebug = none := by kernel_rfl
theorem laidOut : laidOutB Try.prog = true := by kernel_rfl
set_option maxRecDepth 100000 in
theorem lifted (os : Os) (started : os.Started) (H : Type) (enc : TypeId × Value → H) :
    ReturnsInHanded {} Try.checked os 6 .any (Rows.piecesJoinSpec.pre6 enc Try.prog Try.f6 Rows.piecesJoinRow.domain false) (Rows.piecesJoinSpec.post enc Try.prog Try.f6 false true false false) := by
  refine returnsInHanded_of_change_sized (C := Try.checked) own started (by kernel_rfl) Try.func6
    (ChangeSpec.witness6 (enc := enc) (C := Try.checked) false ⟨#[], #[.slice none 0 0], []⟩ 8 (by kernel_rfl) (by kernel_rfl) (by kernel_rfl) (by kernel_rfl)) ?_
  intro W base args ds gs before hval0 hW hcnd hsz0 _
  have hsz : (DataW.weightsEach Try.prog (Try.f6.params.toList ++ Rows.piecesJoinSpec.plain.varTypes Try.prog) (ds ++ gs)).all (· ≤ reachBytes) = true := hsz0
  have hval : ∀ (j : Nat) t v, Try.f6.params[j]? = some t → args[j]? = some v → Value.okWide Try.prog W .any base t v := hval0
  have hW' := hW
  obtain ⟨p, q, hA0, hV, rfl, hfz, hnd⟩ := hW
  have hA : DataW.TrodAll enc Try.prog W 0 (fun _ => true) true Try.f6.params.toList args.toList ds p := hA0
  rw [Try.params6] at hA hval hsz
  obtain ⟨v0, vs0, d0, ds0, p0, q0, hargs, rfl, rfl, h0, r0⟩ := trodAll_cons hA
  obtain ⟨rfl, rfl, rfl⟩ := trodAll_nil r0
  obtain rfl : args = #[v0] := by cases args; simp_all
  obtain ⟨rfl, rfl⟩ := trodVars_none hV
  have k0 := h0
  have lt0 : ∀ x ∈ p0, x.block < W.heap.size := by obtain ⟨m, hm⟩ := k0; exact DataW.trod_lt m _ _ _ hm
  obtain ⟨x0, K0, g0⟩ := OpensV.arg (OpensV.slice 11 Try.underlying28 (by kernel_rfl) (by kernel_rfl) (by decide) (B := 104) (by kernel_rfl) (OpensV.iso (OpensV.struct Try.underlying25 (by kernel_rfl) (OpensVF.cons rfl (OpensV.int Try.underlying3 (by kernel_rfl)) (OpensVF.cons rfl (OpensV.int Try.underlying3 (by kernel_rfl)) (OpensVF.cons rfl (OpensV.int Try.underlying22 (by kernel_rfl)) (OpensVF.cons rfl (OpensV.int Try.underlying3 (by kernel_rfl)) (OpensVF.cons rfl (OpensV.int Try.underlying3 (by kernel_rfl)) (OpensVF.cons rfl (OpensV.int Try.underlying3 (by kernel_rfl)) (OpensVF.cons rfl (OpensV.int Try.underlying3 (by kernel_rfl)) (OpensVF.cons rfl (OpensV.int Try.underlying3 (by kernel_rfl)) (OpensVF.cons rfl (OpensV.int Try.underlying3 (by kernel_rfl)) (OpensVF.cons rfl (OpensV.int Try.underlying3 (by kernel_rfl)) (OpensVF.one rfl (OpensV.slice 1 Try.underlying23 (by kernel_rfl) (by kernel_rfl) (by decide) (B := 1) (by kernel_rfl) (OpensV.int Try.underlying5 (by kernel_rfl))))))))))))))) (fun x : T25 => (x.Source, x.Dest, x.Seq, x.Created, x.Lifetime, x.HopLimit, x.Hops, x.Priority, x.Offset, x.Total, x.Payload)) (fun p => (⟨p.1, p.2.1, p.2.2.1, p.2.2.2.1, p.2.2.2.2.1, p.2.2.2.2.2.1, p.2.2.2.2.2.2.1, p.2.2.2.2.2.2.2.1, p.2.2.2.2.2.2.2.2.1, p.2.2.2.2.2.2.2.2.2.1, p.2.2.2.2.2.2.2.2.2.2⟩ : T25)) (fun _ => rfl))) hsz (j := 0) (t := 28) rfl rfl h0
  obtain ⟨za0, zl0, zc0, rfl⟩ := okWide_slice Try.underlying28 (hval 0 28 v0 rfl rfl)
  have R0 : Rep W (fun _ => undef) (fun b => b < W.heap.size) (V.sl 11 (rowsOf encT25 x0)) _ := RDs.cell K0 rfl
  clear hA0 hval0 hsz0 hsz
  obtain ⟨k, hk⟩ := purePiecesJoin x0 g0
  have hc : callV Try.prog ctx hints k 6 [V.sl 11 (rowsOf encT25 x0)] [] = some (.p (.bool true), [], []) := f6_r_ok k x0 _ hk
  refine (law_calls mixed ctxOk (by decide) hc rfl (fun i x v hx hv => ?_) rfl (fun g cs h => by simp [lay] at h)).mono fun e W' ⟨he, bel⟩ => ?_
  · match i, hx, hv with
    | 0, hx, hv => cases hx; cases hv; exact R0
    | i + 1, hx, hv => simp at hx
  subst he
  exact ⟨_, rfl, _, _, _, [], _, [], hW', trodAll_mk1 (shut_bool Try.underlying4 _), (trodAll_cons_mk (Below.trod laidOut (by kernel_rfl) (of_decide_eq_true (by kernel_rfl)) k0 bel lt0) trodAll_mk0), rfl, bel.frame _, fun h => by cases h⟩
theorem over : Rows.piecesJoinRow.holds Try.pinned (OpenSpec.ofChange Rows.piecesJoinSpec) :=
  OpenClaim.holds_of_wide 6 Try.f6 rfl rfl rfl rfl rfl rfl rfl ⟨rfl, rfl, rfl, rfl, rfl⟩ rfl rfl rfl rfl rfl (by kernel_rfl) Try.func6 (by kernel_rfl)
    (of_decide_eq_true (by kernel_rfl)) (by unfold Func.isWrapper; first | (rw [if_pos (by decide +kernel)]; kernel_rfl) | (rw [if_neg (by decide +kernel)]; exact ⟨rfl, rfl⟩))
    (fun os started H enc _ => lifted os started H enc)
theorem proved : Rows.PiecesJoinSaid := over
#print axioms proved
end Go.Proofs.Yteggcokgkcfliaa.piecesJoin
namespace Go.Proofs.Yteggcokgkcfliaa
/-- The row, under a short name, for the claim. -/
theorem piecesJoin_holds : Rows.PiecesJoinSaid := piecesJoin.proved
end Go.Proofs.Yteggcokgkcfliaa
