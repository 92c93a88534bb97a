/- The row of BundleEncodes over its plain law. -/
import Derived.Test.YtbnnmplkbpgcaaaDoorRows
import Derived.Test.YtbnnmplkbpgcaaaDoorVPureBundleEncodes
import Derived.Test.YtbnnmplkbpgcaaaDoorHVi23
import Derived.WalkKit
import Derived.ProofKit
import Derived.OpenShut
import Derived.ShutString
import Derived.ChangeOld
import Derived.Below
import Derived.SizedLaws
import Derived.KernelRfl
import Derived.Test.YtbnnmplkbpgcaaaDoorCards
import Derived.Test.YtbnnmplkbpgcaaaDoorTie
import Derived.LaidMore
import Derived.Lay
import Derived.SevenTiedAt
import Derived.Stop.Joined
namespace Go.Proofs.YtbnnmplkbpgcaaaDoor.bundleEncodes
open Go.ChangeShapes Go.WideShapes Go.ChangeAt Go.RowKit Go.Proofs.YtbnnmplkbpgcaaaDoorV
set_option linter.unusedVariables false
theorem own : ownKnob Tryd.prog.godebug = none := by kernel_rfl
theorem laidOut : laidOutB Tryd.prog = true := by kernel_rfl
set_option maxRecDepth 100000 in
theorem lifted (os : Os) (started : os.Started) (H : Type) (enc : TypeId × Value → H) :
    ReturnsInHanded {} Tryd.checked os 6 .any (fun w args => (Rows.bundleEncodesSpec.pre enc Tryd.prog Tryd.f6 Rows.bundleEncodesRow.domain false w args ∧ laidMetH Tryd.prog Rows.bundleEncodesRow.laid w) ∧ sizedMet enc Tryd.prog Tryd.f6 (OpenSpec.ofChange Rows.bundleEncodesSpec) false w args) (Rows.bundleEncodesSpec.post enc Tryd.prog Tryd.f6 false true false false) := by
  refine returnsInHanded_of_change_and (C := Tryd.checked) (X := fun w _ => laidMetH Tryd.prog Rows.bundleEncodesRow.laid w) (fun _ _ _ hh h => h.of_heap hh) own started (by kernel_rfl) Tryd.func6
    (ChangeSpec.witness_shaped (enc := enc) (C := Tryd.checked) (os := os) (X := fun w _ => laidMetH Tryd.prog Rows.bundleEncodesRow.laid w) false (World.laidAll Tryd.prog os Rows.bundleEncodesRow.laid) #[.agg #[.int .i64 0, .int .i64 0, .int .u32 0, .int .i64 0, .int .i64 0, .int .i64 0, .int .i64 0, .int .i64 0, .int .i64 0, .int .i64 0, .slice none 0 0]] 8 (World.laidAll_os _ _ _)
      (World.shaped_of_ZipB (by kernel_rfl) (by kernel_rfl)) (by kernel_rfl) (by kernel_rfl) (by kernel_rfl)
      (by rw [MakeChecks.laidMetH_plain _ _ _ (by kernel_rfl)]; exact laidMet_laidAll _ (by kernel_rfl) (by kernel_rfl))) ?_
  intro W base args ds gs before hval0 hW hcnd hsz0 hL _
  have hsz : (DataW.weightsEach Tryd.prog (Tryd.f6.params.toList ++ Rows.bundleEncodesSpec.plain.varTypes Tryd.prog) (ds ++ gs)).all (· ≤ reachBytes) = true := hsz0
  have hval : ∀ (j : Nat) t v, Tryd.f6.params[j]? = some t → args[j]? = some v → Value.okWide Tryd.prog W .any base t v := hval0
  have hW' := hW
  obtain ⟨p, q, hA0, hV, rfl, hfz, hnd⟩ := hW
  have hA : DataW.TrodAll enc Tryd.prog W 0 (fun _ => true) true Tryd.f6.params.toList args.toList ds p := hA0
  rw [Tryd.params6] at hA hval hsz
  obtain ⟨v0, vs0, d0, ds0, p0, q0, hargs, rfl, rfl, h0, r0⟩ := trodAll_cons hA
  obtain ⟨rfl, rfl, rfl⟩ := trodAll_nil r0
  obtain rfl : args = #[v0] := by cases args; simp_all
  obtain ⟨rfl, rfl⟩ := trodVars_none hV
  have k0 := h0
  have lt0 : ∀ x ∈ p0, x.block < W.heap.size := by obtain ⟨m, hm⟩ := k0; exact DataW.trod_lt m _ _ _ hm
  obtain ⟨x0, K0, g0⟩ := OpensV.arg (OpensV.iso (OpensV.struct Tryd.underlying26 (by kernel_rfl) (OpensVF.cons rfl (OpensV.int Tryd.underlying3 (by kernel_rfl)) (OpensVF.cons rfl (OpensV.int Tryd.underlying3 (by kernel_rfl)) (OpensVF.cons rfl (OpensV.int Tryd.underlying24 (by kernel_rfl)) (OpensVF.cons rfl (OpensV.int Tryd.underlying3 (by kernel_rfl)) (OpensVF.cons rfl (OpensV.int Tryd.underlying3 (by kernel_rfl)) (OpensVF.cons rfl (OpensV.int Tryd.underlying3 (by kernel_rfl)) (OpensVF.cons rfl (OpensV.int Tryd.underlying3 (by kernel_rfl)) (OpensVF.cons rfl (OpensV.int Tryd.underlying3 (by kernel_rfl)) (OpensVF.cons rfl (OpensV.int Tryd.underlying3 (by kernel_rfl)) (OpensVF.cons rfl (OpensV.int Tryd.underlying3 (by kernel_rfl)) (OpensVF.one rfl (OpensV.slice 1 Tryd.underlying22 (by kernel_rfl) (by kernel_rfl) (by decide) (B := 1) (by kernel_rfl) (OpensV.int Tryd.underlying5 (by kernel_rfl))))))))))))))) (fun x : T26 => (x.Source, x.Dest, x.Seq, x.Created, x.Lifetime, x.HopLimit, x.Hops, x.Priority, x.Offset, x.Total, x.Payload)) (fun p => (⟨p.1, p.2.1, p.2.2.1, p.2.2.2.1, p.2.2.2.2.1, p.2.2.2.2.2.1, p.2.2.2.2.2.2.1, p.2.2.2.2.2.2.2.1, p.2.2.2.2.2.2.2.2.1, p.2.2.2.2.2.2.2.2.2.1, p.2.2.2.2.2.2.2.2.2.2⟩ : T26)) (fun _ => rfl)) hsz (j := 0) (t := 26) rfl rfl h0
  obtain ⟨z0, rfl, _⟩ := okWide_struct Tryd.underlying26 (hval 0 26 v0 rfl rfl)
  have R0 : Rep W (fun _ => undef) (fun b => b < W.heap.size) (V.agg (encT26 x0)) (.agg z0) := RDs.aggr K0
  clear hA0 hval0 hsz0 hsz
  obtain ⟨k, hk⟩ := pureBundleEncodes x0 g0
  have hc : callV Tryd.prog ctx hints k 6 [V.agg (encT26 x0)] [] = some (.p (.bool true), [], []) := f6_ai10rz_ok k x0.Source x0.Dest x0.Seq x0.Created x0.Lifetime x0.HopLimit x0.Hops x0.Priority x0.Offset x0.Total x0.Payload _ hk
  refine (law_calls mixed ctxOk (by decide) hc rfl (fun i x v hx hv => ?_) rfl (fun g cs h => by simp [lay] at h)).mono fun e W' ⟨he, bel⟩ => ?_
  · match i, hx, hv with
    | 0, hx, hv => cases hx; cases hv; exact R0
    | i + 1, hx, hv => simp at hx
  subst he
  exact ⟨_, rfl, _, _, _, [], _, [], hW', trodAll_mk1 (shut_bool Tryd.underlying4 _), (trodAll_cons_mk (Below.trod laidOut (by kernel_rfl) (of_decide_eq_true (by kernel_rfl)) k0 bel lt0) trodAll_mk0), rfl, bel.frame _, fun h => by cases h⟩
theorem over : Rows.bundleEncodesRow.holds Tryd.pinned (OpenSpec.ofChange Rows.bundleEncodesSpec) :=
  OpenClaim.holds_of_wide 6 Tryd.f6 rfl rfl rfl rfl rfl rfl rfl ⟨rfl, rfl, rfl, rfl, rfl⟩ rfl rfl rfl rfl rfl (by kernel_rfl) Tryd.func6 (by kernel_rfl)
    (of_decide_eq_true (by kernel_rfl)) (by unfold Func.isWrapper; first | (rw [if_pos (by decide +kernel)]; kernel_rfl) | (rw [if_neg (by decide +kernel)]; exact ⟨rfl, rfl⟩))
    (fun os started H enc _ => lifted os started H enc)
set_option maxRecDepth 100000 in
theorem proved : Rows.BundleEncodesCardSaid :=
  Claim7.holds_tied_plain_at .later [] [.data, .pinned] true (true, "7852ad45a36809b396c453242f632351dbef721a7dc13a8474df7a2a37d2c316") false over (fun _ h => by cases h) (by kernel_rfl) (fun _ h => by cases h) bundleEncodes_row_tie rfl ⟨rfl, rfl⟩ (by kernel_rfl) rfl
    (fun f fn hf hfn => by
      obtain rfl : f = 6 := Option.some.inj ((show Tryd.prog.funcNamed "heliograph/heliographlaw09.BundleEncodes" = some 6 by kernel_rfl).symm.trans hf) |>.symm
      obtain rfl : fn = Tryd.f6 := (Option.some.inj (Tryd.func6.symm.trans hfn)).symm
      exact ⟨by kernel_rfl, fun j t ht => by
        rw [Tryd.params6] at ht
        have hm : t ∈ ([26] : List TypeId) := by simpa using Array.mem_of_getElem? ht
        have hall : (([26] : List TypeId).all fun u => !Tryd.prog.wantsStandIn u) = true := by kernel_rfl
        exact (show Tryd.prog.wantsStandIn t = false by simpa using List.all_eq_true.1 hall t hm)⟩)
    (by kernel_rfl)
#print axioms proved
end Go.Proofs.YtbnnmplkbpgcaaaDoor.bundleEncodes
namespace Go.Proofs.YtbnnmplkbpgcaaaDoor
/-- The row, under a short name, for the claim. -/
theorem bundleEncodes_holds : Rows.BundleEncodesCardSaid := bundleEncodes.proved
end Go.Proofs.YtbnnmplkbpgcaaaDoor
