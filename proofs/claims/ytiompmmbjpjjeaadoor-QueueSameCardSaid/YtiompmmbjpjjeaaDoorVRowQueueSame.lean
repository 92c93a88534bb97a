/- The row of QueueSame over its plain law. -/
import Derived.Test.YtiompmmbjpjjeaaDoorRows
import Derived.Test.YtiompmmbjpjjeaaDoorVPureQueueSame
import Derived.Test.YtiompmmbjpjjeaaDoorHVi23
import Derived.WalkKit
import Derived.ProofKit
import Derived.OpenShut
import Derived.ShutString
import Derived.ChangeOld
import Derived.Below
import Derived.SizedLaws
import Derived.KernelRfl
import Derived.Test.YtiompmmbjpjjeaaDoorCards
import Derived.Test.YtiompmmbjpjjeaaDoorTie
import Derived.LaidMore
import Derived.Lay
import Derived.SevenTiedAt
import Derived.Stop.Joined
namespace Go.Proofs.YtiompmmbjpjjeaaDoor.queueSame
open Go.ChangeShapes Go.WideShapes Go.ChangeAt Go.RowKit Go.Proofs.YtiompmmbjpjjeaaDoorV
set_option linter.unusedVariables false
theorem own : ownKnob Tryd.prog.godebug = none := by kernel_rfl
theorem laidOut : laidOutB Tryd.prog = true := by kernel_rfl
set_option maxRecDepth 100000 in
theorem lifted (os : Os) (started : os.Started) (H : Type) (enc : TypeId × Value → H) :
    ReturnsInHanded {} Tryd.checked os 7 .any (fun w args => (Rows.queueSameSpec.pre enc Tryd.prog Tryd.f7 Rows.queueSameRow.domain false w args ∧ laidMetH Tryd.prog Rows.queueSameRow.laid w) ∧ sizedMet enc Tryd.prog Tryd.f7 (OpenSpec.ofChange Rows.queueSameSpec) false w args) (Rows.queueSameSpec.post enc Tryd.prog Tryd.f7 false true false false) := by
  refine returnsInHanded_of_change_and (C := Tryd.checked) (X := fun w _ => laidMetH Tryd.prog Rows.queueSameRow.laid w) (fun _ _ _ hh h => h.of_heap hh) own started (by kernel_rfl) Tryd.func7
    (ChangeSpec.witness_shaped (enc := enc) (C := Tryd.checked) (os := os) (X := fun w _ => laidMetH Tryd.prog Rows.queueSameRow.laid w) false (World.laidAll Tryd.prog os Rows.queueSameRow.laid) #[.agg #[.slice none 0 0, .slice none 0 0, .slice none 0 0, .slice none 0 0], .agg #[.slice none 0 0, .slice none 0 0, .slice none 0 0, .slice none 0 0]] 8 (World.laidAll_os _ _ _)
      (World.shaped_of_ZipB (by kernel_rfl) (by kernel_rfl)) (by kernel_rfl) (by kernel_rfl) (by kernel_rfl)
      (by rw [MakeChecks.laidMetH_plain _ _ _ (by kernel_rfl)]; exact laidMet_laidAll _ (by kernel_rfl) (by kernel_rfl))) ?_
  intro W base args ds gs before hval0 hW hcnd hsz0 hL _
  have hsz : (DataW.weightsEach Tryd.prog (Tryd.f7.params.toList ++ Rows.queueSameSpec.plain.varTypes Tryd.prog) (ds ++ gs)).all (· ≤ reachBytes) = true := hsz0
  have hval : ∀ (j : Nat) t v, Tryd.f7.params[j]? = some t → args[j]? = some v → Value.okWide Tryd.prog W .any base t v := hval0
  have hW' := hW
  obtain ⟨p, q, hA0, hV, rfl, hfz, hnd⟩ := hW
  have hA : DataW.TrodAll enc Tryd.prog W 0 (fun _ => true) true Tryd.f7.params.toList args.toList ds p := hA0
  rw [Tryd.params7] at hA hval hsz
  obtain ⟨v0, vs0, d0, ds0, p0, q0, hargs, rfl, rfl, h0, r0⟩ := trodAll_cons hA
  obtain ⟨v1, vs1, d1, ds1, p1, q1, rfl, rfl, rfl, h1, r1⟩ := trodAll_cons r0
  obtain ⟨rfl, rfl, rfl⟩ := trodAll_nil r1
  obtain rfl : args = #[v0, v1] := by cases args; simp_all
  obtain ⟨rfl, rfl⟩ := trodVars_none hV
  have k0 := h0
  have lt0 : ∀ x ∈ p0, x.block < W.heap.size := by obtain ⟨m, hm⟩ := k0; exact DataW.trod_lt m _ _ _ hm
  obtain ⟨x0, K0, g0⟩ := OpensV.arg (OpensV.iso (OpensV.struct Tryd.underlying37 (by kernel_rfl) (OpensVF.cons rfl (OpensV.slice 5 Tryd.underlying35 (by kernel_rfl) (by kernel_rfl) (by decide) (B := 40) (by kernel_rfl) (OpensV.iso (OpensV.struct Tryd.underlying56 (by kernel_rfl) (OpensVF.cons rfl (OpensV.struct Tryd.underlying44 (by kernel_rfl) (OpensVF.cons rfl (OpensV.int Tryd.underlying3 (by kernel_rfl)) (OpensVF.cons rfl (OpensV.int Tryd.underlying42 (by kernel_rfl)) (OpensVF.one rfl (OpensV.int Tryd.underlying3 (by kernel_rfl)))))) (OpensVF.cons rfl (OpensV.int Tryd.underlying3 (by kernel_rfl)) (OpensVF.one rfl (OpensV.int Tryd.underlying3 (by kernel_rfl)))))) (fun x : T56 => ((x.Key_Source, x.Key_Seq, x.Key_Offset), x.To, x.Contact)) (fun p => (⟨p.1.1, p.1.2.1, p.1.2.2, p.2.1, p.2.2⟩ : T56)) (fun _ => rfl))) (OpensVF.cons rfl (OpensV.slice 3 Tryd.underlying26 (by kernel_rfl) (by kernel_rfl) (by decide) (B := 24) (by kernel_rfl) (OpensV.iso (OpensV.struct Tryd.underlying44 (by kernel_rfl) (OpensVF.cons rfl (OpensV.int Tryd.underlying3 (by kernel_rfl)) (OpensVF.cons rfl (OpensV.int Tryd.underlying42 (by kernel_rfl)) (OpensVF.one rfl (OpensV.int Tryd.underlying3 (by kernel_rfl)))))) (fun x : T44 => (x.Source, x.Seq, x.Offset)) (fun p => (⟨p.1, p.2.1, p.2.2⟩ : T44)) (fun _ => rfl))) (OpensVF.cons rfl (OpensV.slice 3 Tryd.underlying26 (by kernel_rfl) (by kernel_rfl) (by decide) (B := 24) (by kernel_rfl) (OpensV.iso (OpensV.struct Tryd.underlying44 (by kernel_rfl) (OpensVF.cons rfl (OpensV.int Tryd.underlying3 (by kernel_rfl)) (OpensVF.cons rfl (OpensV.int Tryd.underlying42 (by kernel_rfl)) (OpensVF.one rfl (OpensV.int Tryd.underlying3 (by kernel_rfl)))))) (fun x : T44 => (x.Source, x.Seq, x.Offset)) (fun p => (⟨p.1, p.2.1, p.2.2⟩ : T44)) (fun _ => rfl))) (OpensVF.one rfl (OpensV.slice 1 Tryd.underlying25 (by kernel_rfl) (by kernel_rfl) (by decide) (B := 8) (by kernel_rfl) (OpensV.int Tryd.underlying3 (by kernel_rfl)))))))) (fun x : T37 => (x.Go, x.Waits, x.Stuck, x.Left)) (fun p => (⟨p.1, p.2.1, p.2.2.1, p.2.2.2⟩ : T37)) (fun _ => rfl)) hsz (j := 0) (t := 37) rfl rfl h0
  obtain ⟨z0, rfl, _⟩ := okWide_struct Tryd.underlying37 (hval 0 37 v0 rfl rfl)
  have R0 : Rep W (fun _ => undef) (fun b => b < W.heap.size) (V.agg (encT37 x0)) (.agg z0) := RDs.aggr K0
  have k1 := h1
  have lt1 : ∀ x ∈ p1, x.block < W.heap.size := by obtain ⟨m, hm⟩ := k1; exact DataW.trod_lt m _ _ _ hm
  obtain ⟨x1, K1, g1⟩ := OpensV.arg (OpensV.iso (OpensV.struct Tryd.underlying37 (by kernel_rfl) (OpensVF.cons rfl (OpensV.slice 5 Tryd.underlying35 (by kernel_rfl) (by kernel_rfl) (by decide) (B := 40) (by kernel_rfl) (OpensV.iso (OpensV.struct Tryd.underlying56 (by kernel_rfl) (OpensVF.cons rfl (OpensV.struct Tryd.underlying44 (by kernel_rfl) (OpensVF.cons rfl (OpensV.int Tryd.underlying3 (by kernel_rfl)) (OpensVF.cons rfl (OpensV.int Tryd.underlying42 (by kernel_rfl)) (OpensVF.one rfl (OpensV.int Tryd.underlying3 (by kernel_rfl)))))) (OpensVF.cons rfl (OpensV.int Tryd.underlying3 (by kernel_rfl)) (OpensVF.one rfl (OpensV.int Tryd.underlying3 (by kernel_rfl)))))) (fun x : T56 => ((x.Key_Source, x.Key_Seq, x.Key_Offset), x.To, x.Contact)) (fun p => (⟨p.1.1, p.1.2.1, p.1.2.2, p.2.1, p.2.2⟩ : T56)) (fun _ => rfl))) (OpensVF.cons rfl (OpensV.slice 3 Tryd.underlying26 (by kernel_rfl) (by kernel_rfl) (by decide) (B := 24) (by kernel_rfl) (OpensV.iso (OpensV.struct Tryd.underlying44 (by kernel_rfl) (OpensVF.cons rfl (OpensV.int Tryd.underlying3 (by kernel_rfl)) (OpensVF.cons rfl (OpensV.int Tryd.underlying42 (by kernel_rfl)) (OpensVF.one rfl (OpensV.int Tryd.underlying3 (by kernel_rfl)))))) (fun x : T44 => (x.Source, x.Seq, x.Offset)) (fun p => (⟨p.1, p.2.1, p.2.2⟩ : T44)) (fun _ => rfl))) (OpensVF.cons rfl (OpensV.slice 3 Tryd.underlying26 (by kernel_rfl) (by kernel_rfl) (by decide) (B := 24) (by kernel_rfl) (OpensV.iso (OpensV.struct Tryd.underlying44 (by kernel_rfl) (OpensVF.cons rfl (OpensV.int Tryd.underlying3 (by kernel_rfl)) (OpensVF.cons rfl (OpensV.int Tryd.underlying42 (by kernel_rfl)) (OpensVF.one rfl (OpensV.int Tryd.underlying3 (by kernel_rfl)))))) (fun x : T44 => (x.Source, x.Seq, x.Offset)) (fun p => (⟨p.1, p.2.1, p.2.2⟩ : T44)) (fun _ => rfl))) (OpensVF.one rfl (OpensV.slice 1 Tryd.underlying25 (by kernel_rfl) (by kernel_rfl) (by decide) (B := 8) (by kernel_rfl) (OpensV.int Tryd.underlying3 (by kernel_rfl)))))))) (fun x : T37 => (x.Go, x.Waits, x.Stuck, x.Left)) (fun p => (⟨p.1, p.2.1, p.2.2.1, p.2.2.2⟩ : T37)) (fun _ => rfl)) hsz (j := 1) (t := 37) rfl rfl h1
  obtain ⟨z1, rfl, _⟩ := okWide_struct Tryd.underlying37 (hval 1 37 v1 rfl rfl)
  have R1 : Rep W (fun _ => undef) (fun b => b < W.heap.size) (V.agg (encT37 x1)) (.agg z1) := RDs.aggr K1
  clear hA0 hval0 hsz0 hsz
  obtain ⟨k, hk⟩ := pureQueueSame x0 x1 g0 g1
  have hc : callV Tryd.prog ctx hints k 7 [V.agg (encT37 x0), V.agg (encT37 x1)] [] = some (.p (.bool true), [], []) := f7_arrrrzarrrrz_ok k x0.Go x0.Waits x0.Stuck x0.Left x1.Go x1.Waits x1.Stuck x1.Left _ hk
  refine (law_calls mixed ctxOk (by decide) hc rfl (fun i x v hx hv => ?_) rfl (fun g cs h => by simp [lay] at h)).mono fun e W' ⟨he, bel⟩ => ?_
  · match i, hx, hv with
    | 0, hx, hv => cases hx; cases hv; exact R0
    | 1, hx, hv => cases hx; cases hv; exact R1
    | i + 2, hx, hv => simp at hx
  subst he
  exact ⟨_, rfl, _, _, _, [], _, [], hW', trodAll_mk1 (shut_bool Tryd.underlying4 _), (trodAll_cons_mk (Below.trod laidOut (by kernel_rfl) (of_decide_eq_true (by kernel_rfl)) k0 bel lt0) (trodAll_cons_mk (Below.trod laidOut (by kernel_rfl) (of_decide_eq_true (by kernel_rfl)) k1 bel lt1) trodAll_mk0)), rfl, bel.frame _, fun h => by cases h⟩
theorem over : Rows.queueSameRow.holds Tryd.pinned (OpenSpec.ofChange Rows.queueSameSpec) :=
  OpenClaim.holds_of_wide 7 Tryd.f7 rfl rfl rfl rfl rfl rfl rfl ⟨rfl, rfl, rfl, rfl, rfl⟩ rfl rfl rfl rfl rfl (by kernel_rfl) Tryd.func7 (by kernel_rfl)
    (of_decide_eq_true (by kernel_rfl)) (by unfold Func.isWrapper; first | (rw [if_pos (by decide +kernel)]; kernel_rfl) | (rw [if_neg (by decide +kernel)]; exact ⟨rfl, rfl⟩))
    (fun os started H enc _ => lifted os started H enc)
set_option maxRecDepth 100000 in
theorem proved : Rows.QueueSameCardSaid :=
  Claim7.holds_tied_plain_at .later [] [.data, .pinned] true (true, "13ba4ca5a6da681b8f4ca7c68c6ea7e43d6b99dbcc411ccda2eeaf7aa1f31b2d") false over (fun _ h => by cases h) (by kernel_rfl) (fun _ h => by cases h) queueSame_row_tie rfl ⟨rfl, rfl⟩ (by kernel_rfl) rfl
    (fun f fn hf hfn => by
      obtain rfl : f = 7 := Option.some.inj ((show Tryd.prog.funcNamed "heliograph/heliographlaw20.QueueSame" = some 7 by kernel_rfl).symm.trans hf) |>.symm
      obtain rfl : fn = Tryd.f7 := (Option.some.inj (Tryd.func7.symm.trans hfn)).symm
      exact ⟨by kernel_rfl, fun j t ht => by
        rw [Tryd.params7] at ht
        have hm : t ∈ ([37, 37] : List TypeId) := by simpa using Array.mem_of_getElem? ht
        have hall : (([37, 37] : List TypeId).all fun u => !Tryd.prog.wantsStandIn u) = true := by kernel_rfl
        exact (show Tryd.prog.wantsStandIn t = false by simpa using List.all_eq_true.1 hall t hm)⟩)
    (by kernel_rfl)
#print axioms proved
end Go.Proofs.YtiompmmbjpjjeaaDoor.queueSame
namespace Go.Proofs.YtiompmmbjpjjeaaDoor
/-- The row, under a short name, for the claim. -/
theorem queueSame_holds : Rows.QueueSameCardSaid := queueSame.proved
end Go.Proofs.YtiompmmbjpjjeaaDoor
