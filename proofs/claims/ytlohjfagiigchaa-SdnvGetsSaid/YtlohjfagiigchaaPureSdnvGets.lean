/- Which number any bytes begin with, or why none. -/
import Derived.Test.YtlohjfagiigchaaStmtSdnvGets
import Derived.Test.YtlohjfagiigchaaHRef
namespace Go.Proofs.Ytlohjfagiigchaa.Pure
open Go.RowKit Go.Proofs.YtlohjfagiigchaaW.PrintWords Go.Proofs.YtlohjfagiigchaaW.PrintLast Go.Proofs.YtlohjfagiigchaaW.PrintMore Go.Proofs.Ytlohjfagiigchaa.P
set_option linter.unusedVariables false
set_option linter.unusedSimpArgs false
theorem gets_l0 {l : List (List Int)} (hl : l.length < 9223372036854775807) (hb : ∀ b ∈ l, Bytes b ∧ b.length < 9223372036854775807) : ∀ (m i : Nat), m + i = l.length → Ev (fun k => heliographlaw08_SdnvGets.l0 k l (l.length : Int) (i : Int)) true
  | 0, i, h => Ev.one fun k => by
    show heliographlaw08_SdnvGets.l0 (k + 1) _ _ _ = _
    simp only [heliographlaw08_SdnvGets.l0]
    rw [if_neg (by omega)]
  | m + 1, i, h => by
    have hi : i < l.length := by omega
    obtain ⟨b1, b2⟩ := hb l[i] (List.getElem_mem hi)
    have hrd : rd_L3 l (i : Int) = l[i] := by unfold rd_L3; simp [List.getElem?_eq_getElem hi]
    refine Ev.step (fun k => by rw [heliographlaw08_SdnvGets.l0, hrd]) (Ev.pos (by omega) (Ev.pos (by omega) (Ev.pos (by omega) ?_)))
    by_cases h40 : (i : Int) = 40
    · exact Ev.pos h40 (Ev.now _)
    · refine Ev.neg h40 ?_
      obtain ⟨q, hq, hq2⟩ : ∃ q : Nat, mn (l[i].length : Int) 300 = (q : Int) ∧ q ≤ 300 ∧ q ≤ l[i].length := ⟨min l[i].length 300, by unfold mn; split <;> omega, by omega, by omega⟩
      rw [hq]
      have hx := b1.take (q : Int).toNat
      have hxl : (l[i].take (q : Int).toNat).length = q := by rw [List.length_take]; omega
      generalize l[i].take (q : Int).toNat = x at hx hxl
      refine Ev.pos (by omega) (Ev.pos (by omega) (Ev.som (Ev.eq (own_at (by omega)) (Ev.bind (get_ev hx (by omega)) (Ev.bind (refget_ev hx (by omega)) (Ev.pos rfl (Ev.pos rfl (Ev.pos rfl (Ev.eq (equal_at hx hx) ?_)))))))))
      rw [decide_eq_true rfl]
      refine Ev.pos rfl ?_
      rw [w64_succ (by omega)]
      exact gets_l0 hl hb m (i + 1) (by omega)
theorem SdnvGets : heliographlaw08_SdnvGets.Pure := by
  intro l ⟨h1, h2, h3⟩
  apply Ev.rounds
  unfold heliographlaw08_SdnvGets.f
  refine Ev.bind wakes_ev (Ev.pos rfl ?_)
  exact gets_l0 (by omega) (fun b hb => ⟨bytes_wf (h3 b hb).2.2, by have := (h3 b hb).2.1; omega⟩) l.length 0 rfl
end Go.Proofs.Ytlohjfagiigchaa.Pure
