/- What is got, put, is the bytes that it had. -/
import Derived.Test.YtlohjfagiigchaaPxf5
import Derived.Test.YtlohjfagiigchaaHSdnv
namespace Go.Proofs.Ytlohjfagiigchaa.Pure
open Go.RowKit Go.Proofs.YtlohjfagiigchaaW.PrintWords Go.Proofs.YtlohjfagiigchaaW.PrintLast Go.Proofs.YtlohjfagiigchaaW.PrintMore Go.Proofs.Ytlohjfagiigchaa.P
set_option linter.unusedVariables false
set_option linter.unusedSimpArgs false
theorem SdnvOnce : heliographlaw08_SdnvOnce.Pure := by
  intro l hl1 hl2 hlw
  have hb := bytes_wf hlw
  apply Ev.rounds
  unfold heliographlaw08_SdnvOnce.f
  refine Ev.bind wakes_ev ?_
  simp only [if_true]
  obtain ⟨q, hq, hq2⟩ : ∃ q : Nat, mn (l.length : Int) 300 = (q : Int) ∧ q ≤ 300 ∧ q ≤ l.length := ⟨min l.length 300, by unfold mn; split <;> omega, by omega, by omega⟩
  rw [hq]
  have hlen : (l.take (q : Int).toNat).length = q := by rw [List.length_take]; omega
  have hbt := hb.take (q : Int).toNat
  generalize l.take (q : Int).toNat = x at hlen hbt
  refine Ev.pos (by omega) (Ev.pos (by omega) (Ev.som (Ev.bind (get_ev hbt (by omega)) ?_)))
  by_cases h : (gets x).2.2 = 0
  · obtain ⟨n, hn, e1, e2, e3, e4⟩ := gets_back hbt (r1 := (gets x).1) (r2 := (gets x).2.1) (by rw [← h])
    have hle := sz_le n
    have hp := sz_pos n
    rw [e1, e2]
    have h1 := put_ev (l := []) hn (by decide)
    rw [List.nil_append] at h1
    refine Ev.pos h (Ev.pos (by omega) (Ev.pos (by omega) (Ev.bind h1 (Ev.pos (by omega) ?_))))
    rw [Int.toNat_natCast, e4, equal_at (pl_bytes n _) (pl_bytes n _), decide_eq_true rfl]
    exact Ev.now _
  · refine Ev.neg h ?_
    rcases gets_err _ h with g | g | g <;> rw [g] <;> exact Ev.now _
end Go.Proofs.Ytlohjfagiigchaa.Pure
