/- Whatever bytes are opened, or refused, by the program as by the document. -/
import Derived.Test.YtglkfbegkfgaoaaPxf5
import Derived.Test.YtglkfbegkfgaoaaHSeal
namespace Go.Proofs.Ytglkfbegkfgaoaa.Pure
open Go.RowKit Go.Proofs.YtglkfbegkfgaoaaW.PrintWords Go.Proofs.YtglkfbegkfgaoaaW.PrintLast Go.Proofs.YtglkfbegkfgaoaaW.PrintMore Go.Proofs.Ytglkfbegkfgaoaa.P Go.Proofs.Ytglkfbegkfgaoaa.Crc
set_option linter.unusedVariables false
set_option linter.unusedSimpArgs false
theorem opened_ev {l : List Int} {n p : Nat} {a : Int} (ha : a = ((8 * n : Nat) : Int)) (hn : n ≤ 4) (hl : l.length + 4 < 140737488355328)
    (hs : Ev (fun k => heliographref03_Seal.f k (l.take (l.length - n)) a) (sealed n p (l.take (l.length - n)))) :
    Ev (fun k => heliographlaw03_opened.f k (opens n p l).1 (opens n p l).2 l a) true := by
  unfold heliographlaw03_opened.f
  have h8 : wrap64 (Int.tdiv a 8) = (n : Int) := by
    subst ha
    rw [show Int.tdiv ((8 * n : Nat) : Int) 8 = ((8 * n / 8 : Nat) : Int) from rfl]
    unfold wrap64
    omega
  have hw : wrap64 ((l.length : Int) - (n : Int)) = (l.length : Int) - (n : Int) := by unfold wrap64; omega
  rw [h8, hw]
  unfold opens
  by_cases c : l.length < n
  · simp only [if_pos c, if_pos (show (l.length : Int) < (n : Int) by omega)]
    exact Ev.now _
  · simp only [if_neg c, if_neg (show ¬ (l.length : Int) < (n : Int) by omega)]
    refine Ev.bind (refopens_ev ha hn hl hs) ?_
    by_cases e : sealed n p (l.take (l.length - n)) = l
    · have hd : decide (n ≤ l.length ∧ sealed n p (l.take (l.length - n)) = l) = true := decide_eq_true ⟨by omega, e⟩
      rw [hd]
      simp only [if_pos e, if_true, if_pos (show 0 ≤ (l.length : Int) - (n : Int) by omega), if_pos (show (l.length : Int) - (n : Int) ≤ (l.length : Int) by omega)]
      rw [show ((l.length : Int) - (n : Int)).toNat = l.length - n by omega]
      refine Ev.bind (f := fun _ t => some t) (same_ev (by rw [List.length_take]; omega)) ?_
      simp only [decide_true]
      exact Ev.now _
    · have hd : decide (n ≤ l.length ∧ sealed n p (l.take (l.length - n)) = l) = false := decide_eq_false (fun h => e h.2)
      rw [hd]
      simp only [if_neg e]
      exact Ev.now _
theorem SumOpens : heliographlaw03_SumOpens.Pure := by
  intro l _ _ hw
  have hb := bytes_wf hw
  apply Ev.rounds
  unfold heliographlaw03_SumOpens.f
  refine Ev.bind wakes_ev ?_
  simp only [if_true]
  by_cases c : (l.length : Int) > 20000
  · simp only [if_pos c]
    exact Ev.now _
  · simp only [if_neg c]
    refine Ev.bind (open16_ev hb (by omega)) (Ev.bind (open32_ev hb (by omega)) (Ev.bind (opened_ev (n := 2) rfl (by decide) (by omega) (refseal16_ev (bytes_take hb _) (by rw [List.length_take]; omega))) ?_))
    simp only [if_true]
    exact Ev.bind (f := fun _ t => some t) (opened_ev (n := 4) rfl (by decide) (by omega) (refseal32_ev (bytes_take hb _) (by rw [List.length_take]; omega))) (Ev.now _)
end Go.Proofs.Ytglkfbegkfgaoaa.Pure
