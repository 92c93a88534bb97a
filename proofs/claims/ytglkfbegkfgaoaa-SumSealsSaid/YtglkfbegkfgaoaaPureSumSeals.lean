/- Whatever bytes are sealed by the program as by the document. -/
import Derived.Test.YtglkfbegkfgaoaaPxf4
import Derived.Test.YtglkfbegkfgaoaaHSeal
namespace Go.Proofs.Ytglkfbegkfgaoaa.Pure
open Go.RowKit Go.Proofs.YtglkfbegkfgaoaaW.PrintWords Go.Proofs.YtglkfbegkfgaoaaW.PrintLast Go.Proofs.YtglkfbegkfgaoaaW.PrintMore Go.Proofs.Ytglkfbegkfgaoaa.P Go.Proofs.Ytglkfbegkfgaoaa.Crc
set_option linter.unusedVariables false
set_option linter.unusedSimpArgs false
theorem SumSeals : heliographlaw03_SumSeals.Pure := by
  intro l _ _ hw
  have hb := bytes_wf hw
  apply Ev.rounds
  unfold heliographlaw03_SumSeals.f
  refine Ev.bind wakes_ev ?_
  simp only [if_true]
  by_cases c : (l.length : Int) > 20000
  · simp only [if_pos c]
    exact Ev.now _
  · simp only [if_neg c]
    have h0 := both_ev (l := l) (m := []) (by simp; omega)
    rw [List.append_nil] at h0
    refine Ev.bind h0 (Ev.bind (seal16_ev hb (by omega)) (Ev.bind (refseal16_ev hb (by omega)) (Ev.bind (same_ev (by rw [sealed_length]; omega)) ?_)))
    simp only [decide_true, if_true]
    refine Ev.bind (seal32_ev hb (by omega)) (Ev.bind (refseal32_ev hb (by omega)) (Ev.bind (same_ev (by rw [sealed_length]; omega)) ?_))
    simp only [decide_true, if_true]
    refine Ev.bind (f := fun _ t => some t) (same_ev (l := l) (m := l) (by omega)) ?_
    simp only [decide_true]
    exact Ev.now _
end Go.Proofs.Ytglkfbegkfgaoaa.Pure
