/- Both sums of whatever bytes, of the program and of the document, are the same. -/
import Derived.Test.YtglkfbegkfgaoaaPxf3
import Derived.Test.YtglkfbegkfgaoaaHSeal
namespace Go.Proofs.Ytglkfbegkfgaoaa.Pure
open Go.RowKit Go.Proofs.YtglkfbegkfgaoaaW.PrintWords Go.Proofs.YtglkfbegkfgaoaaW.PrintLast Go.Proofs.YtglkfbegkfgaoaaW.PrintMore Go.Proofs.Ytglkfbegkfgaoaa.P Go.Proofs.Ytglkfbegkfgaoaa.Crc
set_option linter.unusedVariables false
set_option linter.unusedSimpArgs false
theorem SumSums : heliographlaw03_SumSums.Pure := by
  intro l _ _ hw
  have hb := bytes_wf hw
  apply Ev.rounds
  unfold heliographlaw03_SumSums.f
  refine Ev.bind wakes_ev ?_
  simp only [if_true]
  by_cases c : (l.length : Int) > 20000
  · simp only [if_pos c]
    exact Ev.now _
  · simp only [if_neg c]
    have hs := sum_lt good16 (by decide) (toN l) (toN_lt hb)
    have hs2 := sum_lt good32 (by decide) (toN l) (toN_lt hb)
    refine Ev.bind (sum16_ev hb (by omega)) (Ev.bind (refsum16_ev hb (by omega)) ?_)
    rw [wrap_u64 _ (by omega) (by omega)]
    simp only [if_true]
    refine Ev.bind (sum32_ev hb (by omega)) (Ev.bind (f := fun _ t => some (IntKind.u64.wrap ((Crc.sum 32 P32 (toN l) : Nat) : Int) == t)) (refsum32_ev hb (by omega)) ?_)
    rw [wrap_u64 _ (by omega) (by omega), beq_self_eq_true]
    exact Ev.now _
end Go.Proofs.Ytglkfbegkfgaoaa.Pure
