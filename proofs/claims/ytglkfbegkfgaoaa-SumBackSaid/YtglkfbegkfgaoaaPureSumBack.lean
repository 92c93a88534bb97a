/- What was sealed is opened, and is as it was. -/
import Derived.Test.YtglkfbegkfgaoaaPxf8
import Derived.Test.YtglkfbegkfgaoaaHSeal
namespace Go.Proofs.Ytglkfbegkfgaoaa.Pure
open Go.RowKit Go.Proofs.YtglkfbegkfgaoaaW.PrintWords Go.Proofs.YtglkfbegkfgaoaaW.PrintLast Go.Proofs.YtglkfbegkfgaoaaW.PrintMore Go.Proofs.Ytglkfbegkfgaoaa.P Go.Proofs.Ytglkfbegkfgaoaa.Crc
set_option linter.unusedVariables false
set_option linter.unusedSimpArgs false
theorem opens_sealed (n p : Nat) (l : List Int) : opens n p (sealed n p l) = (l, 0) := by
  unfold opens
  have h : (sealed n p l).take ((sealed n p l).length - n) = l := by
    rw [sealed_length, show l.length + n - n = l.length by omega]
    simp [P.sealed]
  rw [h, if_neg (by rw [sealed_length]; omega), if_pos rfl]
theorem SumBack : heliographlaw03_SumBack.Pure := by
  intro l _ hl hw
  have hb := bytes_wf hw
  apply Ev.rounds
  unfold heliographlaw03_SumBack.f
  refine Ev.bind wakes_ev ?_
  simp only [if_true]
  have h16 := open16_ev (sealed_bytes 2 P16 hb) (by rw [sealed_length]; omega)
  have h32 := open32_ev (sealed_bytes 4 P32 hb) (by rw [sealed_length]; omega)
  rw [opens_sealed] at h16 h32
  refine Ev.bind (seal16_ev hb (by omega)) (Ev.bind h16 (Ev.bind (seal32_ev hb (by omega)) (Ev.bind h32 ?_)))
  simp only [if_true]
  have he : Ev (fun k => octet_Equal.f k l l) true := by
    unfold octet_Equal.f
    have := equal_ev (l := l) (m := l) (by omega)
    simp only [decide_true] at this
    exact Ev.bind (f := fun _ t => some t) this (Ev.now _)
  refine Ev.bind he ?_
  simp only [if_true]
  exact Ev.bind (f := fun _ t => some t) he (Ev.now _)
end Go.Proofs.Ytglkfbegkfgaoaa.Pure
