/- The plain law of BundleEncodes. -/
import Derived.Test.YtbnnmplkbpgcaaaDoorVStmtBundleEncodes
import Derived.Test.YtbnnmplkbpgcaaaDoorVPEncE
namespace Go.Proofs.YtbnnmplkbpgcaaaDoorV
open Go Go.RowKit
set_option linter.unusedVariables false
set_option linter.unusedSimpArgs false
theorem pureBundleEncodes : StmtBundleEncodes := by
  intro b g
  refine ⟨60001, ?_⟩
  obtain ⟨_, _, gs, _, _, _, _, _, _, _, _, _, gp⟩ := g
  have hs := (wf_u32 gs).1
  have hb : ∀ x ∈ b.Payload, 0 ≤ x ∧ x < 256 := fun x hx => wf_u8 (gp x hx)
  have e9 : f9_ 60000 = some (.o0 true) := by simp only [f9_]; exact ifE_pos (by omega)
  by_cases hp : b.Payload.length ≤ 5000
  · have hpl : ¬ ((b.Payload.length : Int) > 5000) := by omega
    have hr : b.Payload.length ≤ roomy := by unfold roomy; omega
    have e13 : f13_ai10rz 60000 b.Source b.Dest b.Seq b.Created b.Lifetime b.HopLimit b.Hops b.Priority b.Offset b.Total b.Payload = some (.o0 b.Source b.Dest b.Seq b.Created b.Lifetime b.HopLimit b.Hops b.Priority b.Offset b.Total b.Payload) := by
      simp only [f13_ai10rz, f13_ai10rz_e, ifE_pos hr]
    have he := enc_at 60000 (by omega) b hp hb
    have hn := enc_at 59999 (by omega) b hp hb
    have hc := chk_at 60000 (by omega) b
    have hri := right_at 60000 (by omega) b hs
    by_cases hok : okP b
    · rw [if_pos hok] at he hn hc
      rw [decide_eq_true hok] at hri
      have hlen := bytesOf_len hok
      have hpl2 : b.Payload.length ≤ 500 := by unfold okP at hok; omega
      have hby := rbytes_at 60000 (by omega) b hpl2 hb
      have hsame := rsb_at (bytesOf b) (bytesOf b) (by omega) 60000 (by omega)
      rw [decide_eq_true rfl] at hsame
      have hsz : f17_ai10rz 60000 b.Source b.Dest b.Seq b.Created b.Lifetime b.HopLimit b.Hops b.Priority b.Offset b.Total b.Payload = some (.o0 ((bytesOf b).length : Int)) := by
        simp only [f17_ai10rz, f17_ai10rz_e, hn, Option.bind_some]
      simp only [f6_ai10rz, f6_ai10rz_e, f6_ai10rz_j1, f6_ai10rz_j2, f6_ai10rz_j4, e9, Option.bind_some, Bool.not_true, cond_false, decide_eq_false hpl, e13, he, hri, hby, bne_self_eq_false, beq_self_eq_true, cond_true, hc, hsame, hsz, decide_eq_true (show ((bytesOf b).length : Int) ≤ 512 by omega)]
    · rw [if_neg hok] at he hn hc
      rw [decide_eq_false hok] at hri
      have hsz : f17_ai10rz 60000 b.Source b.Dest b.Seq b.Created b.Lifetime b.HopLimit b.Hops b.Priority b.Offset b.Total b.Payload = some (.o0 0) := by
        simp only [f17_ai10rz, f17_ai10rz_e, hn, Option.bind_some]
        rfl
      simp only [f6_ai10rz, f6_ai10rz_e, f6_ai10rz_j1, f6_ai10rz_j2, e9, Option.bind_some, Bool.not_true, Bool.not_false, cond_false, decide_eq_false hpl, e13, he, hri, cond_true, hc, hsz, List.length_nil, Int.natCast_zero, beq_self_eq_true]
  · have hpl : ((b.Payload.length : Int) > 5000) := by omega
    simp only [f6_ai10rz, f6_ai10rz_e, f6_ai10rz_j1, e9, Option.bind_some, Bool.not_true, cond_false, decide_eq_true hpl, cond_true]
end Go.Proofs.YtbnnmplkbpgcaaaDoorV
