/- The plain law of SegmentSame: the two Sames answer alike. -/
import Derived.Test.YthjefcamonmjpaaVStmtSegmentSame
import Derived.Test.YthjefcamonmjpaaVPRef
namespace Go.Proofs.YthjefcamonmjpaaV
open Go Go.RowKit
set_option linter.unusedVariables false
theorem pureSegmentSame : StmtSegmentSame := by
  intro s t hs ht
  refine Evn.get (p := fun k => _) ?_
  have cut : ∀ s : T26, (List.take (s.Data.take 300).length (s.Data.take 300 ++ [7])) = s.Data.take 300 := fun s => by rw [List.take_left']; rfl
  have cut' : ∀ s : T26, (List.take (s.Claims.take 40).length (s.Claims.take 40 ++ [T45.mk 77 0])) = s.Claims.take 40 := fun s => by rw [List.take_left']; rfl
  have hd : ∀ s : T26, GT26 s → ∀ x ∈ (shortT s).Data, 0 ≤ x ∧ x < 256 := fun s hs x hx => wf_u8 (hs.2.2.2.2.2.2.2.2.2.2.2.1.2.2 x (List.mem_of_mem_take hx))
  have b1 : ∀ s : T26, (shortT s).Data.length ≤ 300 := fun s => by simp only [shortT, List.length_take]; omega
  have b2 : ∀ s : T26, (shortT s).Claims.length ≤ 40 := fun s => by simp only [shortT, List.length_take]; omega
  have q1 := short_sp s
  have q2 := short_sp t
  have q3 := same_sp (shortT s) (shortT t) (by have := b1 s; omega) (by have := b2 s; omega)
  have q4 := ref_sp (shortT s) (shortT t) (by have := b2 s; omega) (hd s hs) (hd t ht)
  have q5 := copied_sp (shortT s) (by have := b1 s; omega) (by have := b2 s; omega)
  have q6 := same_sp (shortT s) (shortT s) (by have := b1 s; omega) (by have := b2 s; omega)
  refine Evn.up ((Evn.ge 100).and (q1.and (q2.and (q3.and (q4.and (q5.and q6))))) |>.mono fun k ⟨hk, h1, h2, h3, h4, h5, h6⟩ => ?_)
  simp only [shortT] at h3 h4 h5 h6
  simp only [f3_ai10brrzai10brrz, f3_ai10brrzai10brrz_e, f7_, ifE_pos hk, Option.bind_some, Bool.not_true, cond_false, f3_ai10brrzai10brrz_j1, h1, h2, List.drop_zero, cut, cut', h3, h4, h5, h6, List.length_append, Nat.zero_add]
  rw [ifE_pos (by omega), ifE_pos (by omega), ifE_pos (by omega), ifE_pos (by omega)]
  simp
end Go.Proofs.YthjefcamonmjpaaV
