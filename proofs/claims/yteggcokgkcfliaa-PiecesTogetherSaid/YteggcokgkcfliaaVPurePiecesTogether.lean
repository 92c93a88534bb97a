/- The plain law of PiecesTogether. -/
import Derived.Test.YteggcokgkcfliaaVStmtPiecesTogether
import Derived.Test.YteggcokgkcfliaaVPTog
namespace Go.Proofs.YteggcokgkcfliaaV
open Go Go.RowKit
set_option linter.unusedVariables false
set_option linter.unusedSimpArgs false
theorem purePiecesTogether : StmtPiecesTogether := by
  intro a b ha hb
  obtain ⟨K, hK⟩ : ∃ K, K = 1000 := ⟨_, rfl⟩
  refine ⟨K + 1, ?_⟩
  have sa : 0 ≤ a.Seq := (wf_u32 ha.2.2.1).1
  have sb : 0 ≤ b.Seq := (wf_u32 hb.2.2.1).1
  have pa : ∀ x ∈ (oneB a).Payload, 0 ≤ x ∧ x < 256 := fun x hx => wf_u8 (ha.2.2.2.2.2.2.2.2.2.2.2.2 x (List.mem_of_mem_take hx))
  have pb : ∀ x ∈ (oneB b).Payload, 0 ≤ x ∧ x < 256 := fun x hx => wf_u8 (hb.2.2.2.2.2.2.2.2.2.2.2.2 x (List.mem_of_mem_take hx))
  have o1 := one_at K (by omega) a
  have o2 := one_at K (by omega) b
  obtain ⟨v1, t1, i1⟩ := tog_at K (oneB a) (oneB b) pa pb (oneB_len a) (by omega)
  obtain ⟨v2, t2, i2⟩ := rtog_at K (oneB a) (oneB b) sa sb (oneB_len a) (by omega)
  obtain ⟨v3, t3, i3⟩ := tog_at K (oneB b) (oneB a) pb pa (oneB_len b) (by omega)
  have e12 : v1 = v2 := by rw [Bool.eq_iff_iff, i1, i2]
  have e13 : v3 = v1 := by rw [Bool.eq_iff_iff, i1, i3]; exact ⟨togP.symm, togP.symm⟩
  simp only [f4_ai10rzai10rz, f4_ai10rzai10rz_e, f9_, ifE_pos (show 100 ≤ K by omega), Option.bind_some, Bool.not_true, cond_false, f4_ai10rzai10rz_j1, o1, o2, t1, t2, t3, ← e12, e13, beq_self_eq_true, cond_true]
end Go.Proofs.YteggcokgkcfliaaV
