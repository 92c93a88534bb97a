/- Which bundles may be. -/
import Derived.Test.YtbnnmplkbpgcaaaDoorVPWords
import Derived.Test.YtbnnmplkbpgcaaaDoorVP6
namespace Go.Proofs.YtbnnmplkbpgcaaaDoorV
open Go
set_option linter.unusedVariables false
set_option linter.unusedSimpArgs false
abbrev Bun := T26
def okP (b : Bun) : Prop := 1 ≤ b.Source ∧ b.Source ≤ 6 ∧ 1 ≤ b.Dest ∧ b.Dest ≤ 6 ∧ b.Seq > 0 ∧ 0 ≤ b.Created ∧ b.Created ≤ 1048576 ∧ 1 ≤ b.Lifetime ∧ b.Lifetime ≤ 1048576 ∧ 1 ≤ b.HopLimit ∧ b.HopLimit ≤ 16 ∧ 0 ≤ b.Hops ∧ b.Hops ≤ b.HopLimit ∧ 0 ≤ b.Priority ∧ b.Priority ≤ 2 ∧ 1 ≤ b.Total ∧ b.Total ≤ 400 ∧ 1 ≤ (b.Payload.length : Int) ∧ (b.Payload.length : Int) ≤ b.Total ∧ 0 ≤ b.Offset ∧ b.Offset ≤ b.Total - (b.Payload.length : Int)
instance (b : Bun) : Decidable (okP b) := by unfold okP; infer_instance
theorem within_at (k : Nat) (hk : 1 ≤ k) (x a b : Int) : f38_iii k x a b = some (.o0 (decide (a ≤ x ∧ x ≤ b))) := by
  obtain ⟨k, rfl⟩ : ∃ m, k = m + 1 := ⟨k - 1, by omega⟩
  simp only [f38_iii, f38_iii_e]
  by_cases h : a ≤ x
  · simp [h]
  · simp [h]
theorem chk_at (k : Nat) (hk : 2 ≤ k) (b : Bun) : f16_ai10rz k b.Source b.Dest b.Seq b.Created b.Lifetime b.HopLimit b.Hops b.Priority b.Offset b.Total b.Payload = some (.o0 (if okP b then 0 else 190)) := by
  obtain ⟨k, rfl⟩ : ∃ m, k = m + 1 := ⟨k - 1, by omega⟩
  simp only [f16_ai10rz, f16_ai10rz_e, within_at k (by omega), Option.bind_some]
  by_cases q0 : 1 ≤ b.Source ∧ b.Source ≤ 6
  case neg => simp only [decide_eq_false q0, cond_false]; rw [if_neg (by unfold okP; omega)]
  simp only [decide_eq_true q0, cond_true]
  by_cases q1 : 1 ≤ b.Dest ∧ b.Dest ≤ 6
  case neg => simp only [decide_eq_false q1, cond_false]; rw [if_neg (by unfold okP; omega)]
  simp only [decide_eq_true q1, cond_true]
  by_cases q2 : b.Seq > 0
  case neg => simp only [decide_eq_false q2, cond_false]; rw [if_neg (by unfold okP; omega)]
  simp only [decide_eq_true q2, cond_true]
  by_cases q3 : 0 ≤ b.Created ∧ b.Created ≤ 1048576
  case neg => simp only [decide_eq_false q3, cond_false]; rw [if_neg (by unfold okP; omega)]
  simp only [decide_eq_true q3, cond_true]
  by_cases q4 : 1 ≤ b.Lifetime ∧ b.Lifetime ≤ 1048576
  case neg => simp only [decide_eq_false q4, cond_false]; rw [if_neg (by unfold okP; omega)]
  simp only [decide_eq_true q4, cond_true]
  by_cases q5 : 1 ≤ b.HopLimit ∧ b.HopLimit ≤ 16
  case neg => simp only [decide_eq_false q5, cond_false]; rw [if_neg (by unfold okP; omega)]
  simp only [decide_eq_true q5, cond_true]
  by_cases q6 : 0 ≤ b.Hops ∧ b.Hops ≤ b.HopLimit
  case neg => simp only [decide_eq_false q6, cond_false]; rw [if_neg (by unfold okP; omega)]
  simp only [decide_eq_true q6, cond_true]
  by_cases q7 : 0 ≤ b.Priority ∧ b.Priority ≤ 2
  case neg => simp only [decide_eq_false q7, cond_false]; rw [if_neg (by unfold okP; omega)]
  simp only [decide_eq_true q7, cond_true]
  by_cases q8 : 1 ≤ b.Total ∧ b.Total ≤ 400
  case neg => simp only [decide_eq_false q8, cond_false]; rw [if_neg (by unfold okP; omega)]
  simp only [decide_eq_true q8, cond_true]
  by_cases q9 : 1 ≤ (b.Payload.length : Int) ∧ (b.Payload.length : Int) ≤ b.Total
  case neg => simp only [decide_eq_false q9, cond_false]; rw [if_neg (by unfold okP; omega)]
  simp only [decide_eq_true q9, cond_true]
  rw [wrap_i64 (by omega) (by omega)]
  by_cases q11 : 0 ≤ b.Offset ∧ b.Offset ≤ b.Total - (b.Payload.length : Int)
  case neg => simp only [decide_eq_false q11, Bool.not_false, cond_true]; rw [if_neg (by unfold okP; omega)]
  simp only [decide_eq_true q11, Bool.not_true, cond_false, f16_ai10rz_j1]
  rw [if_pos (by unfold okP; omega)]
end Go.Proofs.YtbnnmplkbpgcaaaDoorV
