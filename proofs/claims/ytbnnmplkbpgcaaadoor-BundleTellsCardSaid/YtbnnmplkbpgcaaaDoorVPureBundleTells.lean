/- The plain law of BundleTells. -/
import Derived.Test.YtbnnmplkbpgcaaaDoorVStmtBundleTells
import Derived.Test.YtbnnmplkbpgcaaaDoorVPBun
namespace Go.Proofs.YtbnnmplkbpgcaaaDoorV
open Go Go.RowKit
set_option linter.unusedVariables false
set_option linter.unusedSimpArgs false
theorem copied9_at (k : Nat) (hk : 1 ≤ k) (b : Bun) (hl : b.Payload.length ≤ 140737488351232) : f13_ai10rz k b.Source b.Dest b.Seq b.Created b.Lifetime b.HopLimit b.Hops b.Priority b.Offset b.Total b.Payload = some (.o0 b.Source b.Dest b.Seq b.Created b.Lifetime b.HopLimit b.Hops b.Priority b.Offset b.Total b.Payload) := by
  obtain ⟨k, rfl⟩ : ∃ m, k = m + 1 := ⟨k - 1, by omega⟩
  simp only [f13_ai10rz, f13_ai10rz_e]
  rw [ifE_pos (show b.Payload.length ≤ roomy from hl)]
theorem expired_at (k : Nat) (hk : 3 ≤ k) (b : Bun) (now : Int) : f24_ai10rzi k b.Source b.Dest b.Seq b.Created b.Lifetime b.HopLimit b.Hops b.Priority b.Offset b.Total b.Payload now = some (.o0 (decide (okP b) && decide (now ≥ b.Created + b.Lifetime))) := by
  obtain ⟨k, rfl⟩ : ∃ m, k = m + 1 := ⟨k - 1, by omega⟩
  simp only [f24_ai10rzi, f24_ai10rzi_e, chk_at k (by omega) b, Option.bind_some]
  by_cases hb : okP b
  · have h := hb
    unfold okP at h
    simp only [if_pos hb, beq_self_eq_true, cond_true, decide_eq_true hb, Bool.true_and, show IntKind.i64.wrap (b.Created + b.Lifetime) = b.Created + b.Lifetime from wrap_i64 (by omega) (by omega)]
  · simp only [if_neg hb, show ((190 : Int) == 0) = false by decide, cond_false, decide_eq_false hb, Bool.false_and]
theorem pureBundleTells : StmtBundleTells := by
  intro a b now ha hb hn
  obtain ⟨K, hK⟩ : ∃ K, K = 6000 := ⟨_, rfl⟩
  refine ⟨K + 1, ?_⟩
  have la : a.Payload.length * 1 ≤ 140737488351232 := ha.2.2.2.2.2.2.2.2.2.2.2.1
  have sa : 0 ≤ a.Seq := (wf_u32 ha.2.2.1).1
  simp only [f8_ai10rzai10rzi, f8_ai10rzai10rzi_e, f9_, ifE_pos (show 200 ≤ K by omega), Option.bind_some, Bool.not_true, cond_false, f8_ai10rzai10rzi_j1]
  by_cases h1 : (a.Payload.length : Int) > 5000
  · simp only [decide_eq_true h1, cond_true]
  by_cases h2 : (b.Payload.length : Int) > 5000
  · simp only [decide_eq_false h1, decide_eq_true h2, cond_true, cond_false]
  simp only [decide_eq_false h1, decide_eq_false h2, cond_false]
  have s1 := same_at K a b (by omega) (by omega)
  have s2 := rsame_at K a b (by omega) (by omega)
  have s3 := same_at K a a (by omega) (by omega)
  have s4 := copied9_at K (by omega) a (by omega)
  have s5 := expired_at K (by omega) a now
  have s6 := right_at K (by omega) a sa
  rw [decide_eq_true rfl] at s3
  obtain ⟨k, hk⟩ : ∃ m, K = m + 1 := ⟨K - 1, by omega⟩
  have s7 : f22_ai10rz K a.Source a.Dest a.Seq a.Created a.Lifetime a.HopLimit a.Hops a.Priority a.Offset a.Total a.Payload = some (.o0 a.Source a.Seq) := by rw [hk]; simp only [f22_ai10rz, f22_ai10rz_e]
  have s8 : f23_ai10rz K a.Source a.Dest a.Seq a.Created a.Lifetime a.HopLimit a.Hops a.Priority a.Offset a.Total a.Payload = some (.o0 ((a.Payload.length : Int) == a.Total)) := by rw [hk]; simp only [f23_ai10rz, f23_ai10rz_e]
  simp only [f8_ai10rzai10rzi_j2, s1, s2, s3, s4, Option.bind_some, beq_self_eq_true, Bool.not_true, cond_false, f8_ai10rzai10rzi_j3, s7, s8, Bool.and_self, f8_ai10rzai10rzi_j4, s5, s6]
  by_cases ok : okP a
  · have h := ok
    unfold okP at h
    simp only [decide_eq_true ok, cond_true, Bool.true_and, show IntKind.i64.wrap (a.Created + a.Lifetime) = a.Created + a.Lifetime from wrap_i64 (by omega) (by omega), beq_self_eq_true]
  · simp only [decide_eq_false ok, cond_false, Bool.false_and, beq_self_eq_true]
end Go.Proofs.YtbnnmplkbpgcaaaDoorV
