/- Bits turned within 16 side by side are told by the sum of 16 bits, within 32 by that of 32 bits. -/
import Derived.Test.YtglkfbegkfgaoaaPxf6
import Derived.Test.YtglkfbegkfgaoaaHTurned
namespace Go.Proofs.Ytglkfbegkfgaoaa.Pure
open Go.RowKit Go.Proofs.YtglkfbegkfgaoaaW.PrintWords Go.Proofs.YtglkfbegkfgaoaaW.PrintLast Go.Proofs.YtglkfbegkfgaoaaW.PrintMore Go.Proofs.Ytglkfbegkfgaoaa.P Go.Proofs.Ytglkfbegkfgaoaa.Crc
set_option linter.unusedVariables false
set_option linter.unusedSimpArgs false
theorem wf_i64 {a : Int} (h : (Lit.int .i64 a).wf = true) : -9223372036854775808 ≤ a ∧ a < 9223372036854775808 := by
  simp [Lit.wf, IntKind.max, IntKind.min, IntKind.signed, IntKind.bits] at h
  omega
theorem wf_u64 {a : Int} (h : (Lit.int .u64 a).wf = true) : 0 ≤ a ∧ a < 18446744073709551616 := by
  simp [Lit.wf, IntKind.max, IntKind.min, IntKind.signed, IntKind.bits] at h
  omega
/-- A burst is told. -/
theorem told {n p : Nat} (hn : 0 < n) (g : Crc.Good (8 * n) p) {l out : List Int} (hb : Bytes l) {k0 mask : Nat} (hk : k0 < 8 * (P.sealed n p l).length) (ht : Turned (P.sealed n p l) out (2 ^ k0 * msk mask k0 (8 * (P.sealed n p l).length) (8 * n) 0)) :
    ((opens n p out).2 == 130) = decide (msk mask k0 (8 * (P.sealed n p l).length) (8 * n) 0 ≠ 0) := by
  rw [sealed_length] at hk ht ⊢
  have hlt := msk_lt mask k0 (8 * (l.length + n)) (8 * n)
  have hp : 0 < 2 ^ k0 := Nat.two_pow_pos k0
  rw [opens_turned hn g hb ht (fun hv => burst g k0 _ _ hlt (fun h => hv (by rw [h, Nat.mul_zero])) (by omega)), decide_eq_decide]
  constructor
  · exact fun h e => h (by rw [e, Nat.mul_zero])
  · intro h e
    rcases Nat.mul_eq_zero.1 e with e | e
    · omega
    · exact h e
theorem SumBursts : heliographlaw03_SumBursts.Pure := by
  intro l at_ mask _ _ hw hat hmask
  have hb := bytes_wf hw
  have ha := wf_i64 hat
  have hm := wf_u64 hmask
  obtain ⟨m, rfl⟩ := Int.eq_ofNat_of_zero_le hm.1
  apply Ev.rounds
  unfold heliographlaw03_SumBursts.f
  refine Ev.bind wakes_ev ?_
  simp only [if_true]
  by_cases c : (l.length : Int) > 5000
  · simp only [if_pos c]
    exact Ev.now _
  · simp only [if_neg c]
    obtain ⟨k1, o1, hk1, t1, e1⟩ := turned_ev (l := P.sealed 2 P16 l) (sealed_bytes 2 P16 hb) (by rw [sealed_length]; omega) (by rw [sealed_length]; omega) (mask := m) (by omega) (N := 16) (by decide) at_ ha.2
    obtain ⟨k2, o2, hk2, t2, e2⟩ := turned_ev (l := P.sealed 4 P32 l) (sealed_bytes 4 P32 hb) (by rw [sealed_length]; omega) (by rw [sealed_length]; omega) (mask := m) (by omega) (N := 32) (by decide) at_ ha.2
    have h1 : k1 < 8 * (P.sealed 2 P16 l).length := by rw [hk1, sealed_length]; exact Nat.mod_lt _ (by omega)
    have h2 : k2 < 8 * (P.sealed 4 P32 l).length := by rw [hk2, sealed_length]; exact Nat.mod_lt _ (by omega)
    have hl1 := t1.2.1
    have hl2 := t2.2.1
    rw [sealed_length] at hl1 hl2
    refine Ev.bind (seal16_ev hb (by omega)) (Ev.bind e1 (Ev.bind (seal32_ev hb (by omega)) (Ev.bind e2 (Ev.bind (open16_ev t1.1 (show o1.length + 4 < _ by omega)) (Ev.bind (open32_ev t2.1 (show o2.length + 4 < _ by omega)) ?_)))))
    have r1 := told (n := 2) (by decide) good16 hb h1 t1
    have r2 := told (n := 4) (by decide) good32 hb h2 t2
    simp only [Nat.reduceMul] at r1 r2
    simp only [r1, r2, beq_self_eq_true, if_true]
    exact Ev.now _
end Go.Proofs.Ytglkfbegkfgaoaa.Pure
