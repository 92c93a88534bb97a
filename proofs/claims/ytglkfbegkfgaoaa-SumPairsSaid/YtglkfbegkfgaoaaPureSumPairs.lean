/- Two bits turned, within 8 bytes of one another, are told by both sums. -/
import Derived.Test.YtglkfbegkfgaoaaPxf7
import Derived.Test.YtglkfbegkfgaoaaHTurned
namespace Go.Proofs.Ytglkfbegkfgaoaa.Pure
open Go.RowKit Go.Proofs.YtglkfbegkfgaoaaW.PrintWords Go.Proofs.YtglkfbegkfgaoaaW.PrintLast Go.Proofs.YtglkfbegkfgaoaaW.PrintMore Go.Proofs.Ytglkfbegkfgaoaa.P Go.Proofs.Ytglkfbegkfgaoaa.Crc
set_option linter.unusedVariables false
set_option linter.unusedSimpArgs false
theorem wf_i64' {a : Int} (h : (Lit.int .i64 a).wf = true) : -9223372036854775808 ≤ a ∧ a < 9223372036854775808 := by
  simp [Lit.wf, IntKind.max, IntKind.min, IntKind.signed, IntKind.bits] at h
  omega
/-- The mask of two bits. -/
theorem mask_pair (d : Nat) (hd : 0 < d) (hd2 : d < 64) : Go.bits .or .u64 1 (IntKind.u64.wrap (2 ^ (d : Int).toNat)) = ((1 ||| 2 ^ d : Nat) : Int) := by
  have hlt : 2 ^ d < 2 ^ 64 := Nat.pow_lt_pow_right (by decide) hd2
  rw [Int.toNat_natCast, show (2 : Int) ^ d = ((2 ^ d : Nat) : Int) by simp, wrap_u64 _ (Int.natCast_nonneg _) (by exact_mod_cast hlt)]
  exact (bits_nat .u64 64 (by decide) wrap_u64 1 (2 ^ d) (by decide) hlt).2
theorem pair_bit (d j : Nat) (hd : 0 < d) : (1 ||| 2 ^ d).testBit j = decide (j = 0 ∨ j = d) := by
  rw [Nat.testBit_or]
  by_cases h0 : j = 0
  · subst h0
    simp
  · by_cases h1 : j = d
    · subst h1
      simp [Nat.testBit_two_pow_self]
    · rw [Nat.testBit_two_pow_of_ne (fun h => h1 h.symm)]
      have h2 : (1 : Nat).testBit j = false := Nat.testBit_lt_two_pow (Nat.one_lt_two_pow h0)
      rw [h2]
      simp [h0, h1]
theorem msk_pair (d k0 L : Nat) (hd : 0 < d) (hd2 : d < 64) (hk : k0 < L) : msk (1 ||| 2 ^ d) k0 L 64 0 = if k0 + d < L then 1 ^^^ 2 ^ d else 1 := by
  apply Nat.eq_of_testBit_eq
  intro j
  rw [msk_bit, pair_bit d j hd]
  have h1 : ∀ j, (1 : Nat).testBit j = decide (j = 0) := by
    intro j
    by_cases h0 : j = 0
    · subst h0
      rfl
    · rw [Nat.testBit_lt_two_pow (Nat.one_lt_two_pow h0)]
      simp [h0]
  have h2 : (2 ^ d).testBit j = decide (j = d) := by
    by_cases h : j = d
    · subst h
      simp [Nat.testBit_two_pow_self]
    · rw [Nat.testBit_two_pow_of_ne (fun e => h e.symm)]
      simp [h]
  by_cases c : k0 + d < L
  · rw [if_pos c, Nat.testBit_xor, h1, h2]
    by_cases a0 : j = 0
    · subst a0
      simp [hk]
      omega
    · by_cases a1 : j = d
      · subst a1
        simp [a0]
        omega
      · simp [a0, a1]
  · rw [if_neg c, h1]
    by_cases a0 : j = 0
    · subst a0
      simp [hk]
    · by_cases a1 : j = d
      · subst a1
        simp [a0]
        omega
      · simp [a0, a1]
/-- A pair is told. -/
theorem told_pair {n p : Nat} (hn : 0 < n) (hn8 : n ≤ 4) (g : Crc.Good (8 * n) p) {d : Nat} (hd : 0 < d) (hd2 : d < 64) (ha : ticks p d 1 ≠ 1) {l out : List Int} (hb : Bytes l) {k0 : Nat} (hk : k0 < 8 * (P.sealed n p l).length) (ht : Turned (P.sealed n p l) out (2 ^ k0 * msk (1 ||| 2 ^ d) k0 (8 * (P.sealed n p l).length) 64 0)) :
    ((opens n p out).2 == 130) = true ∧ msk (1 ||| 2 ^ d) k0 (8 * (P.sealed n p l).length) 64 0 ≠ 0 := by
  rw [sealed_length] at hk ht ⊢
  have hp : 0 < 2 ^ k0 := Nat.two_pow_pos k0
  have h1w : 1 < 2 ^ (8 * n) := Nat.one_lt_two_pow (by omega)
  rw [msk_pair d k0 _ hd hd2 hk] at ht ⊢
  have hne : (if k0 + d < 8 * (l.length + n) then 1 ^^^ 2 ^ d else 1) ≠ 0 := by
    split
    · intro h
      have h3 := xor_eq_zero h
      have : 1 < 2 ^ d := Nat.one_lt_two_pow (by omega)
      omega
    · omega
  have htick : ticks p (8 * (l.length + n)) (2 ^ k0 * (if k0 + d < 8 * (l.length + n) then 1 ^^^ 2 ^ d else 1)) ≠ 0 := by
    by_cases c : k0 + d < 8 * (l.length + n)
    · rw [if_pos c]
      exact pair g k0 d _ ha (by omega)
    · rw [if_neg c]
      exact burst g k0 1 _ h1w (by omega) (by omega)
  refine ⟨?_, hne⟩
  rw [opens_turned hn g hb ht (fun _ => htick), decide_eq_true_iff]
  intro e
  rcases Nat.mul_eq_zero.1 e with e | e
  · omega
  · exact hne e
theorem SumPairs : heliographlaw03_SumPairs.Pure := by
  intro l at_ gap _ _ hw hat hgap
  have hb := bytes_wf hw
  have ha := wf_i64' hat
  have hg := wf_i64' hgap
  apply Ev.rounds
  unfold heliographlaw03_SumPairs.f
  refine Ev.bind wakes_ev ?_
  simp only [if_true]
  by_cases c : (l.length : Int) > 5000
  · simp only [if_pos c]
    exact Ev.now _
  · simp only [if_neg c]
    have hmx : 0 ≤ mx gap 0 := by unfold mx; split <;> omega
    obtain ⟨d, hd⟩ : ∃ d : Nat, 1 + (mx gap 0) % 63 = (d : Int) := Int.eq_ofNat_of_zero_le (by omega)
    have hd0 : 0 < d := by omega
    have hd1 : d < 64 := by omega
    have hm := mask_pair d hd0 hd1
    have hmlt : 1 ||| 2 ^ d < 2 ^ 64 := Nat.or_lt_two_pow (by decide) (Nat.pow_lt_pow_right (by decide) hd1)
    simp only [hd, hm]
    obtain ⟨k1, o1, hk1, t1, e1⟩ := turned_ev (l := P.sealed 2 P16 l) (sealed_bytes 2 P16 hb) (by rw [sealed_length]; omega) (by rw [sealed_length]; omega) hmlt (N := 64) (by decide) at_ ha.2
    obtain ⟨k2, o2, hk2, t2, e2⟩ := turned_ev (l := P.sealed 4 P32 l) (sealed_bytes 4 P32 hb) (by rw [sealed_length]; omega) (by rw [sealed_length]; omega) hmlt (N := 64) (by decide) at_ ha.2
    have h1 : k1 < 8 * (P.sealed 2 P16 l).length := by rw [hk1, sealed_length]; exact Nat.mod_lt _ (by omega)
    have h2 : k2 < 8 * (P.sealed 4 P32 l).length := by rw [hk2, sealed_length]; exact Nat.mod_lt _ (by omega)
    have hl1 := t1.2.1
    have hl2 := t2.2.1
    rw [sealed_length] at hl1 hl2
    obtain ⟨r1, s1⟩ := told_pair (by decide) (by decide) good16 hd0 hd1 (apart16 d hd1 hd0) hb h1 t1
    obtain ⟨r2, s2⟩ := told_pair (by decide) (by decide) good32 hd0 hd1 (apart32 d hd1 hd0) hb h2 t2
    rw [decide_eq_true s1] at e1
    rw [decide_eq_true s2] at e2
    refine Ev.bind (seal16_ev hb (by omega)) (Ev.bind e1 (Ev.bind (seal32_ev hb (by omega)) (Ev.bind e2 (Ev.bind (open16_ev t1.1 (show o1.length + 4 < _ by omega)) (Ev.bind (open32_ev t2.1 (show o2.length + 4 < _ by omega)) ?_)))))
    simp only [r1, r2, beq_self_eq_true, if_true]
    exact Ev.now _
end Go.Proofs.Ytglkfbegkfgaoaa.Pure
