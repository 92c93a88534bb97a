/- The plain law of PiecesBack. -/
import Derived.Test.YteggcokgkcfliaaVStmtPiecesBack
import Derived.Test.YteggcokgkcfliaaVPWhole
namespace Go.Proofs.YteggcokgkcfliaaV
open Go Go.RowKit
set_option linter.unusedVariables false
set_option linter.unusedSimpArgs false
theorem fit_one {b : Bun} (h : GT25 b) : Fit (oneB b) := ⟨(wf_u32 h.2.2.1).1, oneB_len b, fun x hx => wf_u8 (h.2.2.2.2.2.2.2.2.2.2.2.2 x (List.mem_of_mem_take hx))⟩
theorem pback_l3 (k : Nat) (b : Bun) (l : List Bun) (h0 : 0 < l.length) (hl : l.length ≤ 1000) (order : List Int) (ho : order.length < 4611686018427387904) : ∀ (d i n : Nat) (acc : List Bun), i + d = order.length → d < n → i ≤ 12 → acc.length = i → (∀ p ∈ acc, p ∈ l) →
    ∃ acc', ((∃ j : Int, f7_ai10rzir_l3 k n order order.length i b.Source b.Dest b.Seq b.Created b.Lifetime b.HopLimit b.Hops b.Priority b.Offset b.Total b.Payload l acc = some (.o2 order order.length j false b.Source b.Dest b.Seq b.Created b.Lifetime b.HopLimit b.Hops b.Priority b.Offset b.Total b.Payload l acc')) ∨ (∃ (j v : Int), f7_ai10rzir_l3 k n order order.length i b.Source b.Dest b.Seq b.Created b.Lifetime b.HopLimit b.Hops b.Priority b.Offset b.Total b.Payload l acc = some (.o0 v order order.length j true b.Source b.Dest b.Seq b.Created b.Lifetime b.HopLimit b.Hops b.Priority b.Offset b.Total b.Payload l acc'))) ∧ (∀ p ∈ acc', p ∈ l) ∧ acc'.length ≤ 12 := by
  intro d
  induction d with
  | zero =>
    intro i n acc hid hn hi ha hp
    obtain ⟨n, rfl⟩ : ∃ m, n = m + 1 := ⟨n - 1, by omega⟩
    refine ⟨acc, .inl ⟨i, ?_⟩, hp, by omega⟩
    simp only [f7_ai10rzir_l3, f7_ai10rzir_l3_b, decide_eq_false (show ¬ ((i : Int) < (order.length : Int)) by omega), cond_false, Option.bind_some]
  | succ d ih =>
    intro i n acc hid hn hi ha hp
    obtain ⟨n, rfl⟩ : ∃ m, n = m + 1 := ⟨n - 1, by omega⟩
    have h1 : i < order.length := by omega
    have g1 : order[i]? = some order[i] := List.getElem?_eq_getElem h1
    by_cases h12 : i = 12
    · refine ⟨acc, .inr ⟨i, order[i], ?_⟩, hp, by omega⟩
      subst h12
      simp only [f7_ai10rzir_l3, f7_ai10rzir_l3_b, f7_ai10rzir_l3_j1, decide_eq_true (show (((12 : Nat) : Int) < (order.length : Int)) by omega), cond_true, ifE_pos (show (0 : Int) ≤ ((12 : Nat) : Int) by decide), Int.toNat_natCast, g1, Option.bind_some, show ((((12 : Nat) : Int)) == 12) = true from rfl]
    · obtain ⟨z, hz, ez⟩ := umod (x := order[i]) h0 hl
      have gz : l[z]? = some l[z] := List.getElem?_eq_getElem hz
      have h104 : (acc.length + 1) * 104 ≤ 10000 := by omega
      have hr : (acc.length + 1) * 104 ≤ roomy := Nat.le_trans h104 (by decide)
      have hne : ((i : Int) == 12) = false := by rw [beq_eq_false_iff_ne]; omega
      have hu : ¬ IntKind.u64.wrap (l.length : Int) = 0 := by rw [wrap_u64 (by omega) (by omega)]; omega
      obtain ⟨acc', q, q1, q2⟩ := ih (i + 1) n (acc ++ [l[z]]) (by omega) (by omega) (by omega) (by simp [ha]) (fun p hp' => by
        rcases List.mem_append.1 hp' with h | h
        · exact hp p h
        · simp at h; rw [h]; exact List.getElem_mem hz)
      have step : f7_ai10rzir_l3 k (n + 1) order order.length i b.Source b.Dest b.Seq b.Created b.Lifetime b.HopLimit b.Hops b.Priority b.Offset b.Total b.Payload l acc = f7_ai10rzir_l3 k n order order.length ((i + 1 : Nat) : Int) b.Source b.Dest b.Seq b.Created b.Lifetime b.HopLimit b.Hops b.Priority b.Offset b.Total b.Payload l (acc ++ [l[z]]) := by
        simp only [f7_ai10rzir_l3, f7_ai10rzir_l3_b, f7_ai10rzir_l3_j1, f7_ai10rzir_l3_j2, decide_eq_true (show ((i : Int) < (order.length : Int)) by omega), cond_true, cond_false, ifE_pos (show (0 : Int) ≤ i by omega), Int.toNat_natCast, g1, Option.bind_some, hne, ifE_pos hu, ez, ifE_pos (show (0 : Int) ≤ (z : Int) by omega), ifE_pos (show (z : Int) < (l.length : Int) by omega), gz, ifE_pos hr, f7_ai10rzir_l3_j3, i_next h1 ho]
      rw [step]
      exact ⟨acc', q, q1, q2⟩
theorem pback_l5 (k : Nat) (hk : 10 ≤ k) (b : Bun) (l : List Bun) (hl : l.length ≤ 400) (hok : ∀ p ∈ l, okP p) : ∀ (d i n : Nat) (acc : List Bun), i + d = l.length → d < n → acc.length ≤ 12 + i →
    ∃ acc', f7_ai10rzir_l5 k n l.length i b.Source b.Dest b.Seq b.Created b.Lifetime b.HopLimit b.Hops b.Priority b.Offset b.Total b.Payload l acc = some (.o2 l.length l.length false b.Source b.Dest b.Seq b.Created b.Lifetime b.HopLimit b.Hops b.Priority b.Offset b.Total b.Payload l acc') ∧ (∀ p ∈ acc', p ∈ acc ∨ p ∈ l) ∧ (∀ p ∈ acc, p ∈ acc') ∧ (∀ (j : Nat) (p : Bun), i ≤ j → l[l.length - 1 - j]? = some p → j < l.length → p ∈ acc') ∧ acc'.length ≤ 412 := by
  intro d
  induction d with
  | zero =>
    intro i n acc hid hn ha
    obtain ⟨n, rfl⟩ : ∃ m, n = m + 1 := ⟨n - 1, by omega⟩
    have e3 : i = l.length := by omega
    subst e3
    exact ⟨acc, by simp only [f7_ai10rzir_l5, f7_ai10rzir_l5_b, decide_eq_false (Int.lt_irrefl _), cond_false, Option.bind_some], fun p hp => .inl hp, fun p hp => hp, fun j p h1 _ h2 => by omega, by omega⟩
  | succ d ih =>
    intro i n acc hid hn ha
    obtain ⟨n, rfl⟩ : ∃ m, n = m + 1 := ⟨n - 1, by omega⟩
    have h1 : i < l.length := by omega
    have g1 : l[i]? = some l[i] := List.getElem?_eq_getElem h1
    have h2 : l.length - 1 - i < l.length := by omega
    have g2 : l[l.length - 1 - i]? = some l[l.length - 1 - i] := List.getElem?_eq_getElem h2
    have hw : IntKind.i64.wrap (IntKind.i64.wrap ((l.length : Int) - 1) - (i : Int)) = ((l.length - 1 - i : Nat) : Int) := by
      rw [show IntKind.i64.wrap ((l.length : Int) - 1) = (l.length : Int) - 1 from wrap_i64 (by omega) (by omega), wrap_i64 (by omega) (by omega)]; omega
    have h104 : (acc.length + 1) * 104 ≤ 100000 := by omega
    have hr : (acc.length + 1) * 104 ≤ roomy := Nat.le_trans h104 (by decide)
    have hc := chk_at k (by omega) l[i]
    rw [if_pos (hok _ (List.getElem_mem h1))] at hc
    obtain ⟨acc', q, q1, q2, q3, q4⟩ := ih (i + 1) n (acc ++ [l[l.length - 1 - i]]) (by omega) (by omega) (by simp; omega)
    refine ⟨acc', ?_, fun p hp => ?_, fun p hp => q2 p (by simp [hp]), fun j p hj hp hj2 => ?_, q4⟩
    · simp only [f7_ai10rzir_l5, f7_ai10rzir_l5_b, f7_ai10rzir_l5_j1, f7_ai10rzir_l5_j2, decide_eq_true (show ((i : Int) < (l.length : Int)) by omega), cond_true, cond_false, hw, ifE_pos (show (0 : Int) ≤ ((l.length - 1 - i : Nat) : Int) by omega), ifE_pos (show ((l.length - 1 - i : Nat) : Int) < (l.length : Int) by omega), Int.toNat_natCast, g2, Option.bind_some, ifE_pos hr, ifE_pos (show (0 : Int) ≤ (i : Int) by omega), ifE_pos (show (i : Int) < (l.length : Int) by omega), g1, hc, bne_self_eq_false, i_next h1 (by omega), q]
    · rcases q1 p hp with h | h
      · rcases List.mem_append.1 h with h | h
        · exact .inl h
        · simp at h; rw [h]; exact .inr (List.getElem_mem h2)
      · exact .inr h
    · by_cases e : j = i
      · rw [e, g2] at hp
        refine q2 p ?_
        rw [← Option.some.inj hp]; simp
      · exact q3 j p (by omega) hp hj2
theorem purePiecesBack : StmtPiecesBack := by
  intro b0 n order hb0 hn hord
  have ho8 : order.length * 8 ≤ 140737488351232 := hord.2.1
  obtain ⟨K, hK⟩ : ∃ K, K = order.length + 3000 := ⟨_, rfl⟩
  refine ⟨K + 1, ?_⟩
  obtain ⟨b, hbd⟩ : ∃ b, b = oneB b0 := ⟨_, rfl⟩
  have fb : Fit b := by rw [hbd]; exact fit_one hb0
  have s1 : f10_ai10rz K b0.Source b0.Dest b0.Seq b0.Created b0.Lifetime b0.HopLimit b0.Hops b0.Priority b0.Offset b0.Total b0.Payload = some (.o0 b.Source b.Dest b.Seq b.Created b.Lifetime b.HopLimit b.Hops b.Priority b.Offset b.Total b.Payload) := by rw [one_at K (by omega) b0, hbd]
  have s2 := cut_at K (by omega) b n
  simp only [f7_ai10rzir, f7_ai10rzir_e, f9_, ifE_pos (show 100 ≤ K by omega), Option.bind_some, Bool.not_true, cond_false, f7_ai10rzir_j1, s1, s2]
  by_cases hb : okP b
  case neg => simp only [if_neg hb, show ((190 : Int) != 0) = true by decide, cond_true]; rfl
  by_cases hn1 : n < 1
  · simp only [if_pos hb, if_pos hn1, show ((2 : Int) != 0) = true by decide, cond_true]; rfl
  simp only [if_pos hb, if_neg hn1, bne_self_eq_false, cond_false]
  have bb := hb.b
  have hch := cutB_chain (b := b) (n := n) (by omega)
  have hpc := hch.pc
  have hle := hch.le.2
  have hcv := hch.cov
  generalize cutB b n.toNat = l at hch hpc hle hcv
  have hl0 : 0 < l.length := by
    obtain ⟨o, m, hm, _⟩ := hcv 0 (by omega) (by omega)
    exact List.length_pos_of_mem hm
  obtain ⟨acc, q, q1, q2⟩ := pback_l3 K b l hl0 (by omega) order (by omega) order.length 0 K [] (by omega) (by omega) (by omega) rfl (by simp)
  obtain ⟨M, r, r1, r2, r3, r4⟩ := pback_l5 K (by omega) b l (by omega) (fun p hp => by obtain ⟨o, m, rfl, m1, m2⟩ := hpc p hp; exact piece_ok hb m2 m1) l.length 0 K acc (by omega) (by omega) (by omega)
  have hall : ∀ p ∈ l, p ∈ M := by
    intro p hp
    obtain ⟨t, ht⟩ := List.getElem?_of_mem hp
    have htl := (List.getElem?_eq_some_iff.1 ht).1
    exact r3 (l.length - 1 - t) p (by omega) (by rw [show l.length - 1 - (l.length - 1 - t) = t by omega]; exact ht) (by omega)
  have hin : ∀ p ∈ M, p ∈ l := fun p hp => (r1 p hp).elim (q1 p) id
  have hM : Pc b M := fun p hp => hpc p (hin p hp)
  have hMne : M ≠ [] := by
    intro e
    obtain ⟨o, m, hm, _⟩ := hcv 0 (by omega) (by omega)
    have := hall _ hm
    rw [e] at this; cases this
  have jp := join_pieces K (by omega) hb fb hM hMne (by omega) (fun q hq => (hcv q (by omega) hq).mono hall)
  have e0 : ((0 : Nat) : Int) = 0 := rfl
  rw [e0] at q r
  have hw := whole_at K (by omega) b
  have fin : ∀ x y z, f7_ai10rzir_j6 K x y z b.Source b.Dest b.Seq b.Created b.Lifetime b.HopLimit b.Hops b.Priority b.Offset b.Total b.Payload l M = some (.o0 true) := by
    intro x y z
    by_cases hwh : (b.Payload.length : Int) = b.Total
    · have hs := same_at K b b (by omega) (by omega)
      rw [decide_eq_true rfl] at hs
      have hwb : ((b.Payload.length : Int) == b.Total) = true := by rw [beq_iff_eq]; exact hwh
      rw [hwb] at hw
      simp only [f7_ai10rzir_j6, jp.1 hwh, hw, Option.bind_some, Bool.not_true, cond_false, f7_ai10rzir_j8, beq_self_eq_true, cond_true, hs]
    · obtain ⟨j1, g, j2, j3⟩ := jp.2 hwh
      have hwb : ((b.Payload.length : Int) == b.Total) = false := by rw [beq_eq_false_iff_ne]; exact hwh
      rw [hwb] at hw
      simp only [f7_ai10rzir_j6, j1, j2, hw, Option.bind_some, Bool.not_false, cond_true, beq_self_eq_true, decide_eq_true j3]
  rcases q with ⟨j, q⟩ | ⟨j, v, q⟩
  · simp only [f7_ai10rzir_j2, q, Option.bind_some, f7_ai10rzir_j9, r, fin]
  · simp only [f7_ai10rzir_j2, q, Option.bind_some, f7_ai10rzir_j4, r, fin]
end Go.Proofs.YteggcokgkcfliaaV
