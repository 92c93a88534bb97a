/- A segment's bytes are few. -/
import Derived.Test.YthjefcamonmjpaaVPBack
namespace Go.Proofs.YthjefcamonmjpaaV
open Go Go.Proofs.Ythjefcamonmjpaa
set_option linter.unusedVariables false
set_option linter.unusedSimpArgs false
theorem sdn_le (v : Int) (m : Nat) (h0 : 0 ≤ v) (hm : 1 ≤ m) (h : v < ((128 ^ m : Nat) : Int)) (h64 : v < 18446744073709551616) : (sdn v).length ≤ m := by
  unfold sdn
  rw [pl_length, wrap_u64 h0 (by omega)]
  rcases sz_ge v.toNat with e | e
  · omega
  · rcases Nat.lt_or_ge m (sz v.toNat) with g | g
    · have := Nat.pow_le_pow_right (n := 128) (by decide) (show m ≤ sz v.toNat - 1 by omega)
      omega
    · exact g
theorem sdn1 (v : Int) (h0 : 0 ≤ v) (h : v < 128) : (sdn v).length ≤ 1 := sdn_le v 1 h0 (by omega) (by simpa using h) (by omega)
theorem sdn2 (v : Int) (h0 : 0 ≤ v) (h : v < 16384) : (sdn v).length ≤ 2 := sdn_le v 2 h0 (by omega) (by simpa using h) (by omega)
theorem sdn5 (v : Int) (h0 : 0 ≤ v) (h : v < 4294967296) : (sdn v).length ≤ 5 := sdn_le v 5 h0 (by omega) (by have : ((128 ^ 5 : Nat) : Int) = 34359738368 := by decide
                                                                                                              omega) (by omega)
theorem clm_small (hi : Int) (hhi : 0 ≤ hi ∧ hi ≤ 512) : ∀ (l : List T45) (e : Int), -1 ≤ e → clm hi e l = true → (∀ c ∈ l, (-9223372036854775808 ≤ c.At ∧ c.At < 9223372036854775808) ∧ (-9223372036854775808 ≤ c.N ∧ c.N < 9223372036854775808)) → (l.flatMap fun c => puts [c.At, c.N]).length ≤ 4 * l.length
  | [], _, _, _, _ => by simp
  | c :: l, e, he, h, hw => by
    simp only [clm, Bool.and_eq_true, Bool.not_eq_true', decide_eq_false_iff_not] at h
    obtain ⟨⟨⟨⟨h1, h2⟩, h3⟩, h4⟩, h5⟩ := h
    have hc := hw c (List.mem_cons_self ..)
    rw [wrap_i64 (by omega) (by omega)] at h4
    rw [wrap_i64 (by omega) (by omega)] at h5
    have ih := clm_small hi hhi l (c.At + c.N) (by omega) h5 (fun x hx => hw x (List.mem_cons_of_mem _ hx))
    have a := sdn2 c.At (by omega) (by omega)
    have b := sdn2 c.N (by omega) (by omega)
    have e1 : puts [c.At, c.N] = sdn c.At ++ sdn c.N := by simp [puts]
    rw [List.flatMap_cons, List.length_append, e1, List.length_append, List.length_cons]
    omega
theorem tail_le (s : T26) (hw : Wf s) (hc : chkT s = 0) : (tailB s).length ≤ 119 ∧ 1 ≤ s.Source ∧ s.Source ≤ 6 := by
  have h := chk_zero hc
  obtain ⟨K, src, ses, ser, chk, off, tot, low, up, rea, ck, data, cl⟩ := s
  obtain ⟨w1, w2, w3, w4, w5, w6⟩ := hw
  simp only at w1 w2 w3 w4 w5 w6 ⊢
  simp only [okT, onlyT, inT, Bool.and_eq_true, decide_eq_true_eq] at h
  obtain ⟨⟨⟨h1a, h1b⟩, h2, h3⟩, h4⟩ := h
  refine ⟨?_, h1a, h1b⟩
  have wser := w32 w2.1 w2.2
  have wchk := w32 w3.1 w3.2
  have sser := sdn5 ser w2.1 w2.2
  have schk := sdn5 chk w3.1 w3.2
  by_cases k1 : K = 1
  · subst k1
    simp only [show ((1 : Int) == 1) = true from rfl, cond_true, T26.mk.injEq, true_and, and_true, Bool.and_eq_true, decide_eq_true_eq] at h3 h4
    obtain ⟨⟨t1, t2⟩, ⟨t3, t4⟩, ⟨t5, t6⟩, t7⟩ := h3
    rw [wrap_i64 (by omega) (by omega)] at t6
    have s0 := sdn1 0 (by omega) (by omega)
    have s1 := sdn1 1 (by omega) (by omega)
    have s2 := sdn2 off (by omega) (by omega)
    have s3 := sdn2 tot (by omega) (by omega)
    have s4 := sdn1 (data.length : Int) (by omega) (by omega)
    cases ck
    · have e : tailB ⟨1, src, ses, ser, chk, off, tot, low, up, rea, false, data, cl⟩ = sdn 0 ++ (sdn off ++ (sdn tot ++ (sdn (data.length : Int) ++ data))) := by simp [tailB, puts]
      rw [e]
      simp only [List.length_append]
      omega
    · have e : tailB ⟨1, src, ses, ser, chk, off, tot, low, up, rea, true, data, cl⟩ = sdn 1 ++ (sdn ser ++ (sdn off ++ (sdn tot ++ (sdn (data.length : Int) ++ data)))) := by simp [tailB, puts, wser.1]
      rw [e]
      simp only [List.length_append]
      omega
  have q1 : (K == 1) = false := by rw [beq_eq_false_iff_ne]; exact k1
  simp only [q1, cond_false] at h3 h4
  by_cases k2 : K = 2
  · subst k2
    simp only [show ((2 : Int) == 2) = true from rfl, cond_true, Bool.and_eq_true, decide_eq_true_eq] at h3
    obtain ⟨t1, t2, ⟨t3, t4⟩, ⟨t5, t6⟩, t7, t8⟩ := h3
    rw [wrap_i64 (by omega) (by omega)] at t6 t7
    have hcl := clm_small up (by omega) cl (low - 1) (by omega) t7 w6
    have s2 := sdn2 low (by omega) (by omega)
    have s3 := sdn2 up (by omega) (by omega)
    have s4 := sdn1 (cl.length : Int) (by omega) (by omega)
    have e : tailB ⟨2, src, ses, ser, chk, off, tot, low, up, rea, ck, data, cl⟩ = sdn ser ++ (sdn chk ++ (sdn low ++ (sdn up ++ (sdn (cl.length : Int) ++ (cl.flatMap fun c => puts [c.At, c.N]))))) := by simp [tailB, puts, wser.1, wchk.1]
    rw [e]
    simp only [List.length_append]
    omega
  have q2 : (K == 2) = false := by rw [beq_eq_false_iff_ne]; exact k2
  simp only [q2, cond_false] at h3 h4
  by_cases k3 : K = 3
  · subst k3
    have e : tailB ⟨3, src, ses, ser, chk, off, tot, low, up, rea, ck, data, cl⟩ = sdn ser := by simp [tailB, puts, wser.1]
    rw [e]
    omega
  have q3 : (K == 3) = false := by rw [beq_eq_false_iff_ne]; exact k3
  have sr := sdn_length rea
  by_cases k4 : K = 4
  · subst k4
    have e : tailB ⟨4, src, ses, ser, chk, off, tot, low, up, rea, ck, data, cl⟩ = sdn rea := by simp [tailB, puts]
    rw [e]
    omega
  have q4 : (K == 4) = false := by rw [beq_eq_false_iff_ne]; exact k4
  by_cases k6 : K = 6
  · subst k6
    have e : tailB ⟨6, src, ses, ser, chk, off, tot, low, up, rea, ck, data, cl⟩ = sdn rea := by simp [tailB, puts]
    rw [e]
    omega
  have q6 : (K == 6) = false := by rw [beq_eq_false_iff_ne]; exact k6
  have e : tailB ⟨K, src, ses, ser, chk, off, tot, low, up, rea, ck, data, cl⟩ = [] := by simp [tailB, q1, q2, q3, q4, q6]
  rw [e]
  simp
theorem body_le (s : T26) (hw : Wf s) (hc : chkT s = 0) : (sealB (bodyB s)).length ≤ 130 := by
  obtain ⟨h1, h2, h3⟩ := tail_le s hw hc
  have a := sdn1 s.Source (by omega) (by omega)
  have b := sdn5 s.Session hw.ses.1 hw.ses.2
  rw [sealB_length, bodyB_tail, (w32 hw.ses.1 hw.ses.2).1]
  simp only [List.length_cons, List.length_append]
  omega
end Go.Proofs.YthjefcamonmjpaaV
