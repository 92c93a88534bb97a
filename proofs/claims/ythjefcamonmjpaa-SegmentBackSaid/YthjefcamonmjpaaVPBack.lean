/- What is decoded, encoded again, is what stood there. -/
import Derived.Test.YthjefcamonmjpaaVPDec
namespace Go.Proofs.YthjefcamonmjpaaV
open Go Go.Proofs.Ythjefcamonmjpaa
set_option linter.unusedVariables false
set_option linter.unusedSimpArgs false
def S8 (l : List Int) : Prop := Bytes l ∧ l.length ≤ 800
theorem ri (k : Nat) (hk : 61000 ≤ k) (l : List Int) (bad : Bool) (hs : S8 l) : ∃ v l' b', f25_p_brb k l bad = some (.o0 v l' b') ∧ S8 l' ∧ 0 ≤ v ∧ v < 4294967296 ∧ (b' = false → bad = false ∧ l = sdn v ++ l') := by
  have h2 := hs.2
  have hl := getN_left l bad hs.1
  refine ⟨(getN l bad).1, (getN l bad).2.1, (getN l bad).2.2, reader_at k l bad hs.1 (by omega) (by omega), ⟨hl.1, by omega⟩, ?_⟩
  cases hb : (getN l bad).2.2
  · obtain ⟨h3, h4, h5, h6⟩ := getN_inv l hs.1 bad hb
    exact ⟨h4, h5, fun _ => ⟨h3, h6⟩⟩
  · have h0 : (getN l bad).1 = 0 := by
      cases bad
      · unfold getN at hb ⊢
        rw [if_neg (by decide)] at hb ⊢
        split
        · rfl
        · rename_i h7
          rw [if_neg h7] at hb
          split
          · rfl
          · rename_i h8
            rw [if_neg h8] at hb
            cases hb
      · rfl
    rw [h0]
    exact ⟨by omega, by omega, fun h => by cases h⟩
/-- What was read is what the segment's writing is. -/
def Back (l : List Int) (bad : Bool) (K src ses : Int) (r : List Int × Bool × T26) : Prop :=
  Bytes r.2.2.Data ∧ r.2.2.Data.length ≤ 800 ∧ r.2.2.Claims.length ≤ 20 ∧ (r.2.2.Kind = K ∧ r.2.2.Source = src ∧ r.2.2.Session = ses) ∧ (r.2.1 = false → bad = false ∧ l = tailB r.2.2 ++ r.1)
theorem back_l7 (k : Nat) (hk : 61000 ≤ k) (x : Nat) (hx : x ≤ 20) (a0 a1 a2 a3 a4 a5 a6 a7 a8 a9 : Int) (a10 : Bool) (a11 : List Int) : ∀ (d i n : Nat) (l : List Int) (bad : Bool) (acc : List T45), i + d = x → d < n → acc.length ≤ i → S8 l →
    ∃ l' b' new, f26_pp_brbbiiiiiiiiiibrow_s1_l7 k n (x : Int) (i : Int) l bad a0 a1 a2 a3 a4 a5 a6 a7 a8 a9 a10 a11 acc = some (.o1 (x : Int) (x : Int) false l' b' a0 a1 a2 a3 a4 a5 a6 a7 a8 a9 a10 a11 (acc ++ new)) ∧ new.length = d ∧ S8 l' ∧ (b' = false → bad = false ∧ l = (new.flatMap fun c => puts [c.At, c.N]) ++ l')
  | 0, i, n, l, bad, acc, hi, hn, _, hs => by
    obtain ⟨n, rfl⟩ : ∃ j, n = j + 1 := ⟨n - 1, by omega⟩
    obtain rfl : i = x := by simpa using hi
    exact ⟨l, bad, [], by simp [f26_pp_brbbiiiiiiiiiibrow_s1_l7, f26_pp_brbbiiiiiiiiiibrow_s1_l7_b], rfl, hs, fun h => ⟨h, rfl⟩⟩
  | d + 1, i, n, l, bad, acc, hi, hn, ha, hs => by
    obtain ⟨n, rfl⟩ : ∃ j, n = j + 1 := ⟨n - 1, by omega⟩
    have hlt : ((i : Int) < (x : Int)) := by omega
    have hw : IntKind.i64.wrap ((i : Int) + 1) = ((i + 1 : Nat) : Int) := by rw [wrap_i64 (by omega) (by omega)]; rfl
    have hr : roomy = 70368744177664 := rfl
    obtain ⟨v1, l1, b1, e1, s1, p1, q1, i1⟩ := ri k hk l bad hs
    obtain ⟨v2, l2, b2, e2, s2, p2, q2, i2⟩ := ri k hk l1 b1 s1
    obtain ⟨l', b', new, f1, f2, f3, f4⟩ := back_l7 k hk x hx a0 a1 a2 a3 a4 a5 a6 a7 a8 a9 a10 a11 d (i + 1) n l2 b2 (acc ++ [T45.mk v1 v2]) (by omega) (by omega) (by simp; omega) s2
    refine ⟨l', b', T45.mk v1 v2 :: new, ?_, by simp [f2], f3, ?_⟩
    · rw [List.append_assoc, List.singleton_append] at f1
      rw [← f1]
      simp only [f26_pp_brbbiiiiiiiiiibrow_s1_l7, f26_pp_brbbiiiiiiiiiibrow_s1_l7_b, decide_eq_true hlt, cond_true, f26_pp_brbbiiiiiiiiiibrow_s1_l7_j1, e1, e2, Option.bind_some, ifE_pos (show (acc.length + 1) * 16 ≤ roomy by omega), f26_pp_brbbiiiiiiiiiibrow_s1_l7_j2, hw]
    · intro h
      obtain ⟨g1, g2⟩ := f4 h
      obtain ⟨g3, g4⟩ := i2 g1
      obtain ⟨g5, g6⟩ := i1 g3
      refine ⟨g5, ?_⟩
      rw [g6, g4, g2]
      simp [puts]
theorem back_j5 (k : Nat) (hk : 61000 ≤ k) (x : Nat) (hx : x ≤ 20) (a0 a1 a2 a3 a4 a5 a6 a7 a8 a9 : Int) (a10 : Bool) (a11 : List Int) (l : List Int) (bad : Bool) (hs : S8 l) :
    ∃ l' b' new, (f26_pp_brbbiiiiiiiiiibrow_s1_j5 k (x : Int) false l bad a0 a1 a2 a3 a4 a5 a6 a7 a8 a9 a10 a11 [] = some (.o4 (x : Int) 0 false l' b' a0 a1 a2 a3 a4 a5 a6 a7 a8 a9 a10 a11 new) ∨ f26_pp_brbbiiiiiiiiiibrow_s1_j5 k (x : Int) false l bad a0 a1 a2 a3 a4 a5 a6 a7 a8 a9 a10 a11 [] = some (.o5 (x : Int) (x : Int) false l' b' a0 a1 a2 a3 a4 a5 a6 a7 a8 a9 a10 a11 new)) ∧ new.length = x ∧ S8 l' ∧ (b' = false → bad = false ∧ l = (new.flatMap fun c => puts [c.At, c.N]) ++ l') := by
  obtain ⟨n, rfl⟩ : ∃ j, k = j + 1 := ⟨k - 1, by omega⟩
  have hr : roomy = 70368744177664 := rfl
  cases x with
  | zero => exact ⟨l, bad, [], .inl (by simp [f26_pp_brbbiiiiiiiiiibrow_s1_j5, f26_pp_brbbiiiiiiiiiibrow_s1_l6, f26_pp_brbbiiiiiiiiiibrow_s1_l6_b, f26_pp_brbbiiiiiiiiiibrow_s1_j8]), rfl, hs, fun h => ⟨h, rfl⟩⟩
  | succ x =>
    have hlt : ((0 : Int) < ((x + 1 : Nat) : Int)) := by omega
    have hw : IntKind.i64.wrap ((0 : Int) + 1) = ((1 : Nat) : Int) := by decide +kernel
    obtain ⟨v1, l1, b1, e1, s1, p1, q1, i1⟩ := ri (n + 1) hk l bad hs
    obtain ⟨v2, l2, b2, e2, s2, p2, q2, i2⟩ := ri (n + 1) hk l1 b1 s1
    obtain ⟨l', b', new, f1, f2, f3, f4⟩ := back_l7 (n + 1) hk (x + 1) hx a0 a1 a2 a3 a4 a5 a6 a7 a8 a9 a10 a11 x 1 n l2 b2 [T45.mk v1 v2] (by omega) (by omega) (by simp) s2
    refine ⟨l', b', T45.mk v1 v2 :: new, .inr ?_, by simp [f2], f3, ?_⟩
    · simp only [f26_pp_brbbiiiiiiiiiibrow_s1_j5, f26_pp_brbbiiiiiiiiiibrow_s1_l6, f26_pp_brbbiiiiiiiiiibrow_s1_l6_b, decide_eq_true hlt, cond_true, f26_pp_brbbiiiiiiiiiibrow_s1_l6_j1, e1, e2, Option.bind_some, List.length_nil, ifE_pos (show (0 + 1) * 16 ≤ roomy by omega), f26_pp_brbbiiiiiiiiiibrow_s1_l6_j2, hw, List.nil_append, f1, f26_pp_brbbiiiiiiiiiibrow_s1_j9, List.singleton_append]
    · intro h
      obtain ⟨g1, g2⟩ := f4 h
      obtain ⟨g3, g4⟩ := i2 g1
      obtain ⟨g5, g6⟩ := i1 g3
      refine ⟨g5, ?_⟩
      rw [g6, g4, g2]
      simp [puts]
theorem fld_back (l : List Int) (bad : Bool) (K src ses : Int) (k : Nat) (hk : 61001 ≤ k) (hs : S8 l) : ∃ o, f26_pp_brbbiiiiiiiiiibrow k l bad K src ses 0 0 0 0 0 0 0 false [] [] = some o ∧ Back l bad K src ses o.val := by
  obtain ⟨k, rfl⟩ : ∃ j, k = j + 2 := ⟨k - 2, by omega⟩
  have hr : roomy = 70368744177664 := rfl
  have hnil : Bytes ([] : List Int) := fun x hx => by cases hx
  by_cases k1 : K = 1
  · subst k1
    obtain ⟨v1, l1, b1, e1, s1, p1, q1, i1⟩ := ri (k + 1) (by omega) l bad hs
    by_cases c1 : v1 = 1
    · subst c1
      obtain ⟨v2, l2, b2, e2, s2, p2, q2, i2⟩ := ri (k + 1) (by omega) l1 b1 s1
      obtain ⟨v3, l3, b3, e3, s3, p3, q3, i3⟩ := ri (k + 1) (by omega) l2 b2 s2
      obtain ⟨v4, l4, b4, e4, s4, p4, q4, i4⟩ := ri (k + 1) (by omega) l3 b3 s3
      obtain ⟨v5, l5, b5, e5, s5, p5, q5, i5⟩ := ri (k + 1) (by omega) l4 b4 s4
      have w2 := w32 p2 q2
      by_cases hn : v5 > (l5.length : Int)
      · refine ⟨.o1 l5 true 1 src ses v2 0 v3 v4 0 0 0 true [] [], ?_, hnil, by simp [R26_pp_brbbiiiiiiiiiibrow.val], by simp [R26_pp_brbbiiiiiiiiiibrow.val], ⟨rfl, rfl, rfl⟩, fun h => by cases h⟩
        simp only [f26_pp_brbbiiiiiiiiiibrow, f26_pp_brbbiiiiiiiiiibrow_e, f26_pp_brbbiiiiiiiiiibrow_s1, f26_pp_brbbiiiiiiiiiibrow_s1_b, show ((1 : Int) == 1) = true from rfl, cond_true, e1, e2, e3, e4, e5, Option.bind_some, f26_pp_brbbiiiiiiiiiibrow_s1_j1, decide_eq_true hn, w2.2, f26_pp_brbbiiiiiiiiiibrow_s1_g0, f26_pp_brbbiiiiiiiiiibrow_s1_g0_b]
      · have hlen := s5.2
        have hle : v5.toNat ≤ l5.length := by omega
        refine ⟨.o0 (l5.drop v5.toNat) b5 1 src ses v2 0 v3 v4 0 0 0 true [] (l5.take v5.toNat), ?_, bytes_take s5.1 _, ?_, by simp [R26_pp_brbbiiiiiiiiiibrow.val], ⟨rfl, rfl, rfl⟩, ?_⟩
        · simp only [f26_pp_brbbiiiiiiiiiibrow, f26_pp_brbbiiiiiiiiiibrow_e, f26_pp_brbbiiiiiiiiiibrow_s1, f26_pp_brbbiiiiiiiiiibrow_s1_b, show ((1 : Int) == 1) = true from rfl, cond_true, cond_false, e1, e2, e3, e4, e5, Option.bind_some, f26_pp_brbbiiiiiiiiiibrow_s1_j1, decide_eq_false hn, w2.2, f26_pp_brbbiiiiiiiiiibrow_s1_j2, ifE_pos p5, ifE_pos hle, f34_r, ifE_pos (show (l5.take v5.toNat).length * 1 ≤ roomy by rw [List.length_take]; omega), f26_pp_brbbiiiiiiiiiibrow_s1_j3, List.take_length]
        · simp only [R26_pp_brbbiiiiiiiiiibrow.val, List.length_take]
          omega
        · intro h
          obtain ⟨g5, h5⟩ := i5 h
          obtain ⟨g4, h4⟩ := i4 g5
          obtain ⟨g3, h3⟩ := i3 g4
          obtain ⟨g2, h2⟩ := i2 g3
          obtain ⟨g1, h1⟩ := i1 g2
          refine ⟨g1, ?_⟩
          have hv : (((l5.take v5.toNat).length : Nat) : Int) = v5 := by rw [List.length_take]; omega
          have e : tailB ⟨1, src, ses, v2, 0, v3, v4, 0, 0, 0, true, l5.take v5.toNat, []⟩ = sdn 1 ++ (sdn v2 ++ (sdn v3 ++ (sdn v4 ++ (sdn v5 ++ l5.take v5.toNat)))) := by simp only [tailB, show ((1 : Int) == 1) = true from rfl, cond_true, w2.1, hv]; simp [puts]
          simp only [R26_pp_brbbiiiiiiiiiibrow.val]
          rw [e, h1, h2, h3, h4, h5]
          simp only [List.append_assoc, List.take_append_drop]
    · have d1 : (v1 == 1) = false := by rw [beq_eq_false_iff_ne]; exact c1
      by_cases c0 : v1 = 0
      · subst c0
        obtain ⟨v3, l3, b3, e3, s3, p3, q3, i3⟩ := ri (k + 1) (by omega) l1 b1 s1
        obtain ⟨v4, l4, b4, e4, s4, p4, q4, i4⟩ := ri (k + 1) (by omega) l3 b3 s3
        obtain ⟨v5, l5, b5, e5, s5, p5, q5, i5⟩ := ri (k + 1) (by omega) l4 b4 s4
        by_cases hn : v5 > (l5.length : Int)
        · refine ⟨.o1 l5 true 1 src ses 0 0 v3 v4 0 0 0 false [] [], ?_, hnil, by simp [R26_pp_brbbiiiiiiiiiibrow.val], by simp [R26_pp_brbbiiiiiiiiiibrow.val], ⟨rfl, rfl, rfl⟩, fun h => by cases h⟩
          simp only [f26_pp_brbbiiiiiiiiiibrow, f26_pp_brbbiiiiiiiiiibrow_e, f26_pp_brbbiiiiiiiiiibrow_s1, f26_pp_brbbiiiiiiiiiibrow_s1_b, show ((1 : Int) == 1) = true from rfl, show ((0 : Int) == 1) = false from rfl, show ((0 : Int) == 0) = true from rfl, cond_true, cond_false, e1, e3, e4, e5, Option.bind_some, f26_pp_brbbiiiiiiiiiibrow_s1_j4, decide_eq_true hn, f26_pp_brbbiiiiiiiiiibrow_s1_g0, f26_pp_brbbiiiiiiiiiibrow_s1_g0_b]
        · have hlen := s5.2
          have hle : v5.toNat ≤ l5.length := by omega
          refine ⟨.o0 (l5.drop v5.toNat) b5 1 src ses 0 0 v3 v4 0 0 0 false [] (l5.take v5.toNat), ?_, bytes_take s5.1 _, ?_, by simp [R26_pp_brbbiiiiiiiiiibrow.val], ⟨rfl, rfl, rfl⟩, ?_⟩
          · simp only [f26_pp_brbbiiiiiiiiiibrow, f26_pp_brbbiiiiiiiiiibrow_e, f26_pp_brbbiiiiiiiiiibrow_s1, f26_pp_brbbiiiiiiiiiibrow_s1_b, show ((1 : Int) == 1) = true from rfl, show ((0 : Int) == 1) = false from rfl, show ((0 : Int) == 0) = true from rfl, cond_true, cond_false, e1, e3, e4, e5, Option.bind_some, f26_pp_brbbiiiiiiiiiibrow_s1_j4, decide_eq_false hn, f26_pp_brbbiiiiiiiiiibrow_s1_j2, ifE_pos p5, ifE_pos hle, f34_r, ifE_pos (show (l5.take v5.toNat).length * 1 ≤ roomy by rw [List.length_take]; omega), f26_pp_brbbiiiiiiiiiibrow_s1_j3, List.take_length]
          · simp only [R26_pp_brbbiiiiiiiiiibrow.val, List.length_take]
            omega
          · intro h
            obtain ⟨g5, h5⟩ := i5 h
            obtain ⟨g4, h4⟩ := i4 g5
            obtain ⟨g3, h3⟩ := i3 g4
            obtain ⟨g1, h1⟩ := i1 g3
            refine ⟨g1, ?_⟩
            have hv : (((l5.take v5.toNat).length : Nat) : Int) = v5 := by rw [List.length_take]; omega
            have e : tailB ⟨1, src, ses, 0, 0, v3, v4, 0, 0, 0, false, l5.take v5.toNat, []⟩ = sdn 0 ++ (sdn v3 ++ (sdn v4 ++ (sdn v5 ++ l5.take v5.toNat))) := by simp only [tailB, show ((1 : Int) == 1) = true from rfl, cond_true, cond_false, hv]; simp [puts]
            simp only [R26_pp_brbbiiiiiiiiiibrow.val]
            rw [e, h1, h3, h4, h5]
            simp only [List.append_assoc, List.take_append_drop]
      · have d0 : (v1 == 0) = false := by rw [beq_eq_false_iff_ne]; exact c0
        refine ⟨.o1 l1 true 1 src ses 0 0 0 0 0 0 0 false [] [], ?_, hnil, by simp [R26_pp_brbbiiiiiiiiiibrow.val], by simp [R26_pp_brbbiiiiiiiiiibrow.val], ⟨rfl, rfl, rfl⟩, fun h => by cases h⟩
        simp only [f26_pp_brbbiiiiiiiiiibrow, f26_pp_brbbiiiiiiiiiibrow_e, f26_pp_brbbiiiiiiiiiibrow_s1, f26_pp_brbbiiiiiiiiiibrow_s1_b, show ((1 : Int) == 1) = true from rfl, d1, d0, cond_true, cond_false, e1, Option.bind_some, f26_pp_brbbiiiiiiiiiibrow_s1_g1, f26_pp_brbbiiiiiiiiiibrow_s1_g1_b]
  have n1 : (K == 1) = false := by rw [beq_eq_false_iff_ne]; exact k1
  by_cases k2 : K = 2
  · subst k2
    obtain ⟨v1, l1, b1, e1, s1, p1, q1, i1⟩ := ri (k + 1) (by omega) l bad hs
    obtain ⟨v2, l2, b2, e2, s2, p2, q2, i2⟩ := ri (k + 1) (by omega) l1 b1 s1
    obtain ⟨v3, l3, b3, e3, s3, p3, q3, i3⟩ := ri (k + 1) (by omega) l2 b2 s2
    obtain ⟨v4, l4, b4, e4, s4, p4, q4, i4⟩ := ri (k + 1) (by omega) l3 b3 s3
    obtain ⟨v5, l5, b5, e5, s5, p5, q5, i5⟩ := ri (k + 1) (by omega) l4 b4 s4
    have w1 := w32 p1 q1
    have w2 := w32 p2 q2
    by_cases hn : v5 > 20
    · refine ⟨.o1 l5 true 2 src ses v1 v2 0 0 v3 v4 0 false [] [], ?_, hnil, by simp [R26_pp_brbbiiiiiiiiiibrow.val], by simp [R26_pp_brbbiiiiiiiiiibrow.val], ⟨rfl, rfl, rfl⟩, fun h => by cases h⟩
      simp only [f26_pp_brbbiiiiiiiiiibrow, f26_pp_brbbiiiiiiiiiibrow_e, f26_pp_brbbiiiiiiiiiibrow_s1, f26_pp_brbbiiiiiiiiiibrow_s1_b, show ((2 : Int) == 1) = false from rfl, show ((2 : Int) == 2) = true from rfl, cond_true, cond_false, e1, e2, e3, e4, e5, Option.bind_some, decide_eq_true hn, w1.2, w2.2, f26_pp_brbbiiiiiiiiiibrow_s1_g2, f26_pp_brbbiiiiiiiiiibrow_s1_g2_b]
    · obtain ⟨x, rfl⟩ := Int.eq_ofNat_of_zero_le p5
      obtain ⟨l', b', new, f1, f2, f3, f4⟩ := back_j5 (k + 1) (by omega) x (by omega) 2 src ses v1 v2 0 0 v3 v4 0 false [] l5 b5 s5
      have fin : b' = false → bad = false ∧ l = tailB ⟨2, src, ses, v1, v2, 0, 0, v3, v4, 0, false, [], new⟩ ++ l' := by
        intro h
        obtain ⟨g6, h6⟩ := f4 h
        obtain ⟨g5, h5⟩ := i5 g6
        obtain ⟨g4, h4⟩ := i4 g5
        obtain ⟨g3, h3⟩ := i3 g4
        obtain ⟨g2, h2⟩ := i2 g3
        obtain ⟨g1, h1⟩ := i1 g2
        refine ⟨g1, ?_⟩
        have e : tailB ⟨2, src, ses, v1, v2, 0, 0, v3, v4, 0, false, [], new⟩ = sdn v1 ++ (sdn v2 ++ (sdn v3 ++ (sdn v4 ++ (sdn (x : Int) ++ (new.flatMap fun c => puts [c.At, c.N]))))) := by simp only [tailB, show ((2 : Int) == 1) = false from rfl, show ((2 : Int) == 2) = true from rfl, cond_true, cond_false, w1.1, w2.1, f2]; simp [puts]
        rw [e, h1, h2, h3, h4, h5, h6]
        simp only [List.append_assoc]
      rcases f1 with f1 | f1
      · refine ⟨.o1 l' b' 2 src ses v1 v2 0 0 v3 v4 0 false [] new, ?_, hnil, by simp [R26_pp_brbbiiiiiiiiiibrow.val], by simp only [R26_pp_brbbiiiiiiiiiibrow.val]; omega, ⟨rfl, rfl, rfl⟩, fin⟩
        simp only [f26_pp_brbbiiiiiiiiiibrow, f26_pp_brbbiiiiiiiiiibrow_e, f26_pp_brbbiiiiiiiiiibrow_s1, f26_pp_brbbiiiiiiiiiibrow_s1_b, show ((2 : Int) == 1) = false from rfl, show ((2 : Int) == 2) = true from rfl, cond_true, cond_false, e1, e2, e3, e4, e5, Option.bind_some, decide_eq_false hn, w1.2, w2.2, f1]
      · refine ⟨.o2 l' b' 2 src ses v1 v2 0 0 v3 v4 0 false [] new, ?_, hnil, by simp [R26_pp_brbbiiiiiiiiiibrow.val], by simp only [R26_pp_brbbiiiiiiiiiibrow.val]; omega, ⟨rfl, rfl, rfl⟩, fin⟩
        simp only [f26_pp_brbbiiiiiiiiiibrow, f26_pp_brbbiiiiiiiiiibrow_e, f26_pp_brbbiiiiiiiiiibrow_s1, f26_pp_brbbiiiiiiiiiibrow_s1_b, show ((2 : Int) == 1) = false from rfl, show ((2 : Int) == 2) = true from rfl, cond_true, cond_false, e1, e2, e3, e4, e5, Option.bind_some, decide_eq_false hn, w1.2, w2.2, f1]
  have n2 : (K == 2) = false := by rw [beq_eq_false_iff_ne]; exact k2
  by_cases k3 : K = 3
  · subst k3
    obtain ⟨v1, l1, b1, e1, s1, p1, q1, i1⟩ := ri (k + 1) (by omega) l bad hs
    have w1 := w32 p1 q1
    refine ⟨.o1 l1 b1 3 src ses v1 0 0 0 0 0 0 false [] [], ?_, hnil, by simp [R26_pp_brbbiiiiiiiiiibrow.val], by simp [R26_pp_brbbiiiiiiiiiibrow.val], ⟨rfl, rfl, rfl⟩, ?_⟩
    · simp only [f26_pp_brbbiiiiiiiiiibrow, f26_pp_brbbiiiiiiiiiibrow_e, f26_pp_brbbiiiiiiiiiibrow_s1, f26_pp_brbbiiiiiiiiiibrow_s1_b, show ((3 : Int) == 1) = false from rfl, show ((3 : Int) == 2) = false from rfl, show ((3 : Int) == 3) = true from rfl, cond_true, cond_false, e1, Option.bind_some, w1.2, f26_pp_brbbiiiiiiiiiibrow_s1_j10]
    · intro h
      obtain ⟨g1, h1⟩ := i1 h
      refine ⟨g1, ?_⟩
      have e : tailB ⟨3, src, ses, v1, 0, 0, 0, 0, 0, 0, false, [], []⟩ = sdn v1 := by simp [tailB, puts, w1.1]
      simp only [R26_pp_brbbiiiiiiiiiibrow.val]
      rw [e, h1]
  have n3 : (K == 3) = false := by rw [beq_eq_false_iff_ne]; exact k3
  by_cases k4 : K = 4
  · subst k4
    obtain ⟨v1, l1, b1, e1, s1, p1, q1, i1⟩ := ri (k + 1) (by omega) l bad hs
    refine ⟨.o1 l1 b1 4 src ses 0 0 0 0 0 0 v1 false [] [], ?_, hnil, by simp [R26_pp_brbbiiiiiiiiiibrow.val], by simp [R26_pp_brbbiiiiiiiiiibrow.val], ⟨rfl, rfl, rfl⟩, ?_⟩
    · simp only [f26_pp_brbbiiiiiiiiiibrow, f26_pp_brbbiiiiiiiiiibrow_e, f26_pp_brbbiiiiiiiiiibrow_s1, f26_pp_brbbiiiiiiiiiibrow_s1_b, show ((4 : Int) == 1) = false from rfl, show ((4 : Int) == 2) = false from rfl, show ((4 : Int) == 3) = false from rfl, show ((4 : Int) == 4) = true from rfl, cond_true, cond_false, f26_pp_brbbiiiiiiiiiibrow_s1_j11, e1, Option.bind_some, f26_pp_brbbiiiiiiiiiibrow_s1_j10]
    · intro h
      obtain ⟨g1, h1⟩ := i1 h
      refine ⟨g1, ?_⟩
      have e : tailB ⟨4, src, ses, 0, 0, 0, 0, 0, 0, v1, false, [], []⟩ = sdn v1 := by simp [tailB, puts]
      simp only [R26_pp_brbbiiiiiiiiiibrow.val]
      rw [e, h1]
  have n4 : (K == 4) = false := by rw [beq_eq_false_iff_ne]; exact k4
  by_cases k6 : K = 6
  · subst k6
    obtain ⟨v1, l1, b1, e1, s1, p1, q1, i1⟩ := ri (k + 1) (by omega) l bad hs
    refine ⟨.o1 l1 b1 6 src ses 0 0 0 0 0 0 v1 false [] [], ?_, hnil, by simp [R26_pp_brbbiiiiiiiiiibrow.val], by simp [R26_pp_brbbiiiiiiiiiibrow.val], ⟨rfl, rfl, rfl⟩, ?_⟩
    · simp only [f26_pp_brbbiiiiiiiiiibrow, f26_pp_brbbiiiiiiiiiibrow_e, f26_pp_brbbiiiiiiiiiibrow_s1, f26_pp_brbbiiiiiiiiiibrow_s1_b, show ((6 : Int) == 1) = false from rfl, show ((6 : Int) == 2) = false from rfl, show ((6 : Int) == 3) = false from rfl, show ((6 : Int) == 4) = false from rfl, show ((6 : Int) == 6) = true from rfl, cond_true, cond_false, f26_pp_brbbiiiiiiiiiibrow_s1_j13, e1, Option.bind_some, f26_pp_brbbiiiiiiiiiibrow_s1_j10]
    · intro h
      obtain ⟨g1, h1⟩ := i1 h
      refine ⟨g1, ?_⟩
      have e : tailB ⟨6, src, ses, 0, 0, 0, 0, 0, 0, v1, false, [], []⟩ = sdn v1 := by simp [tailB, puts]
      simp only [R26_pp_brbbiiiiiiiiiibrow.val]
      rw [e, h1]
  have n6 : (K == 6) = false := by rw [beq_eq_false_iff_ne]; exact k6
  refine ⟨.o1 l bad K src ses 0 0 0 0 0 0 0 false [] [], ?_, hnil, by simp [R26_pp_brbbiiiiiiiiiibrow.val], by simp [R26_pp_brbbiiiiiiiiiibrow.val], ⟨rfl, rfl, rfl⟩, ?_⟩
  · simp only [f26_pp_brbbiiiiiiiiiibrow, f26_pp_brbbiiiiiiiiiibrow_e, f26_pp_brbbiiiiiiiiiibrow_s1, f26_pp_brbbiiiiiiiiiibrow_s1_b, n1, n2, n3, n4, n6, cond_false, f26_pp_brbbiiiiiiiiiibrow_s1_j13, f26_pp_brbbiiiiiiiiiibrow_s1_j14, Option.bind_some]
  · intro h
    have e : tailB ⟨K, src, ses, 0, 0, 0, 0, 0, 0, 0, false, [], []⟩ = [] := by simp [tailB, n1, n2, n3, n4, n6]
    simp only [R26_pp_brbbiiiiiiiiiibrow.val] at h ⊢
    rw [e]
    exact ⟨h, rfl⟩
def zeroT : T26 := ⟨0, 0, 0, 0, 0, 0, 0, 0, 0, 0, false, [], []⟩
set_option maxHeartbeats 1000000 in
/-- What Decode answers, of any bytes: a segment whose bytes they are, or none. -/
theorem dec_back (l : List Int) (hb : Bytes l) (hl : l.length ≤ 700) (k : Nat) (hk : 70000 ≤ k) : ∃ o, f13_r k l = some o ∧ ((o.val.2 = 0 ∧ chkT o.val.1 = 0 ∧ Bytes o.val.1.Data ∧ o.val.1.Data.length < 1000 ∧ o.val.1.Claims.length < 1000 ∧ sealB (bodyB o.val.1) = l) ∨ (o.val.1 = zeroT ∧ (o.val.2 = 7 ∨ o.val.2 = 130 ∨ o.val.2 = 200))) := by
  obtain ⟨k, rfl⟩ : ∃ j, k = j + 1 := ⟨k - 1, by omega⟩
  have hk : 61001 ≤ k := by omega
  have hr : roomy = 70368744177664 := rfl
  by_cases h7 : ((l.length : Int) < 7)
  · exact ⟨.o0 0 0 0 0 0 0 0 0 0 0 false [] 7 [], by simp only [f13_r, f13_r_e, decide_eq_true h7, cond_true], .inr ⟨rfl, .inl rfl⟩⟩
  · have ho := open32_at k l hb (by omega) (by omega)
    by_cases hseal : sealB (l.take (l.length - 4)) = l
    · have hop : opensB l = .o1 0 (l.take (l.length - 4)) := by unfold opensB; rw [if_neg (by omega), if_pos hseal]
      rw [hop] at ho
      obtain ⟨body, hbody⟩ : ∃ body, body = l.take (l.length - 4) := ⟨_, rfl⟩
      rw [← hbody] at ho hseal
      have hbl : body.length = l.length - 4 := by rw [hbody, List.length_take]; omega
      have hbb : Bytes body := by rw [hbody]; exact bytes_take hb _
      cases body with
      | nil => simp at hbl; omega
      | cons c rest =>
        have hc := hbb c (List.mem_cons_self ..)
        have hrb : Bytes rest := fun x hx => hbb x (List.mem_cons_of_mem _ hx)
        simp only [List.length_cons] at hbl
        obtain ⟨v1, l1, b1, e1, s1, p1, q1, i1⟩ := ri k (by omega) rest false ⟨hrb, by omega⟩
        obtain ⟨v2, l2, b2, e2, s2, p2, q2, i2⟩ := ri k (by omega) l1 b1 s1
        have w2 := w32 p2 q2
        have wk : IntKind.i64.wrap c = c := wrap_i64 (by omega) (by omega)
        have wk8 : IntKind.u8.wrap c = c := wrap_u8 (by omega) (by omega)
        obtain ⟨o, f1, f2, f3, f4, ⟨f5, f6, f7⟩, f8⟩ := fld_back l2 b2 c v1 v2 k hk s2
        have hchk := chk_at o.val.2.2 k (by omega) (by omega) (by omega)
        -- what the answer is
        have key : o.val.2.1 = false → o.val.1 = [] → sealB (bodyB o.val.2.2) = l := by
          intro a1 a2
          obtain ⟨g2, h3⟩ := f8 a1
          obtain ⟨g1, h2⟩ := i2 g2
          obtain ⟨_, h1⟩ := i1 g1
          rw [bodyB_tail, f5, f6, f7, wk8, w2.1]
          rw [a2, List.append_nil] at h3
          rw [← h3, ← h2, ← h1]
          exact hseal
        simp only [f13_r, f13_r_e, decide_eq_false h7, cond_false, f13_r_j1, ho, Option.bind_some, show ((0 : Int) != 0) = false from rfl, f13_r_j2, List.length_cons]
        rw [ifE_pos (by omega)]
        have hlt : (c :: rest).take (rest.length + 1) = c :: rest := List.take_of_length_le (by simp)
        simp only [List.getElem?_cons_zero, Option.bind_some, hlt, List.drop_succ_cons, List.drop_zero, e1, e2, wk, w2.2, f1]
        cases o with
        | o0 y y1 y2 y3 y4 y5 y6 y7 y8 y9 y10 y11 y12 y13 y14 =>
          simp only [R26_pp_brbbiiiiiiiiiibrow.val] at hchk key f2 f3 f4
          cases y1
          · by_cases hy : ((y.length : Int) > 0)
            · exact ⟨.o0 0 0 0 0 0 0 0 0 0 0 false [] 200 [], by simp only [cond_false, decide_eq_true hy, cond_true], .inr ⟨rfl, .inr (.inr rfl)⟩⟩
            · have hy0 : y = [] := List.length_eq_zero_iff.1 (by omega)
              subst hy0
              by_cases hz : chkT ⟨y2, y3, y4, y5, y6, y7, y8, y9, y10, y11, y12, y14, y13⟩ = 0
              · exact ⟨.o1 y2 y3 y4 y5 y6 y7 y8 y9 y10 y11 y12 0 y14 y13, by simp only [cond_false, decide_eq_false hy, hchk, hz, Option.bind_some, show ((0 : Int) != 0) = false from rfl, f13_r_j3], .inl ⟨rfl, hz, f2, Nat.lt_of_le_of_lt f3 (by decide), Nat.lt_of_le_of_lt f4 (by decide), key rfl rfl⟩⟩
              · have hz' : (chkT ⟨y2, y3, y4, y5, y6, y7, y8, y9, y10, y11, y12, y14, y13⟩ != 0) = true := by simpa using hz
                exact ⟨.o0 0 0 0 0 0 0 0 0 0 0 false [] 200 [], by simp only [cond_false, decide_eq_false hy, hchk, hz', Option.bind_some, cond_true], .inr ⟨rfl, .inr (.inr rfl)⟩⟩
          · exact ⟨.o0 0 0 0 0 0 0 0 0 0 0 false [] 200 [], by simp only [cond_true], .inr ⟨rfl, .inr (.inr rfl)⟩⟩
        | o1 y y1 y2 y3 y4 y5 y6 y7 y8 y9 y10 y11 y12 y13 y14 =>
          simp only [R26_pp_brbbiiiiiiiiiibrow.val] at hchk key f2 f3 f4
          cases y1
          · by_cases hy : ((y.length : Int) > 0)
            · exact ⟨.o0 0 0 0 0 0 0 0 0 0 0 false [] 200 [], by simp only [cond_false, decide_eq_true hy, cond_true], .inr ⟨rfl, .inr (.inr rfl)⟩⟩
            · have hy0 : y = [] := List.length_eq_zero_iff.1 (by omega)
              subst hy0
              by_cases hz : chkT ⟨y2, y3, y4, y5, y6, y7, y8, y9, y10, y11, y12, y13, y14⟩ = 0
              · exact ⟨.o0 y2 y3 y4 y5 y6 y7 y8 y9 y10 y11 y12 y13 0 y14, by simp only [cond_false, decide_eq_false hy, hchk, hz, Option.bind_some, show ((0 : Int) != 0) = false from rfl, f13_r_j4], .inl ⟨rfl, hz, f2, Nat.lt_of_le_of_lt f3 (by decide), Nat.lt_of_le_of_lt f4 (by decide), key rfl rfl⟩⟩
              · have hz' : (chkT ⟨y2, y3, y4, y5, y6, y7, y8, y9, y10, y11, y12, y13, y14⟩ != 0) = true := by simpa using hz
                exact ⟨.o0 0 0 0 0 0 0 0 0 0 0 false [] 200 [], by simp only [cond_false, decide_eq_false hy, hchk, hz', Option.bind_some, cond_true], .inr ⟨rfl, .inr (.inr rfl)⟩⟩
          · exact ⟨.o0 0 0 0 0 0 0 0 0 0 0 false [] 200 [], by simp only [cond_true], .inr ⟨rfl, .inr (.inr rfl)⟩⟩
        | o2 y y1 y2 y3 y4 y5 y6 y7 y8 y9 y10 y11 y12 y13 y14 =>
          simp only [R26_pp_brbbiiiiiiiiiibrow.val] at hchk key f2 f3 f4
          cases y1
          · by_cases hy : ((y.length : Int) > 0)
            · exact ⟨.o0 0 0 0 0 0 0 0 0 0 0 false [] 200 [], by simp only [cond_false, decide_eq_true hy, cond_true], .inr ⟨rfl, .inr (.inr rfl)⟩⟩
            · have hy0 : y = [] := List.length_eq_zero_iff.1 (by omega)
              subst hy0
              by_cases hz : chkT ⟨y2, y3, y4, y5, y6, y7, y8, y9, y10, y11, y12, y13, y14⟩ = 0
              · exact ⟨.o0 y2 y3 y4 y5 y6 y7 y8 y9 y10 y11 y12 y13 0 y14, by simp only [cond_false, decide_eq_false hy, hchk, hz, Option.bind_some, show ((0 : Int) != 0) = false from rfl, f13_r_j5], .inl ⟨rfl, hz, f2, Nat.lt_of_le_of_lt f3 (by decide), Nat.lt_of_le_of_lt f4 (by decide), key rfl rfl⟩⟩
              · have hz' : (chkT ⟨y2, y3, y4, y5, y6, y7, y8, y9, y10, y11, y12, y13, y14⟩ != 0) = true := by simpa using hz
                exact ⟨.o0 0 0 0 0 0 0 0 0 0 0 false [] 200 [], by simp only [cond_false, decide_eq_false hy, hchk, hz', Option.bind_some, cond_true], .inr ⟨rfl, .inr (.inr rfl)⟩⟩
          · exact ⟨.o0 0 0 0 0 0 0 0 0 0 0 false [] 200 [], by simp only [cond_true], .inr ⟨rfl, .inr (.inr rfl)⟩⟩
    · have hop : opensB l = .o0 [] 130 := by unfold opensB; rw [if_neg (by omega), if_neg hseal]
      rw [hop] at ho
      exact ⟨.o0 0 0 0 0 0 0 0 0 0 0 false [] 130 [], by simp only [f13_r, f13_r_e, decide_eq_false h7, cond_false, f13_r_j1, ho, Option.bind_some, show ((130 : Int) != 0) = true from rfl, cond_true], .inr ⟨rfl, .inr (.inl rfl)⟩⟩
end Go.Proofs.YthjefcamonmjpaaV
