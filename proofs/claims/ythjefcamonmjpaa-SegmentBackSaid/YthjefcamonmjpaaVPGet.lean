/- What the printed functions that get numbers answer. -/
import Derived.Test.YthjefcamonmjpaaVPEnc
namespace Go.Proofs.YthjefcamonmjpaaV
open Go Go.Proofs.Ythjefcamonmjpaa
set_option linter.unusedVariables false
set_option linter.unusedSimpArgs false
theorem or64 {n d : Nat} (hn : n < 144115188075855872) (hd : d < 128) : IntKind.u64.wrap ((BitVec.ofInt (IntKind.bits .u64) ((n * 128 : Nat) : Int) ||| BitVec.ofInt (IntKind.bits .u64) (d : Int)).toNat : Nat) = ((n * 128 + d : Nat) : Int) := by
  have e : n * 128 ||| d = n * 128 + d := by
    have := Nat.shiftLeft_add_eq_or_of_lt (i := 7) (b := d) (by omega) n
    rw [Nat.shiftLeft_eq] at this
    exact this.symm
  have h1 : (n * 128) % 2 ^ IntKind.bits .u64 = n * 128 := Nat.mod_eq_of_lt (by simp only [IntKind.bits]; omega)
  have h2 : d % 2 ^ IntKind.bits .u64 = d := Nat.mod_eq_of_lt (by simp only [IntKind.bits]; omega)
  simp only [BitVec.ofInt_natCast, BitVec.toNat_or, BitVec.toNat_ofNat, h1, h2, e]
  exact wrap_u64 (by omega) (by omega)
theorem fd57 (x : Nat) : Int.fdiv (x : Int) (2 ^ (min 57 (IntKind.bits .u64))) = ((x / 144115188075855872 : Nat) : Int) := by
  rw [show (2 : Int) ^ (min 57 (IntKind.bits .u64)) = ((144115188075855872 : Nat) : Int) from rfl, Int.fdiv_eq_ediv_of_nonneg _ (by omega)]
  rfl
theorem sh7 (x : Nat) (h : x < 144115188075855872) : IntKind.u64.wrap ((x : Int) * 2 ^ (min 7 (IntKind.bits .u64))) = ((x * 128 : Nat) : Int) := by
  rw [show (2 : Int) ^ (min 7 (IntKind.bits .u64)) = ((128 : Nat) : Int) from rfl, wrap_u64 (by omega) (by omega)]
  rfl
theorem get_loop (k : Nat) (l : List Int) (hb : Bytes l) (hl : l.length < 4611686018427387904) : ∀ (d i acc n : Nat) (b : Bool), i + d = l.length → d < n → acc < 2 ^ 64 →
    f33_r_s1_g0 k n l (acc : Int) (i : Int) b = some (.o0 (getS acc i (l.drop i)).1 (getS acc i (l.drop i)).2.1 (getS acc i (l.drop i)).2.2)
  | 0, i, acc, n, b, h, hn, _ => by
    obtain ⟨n, rfl⟩ : ∃ j, n = j + 1 := ⟨n - 1, by omega⟩
    obtain rfl : i = l.length := by omega
    simp [f33_r_s1_g0, f33_r_s1_g0_b, getS]
  | d + 1, i, acc, n, b, h, hn, ha => by
    obtain ⟨n, rfl⟩ : ∃ j, n = j + 1 := ⟨n - 1, by omega⟩
    have h1 : i < l.length := by omega
    have g1 : l[i]? = some l[i] := List.getElem?_eq_getElem h1
    have hm := hb l[i] (List.getElem_mem h1)
    obtain ⟨c, hc⟩ := Int.eq_ofNat_of_zero_le hm.1
    have hc2 : c < 256 := by omega
    have hne : ((i : Int) == (l.length : Int)) = false := by rw [beq_eq_false_iff_ne]; omega
    have hw : IntKind.i64.wrap ((i : Int) + 1) = ((i + 1 : Nat) : Int) := by rw [wrap_i64 (by omega) (by omega)]; rfl
    rw [List.drop_eq_getElem_cons h1, hc]
    by_cases hov : acc ≥ 144115188075855872
    · have hd : (((acc / 144115188075855872 : Nat) : Int) > 0) := by omega
      simp only [f33_r_s1_g0, f33_r_s1_g0_b, hne, cond_false, f33_r_s1_j2, fd57, decide_eq_true hd, cond_true, Option.bind_some, getS, if_pos hov]
    · have hd : ¬ (((acc / 144115188075855872 : Nat) : Int) > 0) := by omega
      have hand := andn8 ⟨c, hc2⟩
      simp only at hand
      have hw2 : IntKind.u64.wrap ((c % 128 : Nat) : Int) = ((c % 128 : Nat) : Int) := wrap_u64 (by omega) (by omega)
      by_cases h128 : c ≥ 128
      · have hge : ((c : Int) ≥ 128) := by omega
        have ih := get_loop k l hb hl d (i + 1) (acc * 128 + c % 128) n true (by omega) (by omega) (by omega)
        simp only [f33_r_s1_g0, f33_r_s1_g0_b, hne, cond_false, f33_r_s1_j2, fd57, decide_eq_false hd, f33_r_s1_j3, ifE_pos (show (0 : Int) ≤ i by omega), Int.toNat_natCast, g1, hc, Option.bind_some, decide_eq_true hge, cond_true, sh7 acc (by omega), Int.ofNat_eq_natCast, hand, hw2, or64 (show acc < 144115188075855872 by omega) (show c % 128 < 128 by omega), hw, ih, getS, if_neg hov]
        rw [if_pos hge, show ((c : Int) % 128).toNat = c % 128 by omega]
      · have hge : ¬ ((c : Int) ≥ 128) := by omega
        simp only [f33_r_s1_g0, f33_r_s1_g0_b, hne, cond_false, f33_r_s1_j2, fd57, decide_eq_false hd, f33_r_s1_j3, f33_r_s1_j4, ifE_pos (show (0 : Int) ≤ i by omega), Int.toNat_natCast, g1, hc, Option.bind_some, decide_eq_false hge, sh7 acc (by omega), Int.ofNat_eq_natCast, hand, hw2, or64 (show acc < 144115188075855872 by omega) (show c % 128 < 128 by omega), hw, getS, if_neg hov]
        rw [show c % 128 = c by omega, if_neg hge]
theorem get_at (k : Nat) (l : List Int) (hb : Bytes l) (hl : l.length < 4611686018427387904) (hk : l.length + 4 ≤ k) : f33_r k l = some (.o0 (gets l).1 (gets l).2.1 (gets l).2.2) := by
  obtain ⟨k, rfl⟩ : ∃ j, k = j + 1 := ⟨k - 1, by omega⟩
  have e := get_loop k l hb hl l.length 0 0 (k + 1) false (by omega) (by omega) (by decide)
  rw [List.drop_zero, show ((0 : Nat) : Int) = 0 from rfl] at e
  have q : ∀ r : Int × Int × Int, f33_r_s1_g0 k (k + 1) l 0 0 false = some (.o0 r.1 r.2.1 r.2.2) → (Option.bind (Option.bind (f33_r_s1_j1 k l 0 0 false) fun o => match o with
      | .o0 y y_1 y_2 => some (R33_r_s1.o0 y y_1 y_2)
      | .o1 y y_1 y_2 y_3 => f33_r_s1_g0 k k y y_1 y_2 y_3) fun o1 => match o1 with
      | .o0 v4 v5 v6 => some (R33_r.o0 v4 v5 v6)
      | .o1 _ _ _ _ => none) = some (.o0 r.1 r.2.1 r.2.2) := fun r h =>
    (congrArg (fun x : Option R33_r_s1 => Option.bind x (fun o1 : R33_r_s1 => (match o1 with
      | .o0 v4 v5 v6 => some (R33_r.o0 v4 v5 v6)
      | .o1 _ _ _ _ => none : Option R33_r))) h)
  have q2 := q _ e
  cases l with
  | nil =>
    simp only [f33_r, f33_r_e, f33_r_s1, f33_r_s1_b, List.length_nil, show decide (((0 : Nat) : Int) > 0) = false from rfl, cond_false]
    exact q2
  | cons c l =>
    have hgt : (((c :: l).length : Int) > 0) := by simp only [List.length_cons]; omega
    simp only [f33_r, f33_r_e, f33_r_s1, f33_r_s1_b, decide_eq_true hgt, cond_true, List.getElem?_cons_zero, Option.bind_some]
    by_cases h : c = 128
    · subst h
      have e : gets (128 :: l) = (0, 0, 180) := by simp [gets]
      simp [e]
    · have e : gets (c :: l) = getS 0 0 (c :: l) := by unfold gets; rw [List.head?_cons, if_neg (by simpa using h)]
      have hbq : (c == 128) = false := by rw [beq_eq_false_iff_ne]; exact h
      simp only [hbq, cond_false]
      rw [e]
      exact q2
/-- What the reader gets: the number, what is left, whether something is wrong. -/
def getN (l : List Int) (bad : Bool) : Int × List Int × Bool :=
  if bad = true then (0, l, true) else if (gets l).2.2 ≠ 0 then (0, l, true) else if (gets l).1 ≥ 4294967296 then (0, l, true) else ((gets l).1, l.drop (gets l).2.1.toNat, false)
theorem getN_true (l : List Int) : getN l true = (0, l, true) := rfl
theorem gets_fst (l : List Int) (hb : Bytes l) (h : (gets l).2.2 = 0) : ∃ n : Nat, n < 2 ^ 64 ∧ (gets l).1 = (n : Int) ∧ (gets l).2.1 = (sz n : Int) ∧ sz n ≤ l.length ∧ l.take (sz n) = pl n (sz n) := by
  have e : gets l = ((gets l).1, (gets l).2.1, 0) := by rw [← h]
  exact gets_back hb e
theorem reader_at (k : Nat) (l : List Int) (bad : Bool) (hb : Bytes l) (hl : l.length < 4611686018427387904) (hk : l.length + 5 ≤ k) : f25_p_brb k l bad = some (.o0 (getN l bad).1 (getN l bad).2.1 (getN l bad).2.2) := by
  obtain ⟨k, rfl⟩ : ∃ j, k = j + 1 := ⟨k - 1, by omega⟩
  simp only [f25_p_brb, f25_p_brb_e, get_at k l hb hl (by omega), Option.bind_some]
  cases bad
  · simp only [cond_false, getN, Bool.false_eq_true, if_false]
    by_cases h : (gets l).2.2 = 0
    · obtain ⟨n, h1, h2, h3, h4, h5⟩ := gets_fst l hb h
      have hne : ((gets l).2.2 != 0) = false := by rw [h]; rfl
      simp only [hne, cond_false, if_neg (show ¬ (gets l).2.2 ≠ 0 from fun x => x h)]
      by_cases hw : (gets l).1 ≥ 4294967296
      · simp only [decide_eq_true hw, cond_true, if_pos hw]
      · simp only [decide_eq_false hw, cond_false, if_neg hw, f25_p_brb_j1, List.take_length]
        rw [ifE_pos (by omega), ifE_pos (by omega), wrap_i64 (by omega) (by omega)]
    · have hne : ((gets l).2.2 != 0) = true := by simpa using h
      simp only [hne, cond_true, if_pos h]
  · simp only [cond_true, getN, if_true]
/-- What a number's writing brings is got again. -/
theorem getN_sdn (v : Int) (h0 : 0 ≤ v) (h : v < 4294967296) (rest : List Int) : getN (sdn v ++ rest) false = (v, rest, false) := by
  have e : IntKind.u64.wrap v = v := wrap_u64 h0 (by omega)
  have q := gets_pl (n := v.toNat) (by omega) rest
  unfold getN sdn
  rw [e, q]
  have hlen := pl_length v.toNat (sz v.toNat)
  simp only [Bool.false_eq_true, if_false, ne_eq, not_true_eq_false, Int.toNat_natCast]
  rw [if_neg (by omega), List.drop_left' hlen, show ((v.toNat : Nat) : Int) = v by omega]
/-- What was got, written again, is what stood there. -/
theorem getN_inv (l : List Int) (hb : Bytes l) (bad : Bool) (h : (getN l bad).2.2 = false) : bad = false ∧ 0 ≤ (getN l bad).1 ∧ (getN l bad).1 < 4294967296 ∧ l = sdn (getN l bad).1 ++ (getN l bad).2.1 := by
  cases bad
  · refine ⟨rfl, ?_⟩
    by_cases h1 : (gets l).2.2 = 0
    · by_cases h2 : (gets l).1 ≥ 4294967296
      · simp [getN, h1, h2] at h
      · obtain ⟨n, k1, k2, k3, k4, k5⟩ := gets_fst l hb h1
        have e : getN l false = ((n : Int), l.drop (sz n), false) := by
          unfold getN
          rw [if_neg (by decide), if_neg (fun x => x h1), if_neg h2, k2, k3, Int.toNat_natCast]
        rw [e]
        refine ⟨by simp only; omega, by simp only; omega, ?_⟩
        simp only
        have ew : IntKind.u64.wrap (n : Int) = (n : Int) := wrap_u64 (by omega) (by omega)
        unfold sdn
        rw [ew, Int.toNat_natCast, ← k5, List.take_append_drop]
    · simp [getN, h1] at h
  · simp [getN] at h
theorem getN_left (l : List Int) (bad : Bool) (hb : Bytes l) : Bytes (getN l bad).2.1 ∧ (getN l bad).2.1.length ≤ l.length := by
  unfold getN
  split
  · exact ⟨hb, Nat.le_refl _⟩
  · split
    · exact ⟨hb, Nat.le_refl _⟩
    · split
      · exact ⟨hb, Nat.le_refl _⟩
      · exact ⟨bytes_drop hb _, by simp only [List.length_drop]; omega⟩
end Go.Proofs.YthjefcamonmjpaaV
