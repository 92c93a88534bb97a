/- What the printed functions that put numbers answer. -/
import Derived.Test.YthjefcamonmjpaaVPSdnv
namespace Go.Proofs.YthjefcamonmjpaaV
open Go Go.Proofs.Ythjefcamonmjpaa
set_option linter.unusedVariables false
set_option linter.unusedSimpArgs false
theorem bl_add {c m : Nat} (hm : m < 256) (hc : c ≤ 60) : IntKind.i64.wrap ((c : Int) + (IntKind.i64.wrap (Lib.len8 (IntKind.u8.wrap (m : Int))))) = ((c + Lib.bitLen m : Nat) : Int) := by
  have h := Lib.len8_eq ⟨m, hm⟩
  have h2 := Lib.bitLen_le8 ⟨m, hm⟩
  simp only at h h2
  rw [wrap_u8 (by omega) (by omega), h, wrap_i64 (n := (Lib.bitLen m : Int)) (by omega) (by omega), wrap_i64 (by omega) (by omega)]
  rfl
theorem len_j3 (k m c : Nat) (hm : m < 256) (hc : c ≤ 60) : f37_i_j3 k (m : Int) (c : Int) = some (.o0 ((c + Lib.bitLen m : Nat) : Int)) := by
  have hw : IntKind.u8.wrap (m : Int) = (m : Int) := wrap_u8 (by omega) (by omega)
  simp only [f37_i_j3, bl_add hm hc]
  rw [hw, ifE_pos (by omega), ifE_pos (by omega)]
theorem len_j4 (k m c : Nat) (b : Bool) (hm : m < 256) (hc : c ≤ 60) : f37_i_j4 k (m : Int) (c : Int) b = some (.o0 ((c + Lib.bitLen m : Nat) : Int)) := by
  have hw : IntKind.u8.wrap (m : Int) = (m : Int) := wrap_u8 (by omega) (by omega)
  simp only [f37_i_j4, bl_add hm hc]
  rw [hw, ifE_pos (by omega), ifE_pos (by omega)]
theorem fd8 (x : Nat) : Int.fdiv (x : Int) (2 ^ (min 8 (IntKind.bits .u64))) = ((x / 256 : Nat) : Int) := by
  rw [show (2 : Int) ^ (min 8 (IntKind.bits .u64)) = ((256 : Nat) : Int) from rfl, Int.fdiv_eq_ediv_of_nonneg _ (by omega)]
  rfl
theorem fd16 (x : Nat) : Int.fdiv (x : Int) (2 ^ (min 16 (IntKind.bits .u64))) = ((x / 65536 : Nat) : Int) := by
  rw [show (2 : Int) ^ (min 16 (IntKind.bits .u64)) = ((65536 : Nat) : Int) from rfl, Int.fdiv_eq_ediv_of_nonneg _ (by omega)]
  rfl
theorem fd32 (x : Nat) : Int.fdiv (x : Int) (2 ^ (min 32 (IntKind.bits .u64))) = ((x / 4294967296 : Nat) : Int) := by
  rw [show (2 : Int) ^ (min 32 (IntKind.bits .u64)) = ((4294967296 : Nat) : Int) from rfl, Int.fdiv_eq_ediv_of_nonneg _ (by omega)]
  rfl
theorem len_j2 (k x c : Nat) (hx : x < 65536) (hc : c ≤ 48) : f37_i_j2 k (x : Int) (c : Int) = some (.o0 ((c + Lib.bitLen x : Nat) : Int)) := by
  by_cases h : 256 ≤ x
  · have hd : ((x : Int) ≥ 256) := by omega
    have hw : IntKind.i64.wrap ((c : Int) + 8) = ((c + 8 : Nat) : Int) := by rw [wrap_i64 (by omega) (by omega)]; rfl
    simp only [f37_i_j2, decide_eq_true hd, cond_true, fd8, hw, len_j3 k (x / 256) (c + 8) (by omega) (by omega)]
    rw [Lib.bitLen_shift8 x h (by omega), Nat.add_assoc]
  · have hd : ¬ ((x : Int) ≥ 256) := by omega
    simp only [f37_i_j2, decide_eq_false hd, cond_false, len_j4 k x c false (by omega) (by omega)]
theorem len_j5 (k x c : Nat) (b : Bool) (hx : x < 65536) (hc : c ≤ 48) : f37_i_j5 k (x : Int) (c : Int) b = some (.o0 ((c + Lib.bitLen x : Nat) : Int)) := len_j2 k x c hx hc
theorem len_j1 (k x c : Nat) (hx : x < 4294967296) (hc : c ≤ 32) : f37_i_j1 k (x : Int) (c : Int) = some (.o0 ((c + Lib.bitLen x : Nat) : Int)) := by
  by_cases h : 65536 ≤ x
  · have hd : ((x : Int) ≥ 65536) := by omega
    have hw : IntKind.i64.wrap ((c : Int) + 16) = ((c + 16 : Nat) : Int) := by rw [wrap_i64 (by omega) (by omega)]; rfl
    simp only [f37_i_j1, decide_eq_true hd, cond_true, fd16, hw, len_j2 k (x / 65536) (c + 16) (by omega) (by omega)]
    rw [Lib.bitLen_shift16 x h (by omega), Nat.add_assoc]
  · have hd : ¬ ((x : Int) ≥ 65536) := by omega
    simp only [f37_i_j1, decide_eq_false hd, cond_false, len_j5 k x c false (by omega) (by omega)]
theorem len_j6 (k x c : Nat) (b : Bool) (hx : x < 4294967296) (hc : c ≤ 32) : f37_i_j6 k (x : Int) (c : Int) b = some (.o0 ((c + Lib.bitLen x : Nat) : Int)) := len_j1 k x c hx hc
theorem len_at (k n : Nat) (hn : n < 2 ^ 64) : f37_i (k + 1) (n : Int) = some (.o0 (Lib.bitLen n : Int)) := by
  by_cases h : 4294967296 ≤ n
  · have hd : ((n : Int) ≥ 4294967296) := by omega
    have q := len_j1 k (n / 4294967296) 32 (by omega) (by omega)
    rw [show ((32 : Nat) : Int) = 32 from rfl] at q
    simp only [f37_i, f37_i_e, decide_eq_true hd, cond_true, fd32, q]
    rw [Lib.bitLen_shift32 n h (by omega)]
  · have hd : ¬ ((n : Int) ≥ 4294967296) := by omega
    have q := len_j6 k n 0 false (by omega) (by omega)
    rw [show ((0 : Nat) : Int) = 0 from rfl, Nat.zero_add] at q
    simp only [f37_i, f37_i_e, decide_eq_false hd, cond_false, q]
theorem size_at (k n : Nat) (hn : n < 2 ^ 64) : f35_i (k + 2) (n : Int) = some (.o0 (sz n : Int)) := by
  have hle : Lib.bitLen n ≤ 64 := Lib.bitLen_le n 64 (by omega) hn
  have l1 : n < 2 ^ Lib.bitLen n := by
    by_cases h0 : n = 0
    · subst h0; exact Nat.two_pow_pos _
    · exact (Lib.bitLenAux_bounds 64 n hn h0).2.2
  have l2 : Lib.bitLen n = 0 ∨ 2 ^ (Lib.bitLen n - 1) ≤ n := by
    by_cases h0 : n = 0
    · subst h0; left; rfl
    · right; exact (Lib.bitLenAux_bounds 64 n hn h0).2.1
  simp only [f35_i, f35_i_e, len_at k n hn, Option.bind_some]
  congr 2
  generalize Lib.bitLen n = b at hle l1 l2
  have hs : max ((b + 6) / 7) 1 = sz n := by
    refine sz_of hn (by omega) ?_ ?_
    · refine Nat.lt_of_lt_of_le l1 ?_
      rw [show (128 : Nat) = 2 ^ 7 by rfl, ← Nat.pow_mul]
      exact Nat.pow_le_pow_right (by decide) (by omega)
    · by_cases h : b ≤ 7
      · left; omega
      · right
        rcases l2 with l2 | l2
        · omega
        · refine Nat.le_trans ?_ l2
          rw [show (128 : Nat) = 2 ^ 7 by rfl, ← Nat.pow_mul]
          exact Nat.pow_le_pow_right (by decide) (by omega)
  rw [wrap_i64 (n := (b : Int) + 7) (by omega) (by omega), wrap_i64 (n := (b : Int) + 7 - 1) (by omega) (by omega), show (b : Int) + 7 - 1 = ((b + 6 : Nat) : Int) by omega, show Int.tdiv ((b + 6 : Nat) : Int) 7 = (((b + 6) / 7 : Nat) : Int) from rfl, wrap_i64 (by omega) (by omega), ← hs]
  split <;> omega
theorem andn8 : ∀ c : Fin 256, IntKind.u8.wrap ((BitVec.ofInt (IntKind.bits .u8) (c.val : Int) &&& ~~~BitVec.ofInt (IntKind.bits .u8) (128 : Int)).toNat : Nat) = ((c.val % 128 : Nat) : Int) := by decide +kernel
theorem or8 : ∀ c : Fin 128, IntKind.u8.wrap ((BitVec.ofInt (IntKind.bits .u8) (c.val : Int) ||| BitVec.ofInt (IntKind.bits .u8) (128 : Int)).toNat : Nat) = ((c.val + 128 : Nat) : Int) := by decide +kernel
theorem put_l1 (k n : Nat) (hn : n < 2 ^ 64) : ∀ (i m : Nat) (h : List Int), i ≤ 10 → i < m → h.length + i ≤ roomy →
    f29_ri_l1 k m (n : Int) ((i : Int) - 1) h = some (.o1 (n : Int) (-1) false (h ++ pl n i))
  | 0, m, h, _, hm, _ => by
    obtain ⟨m, rfl⟩ : ∃ j, m = j + 1 := ⟨m - 1, by omega⟩
    simp [f29_ri_l1, f29_ri_l1_b, pl]
  | i + 1, m, h, hi, hm, hh => by
    obtain ⟨m, rfl⟩ : ∃ j, m = j + 1 := ⟨m - 1, by omega⟩
    have e0 : ((i + 1 : Nat) : Int) - 1 = (i : Int) := by omega
    have hge : ((i : Int) ≥ 0) := by omega
    have h7 : IntKind.i64.wrap ((7 : Int) * (i : Int)) = ((7 * i : Nat) : Int) := by rw [wrap_i64 (by omega) (by omega)]; omega
    have hneg : ¬ (((7 * i : Nat) : Int) < 0) := by omega
    have hw : IntKind.i64.wrap ((i : Int) - 1) = (i : Int) - 1 := wrap_i64 (by omega) (by omega)
    have hb : IntKind.u8.wrap (Int.fdiv (n : Int) (2 ^ (min (7 * i) (IntKind.bits .u64)))) = ((n / 128 ^ i % 256 : Nat) : Int) := by
      rw [show min (7 * i) (IntKind.bits .u64) = 7 * i from Nat.min_eq_left (by show 7 * i ≤ 64; omega), show (2 : Int) ^ (7 * i) = ((2 ^ (7 * i) : Nat) : Int) by simp, Int.fdiv_eq_ediv_of_nonneg _ (Int.natCast_nonneg _), IntKind.wrap_u8, Nat.pow_mul]
      rw [← Int.natCast_ediv]
      show _ = ((n / (2 ^ 7) ^ i % 256 : Nat) : Int)
      generalize n / (2 ^ 7) ^ i = y
      omega
    have ha := andn8 ⟨n / 128 ^ i % 256, by omega⟩
    simp only at ha
    rw [show n / 128 ^ i % 256 % 128 = n / 128 ^ i % 128 by omega] at ha
    have ho := or8 ⟨n / 128 ^ i % 128, by omega⟩
    simp only at ho
    have ih := put_l1 k n hn i m (h ++ [((n / 128 ^ i % 128 + (if 0 < i then 128 else 0) : Nat) : Int)]) (by omega) (by omega) (by simp; omega)
    rw [List.append_assoc, List.singleton_append] at ih
    rw [e0, pl, ← ih]
    by_cases hp : 0 < i
    · have hgt : ((i : Int) > 0) := by omega
      simp only [f29_ri_l1, f29_ri_l1_b, f29_ri_l1_j1, f29_ri_l1_j2, f29_ri_l1_j3, decide_eq_true hge, decide_eq_true hgt, cond_true, h7, ifE_pos hneg, Int.toNat_natCast, hb, ha, ho, ifE_pos (show h.length + 1 ≤ roomy by omega), Option.bind_some, hw, if_pos hp]
    · have hgt : ¬ ((i : Int) > 0) := by omega
      simp only [f29_ri_l1, f29_ri_l1_b, f29_ri_l1_j1, f29_ri_l1_j4, f29_ri_l1_j3, decide_eq_true hge, decide_eq_false hgt, cond_true, cond_false, h7, ifE_pos hneg, Int.toNat_natCast, hb, ha, ifE_pos (show h.length + 1 ≤ roomy by omega), Option.bind_some, hw, if_neg hp, Nat.add_zero]
theorem put_at (k n : Nat) (hk : 14 ≤ k) (hn : n < 2 ^ 64) (l : List Int) (hl : l.length + 10 ≤ roomy) : f29_ri k l (n : Int) = some (.o0 (l ++ pl n (sz n))) := by
  have hr : roomy = 70368744177664 := rfl
  obtain ⟨k, rfl⟩ : ∃ j, k = j + 3 := ⟨k - 3, by omega⟩
  have h1 := sz_le n
  have h2 := sz_pos n
  have hw : IntKind.i64.wrap ((l.length : Int) + (sz n : Int)) = (l.length : Int) + (sz n : Int) := wrap_i64 (by omega) (by omega)
  have hw2 : IntKind.i64.wrap ((sz n : Int) - 1) = (sz n : Int) - 1 := wrap_i64 (by omega) (by omega)
  simp only [f29_ri, f29_ri_e, size_at k n hn, Option.bind_some, hw, hw2]
  rw [ifE_pos (by omega), ifE_pos (by omega), ifE_pos (by omega)]
  simp only [Int.toNat_natCast, List.length_replicate, List.take_length, List.drop_replicate, Nat.sub_self, List.replicate_zero, List.append_nil]
  rw [put_l1 (k + 2) n hn (sz n) (k + 2) l h1 (by omega) (by omega)]
  rfl
/-- A number as the writer puts it. -/
def sdn (v : Int) : List Int := pl (IntKind.u64.wrap v).toNat (sz (IntKind.u64.wrap v).toNat)
def puts (l : List Int) : List Int := l.flatMap sdn
theorem u64_nat (v : Int) : ∃ n : Nat, IntKind.u64.wrap v = (n : Int) ∧ n < 2 ^ 64 := by
  have e : IntKind.u64.wrap v = v % 18446744073709551616 := by simp [IntKind.wrap, IntKind.signed, IntKind.bits]
  exact ⟨(v % 18446744073709551616).toNat, by omega, by omega⟩
theorem sdn_length (v : Int) : 1 ≤ (sdn v).length ∧ (sdn v).length ≤ 10 := by
  unfold sdn
  rw [pl_length]
  exact ⟨sz_pos _, sz_le _⟩
theorem sdn_bytes (v : Int) : Bytes (sdn v) := pl_bytes _ _
theorem puts_bytes (l : List Int) : Bytes (puts l) := by
  intro x hx
  obtain ⟨v, _, h⟩ := List.mem_flatMap.1 hx
  exact sdn_bytes v x h
theorem puts_length : ∀ (l : List Int), l.length ≤ (puts l).length ∧ (puts l).length ≤ 10 * l.length
  | [] => by simp [puts]
  | v :: l => by
    have h1 := sdn_length v
    have h2 := puts_length l
    simp only [puts, List.flatMap_cons, List.length_append, List.length_cons] at *
    omega
theorem puts_cons (v : Int) (l : List Int) : puts (v :: l) = sdn v ++ puts l := rfl
theorem put_v (k : Nat) (hk : 14 ≤ k) (v : Int) (l : List Int) (hl : l.length + 10 ≤ roomy) : f29_ri k l (IntKind.u64.wrap v) = some (.o0 (l ++ sdn v)) := by
  obtain ⟨n, h1, h2⟩ := u64_nat v
  unfold sdn
  rw [h1, Int.toNat_natCast]
  exact put_at k n hk h2 l hl
theorem write_l2 (k : Nat) (hk : 14 ≤ k) (l e : List Int) (hl : l.length < 1000) : ∀ (d i n : Nat) (h : List Int), i + d = l.length → d < n → h.length + 10 * d ≤ roomy →
    f22_pr_bow_l2 k n l (l.length : Int) (i : Int) h e = some (.o1 l (l.length : Int) (l.length : Int) false (h ++ puts (l.drop i)) e)
  | 0, i, n, h, hi, hn, _ => by
    obtain ⟨n, rfl⟩ : ∃ j, n = j + 1 := ⟨n - 1, by omega⟩
    obtain rfl : i = l.length := by omega
    simp [f22_pr_bow_l2, f22_pr_bow_l2_b, puts]
  | d + 1, i, n, h, hi, hn, hh => by
    obtain ⟨n, rfl⟩ : ∃ j, n = j + 1 := ⟨n - 1, by omega⟩
    have h1 : i < l.length := by omega
    have g1 : l[i]? = some l[i] := List.getElem?_eq_getElem h1
    have hlt : ((i : Int) < (l.length : Int)) := by omega
    have hw : IntKind.i64.wrap ((i : Int) + 1) = ((i + 1 : Nat) : Int) := by rw [wrap_i64 (by omega) (by omega)]; rfl
    have hs := sdn_length l[i]
    have ih := write_l2 k hk l e hl d (i + 1) n (h ++ sdn l[i]) (by omega) (by omega) (by rw [List.length_append]; omega)
    rw [List.drop_eq_getElem_cons h1, puts_cons, ← List.append_assoc, ← ih]
    simp only [f22_pr_bow_l2, f22_pr_bow_l2_b, f22_pr_bow_l2_j1, f22_pr_bow_l2_j2, decide_eq_true hlt, cond_true, ifE_pos (show (0 : Int) ≤ i by omega), Int.toNat_natCast, g1, Option.bind_some, put_v k hk l[i] h (by omega), hw]
/-- The writer's bytes behind putting numbers. -/
def wrote (l e : List Int) : R22_pr_bow := if l = [] then .o0 e else .o1 e (e ++ puts l)
theorem write_at (k : Nat) (l e : List Int) (hl : l.length < 1000) (hk : l.length + 20 ≤ k) (he : e.length + 10 * l.length ≤ roomy) : f22_pr_bow k l e = some (wrote l e) := by
  obtain ⟨k, rfl⟩ : ∃ j, k = j + 2 := ⟨k - 2, by omega⟩
  cases l with
  | nil => simp [f22_pr_bow, f22_pr_bow_e, f22_pr_bow_l1, f22_pr_bow_l1_b, wrote]
  | cons v l =>
    have hs := sdn_length v
    simp only [List.length_cons] at hl hk he
    have q := write_l2 (k + 1) (by omega) (v :: l) e (by simp only [List.length_cons]; omega) l.length 1 k (e ++ sdn v) (by simp only [List.length_cons]; omega) (by omega) (by rw [List.length_append]; omega)
    simp only [List.length_cons, List.drop_succ_cons, List.drop_zero, List.append_assoc] at q
    have hlt : ((0 : Int) < ((l.length + 1 : Nat) : Int)) := by omega
    have hw : IntKind.i64.wrap (0 + 1) = ((1 : Nat) : Int) := by decide +kernel
    simp only [f22_pr_bow, f22_pr_bow_e, f22_pr_bow_l1, f22_pr_bow_l1_b, f22_pr_bow_l1_j1, f22_pr_bow_l1_j2, List.length_cons, decide_eq_true hlt, cond_true, ifE_pos (show (0 : Int) ≤ 0 by omega), Int.toNat_zero, List.getElem?_cons_zero, Option.bind_some, put_v (k + 1) (by omega) v e (by omega), hw, q, wrote, puts_cons]
    simp
end Go.Proofs.YthjefcamonmjpaaV
