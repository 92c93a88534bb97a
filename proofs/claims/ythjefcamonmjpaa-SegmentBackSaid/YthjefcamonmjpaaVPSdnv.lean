/- Numbers to the base 128: what the printed functions put and get. -/
import Derived.Test.YthjefcamonmjpaaVPSum
import Derived.Lib.ItoaNum
namespace Go.Proofs.YthjefcamonmjpaaV
open Go Go.Proofs.Ythjefcamonmjpaa
set_option linter.unusedVariables false
set_option linter.unusedSimpArgs false
set_option maxRecDepth 100000
theorem Bytes.tail {c : Int} {a : List Int} (ha : Bytes (c :: a)) : Bytes a := fun x hx => ha x (List.mem_cons_of_mem _ hx)
theorem Bytes.take {a : List Int} (ha : Bytes a) (n : Nat) : Bytes (a.take n) := fun x hx => ha x (List.mem_of_mem_take hx)
theorem Bytes.drop {a : List Int} (ha : Bytes a) (n : Nat) : Bytes (a.drop n) := fun x hx => ha x (List.mem_of_mem_drop hx)
def szf : Nat → Nat → Nat
  | 0, _ => 1
  | f + 1, n => if n < 128 then 1 else szf f (n / 128) + 1
/-- How many digits a number has. -/
def sz (n : Nat) : Nat := szf 9 n
theorem szf_pos : ∀ f n, 1 ≤ szf f n
  | 0, _ => Nat.le_refl _
  | f + 1, n => by unfold szf; split <;> omega
theorem szf_le : ∀ f n, szf f n ≤ f + 1
  | 0, _ => Nat.le_refl _
  | f + 1, n => by have := szf_le f (n / 128); unfold szf; split <;> omega
theorem szf_lt : ∀ f n, n < 128 ^ (f + 1) → n < 128 ^ szf f n
  | 0, n, h => h
  | f + 1, n, h => by
    unfold szf
    split
    · simpa using (by assumption)
    · have := szf_lt f (n / 128) (by rw [Nat.pow_succ] at h; exact Nat.div_lt_of_lt_mul (by omega))
      rw [Nat.pow_succ]
      omega
theorem szf_ge : ∀ f n, szf f n = 1 ∨ 128 ^ (szf f n - 1) ≤ n
  | 0, _ => .inl rfl
  | f + 1, n => by
    unfold szf
    split
    · exact .inl rfl
    · right
      have hp := szf_pos f (n / 128)
      rcases szf_ge f (n / 128) with h | h
      · rw [h]; simp; omega
      · have h1 : szf f (n / 128) + 1 - 1 = (szf f (n / 128) - 1) + 1 := by omega
        rw [h1, Nat.pow_succ]
        omega
theorem sz_pos (n : Nat) : 1 ≤ sz n := szf_pos 9 n
theorem sz_le (n : Nat) : sz n ≤ 10 := szf_le 9 n
theorem sz_lt {n : Nat} (h : n < 2 ^ 64) : n < 128 ^ sz n := szf_lt 9 n (by omega)
theorem sz_ge (n : Nat) : sz n = 1 ∨ 128 ^ (sz n - 1) ≤ n := szf_ge 9 n
theorem sz_of {n m : Nat} (hn : n < 2 ^ 64) (h1 : 1 ≤ m) (h2 : n < 128 ^ m) (h3 : m = 1 ∨ 128 ^ (m - 1) ≤ n) : m = sz n := by
  have p := sz_pos n
  have l := sz_lt hn
  rcases Nat.lt_trichotomy m (sz n) with h | h | h
  · rcases sz_ge n with e | e
    · omega
    · have := Nat.pow_le_pow_right (n := 128) (by decide) (show m ≤ sz n - 1 by omega)
      omega
  · exact h
  · rcases h3 with e | e
    · omega
    · have := Nat.pow_le_pow_right (n := 128) (by decide) (show sz n ≤ m - 1 by omega)
      omega

/-- A number's lowest digits, the highest of them first. -/
def pl (n : Nat) : Nat → List Int
  | 0 => []
  | i + 1 => ((n / 128 ^ i % 128 + (if 0 < i then 128 else 0) : Nat) : Int) :: pl n i
theorem pl_length (n : Nat) : ∀ m, (pl n m).length = m
  | 0 => rfl
  | m + 1 => by simp [pl, pl_length n m]
theorem pl_bytes (n : Nat) : ∀ m, Bytes (pl n m)
  | 0 => by intro x hx; simp [pl] at hx
  | m + 1 => by
    intro x hx
    rcases List.mem_cons.1 hx with h | h
    · subst h
      split <;> omega
    · exact pl_bytes n m x h
def getS : Nat → Nat → List Int → Int × Int × Int
  | _, _, [] => (0, 0, 7)
  | acc, at_, c :: cs => if acc ≥ 144115188075855872 then (0, 0, 3) else if c ≥ 128 then getS (acc * 128 + (c % 128).toNat) (at_ + 1) cs else (((acc * 128 + c.toNat : Nat) : Int), ((at_ + 1 : Nat) : Int), 0)
/-- What a row of bytes begins with. -/
def gets (l : List Int) : Int × Int × Int := if l.head? = some 128 then (0, 0, 180) else getS 0 0 l
theorem getS_pl (n : Nat) (rest : List Int) : ∀ m acc i, acc * 128 ^ (m + 1) + n % 128 ^ (m + 1) < 2 ^ 64 → getS acc i (pl n (m + 1) ++ rest) = (((acc * 128 ^ (m + 1) + n % 128 ^ (m + 1) : Nat) : Int), ((i + (m + 1) : Nat) : Int), 0)
  | 0, acc, i, h => by
    simp only [pl, List.cons_append, List.nil_append, getS, Nat.pow_zero, Nat.div_one, Nat.lt_irrefl, if_false, Nat.add_zero]
    simp only [Nat.zero_add, Nat.pow_one] at h ⊢
    rw [if_neg (by omega), if_neg (by omega), Int.toNat_natCast]
  | m + 1, acc, i, h => by
    have hq : n % 128 ^ (m + 1 + 1) = n / 128 ^ (m + 1) % 128 * 128 ^ (m + 1) + n % 128 ^ (m + 1) := by
      have := Nat.mod_mul (x := n) (a := 128 ^ (m + 1)) (b := 128)
      rw [Nat.pow_succ 128 (m + 1), this, Nat.mul_comm (128 ^ (m + 1))]
      omega
    have hk : acc * 128 ^ (m + 1 + 1) + n % 128 ^ (m + 1 + 1) = (acc * 128 + n / 128 ^ (m + 1) % 128) * 128 ^ (m + 1) + n % 128 ^ (m + 1) := by
      rw [hq, Nat.pow_succ 128 (m + 1), Nat.add_mul, ← Nat.mul_assoc, Nat.mul_right_comm acc]
      omega
    have hacc : acc < 144115188075855872 := by
      rcases Nat.lt_or_ge acc 144115188075855872 with g | g
      · exact g
      · exfalso
        have h1 : 128 ^ 1 ≤ 128 ^ (m + 1 + 1) := Nat.pow_le_pow_right (by decide) (by omega)
        have := Nat.mul_le_mul g h1
        omega
    rw [pl, List.cons_append]
    unfold getS
    rw [if_neg (by omega), if_pos (by rw [if_pos (by omega)]; omega), if_pos (by omega), hk]
    rw [show ((((n / 128 ^ (m + 1) % 128 + 128 : Nat) : Int)) % 128).toNat = n / 128 ^ (m + 1) % 128 by omega]
    rw [getS_pl n rest m _ _ (by omega), show i + 1 + (m + 1) = i + (m + 1 + 1) by omega]
theorem getS_short (n : Nat) : ∀ m j acc i, j < m → acc * 128 ^ m + n % 128 ^ m < 2 ^ 64 → getS acc i ((pl n m).take j) = (0, 0, 7)
  | 0, j, acc, i, h, _ => by omega
  | m + 1, 0, acc, i, h, _ => by simp [getS]
  | m + 1, j + 1, acc, i, h, hb => by
    obtain ⟨m, rfl⟩ : ∃ q, m = q + 1 := ⟨m - 1, by omega⟩
    have hq : n % 128 ^ (m + 1 + 1) = n / 128 ^ (m + 1) % 128 * 128 ^ (m + 1) + n % 128 ^ (m + 1) := by
      have := Nat.mod_mul (x := n) (a := 128 ^ (m + 1)) (b := 128)
      rw [Nat.pow_succ 128 (m + 1), this, Nat.mul_comm (128 ^ (m + 1))]
      omega
    have hk : acc * 128 ^ (m + 1 + 1) + n % 128 ^ (m + 1 + 1) = (acc * 128 + n / 128 ^ (m + 1) % 128) * 128 ^ (m + 1) + n % 128 ^ (m + 1) := by
      rw [hq, Nat.pow_succ 128 (m + 1), Nat.add_mul, ← Nat.mul_assoc, Nat.mul_right_comm acc]
      omega
    have hacc : acc < 144115188075855872 := by
      rcases Nat.lt_or_ge acc 144115188075855872 with g | g
      · exact g
      · exfalso
        have h1 : 128 ^ 1 ≤ 128 ^ (m + 1 + 1) := Nat.pow_le_pow_right (by decide) (by omega)
        have := Nat.mul_le_mul g h1
        omega
    rw [pl, List.take_succ_cons]
    unfold getS
    rw [if_neg (by omega), if_pos (by rw [if_pos (by omega)]; omega), if_pos (by omega)]
    rw [show ((((n / 128 ^ (m + 1) % 128 + 128 : Nat) : Int)) % 128).toNat = n / 128 ^ (m + 1) % 128 by omega]
    exact getS_short n (m + 1) j _ _ (by omega) (by omega)
theorem getS_back : ∀ (l : List Int) (acc i : Nat) (r1 r2 : Int), Bytes l → getS acc i l = (r1, r2, 0) → ∃ j n : Nat, 0 < j ∧ j ≤ l.length ∧ r1 = (n : Int) ∧ r2 = ((i + j : Nat) : Int) ∧ l.take j = pl n j ∧ n / 128 ^ j = acc ∧ n < 2 ^ 64
  | [], acc, i, r1, r2, _, h => by simp [getS] at h
  | c :: cs, acc, i, r1, r2, hb, h => by
    obtain ⟨b0, b1⟩ := hb c (List.mem_cons_self ..)
    simp only [getS] at h
    by_cases h1 : acc ≥ 144115188075855872
    · rw [if_pos h1] at h; simp at h
    · rw [if_neg h1] at h
      by_cases h2 : c ≥ 128
      · rw [if_pos h2] at h
        obtain ⟨j, n, j0, j1, e1, e2, e3, e4, e5⟩ := getS_back cs _ _ _ _ hb.tail h
        refine ⟨j + 1, n, by omega, by simp; omega, e1, by rw [e2]; omega, ?_, ?_, e5⟩
        · rw [List.take_succ_cons, pl, e3, e4, if_pos j0]
          congr 1
          omega
        · rw [Nat.pow_succ, ← Nat.div_div_eq_div_mul, e4]
          omega
      · rw [if_neg h2] at h
        simp only [Prod.mk.injEq] at h
        refine ⟨1, acc * 128 + c.toNat, by decide, by simp, h.1.symm, by rw [← h.2.1], ?_, by simp; omega, by omega⟩
        simp only [List.take_succ_cons, List.take_zero, pl]
        congr 1
        simp
        omega
theorem getS_err : ∀ (l : List Int) (acc i : Nat), (getS acc i l).2.2 = 0 ∨ getS acc i l = (0, 0, 3) ∨ getS acc i l = (0, 0, 7)
  | [], _, _ => .inr (.inr rfl)
  | c :: cs, acc, i => by
    simp only [getS]
    split
    · simp
    · split
      · exact getS_err cs _ _
      · simp
theorem pl_head (n m : Nat) (hn : n < 2 ^ 64) (hm : m = sz n) (rest : List Int) : (pl n m ++ rest).head? ≠ some 128 := by
  have hp := sz_pos n
  have hl := sz_lt hn
  have hg := sz_ge n
  rw [← hm] at hp hl hg
  obtain ⟨q, rfl⟩ : ∃ q, m = q + 1 := ⟨m - 1, by omega⟩
  simp only [pl, List.cons_append, List.head?_cons]
  intro h
  injection h with h
  rcases hg with hg | hg
  · obtain rfl : q = 0 := by omega
    simp at h
    omega
  · simp only [Nat.add_sub_cancel] at hg
    have h1 : 1 ≤ n / 128 ^ q := (Nat.le_div_iff_mul_le (Nat.pow_pos (by decide))).2 (by omega)
    have h2 : n / 128 ^ q < 128 := by rw [Nat.pow_succ] at hl; exact Nat.div_lt_of_lt_mul hl
    split at h <;> omega
/-- What was put is got. -/
theorem gets_pl {n : Nat} (hn : n < 2 ^ 64) (rest : List Int) : gets (pl n (sz n) ++ rest) = ((n : Int), (sz n : Int), 0) := by
  unfold gets
  rw [if_neg (pl_head n _ hn rfl rest)]
  have hp := sz_pos n
  have hl := sz_lt hn
  obtain ⟨q, hq⟩ : ∃ q, sz n = q + 1 := ⟨sz n - 1, by omega⟩
  rw [hq] at hl ⊢
  rw [getS_pl n rest q 0 0 (by rw [Nat.mod_eq_of_lt hl]; omega), Nat.mod_eq_of_lt hl]
  simp
theorem gets_short {n j : Nat} (hn : n < 2 ^ 64) (hj : j < sz n) : gets ((pl n (sz n)).take j) = (0, 0, 7) := by
  have hl := sz_lt hn
  have h1 : getS 0 0 ((pl n (sz n)).take j) = (0, 0, 7) := getS_short n (sz n) j 0 0 hj (by rw [Nat.mod_eq_of_lt hl]; omega)
  have h2 := pl_head n _ hn rfl []
  rw [List.append_nil] at h2
  unfold gets
  rw [if_neg, h1]
  rw [List.head?_take]
  split
  · simp
  · exact h2
/-- What is got, put, is the bytes that it had. -/
theorem gets_back {l : List Int} (hb : Bytes l) {r1 r2 : Int} (h : gets l = (r1, r2, 0)) : ∃ n : Nat, n < 2 ^ 64 ∧ r1 = (n : Int) ∧ r2 = (sz n : Int) ∧ sz n ≤ l.length ∧ l.take (sz n) = pl n (sz n) := by
  unfold gets at h
  by_cases hh : l.head? = some 128
  · rw [if_pos hh] at h; simp at h
  · rw [if_neg hh] at h
    obtain ⟨j, n, j0, j1, e1, e2, e3, e4, e5⟩ := getS_back l 0 0 r1 r2 hb h
    have hlt : n < 128 ^ j := by
      rcases Nat.lt_or_ge n (128 ^ j) with g | g
      · exact g
      · have := (Nat.le_div_iff_mul_le (Nat.pow_pos (n := j) (show 0 < 128 by decide))).2 (show 1 * 128 ^ j ≤ n by omega)
        omega
    have hj : j = sz n := by
      refine sz_of e5 (by omega) hlt ?_
      by_cases h1 : j = 1
      · exact .inl h1
      · right
        obtain ⟨q, rfl⟩ : ∃ q, j = q + 1 := ⟨j - 1, by omega⟩
        simp only [Nat.add_sub_cancel]
        rcases Nat.lt_or_ge n (128 ^ q) with g | g
        · exfalso
          apply hh
          cases l with
          | nil => simp at j1
          | cons c cs =>
            rw [List.take_succ_cons, pl, Nat.div_eq_of_lt g, if_pos (by omega)] at e3
            injection e3 with e3 _
            rw [List.head?_cons, e3]
            rfl
        · exact g
    refine ⟨n, e5, e1, ?_⟩
    rw [← hj]
    exact ⟨by rw [e2]; omega, j1, e3⟩
end Go.Proofs.YthjefcamonmjpaaV
