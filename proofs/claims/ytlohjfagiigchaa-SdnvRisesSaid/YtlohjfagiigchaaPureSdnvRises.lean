/- A greater number never has fewer or lesser bytes. -/
import Derived.Test.YtlohjfagiigchaaPxf6
import Derived.Test.YtlohjfagiigchaaHSdnv
namespace Go.Proofs.Ytlohjfagiigchaa.Pure
open Go.RowKit Go.Proofs.YtlohjfagiigchaaW.PrintWords Go.Proofs.YtlohjfagiigchaaW.PrintLast Go.Proofs.YtlohjfagiigchaaW.PrintMore Go.Proofs.Ytlohjfagiigchaa.P
set_option linter.unusedVariables false
set_option linter.unusedSimpArgs false
theorem u8s_cons_lt {a b : Nat} (h : a < b) (hb : b < 256) (x y : List UInt8) : Lib.compareBytes (((a : Int).toNat.toUInt8) :: x) (((b : Int).toNat.toUInt8) :: y) = -1 := by
  unfold Lib.compareBytes
  rw [if_pos]
  rw [UInt8.lt_iff_toNat_lt]
  simp
  omega
theorem u8s_cons_eq (a : UInt8) (x y : List UInt8) : Lib.compareBytes (a :: x) (a :: y) = Lib.compareBytes x y := by
  conv => lhs; unfold Lib.compareBytes
  rw [if_neg (UInt8.lt_irrefl a), if_neg (UInt8.lt_irrefl a)]
theorem pl_rises (n m : Nat) : ∀ j, n % 128 ^ j < m % 128 ^ j → Lib.compareBytes (u8s (pl n j)) (u8s (pl m j)) = -1
  | 0, h => by simp [Nat.mod_one] at h
  | j + 1, h => by
    have e : ∀ x : Nat, x % 128 ^ (j + 1) = x / 128 ^ j % 128 * 128 ^ j + x % 128 ^ j := by
      intro x
      have := Nat.mod_mul (x := x) (a := 128 ^ j) (b := 128)
      rw [Nat.pow_succ 128 j, this, Nat.mul_comm (128 ^ j)]
      omega
    rw [e n, e m] at h
    have hp : 0 < 128 ^ j := Nat.pow_pos (by decide)
    have l1 := Nat.mod_lt n hp
    have l2 := Nat.mod_lt m hp
    simp only [pl, u8s, List.map_cons]
    rcases Nat.lt_trichotomy (n / 128 ^ j % 128) (m / 128 ^ j % 128) with g | g | g
    · exact u8s_cons_lt (by omega) (by split <;> omega) _ _
    · rw [g, u8s_cons_eq]
      exact pl_rises n m j (by rw [g] at h; omega)
    · exfalso
      have := Nat.mul_le_mul_right (128 ^ j) (show m / 128 ^ j % 128 + 1 ≤ n / 128 ^ j % 128 by omega)
      rw [Nat.add_mul] at this
      omega
theorem sz_mono {n m : Nat} (hn : n < 2 ^ 64) (hm : m < 2 ^ 64) (h : n ≤ m) : sz n ≤ sz m := by
  rcases Nat.lt_or_ge (sz m) (sz n) with g | g
  · exfalso
    have l := sz_lt hm
    have p := sz_pos m
    rcases sz_ge n with e | e
    · omega
    · have := Nat.pow_le_pow_right (n := 128) (by decide) (show sz m ≤ sz n - 1 by omega)
      omega
  · exact g
theorem apart {n m : Nat} (hn : n < 2 ^ 64) (hm : m < 2 ^ 64) (h : n ≠ m) (hle : sz m ≤ sz n) : (pl n (sz n)).take (sz m) ≠ pl m (sz m) := by
  intro he
  have h1 := gets_pl hn []
  rw [List.append_nil, ← List.take_append_drop (sz m) (pl n (sz n)), he, gets_pl hm] at h1
  simp only [Prod.mk.injEq] at h1
  omega
theorem prefix_at {n m : Nat} (hn : n < 2 ^ 64) (hm : m < 2 ^ 64) (h : n ≠ m) : bytes_HasPrefix.f (pl n (sz n)) (pl m (sz m)) = some false := by
  unfold bytes_HasPrefix.f
  rw [pl_length, pl_length]
  by_cases hle : sz m ≤ sz n
  · rw [if_pos (by omega), if_pos (by omega), if_pos (by omega), Int.toNat_natCast, equal_at ((pl_bytes n _).take _) (pl_bytes m _), decide_eq_false (apart hn hm h hle)]
    rfl
  · rw [if_neg (by omega)]
theorem rises_j0 {n m : Nat} (hn : n < 2 ^ 64) (hm : m < 2 ^ 64) (h : n ≤ m) : Ev (fun k => heliographlaw08_SdnvRises.j0 k (n : Int) (m : Int)) true := by
  have h1 := put_ev (l := []) hn (by decide)
  have h2 := put_ev (l := []) hm (by decide)
  rw [List.nil_append] at h1 h2
  have hmono := sz_mono hn hm h
  refine Ev.step (fun k => by rw [heliographlaw08_SdnvRises.j0]) (Ev.bind h1 (Ev.bind h2 ?_))
  rw [pl_length, pl_length, if_neg (by omega)]
  by_cases he : n = m
  · rw [if_pos (by omega)]
    exact Ev.now _
  · rw [if_neg (by omega), prefix_at hn hm he, Option.bind_some, if_neg (by decide), prefix_at hm hn (fun x => he x.symm), Option.bind_some, if_neg (by decide)]
    by_cases hs : sz n < sz m
    · rw [if_pos (by omega)]
      exact Ev.now _
    · rw [if_neg (by omega)]
      have e : sz n = sz m := by omega
      unfold bytes_Compare.f
      have l1 := sz_lt hn
      have l2 := sz_lt hm
      rw [e] at l1 ⊢
      rw [pl_rises n m (sz m) (by rw [Nat.mod_eq_of_lt l1, Nat.mod_eq_of_lt l2]; omega)]
      exact Ev.now _
theorem SdnvRises : heliographlaw08_SdnvRises.Pure := by
  intro a b ha hb
  obtain ⟨n, rfl, hn⟩ := u64_wf ha
  obtain ⟨m, rfl, hm⟩ := u64_wf hb
  apply Ev.rounds
  unfold heliographlaw08_SdnvRises.f
  refine Ev.bind wakes_ev ?_
  simp only [if_true]
  by_cases h : m < n
  · exact Ev.pos (by omega) (rises_j0 hm hn (by omega))
  · exact Ev.neg (by omega) (rises_j0 hn hm (by omega))
end Go.Proofs.Ytlohjfagiigchaa.Pure
