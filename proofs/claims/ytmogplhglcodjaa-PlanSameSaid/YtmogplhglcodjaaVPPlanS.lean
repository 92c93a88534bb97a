/- What plan.Same, plan.Volume and copied answer. -/
import Derived.Test.YtmogplhglcodjaaVPWords
import Derived.Test.YtmogplhglcodjaaVP1
namespace Go.Proofs.YtmogplhglcodjaaV
open Go
set_option linter.unusedVariables false
set_option linter.unusedSimpArgs false
theorem T44.ext' (a b : T44) : ((a.From == b.From) && ((a.To == b.To) && ((a.Start == b.Start) && ((a.End == b.End) && ((a.Rate == b.Rate) && (a.Delay == b.Delay)))))) = decide (a = b) := by
  rw [Bool.eq_iff_iff, decide_eq_true_iff]
  cases a; cases b; simp
theorem eqc_loop (l1 l2 : List T44) (hb : l1.length < 4611686018427387904) (h : l1.length = l2.length) (k : Nat) : ∀ (d i n : Nat), i + d = l1.length → d < n →
    f27_rr_l2 k n l1 l2 l1.length i = if l1.drop i = l2.drop i then some (.o2 l1 l2 l1.length l1.length false) else some (.o0 false) := by
  intro d
  induction d with
  | zero =>
    intro i n hid hn
    obtain ⟨n, rfl⟩ : ∃ m, n = m + 1 := ⟨n - 1, by omega⟩
    have e1 : l1.drop i = [] := List.drop_eq_nil_of_le (by omega)
    have e2 : l2.drop i = [] := List.drop_eq_nil_of_le (by omega)
    have e3 : i = l1.length := by omega
    subst e3
    simp [f27_rr_l2, f27_rr_l2_b, e2]
  | succ d ih =>
    intro i n hid hn
    obtain ⟨n, rfl⟩ : ∃ m, n = m + 1 := ⟨n - 1, by omega⟩
    have h1 : i < l1.length := by omega
    have h2 : i < l2.length := by omega
    have g1 : l1[i]? = some l1[i] := List.getElem?_eq_getElem h1
    have g2 : l2[i]? = some l2[i] := List.getElem?_eq_getElem h2
    have hlt : ((i : Int) < (l1.length : Int)) := by omega
    have hw : IntKind.i64.wrap ((i : Int) + 1) = ((i + 1 : Nat) : Int) := by rw [wrap_i64 (by omega) (by omega)]; rfl
    have ih' := ih (i + 1) n (by omega) (by omega)
    rw [List.drop_eq_getElem_cons h1, List.drop_eq_getElem_cons h2]
    by_cases he : l1[i] = l2[i]
    · simp only [f27_rr_l2, f27_rr_l2_b, f27_rr_l2_j1, f27_rr_l2_j2, decide_eq_true hlt, cond_true, ifE_pos (show (0 : Int) ≤ i by omega), Int.toNat_natCast, g1, g2, Option.bind_some, T44.ext', decide_eq_true he, Bool.not_true, cond_false, hw, ih', List.cons.injEq]
      simp only [he, true_and]
    · simp only [f27_rr_l2, f27_rr_l2_b, f27_rr_l2_j1, f27_rr_l2_j2, decide_eq_true hlt, cond_true, ifE_pos (show (0 : Int) ≤ i by omega), Int.toNat_natCast, g1, g2, Option.bind_some, T44.ext', decide_eq_false he, Bool.not_false, cond_true]
      rw [if_neg (fun e => he (List.cons.inj e).1)]
theorem eqc_at (l1 l2 : List T44) (hb : l1.length < 4611686018427387904) (k : Nat) (hk : l1.length + 2 ≤ k) : f27_rr k l1 l2 = some (.o0 (decide (l1 = l2))) := by
  obtain ⟨k, rfl⟩ : ∃ m, k = m + 1 := ⟨k - 1, by omega⟩
  by_cases h : l1.length = l2.length
  · have q := eqc_loop l1 l2 hb h k l1.length 0 k (by omega) (by omega)
    simp only [List.drop_zero, Int.natCast_zero] at q
    have hl : (((l1.length : Int)) != (l2.length : Int)) = false := by rw [h]; simp
    by_cases he : l1 = l2
    · rw [if_pos he] at q
      simp only [f27_rr, f27_rr_e, f27_rr_j1, f27_rr_j3, hl, cond_false, q, Option.bind_some, decide_eq_true he]
    · rw [if_neg he] at q
      simp only [f27_rr, f27_rr_e, f27_rr_j1, f27_rr_j3, hl, cond_false, q, Option.bind_some, decide_eq_false he]
  · have hl : (((l1.length : Int)) != (l2.length : Int)) = true := by simp; omega
    have he : ¬ l1 = l2 := fun e => h (by rw [e])
    simp only [f27_rr, f27_rr_e, hl, cond_true, decide_eq_false he]
theorem same_at (n : Int) (l1 : List T44) (m : Int) (l2 : List T44) (hb : l1.length < 4611686018427387904) (k : Nat) (hk : l1.length + 3 ≤ k) : f17_airzairz k n l1 m l2 = some (.o0 (decide (n = m) && decide (l1 = l2))) := by
  obtain ⟨k, rfl⟩ : ∃ m, k = m + 1 := ⟨k - 1, by omega⟩
  have q := eqc_at l1 l2 hb k (by omega)
  by_cases h : n = m
  · subst h
    simp [f17_airzairz, f17_airzairz_e, q]
  · have hn : (n == m) = false := by simpa using h
    simp [f17_airzairz, f17_airzairz_e, h, hn]
theorem copied_at (n : Int) (l : List T44) (hl : l.length * 48 ≤ 140737488351232) (k : Nat) (hk : 1 ≤ k) : f9_airz k n l = some (.o0 n l) := by
  obtain ⟨k, rfl⟩ : ∃ m, k = m + 1 := ⟨k - 1, by omega⟩
  simp only [f9_airz, f9_airz_e]
  rw [ifE_pos (show l.length * 48 ≤ roomy from hl)]
def volC (s e r : Int) : Int := if r < 0 ∨ s < 0 ∨ e ≤ s ∨ 1048576 < r ∨ 1048576 < e then 0 else r * (e - s)
theorem vol_at (a b s e r d : Int) (k : Nat) (hk : 1 ≤ k) : f16_ai6z k a b s e r d = some (.o0 (volC s e r)) := by
  obtain ⟨k, rfl⟩ : ∃ m, k = m + 1 := ⟨k - 1, by omega⟩
  unfold volC
  simp only [f16_ai6z, f16_ai6z_e, f16_ai6z_j1]
  by_cases h1 : r < 0
  · simp [h1]
  by_cases h2 : s < 0
  · simp [h1, h2]
  by_cases h3 : e ≤ s
  · simp [h1, h2, h3]
  by_cases h4 : 1048576 < r
  · simp [h1, h2, h3, h4]
  by_cases h5 : 1048576 < e
  · simp [h1, h2, h3, h4, h5]
  have hm : r * (e - s) ≤ 1048576 * 1048576 := Int.mul_le_mul (by omega) (by omega) (by omega) (by omega)
  have h0 : 0 ≤ r * (e - s) := Int.mul_nonneg (by omega) (by omega)
  have w1 : IntKind.i64.wrap (e - s) = e - s := wrap_i64 (by omega) (by omega)
  have w2 : IntKind.i64.wrap (r * (e - s)) = r * (e - s) := wrap_i64 (by omega) (by omega)
  simp [h1, h2, h3, h4, h5, w1, w2]
end Go.Proofs.YtmogplhglcodjaaV
