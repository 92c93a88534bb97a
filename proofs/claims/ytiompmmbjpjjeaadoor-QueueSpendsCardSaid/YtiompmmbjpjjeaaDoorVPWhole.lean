/- Two sights that are one; and what Spend answers. -/
import Derived.Test.YtiompmmbjpjjeaaDoorVPSpend
namespace Go.Proofs.YtiompmmbjpjjeaaDoorV
open Go
set_option linter.unusedVariables false
set_option linter.unusedSimpArgs false
set_option linter.unusedSectionVars false
section
variable (k : Nat) (n m t u : Int) (L : List Ct) (l : List Int)
theorem wh_l1 (hl : l.length ≤ 30) : ∀ (d j q : Nat), j + d = l.length → d < q →
    f17_aiirririzaiirririz_l1 k q l.length j n m L l t [] u n m L l t [] u = some (.o2 l.length l.length false n m L l t [] u n m L l t [] u) := by
  intro d
  induction d with
  | zero =>
    intro j q hj hq
    obtain ⟨q, rfl⟩ : ∃ z, q = z + 1 := ⟨q - 1, by omega⟩
    have e3 : j = l.length := by omega
    subst e3
    simp [f17_aiirririzaiirririz_l1, f17_aiirririzaiirririz_l1_b]
  | succ d ih =>
    intro j q hj hq
    obtain ⟨q, rfl⟩ : ∃ z, q = z + 1 := ⟨q - 1, by omega⟩
    have h1 : j < l.length := by omega
    have g1 : l[j]? = some l[j] := List.getElem?_eq_getElem h1
    have hlt : ((j : Int) < (l.length : Int)) := by omega
    have hw := nat_next h1 (by omega)
    have ih' := ih (j + 1) q (by omega) (by omega)
    simp only [f17_aiirririzaiirririz_l1, f17_aiirririzaiirririz_l1_b, f17_aiirririzaiirririz_l1_j1, f17_aiirririzaiirririz_l1_j2, decide_eq_true hlt, cond_true, ifE_pos (show (0 : Int) ≤ j by omega), Int.toNat_natCast, g1, Option.bind_some, bne_self_eq_false, cond_false, hw, ih']
theorem wh_l5 (hL : L.length ≤ 30) : ∀ (d j q : Nat), j + d = L.length → d < q →
    f17_aiirririzaiirririz_l5 k q L.length j n m L l t [] u n m L l t [] u = some (.o2 L.length L.length false n m L l t [] u n m L l t [] u) := by
  intro d
  induction d with
  | zero =>
    intro j q hj hq
    obtain ⟨q, rfl⟩ : ∃ z, q = z + 1 := ⟨q - 1, by omega⟩
    have e3 : j = L.length := by omega
    subst e3
    simp [f17_aiirririzaiirririz_l5, f17_aiirririzaiirririz_l5_b]
  | succ d ih =>
    intro j q hj hq
    obtain ⟨q, rfl⟩ : ∃ z, q = z + 1 := ⟨q - 1, by omega⟩
    have h1 : j < L.length := by omega
    have g1 : L[j]? = some L[j] := List.getElem?_eq_getElem h1
    have hlt : ((j : Int) < (L.length : Int)) := by omega
    have hw := nat_next h1 (by omega)
    have ih' := ih (j + 1) q (by omega) (by omega)
    simp only [f17_aiirririzaiirririz_l5, f17_aiirririzaiirririz_l5_b, f17_aiirririzaiirririz_l5_j1, f17_aiirririzaiirririz_l5_j2, decide_eq_true hlt, cond_true, ifE_pos (show (0 : Int) ≤ j by omega), Int.toNat_natCast, g1, Option.bind_some, beq_self_eq_true, Bool.and_self, Bool.not_true, cond_false, hw, ih']
theorem whole_at (hk : 33 ≤ k) (hL : L.length ≤ 30) (hl : l.length ≤ 30) : f17_aiirririzaiirririz k n m L l t [] u n m L l t [] u = some (.o0 true) := by
  obtain ⟨k, rfl⟩ : ∃ z, k = z + 1 := ⟨k - 1, by omega⟩
  have h1 := wh_l1 k n m t u L l hl l.length 0 k (by omega) (by omega)
  have h5 := wh_l5 k n m t u L l hL L.length 0 k (by omega) (by omega)
  have h3 : f17_aiirririzaiirririz_l3 k k 0 0 n m L l t [] u n m L l t [] u = some (.o2 0 0 false n m L l t [] u n m L l t [] u) := by
    obtain ⟨k, rfl⟩ : ∃ z, k = z + 1 := ⟨k - 1, by omega⟩
    simp [f17_aiirririzaiirririz_l3, f17_aiirririzaiirririz_l3_b]
  rw [Int.natCast_zero] at h1 h5
  simp only [f17_aiirririzaiirririz, f17_aiirririzaiirririz_e, f17_aiirririzaiirririz_j2, f17_aiirririzaiirririz_j4, f17_aiirririzaiirririz_j6, h1, h5, h3, List.length_nil, Int.natCast_zero, Option.bind_some]
end
section
variable (k : Nat) (hk : 40 ≤ k) (N : Int) (L : List Ct) (l : List Int) (hl : l.length ≤ 30) (a b : Int)
include hk hl
theorem sp_plan (hP : chkB N L = false) : f16_airzrii k N L l a b = some (.o0 [] 230) := by
  obtain ⟨k, rfl⟩ : ∃ z, k = z + 1 := ⟨k - 1, by omega⟩
  simp only [f16_airzrii, f16_airzrii_e, check_at k N L (by omega), hP, Option.bind_some, cond_false]
  rfl
theorem sp_left (hP : chkB N L = true) (hB : leftB L l = false) : f16_airzrii k N L l a b = some (.o0 [] 2) := by
  obtain ⟨k, rfl⟩ : ∃ z, k = z + 1 := ⟨k - 1, by omega⟩
  simp only [f16_airzrii, f16_airzrii_e, check_at k N L (by omega), hP, Option.bind_some, cond_true, fits_at k N L l (by omega) (by omega), hB, Bool.not_false, bne_self_eq_false, cond_false]
theorem sp_ix (hP : chkB N L = true) (hB : leftB L l = true) (hi : ¬ (0 ≤ a ∧ a < l.length)) : f16_airzrii k N L l a b = some (.o0 [] 2) := by
  obtain ⟨k, rfl⟩ : ∃ z, k = z + 1 := ⟨k - 1, by omega⟩
  have hw : IntKind.i64.wrap ((l.length : Int) - 1) = (l.length : Int) - 1 := wrap_i64 (by omega) (by omega)
  have hz : (decide (0 ≤ a) && decide (a ≤ (l.length : Int) - 1)) = false := by
    by_cases h : 0 ≤ a
    · rw [decide_eq_false (show ¬ a ≤ (l.length : Int) - 1 by omega), Bool.and_false]
    · rw [decide_eq_false h, Bool.false_and]
  simp only [f16_airzrii, f16_airzrii_e, check_at k N L (by omega), hP, Option.bind_some, cond_true, fits_at k N L l (by omega) (by omega), hB, Bool.not_false, Bool.not_true, bne_self_eq_false, cond_false, in_at k (by omega), hw, hz]
theorem sp_neg (hP : chkB N L = true) (hB : leftB L l = true) (h0 : 0 ≤ a) (h1 : a < l.length) (hb : b < 0) : f16_airzrii k N L l a b = some (.o0 [] 2) := by
  obtain ⟨k, rfl⟩ : ∃ z, k = z + 1 := ⟨k - 1, by omega⟩
  have hw : IntKind.i64.wrap ((l.length : Int) - 1) = (l.length : Int) - 1 := wrap_i64 (by omega) (by omega)
  have hz : (decide (0 ≤ a) && decide (a ≤ (l.length : Int) - 1)) = true := by rw [decide_eq_true h0, decide_eq_true (show a ≤ (l.length : Int) - 1 by omega)]; rfl
  simp only [f16_airzrii, f16_airzrii_e, check_at k N L (by omega), hP, Option.bind_some, cond_true, fits_at k N L l (by omega) (by omega), hB, Bool.not_true, bne_self_eq_false, cond_false, in_at k (by omega), hw, hz, decide_eq_true hb]
theorem sp_full (hP : chkB N L = true) (hB : leftB L l = true) (h0 : 0 ≤ a) (h1 : a < l.length) (hb : ¬ b < 0) (x : Int) (hx : l[a.toNat]? = some x) (hf : b > x) : f16_airzrii k N L l a b = some (.o0 [] 6) := by
  obtain ⟨k, rfl⟩ : ∃ z, k = z + 1 := ⟨k - 1, by omega⟩
  have hw : IntKind.i64.wrap ((l.length : Int) - 1) = (l.length : Int) - 1 := wrap_i64 (by omega) (by omega)
  have hz : (decide (0 ≤ a) && decide (a ≤ (l.length : Int) - 1)) = true := by rw [decide_eq_true h0, decide_eq_true (show a ≤ (l.length : Int) - 1 by omega)]; rfl
  simp only [f16_airzrii, f16_airzrii_e, check_at k N L (by omega), hP, Option.bind_some, cond_true, fits_at k N L l (by omega) (by omega), hB, Bool.not_true, bne_self_eq_false, cond_false, in_at k (by omega), hw, hz, decide_eq_false hb, ifE_pos h0, hx, decide_eq_true hf]
theorem sp_ok (hP : chkB N L = true) (hB : leftB L l = true) (h0 : 0 ≤ a) (h1 : a < l.length) (hb : ¬ b < 0) (x : Int) (hx : l[a.toNat]? = some x) (hf : ¬ b > x) : f16_airzrii k N L l a b = some (.o1 0 (l.set a.toNat (IntKind.i64.wrap (x - b)))) := by
  obtain ⟨k, rfl⟩ : ∃ z, k = z + 2 := ⟨k - 2, by omega⟩
  have hw : IntKind.i64.wrap ((l.length : Int) - 1) = (l.length : Int) - 1 := wrap_i64 (by omega) (by omega)
  have hz : (decide (0 ≤ a) && decide (a ≤ (l.length : Int) - 1)) = true := by rw [decide_eq_true h0, decide_eq_true (show a ≤ (l.length : Int) - 1 by omega)]; rfl
  have hr : l.length * 8 ≤ roomy := by unfold roomy; omega
  simp only [f16_airzrii, f16_airzrii_e, f16_airzrii_j1, check_at (k + 1) N L (by omega), hP, Option.bind_some, cond_true, fits_at (k + 1) N L l (by omega) (by omega), hB, Bool.not_true, bne_self_eq_false, cond_false, in_at (k + 1) (by omega), hw, hz, decide_eq_false hb, ifE_pos h0, hx, decide_eq_false hf, f42_r, ifE_pos hr, ifE_pos h1]
end
end Go.Proofs.YtiompmmbjpjjeaaDoorV
