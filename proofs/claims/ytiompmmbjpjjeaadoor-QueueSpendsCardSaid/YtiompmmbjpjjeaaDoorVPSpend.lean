/- What Spend, the document's Left and the law's smaller functions answer. -/
import Derived.Test.YtiompmmbjpjjeaaDoorVPPlanC
namespace Go.Proofs.YtiompmmbjpjjeaaDoorV
open Go
set_option linter.unusedVariables false
set_option linter.unusedSimpArgs false
def negA (l : List Int) : Bool := l.any fun x => decide (x < 0)
def leftB (L : List Ct) (l : List Int) : Bool := decide (l.length = L.length) && !negA l
theorem negA_hit {l : List Int} {j : Nat} (h1 : j < l.length) (hc : l[j] < 0) : negA (l.drop j) = true := by rw [List.drop_eq_getElem_cons h1]; simp only [negA, List.any_cons, decide_eq_true hc, Bool.true_or]
theorem negA_miss {l : List Int} {j : Nat} (h1 : j < l.length) (hc : ¬ l[j] < 0) : negA (l.drop j) = negA (l.drop (j + 1)) := by rw [List.drop_eq_getElem_cons h1]; simp only [negA, List.any_cons, decide_eq_false hc, Bool.false_or]
theorem negA_end (l : List Int) : negA (l.drop l.length) = false := by simp [negA]
theorem neg_at (k : Nat) (hk : 1 ≤ k) (a : Int) : f63_i k a = some (.o0 (decide (a < 0))) := by
  obtain ⟨k, rfl⟩ : ∃ m, k = m + 1 := ⟨k - 1, by omega⟩
  simp only [f63_i, f63_i_e]
theorem idx_l (k : Nat) (hk : 1 ≤ k) (l : List Int) (hl : l.length < 4611686018427387904) : ∀ (d j n : Nat), j + d = l.length → d < n →
    (negA (l.drop j) = true ∧ ∃ i : Nat, f54_rf63_l1 k n l l.length j = some (.o0 i)) ∨ (negA (l.drop j) = false ∧ f54_rf63_l1 k n l l.length j = some (.o2 l l.length l.length false)) := by
  intro d
  induction d with
  | zero =>
    intro j n hj hn
    obtain ⟨n, rfl⟩ : ∃ m, n = m + 1 := ⟨n - 1, by omega⟩
    have e3 : j = l.length := by omega
    subst e3
    exact .inr ⟨negA_end l, by simp [f54_rf63_l1, f54_rf63_l1_b]⟩
  | succ d ih =>
    intro j n hj hn
    obtain ⟨n, rfl⟩ : ∃ m, n = m + 1 := ⟨n - 1, by omega⟩
    have h1 : j < l.length := by omega
    have g1 : l[j]? = some l[j] := List.getElem?_eq_getElem h1
    have hlt : ((j : Int) < (l.length : Int)) := by omega
    have hw := nat_next h1 (by omega)
    by_cases hc : l[j] < 0
    · exact .inl ⟨negA_hit h1 hc, j, by simp only [f54_rf63_l1, f54_rf63_l1_b, f54_rf63_l1_j1, decide_eq_true hlt, cond_true, ifE_pos (show (0 : Int) ≤ j by omega), Int.toNat_natCast, g1, Option.bind_some, neg_at k hk, decide_eq_true hc]⟩
    · have e : f54_rf63_l1 k (n + 1) l l.length j = f54_rf63_l1 k n l l.length ((j + 1 : Nat) : Int) := by
        simp only [f54_rf63_l1, f54_rf63_l1_b, f54_rf63_l1_j1, f54_rf63_l1_j2, decide_eq_true hlt, cond_true, ifE_pos (show (0 : Int) ≤ j by omega), Int.toNat_natCast, g1, Option.bind_some, neg_at k hk, decide_eq_false hc, cond_false, hw]
      rw [e, negA_miss h1 hc]
      exact ih (j + 1) n (by omega) (by omega)
theorem cont_at (k : Nat) (l : List Int) (hk : l.length + 4 ≤ k) (hl : l.length < 4611686018427387904) : f34_rf63 k l = some (.o0 (negA l)) := by
  obtain ⟨k, rfl⟩ : ∃ m, k = m + 2 := ⟨k - 2, by omega⟩
  have h := idx_l k (by omega) l hl l.length 0 k (by omega) (by omega)
  rw [List.drop_zero, Int.natCast_zero] at h
  rcases h with ⟨h1, i, h2⟩ | ⟨h1, h2⟩
  · simp only [f34_rf63, f34_rf63_e, f54_rf63, f54_rf63_e, h2, Option.bind_some, h1]
    rw [decide_eq_true (show (i : Int) ≥ 0 by omega)]
  · simp only [f34_rf63, f34_rf63_e, f54_rf63, f54_rf63_e, f54_rf63_j2, h2, Option.bind_some, h1]
    rfl
theorem len_beq (a b : Nat) : (((a : Int)) == (b : Int)) = decide (a = b) := by
  by_cases h : a = b
  · subst h; simp
  · rw [decide_eq_false h]; simp; omega
theorem fits_at (k : Nat) (N : Int) (L : List Ct) (l : List Int) (hk : l.length + 5 ≤ k) (hl : l.length < 4611686018427387904) : f40_airzr k N L l = some (.o0 (leftB L l)) := by
  obtain ⟨k, rfl⟩ : ∃ m, k = m + 1 := ⟨k - 1, by omega⟩
  simp only [f40_airzr, f40_airzr_e, len_beq, leftB]
  by_cases h : l.length = L.length
  · simp only [decide_eq_true h, cond_true, cont_at k l (by omega) hl, Option.bind_some, Bool.true_and]
  · simp only [decide_eq_false h, cond_false, Bool.false_and]
theorem left_l (k : Nat) (N : Int) (L : List Ct) (l : List Int) (hl : l.length < 4611686018427387904) : ∀ (d j n : Nat), j + d = l.length → d < n →
    f19_airzr_l1 k n l l l.length j N L = cond (negA (l.drop j)) (some (.o0 false)) (some (.o2 l l l.length l.length false N L)) := by
  intro d
  induction d with
  | zero =>
    intro j n hj hn
    obtain ⟨n, rfl⟩ : ∃ m, n = m + 1 := ⟨n - 1, by omega⟩
    have e3 : j = l.length := by omega
    subst e3
    rw [negA_end]
    simp [f19_airzr_l1, f19_airzr_l1_b]
  | succ d ih =>
    intro j n hj hn
    obtain ⟨n, rfl⟩ : ∃ m, n = m + 1 := ⟨n - 1, by omega⟩
    have h1 : j < l.length := by omega
    have g1 : l[j]? = some l[j] := List.getElem?_eq_getElem h1
    have hlt : ((j : Int) < (l.length : Int)) := by omega
    have hw := nat_next h1 (by omega)
    by_cases hc : l[j] < 0
    · rw [negA_hit h1 hc]
      simp only [f19_airzr_l1, f19_airzr_l1_b, f19_airzr_l1_j1, decide_eq_true hlt, cond_true, ifE_pos (show (0 : Int) ≤ j by omega), Int.toNat_natCast, g1, Option.bind_some, decide_eq_true hc]
    · rw [negA_miss h1 hc, ← ih (j + 1) n (by omega) (by omega)]
      simp only [f19_airzr_l1, f19_airzr_l1_b, f19_airzr_l1_j1, f19_airzr_l1_j2, decide_eq_true hlt, cond_true, ifE_pos (show (0 : Int) ≤ j by omega), Int.toNat_natCast, g1, Option.bind_some, decide_eq_false hc, cond_false, hw]
theorem left_at (k : Nat) (N : Int) (L : List Ct) (l : List Int) (hk : l.length + 2 ≤ k) (hl : l.length < 4611686018427387904) : f19_airzr k N L l = some (.o0 (leftB L l)) := by
  obtain ⟨k, rfl⟩ : ∃ m, k = m + 1 := ⟨k - 1, by omega⟩
  have h := left_l k N L l hl l.length 0 k (by omega) (by omega)
  rw [List.drop_zero, Int.natCast_zero] at h
  cases hn : negA l <;> rw [hn] at h <;> simp only [cond_true, cond_false] at h <;> simp only [f19_airzr, f19_airzr_e, f19_airzr_j2, h, Option.bind_some, len_beq, leftB, hn, Bool.not_true, Bool.not_false, Bool.and_true, Bool.and_false]
theorem in_at (k : Nat) (hk : 1 ≤ k) (a b c : Int) : f41_iii k a b c = some (.o0 (decide (b ≤ a) && decide (a ≤ c))) := by
  obtain ⟨k, rfl⟩ : ∃ m, k = m + 1 := ⟨k - 1, by omega⟩
  by_cases h : b ≤ a
  · simp only [f41_iii, f41_iii_e, decide_eq_true (show a ≥ b from h), decide_eq_true h, cond_true, Bool.true_and]
  · simp only [f41_iii, f41_iii_e, decide_eq_false (show ¬ a ≥ b from h), decide_eq_false h, cond_false, Bool.false_and]
theorem short_at (k : Nat) (hk : 1 ≤ k) (n m t u : Int) (L : List Ct) (l : List Int) : ∃ (L' : List Ct) (l' : List Int), L'.length ≤ 30 ∧ l'.length ≤ 30 ∧ (∀ x ∈ l', x ∈ l) ∧
    f9_aiirriniz k n m L l t u = some (.o0 n m t u L' l' []) := by
  obtain ⟨k, rfl⟩ : ∃ m, k = m + 1 := ⟨k - 1, by omega⟩
  refine ⟨L.take (Int.toNat (if (30 : Int) < (L.length : Int) then 30 else (L.length : Int))), l.take (Int.toNat (if (30 : Int) < (l.length : Int) then 30 else (l.length : Int))), ?_, ?_, fun x hx => List.mem_of_mem_take hx, ?_⟩
  · rw [List.length_take]; split <;> omega
  · rw [List.length_take]; split <;> omega
  · simp only [f9_aiirriniz, f9_aiirriniz_e]
    rw [ifE_pos (by split <;> omega), ifE_pos (by split <;> omega), ifE_pos (by rw [List.length_take]; unfold roomy; split <;> omega), ifE_pos (by split <;> omega), ifE_pos (by split <;> omega), ifE_pos (by rw [List.length_take]; unfold roomy; split <;> omega)]
theorem short_same (k : Nat) (hk : 1 ≤ k) (n m t u : Int) (L : List Ct) (l : List Int) (hL : L.length ≤ 30) (hl : l.length ≤ 30) : f9_aiirririz k n m L l t [] u = some (.o0 n m t u L l []) := by
  obtain ⟨k, rfl⟩ : ∃ m, k = m + 1 := ⟨k - 1, by omega⟩
  have e1 : (if (30 : Int) < (L.length : Int) then 30 else (L.length : Int)) = (L.length : Int) := if_neg (by omega)
  have e2 : (if (30 : Int) < (l.length : Int) then 30 else (l.length : Int)) = (l.length : Int) := if_neg (by omega)
  simp only [f9_aiirririz, f9_aiirririz_e, e1, e2, Int.toNat_natCast, List.take_length]
  rw [ifE_pos (by omega), ifE_pos (by omega), ifE_pos (by unfold roomy; omega), ifE_pos (by omega), ifE_pos (by omega), ifE_pos (by unfold roomy; omega)]
  simp [ifE, roomy]
end Go.Proofs.YtiompmmbjpjjeaaDoorV
