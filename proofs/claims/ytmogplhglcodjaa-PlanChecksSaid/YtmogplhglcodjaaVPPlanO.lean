/- Which contact is open. -/
import Derived.Test.YtmogplhglcodjaaVPPlanC
namespace Go.Proofs.YtmogplhglcodjaaV
open Go
set_option linter.unusedVariables false
set_option linter.unusedSimpArgs false
def openB (a b t : Int) (c : Ct) : Bool := (c.From == a) && ((c.To == b) && (decide (c.Start ≤ t) && decide (t < c.End)))
def openL (a b t : Int) : List Ct → Int → Int
  | [], _ => -1
  | c :: r, i => cond (openB a b t c) i (openL a b t r (i + 1))
theorem openb_at (k : Nat) (hk : 1 ≤ k) (a b t : Int) (c : Ct) : f26_ai6zppp_bibibi k c.From c.To c.Start c.End c.Rate c.Delay a b t = some (.o0 (openB a b t c) a b t) := by
  obtain ⟨k, rfl⟩ : ∃ m, k = m + 1 := ⟨k - 1, by omega⟩
  simp only [f26_ai6zppp_bibibi, f26_ai6zppp_bibibi_e, openB]
  cases h1 : c.From == a
  · rfl
  cases h2 : c.To == b
  · rfl
  cases h3 : decide (c.Start ≤ t)
  · rfl
  rfl
theorem idxc_l (k : Nat) (hk : 1 ≤ k) (L : List Ct) (hl : L.length < 4611686018427387904) (a b t : Int) : ∀ (d i n : Nat), i + d = L.length → d < n →
    f25_rF26ppp_bibibi_l1 k n L L.length i a b t = some (if openL a b t (L.drop i) i < 0 then .o2 L L.length L.length false a b t else .o0 (openL a b t (L.drop i) i) a b t) := by
  intro d
  induction d with
  | zero =>
    intro i n hid hn
    obtain ⟨n, rfl⟩ : ∃ m, n = m + 1 := ⟨n - 1, by omega⟩
    have e1 : L.drop i = [] := List.drop_eq_nil_of_le (by omega)
    have e3 : i = L.length := by omega
    rw [e1]
    simp [f25_rF26ppp_bibibi_l1, f25_rF26ppp_bibibi_l1_b, openL, e3]
  | succ d ih =>
    intro i n hid hn
    obtain ⟨n, rfl⟩ : ∃ m, n = m + 1 := ⟨n - 1, by omega⟩
    have h1 : i < L.length := by omega
    have hlt : ((i : Int) < (L.length : Int)) := by omega
    have g1 : L[i]? = some L[i] := List.getElem?_eq_getElem h1
    have ih' := ih (i + 1) n (by omega) (by omega)
    rw [List.drop_eq_getElem_cons h1]
    cases ho : openB a b t L[i] with
    | true =>
      simp only [f25_rF26ppp_bibibi_l1, f25_rF26ppp_bibibi_l1_b, f25_rF26ppp_bibibi_l1_j1, f25_rF26ppp_bibibi_l1_j2, decide_eq_true hlt, cond_true, ifE_pos (show (0 : Int) ≤ i by omega), Int.toNat_natCast, g1, Option.bind_some, openb_at k hk, ho, openL, if_neg (show ¬ ((i : Int) < 0) by omega)]
    | false =>
      simp only [f25_rF26ppp_bibibi_l1, f25_rF26ppp_bibibi_l1_b, f25_rF26ppp_bibibi_l1_j1, f25_rF26ppp_bibibi_l1_j2, decide_eq_true hlt, cond_true, cond_false, ifE_pos (show (0 : Int) ≤ i by omega), Int.toNat_natCast, g1, Option.bind_some, openb_at k hk, ho, openL, nat_next h1 hl, ih']
      rfl
theorem open_at (k : Nat) (N : Int) (L : List Ct) (a b t : Int) (hk : 40 ≤ k) : f13_airziii k N L a b t = some (cond (chkB N L) (if openL a b t L 0 < 0 then .o0 0 4 else .o0 (openL a b t L 0) 0) (.o0 0 230)) := by
  obtain ⟨k, rfl⟩ : ∃ m, k = m + 2 := ⟨k - 2, by omega⟩
  simp only [f13_airziii, f13_airziii_e, check_at (k + 1) N L (by omega), Option.bind_some]
  cases hc : chkB N L with
  | false => rfl
  | true =>
    obtain ⟨hN1, hN, hl, hL⟩ := chkB_ok hc
    have q := idxc_l k (by omega) L (by omega) a b t L.length 0 k (by omega) (by omega)
    simp only [Int.natCast_zero, List.drop_zero] at q
    by_cases h : openL a b t L 0 < 0
    · rw [if_pos h] at q
      simp only [cond_true, bne_self_eq_false, cond_false, f13_airziii_j1, f25_rF26ppp_bibibi, f25_rF26ppp_bibibi_e, q, Option.bind_some, f25_rF26ppp_bibibi_j2, if_pos h]
      rfl
    · rw [if_neg h] at q
      simp only [cond_true, bne_self_eq_false, cond_false, f13_airziii_j1, f25_rF26ppp_bibibi, f25_rF26ppp_bibibi_e, q, Option.bind_some, f25_rF26ppp_bibibi_j2, if_neg h, decide_eq_false h, f13_airziii_j2]
theorem ropen_l (k : Nat) (N : Int) (L : List Ct) (hl : L.length < 4611686018427387904) (a b t : Int) : ∀ (d i n : Nat), i + d = L.length → d < n →
    f15_airziii_l1 k n a b t i N L = some (if openL a b t (L.drop i) i < 0 then .o2 a b t L.length false N L else .o0 (openL a b t (L.drop i) i)) := by
  intro d
  induction d with
  | zero =>
    intro i n hid hn
    obtain ⟨n, rfl⟩ : ∃ m, n = m + 1 := ⟨n - 1, by omega⟩
    have e1 : L.drop i = [] := List.drop_eq_nil_of_le (by omega)
    have e3 : i = L.length := by omega
    rw [e1]
    simp [f15_airziii_l1, f15_airziii_l1_b, openL, e3]
  | succ d ih =>
    intro i n hid hn
    obtain ⟨n, rfl⟩ : ∃ m, n = m + 1 := ⟨n - 1, by omega⟩
    have h1 : i < L.length := by omega
    have hlt : ((i : Int) < (L.length : Int)) := by omega
    have g1 : L[i]? = some L[i] := List.getElem?_eq_getElem h1
    have ih' := ih (i + 1) n (by omega) (by omega)
    rw [List.drop_eq_getElem_cons h1]
    have e : openL a b t (L[i] :: L.drop (i + 1)) i = cond (openB a b t L[i]) (i : Int) (openL a b t (L.drop (i + 1)) ((i + 1 : Nat) : Int)) := rfl
    have gge : (t ≥ L[i].Start) = (L[i].Start ≤ t) := rfl
    rw [e]
    unfold openB
    simp only [f15_airziii_l1, f15_airziii_l1_b, f15_airziii_l1_j1, f15_airziii_l1_j2, decide_eq_true hlt, cond_true, ifE_pos (show (0 : Int) ≤ i by omega), Int.toNat_natCast, g1, Option.bind_some, nat_next h1 hl, gge]
    cases h1 : L[i].From == a
    · simpa only [Bool.false_and, cond_false, Option.bind_some] using ih'
    cases h2 : L[i].To == b
    · simpa only [Bool.true_and, Bool.false_and, cond_true, cond_false, Option.bind_some] using ih'
    cases h3 : decide (L[i].Start ≤ t)
    · simpa only [Bool.true_and, Bool.false_and, cond_true, cond_false, Option.bind_some] using ih'
    cases h4 : decide (t < L[i].End)
    · simpa only [Bool.true_and, Bool.false_and, cond_true, cond_false, Option.bind_some] using ih'
    simp only [Bool.and_self, cond_true, Option.bind_some, if_neg (show ¬ ((i : Int) < 0) by omega)]
theorem ropen_at (k : Nat) (N : Int) (L : List Ct) (a b t : Int) (hl : L.length ≤ 24) (hk : 40 ≤ k) : f15_airziii k N L a b t = some (.o0 (if openL a b t L 0 < 0 then -1 else openL a b t L 0)) := by
  obtain ⟨k, rfl⟩ : ∃ m, k = m + 1 := ⟨k - 1, by omega⟩
  have q := ropen_l k N L (by omega) a b t L.length 0 k (by omega) (by omega)
  simp only [Int.natCast_zero, List.drop_zero] at q
  by_cases h : openL a b t L 0 < 0
  · rw [if_pos h] at q
    simp only [f15_airziii, f15_airziii_e, q, Option.bind_some, f15_airziii_j2, if_pos h]
  · rw [if_neg h] at q
    simp only [f15_airziii, f15_airziii_e, q, Option.bind_some, f15_airziii_j2, if_neg h]
end Go.Proofs.YtmogplhglcodjaaV
