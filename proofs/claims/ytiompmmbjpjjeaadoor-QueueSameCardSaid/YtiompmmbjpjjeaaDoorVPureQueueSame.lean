/- When two choices are one. -/
import Derived.Test.YtiompmmbjpjjeaaDoorVStmtQueueSame
import Derived.Test.YtiompmmbjpjjeaaDoorVPWords
namespace Go.Proofs.YtiompmmbjpjjeaaDoorV
open Go Go.RowKit
set_option linter.unusedVariables false
set_option linter.unusedSimpArgs false
abbrev Ch := T37
theorem extG (a b : T56) : (((a.Key_Source == b.Key_Source) && ((a.Key_Seq == b.Key_Seq) && (a.Key_Offset == b.Key_Offset))) && ((a.To == b.To) && (a.Contact == b.Contact))) = decide (a = b) := by
  rw [Bool.eq_iff_iff, decide_eq_true_iff]
  cases a; cases b; simp [and_assoc]
theorem extK (a b : T44) : ((a.Source == b.Source) && ((a.Seq == b.Seq) && (a.Offset == b.Offset))) = decide (a = b) := by
  rw [Bool.eq_iff_iff, decide_eq_true_iff]
  cases a; cases b; simp
theorem extI (a b : Int) : (a != b) = !decide (a = b) := by
  by_cases h : a = b
  · subst h; simp
  · simp [h]
theorem eqG_loop (l1 l2 : List T56) (hb : l1.length < 4611686018427387904) (h : l1.length = l2.length) (k : Nat) : ∀ (d i n : Nat), i + d = l1.length → d < n →
    f43_rr_l2 k n l1 l2 l1.length i = if l1.drop i = l2.drop i then some (.o2 l1 l2 l1.length l1.length false) else some (.o0 false) := by
  intro d
  induction d with
  | zero =>
    intro i n hid hn
    obtain ⟨n, rfl⟩ : ∃ m, n = m + 1 := ⟨n - 1, by omega⟩
    have e1 : l1.drop i = [] := List.drop_eq_nil_of_le (by omega)
    have e2 : l2.drop i = [] := List.drop_eq_nil_of_le (by omega)
    have e3 : i = l1.length := by omega
    subst e3
    simp [f43_rr_l2, f43_rr_l2_b, e2]
  | succ d ih =>
    intro i n hid hn
    obtain ⟨n, rfl⟩ : ∃ m, n = m + 1 := ⟨n - 1, by omega⟩
    have h1 : i < l1.length := by omega
    have h2 : i < l2.length := by omega
    have g1 : l1[i]? = some l1[i] := List.getElem?_eq_getElem h1
    have g2 : l2[i]? = some l2[i] := List.getElem?_eq_getElem h2
    have hlt : ((i : Int) < (l1.length : Int)) := by omega
    have hw : IntKind.i64.wrap ((i : Int) + 1) = ((i + 1 : Nat) : Int) := by rw [wrap_i64 (by omega) (by omega)]; rfl
    have ih' := ih (i + 1) n (by omega) (by omega)
    rw [List.drop_eq_getElem_cons h1, List.drop_eq_getElem_cons h2]
    by_cases he : l1[i] = l2[i]
    · simp only [f43_rr_l2, f43_rr_l2_b, f43_rr_l2_j1, f43_rr_l2_j2, decide_eq_true hlt, cond_true, ifE_pos (show (0 : Int) ≤ i by omega), Int.toNat_natCast, g1, g2, Option.bind_some, extG, decide_eq_true he, Bool.not_true, cond_false, hw, ih', List.cons.injEq]
      simp only [he, true_and]
    · simp only [f43_rr_l2, f43_rr_l2_b, f43_rr_l2_j1, f43_rr_l2_j2, decide_eq_true hlt, cond_true, ifE_pos (show (0 : Int) ≤ i by omega), Int.toNat_natCast, g1, g2, Option.bind_some, extG, decide_eq_false he, Bool.not_false]
      rw [if_neg (fun e => he (List.cons.inj e).1)]
theorem eqG_at (l1 l2 : List T56) (hb : l1.length < 4611686018427387904) (k : Nat) (hk : l1.length + 2 ≤ k) : f43_rr k l1 l2 = some (.o0 (decide (l1 = l2))) := by
  obtain ⟨k, rfl⟩ : ∃ m, k = m + 1 := ⟨k - 1, by omega⟩
  by_cases h : l1.length = l2.length
  · have q := eqG_loop l1 l2 hb h k l1.length 0 k (by omega) (by omega)
    simp only [List.drop_zero, Int.natCast_zero] at q
    have hl : (((l1.length : Int)) != (l2.length : Int)) = false := by rw [h]; simp
    by_cases he : l1 = l2
    · rw [if_pos he] at q
      simp only [f43_rr, f43_rr_e, f43_rr_j1, f43_rr_j3, hl, cond_false, q, Option.bind_some, decide_eq_true he]
    · rw [if_neg he] at q
      simp only [f43_rr, f43_rr_e, f43_rr_j1, f43_rr_j3, hl, cond_false, q, Option.bind_some, decide_eq_false he]
  · have hl : (((l1.length : Int)) != (l2.length : Int)) = true := by simp; omega
    have he : ¬ l1 = l2 := fun e => h (by rw [e])
    simp only [f43_rr, f43_rr_e, hl, cond_true, decide_eq_false he]
theorem eqK_loop (l1 l2 : List T44) (hb : l1.length < 4611686018427387904) (h : l1.length = l2.length) (k : Nat) : ∀ (d i n : Nat), i + d = l1.length → d < n →
    f44_rr_l2 k n l1 l2 l1.length i = if l1.drop i = l2.drop i then some (.o2 l1 l2 l1.length l1.length false) else some (.o0 false) := by
  intro d
  induction d with
  | zero =>
    intro i n hid hn
    obtain ⟨n, rfl⟩ : ∃ m, n = m + 1 := ⟨n - 1, by omega⟩
    have e1 : l1.drop i = [] := List.drop_eq_nil_of_le (by omega)
    have e2 : l2.drop i = [] := List.drop_eq_nil_of_le (by omega)
    have e3 : i = l1.length := by omega
    subst e3
    simp [f44_rr_l2, f44_rr_l2_b, e2]
  | succ d ih =>
    intro i n hid hn
    obtain ⟨n, rfl⟩ : ∃ m, n = m + 1 := ⟨n - 1, by omega⟩
    have h1 : i < l1.length := by omega
    have h2 : i < l2.length := by omega
    have g1 : l1[i]? = some l1[i] := List.getElem?_eq_getElem h1
    have g2 : l2[i]? = some l2[i] := List.getElem?_eq_getElem h2
    have hlt : ((i : Int) < (l1.length : Int)) := by omega
    have hw : IntKind.i64.wrap ((i : Int) + 1) = ((i + 1 : Nat) : Int) := by rw [wrap_i64 (by omega) (by omega)]; rfl
    have ih' := ih (i + 1) n (by omega) (by omega)
    rw [List.drop_eq_getElem_cons h1, List.drop_eq_getElem_cons h2]
    by_cases he : l1[i] = l2[i]
    · simp only [f44_rr_l2, f44_rr_l2_b, f44_rr_l2_j1, f44_rr_l2_j2, decide_eq_true hlt, cond_true, ifE_pos (show (0 : Int) ≤ i by omega), Int.toNat_natCast, g1, g2, Option.bind_some, extK, decide_eq_true he, Bool.not_true, cond_false, hw, ih', List.cons.injEq]
      simp only [he, true_and]
    · simp only [f44_rr_l2, f44_rr_l2_b, f44_rr_l2_j1, f44_rr_l2_j2, decide_eq_true hlt, cond_true, ifE_pos (show (0 : Int) ≤ i by omega), Int.toNat_natCast, g1, g2, Option.bind_some, extK, decide_eq_false he, Bool.not_false]
      rw [if_neg (fun e => he (List.cons.inj e).1)]
theorem eqK_at (l1 l2 : List T44) (hb : l1.length < 4611686018427387904) (k : Nat) (hk : l1.length + 2 ≤ k) : f44_rr k l1 l2 = some (.o0 (decide (l1 = l2))) := by
  obtain ⟨k, rfl⟩ : ∃ m, k = m + 1 := ⟨k - 1, by omega⟩
  by_cases h : l1.length = l2.length
  · have q := eqK_loop l1 l2 hb h k l1.length 0 k (by omega) (by omega)
    simp only [List.drop_zero, Int.natCast_zero] at q
    have hl : (((l1.length : Int)) != (l2.length : Int)) = false := by rw [h]; simp
    by_cases he : l1 = l2
    · rw [if_pos he] at q
      simp only [f44_rr, f44_rr_e, f44_rr_j1, f44_rr_j3, hl, cond_false, q, Option.bind_some, decide_eq_true he]
    · rw [if_neg he] at q
      simp only [f44_rr, f44_rr_e, f44_rr_j1, f44_rr_j3, hl, cond_false, q, Option.bind_some, decide_eq_false he]
  · have hl : (((l1.length : Int)) != (l2.length : Int)) = true := by simp; omega
    have he : ¬ l1 = l2 := fun e => h (by rw [e])
    simp only [f44_rr, f44_rr_e, hl, cond_true, decide_eq_false he]
theorem eqI_loop (l1 l2 : List Int) (hb : l1.length < 4611686018427387904) (h : l1.length = l2.length) (k : Nat) : ∀ (d i n : Nat), i + d = l1.length → d < n →
    f45_rr_l2 k n l1 l2 l1.length i = if l1.drop i = l2.drop i then some (.o2 l1 l2 l1.length l1.length false) else some (.o0 false) := by
  intro d
  induction d with
  | zero =>
    intro i n hid hn
    obtain ⟨n, rfl⟩ : ∃ m, n = m + 1 := ⟨n - 1, by omega⟩
    have e1 : l1.drop i = [] := List.drop_eq_nil_of_le (by omega)
    have e2 : l2.drop i = [] := List.drop_eq_nil_of_le (by omega)
    have e3 : i = l1.length := by omega
    subst e3
    simp [f45_rr_l2, f45_rr_l2_b, e2]
  | succ d ih =>
    intro i n hid hn
    obtain ⟨n, rfl⟩ : ∃ m, n = m + 1 := ⟨n - 1, by omega⟩
    have h1 : i < l1.length := by omega
    have h2 : i < l2.length := by omega
    have g1 : l1[i]? = some l1[i] := List.getElem?_eq_getElem h1
    have g2 : l2[i]? = some l2[i] := List.getElem?_eq_getElem h2
    have hlt : ((i : Int) < (l1.length : Int)) := by omega
    have hw : IntKind.i64.wrap ((i : Int) + 1) = ((i + 1 : Nat) : Int) := by rw [wrap_i64 (by omega) (by omega)]; rfl
    have ih' := ih (i + 1) n (by omega) (by omega)
    rw [List.drop_eq_getElem_cons h1, List.drop_eq_getElem_cons h2]
    by_cases he : l1[i] = l2[i]
    · simp only [f45_rr_l2, f45_rr_l2_b, f45_rr_l2_j1, f45_rr_l2_j2, decide_eq_true hlt, cond_true, ifE_pos (show (0 : Int) ≤ i by omega), Int.toNat_natCast, g1, g2, Option.bind_some, extI, decide_eq_true he, Bool.not_true, cond_false, hw, ih', List.cons.injEq]
      simp only [he, true_and]
    · simp only [f45_rr_l2, f45_rr_l2_b, f45_rr_l2_j1, f45_rr_l2_j2, decide_eq_true hlt, cond_true, ifE_pos (show (0 : Int) ≤ i by omega), Int.toNat_natCast, g1, g2, Option.bind_some, extI, decide_eq_false he, Bool.not_false]
      rw [if_neg (fun e => he (List.cons.inj e).1)]
theorem eqI_at (l1 l2 : List Int) (hb : l1.length < 4611686018427387904) (k : Nat) (hk : l1.length + 2 ≤ k) : f45_rr k l1 l2 = some (.o0 (decide (l1 = l2))) := by
  obtain ⟨k, rfl⟩ : ∃ m, k = m + 1 := ⟨k - 1, by omega⟩
  by_cases h : l1.length = l2.length
  · have q := eqI_loop l1 l2 hb h k l1.length 0 k (by omega) (by omega)
    simp only [List.drop_zero, Int.natCast_zero] at q
    have hl : (((l1.length : Int)) != (l2.length : Int)) = false := by rw [h]; simp
    by_cases he : l1 = l2
    · rw [if_pos he] at q
      simp only [f45_rr, f45_rr_e, f45_rr_j1, f45_rr_j3, hl, cond_false, q, Option.bind_some, decide_eq_true he]
    · rw [if_neg he] at q
      simp only [f45_rr, f45_rr_e, f45_rr_j1, f45_rr_j3, hl, cond_false, q, Option.bind_some, decide_eq_false he]
  · have hl : (((l1.length : Int)) != (l2.length : Int)) = true := by simp; omega
    have he : ¬ l1 = l2 := fun e => h (by rw [e])
    simp only [f45_rr, f45_rr_e, hl, cond_true, decide_eq_false he]
theorem refG_loop (a b : Ch) (hb : a.Go.length < 4611686018427387904) (h : a.Go.length = b.Go.length) (k : Nat) : ∀ (d i n : Nat), i + d = a.Go.length → d < n →
    f23_arrrrzarrrrz_l2 k n a.Go.length i a.Go a.Waits a.Stuck a.Left b.Go b.Waits b.Stuck b.Left = if a.Go.drop i = b.Go.drop i then some (.o2 a.Go.length a.Go.length false a.Go a.Waits a.Stuck a.Left b.Go b.Waits b.Stuck b.Left) else some (.o0 false) := by
  intro d
  induction d with
  | zero =>
    intro i n hid hn
    obtain ⟨n, rfl⟩ : ∃ m, n = m + 1 := ⟨n - 1, by omega⟩
    have e1 : a.Go.drop i = [] := List.drop_eq_nil_of_le (by omega)
    have e2 : b.Go.drop i = [] := List.drop_eq_nil_of_le (by omega)
    have e3 : i = a.Go.length := by omega
    subst e3
    rw [e1, e2, if_pos rfl]
    simp only [f23_arrrrzarrrrz_l2, f23_arrrrzarrrrz_l2_b, decide_eq_false (Int.lt_irrefl _), cond_false, Option.bind_some]
  | succ d ih =>
    intro i n hid hn
    obtain ⟨n, rfl⟩ : ∃ m, n = m + 1 := ⟨n - 1, by omega⟩
    have h1 : i < a.Go.length := by omega
    have h2 : i < b.Go.length := by omega
    have g1 : a.Go[i]? = some a.Go[i] := List.getElem?_eq_getElem h1
    have g2 : b.Go[i]? = some b.Go[i] := List.getElem?_eq_getElem h2
    have hlt : ((i : Int) < (a.Go.length : Int)) := by omega
    have hw : IntKind.i64.wrap ((i : Int) + 1) = ((i + 1 : Nat) : Int) := by rw [wrap_i64 (by omega) (by omega)]; rfl
    have ih' := ih (i + 1) n (by omega) (by omega)
    rw [List.drop_eq_getElem_cons h1, List.drop_eq_getElem_cons h2]
    by_cases he : a.Go[i] = b.Go[i]
    · simp only [f23_arrrrzarrrrz_l2, f23_arrrrzarrrrz_l2_b, f23_arrrrzarrrrz_l2_j1, f23_arrrrzarrrrz_l2_j2, decide_eq_true hlt, cond_true, ifE_pos (show (0 : Int) ≤ i by omega), Int.toNat_natCast, g1, g2, Option.bind_some, extG, decide_eq_true he, Bool.not_true, cond_false, hw, ih', List.cons.injEq]
      simp only [he, true_and]
    · simp only [f23_arrrrzarrrrz_l2, f23_arrrrzarrrrz_l2_b, f23_arrrrzarrrrz_l2_j1, f23_arrrrzarrrrz_l2_j2, decide_eq_true hlt, cond_true, ifE_pos (show (0 : Int) ≤ i by omega), Int.toNat_natCast, g1, g2, Option.bind_some, extG, decide_eq_false he, Bool.not_false]
      rw [if_neg (fun e => he (List.cons.inj e).1)]
theorem refW_loop (a b : Ch) (hb : a.Waits.length < 4611686018427387904) (h : a.Waits.length = b.Waits.length) (k : Nat) : ∀ (d i n : Nat), i + d = a.Waits.length → d < n →
    f23_arrrrzarrrrz_l4 k n a.Waits.length i a.Go a.Waits a.Stuck a.Left b.Go b.Waits b.Stuck b.Left = if a.Waits.drop i = b.Waits.drop i then some (.o2 a.Waits.length a.Waits.length false a.Go a.Waits a.Stuck a.Left b.Go b.Waits b.Stuck b.Left) else some (.o0 false) := by
  intro d
  induction d with
  | zero =>
    intro i n hid hn
    obtain ⟨n, rfl⟩ : ∃ m, n = m + 1 := ⟨n - 1, by omega⟩
    have e1 : a.Waits.drop i = [] := List.drop_eq_nil_of_le (by omega)
    have e2 : b.Waits.drop i = [] := List.drop_eq_nil_of_le (by omega)
    have e3 : i = a.Waits.length := by omega
    subst e3
    rw [e1, e2, if_pos rfl]
    simp only [f23_arrrrzarrrrz_l4, f23_arrrrzarrrrz_l4_b, decide_eq_false (Int.lt_irrefl _), cond_false, Option.bind_some]
  | succ d ih =>
    intro i n hid hn
    obtain ⟨n, rfl⟩ : ∃ m, n = m + 1 := ⟨n - 1, by omega⟩
    have h1 : i < a.Waits.length := by omega
    have h2 : i < b.Waits.length := by omega
    have g1 : a.Waits[i]? = some a.Waits[i] := List.getElem?_eq_getElem h1
    have g2 : b.Waits[i]? = some b.Waits[i] := List.getElem?_eq_getElem h2
    have hlt : ((i : Int) < (a.Waits.length : Int)) := by omega
    have hw : IntKind.i64.wrap ((i : Int) + 1) = ((i + 1 : Nat) : Int) := by rw [wrap_i64 (by omega) (by omega)]; rfl
    have ih' := ih (i + 1) n (by omega) (by omega)
    rw [List.drop_eq_getElem_cons h1, List.drop_eq_getElem_cons h2]
    by_cases he : a.Waits[i] = b.Waits[i]
    · simp only [f23_arrrrzarrrrz_l4, f23_arrrrzarrrrz_l4_b, f23_arrrrzarrrrz_l4_j1, f23_arrrrzarrrrz_l4_j2, decide_eq_true hlt, cond_true, ifE_pos (show (0 : Int) ≤ i by omega), Int.toNat_natCast, g1, g2, Option.bind_some, extK, decide_eq_true he, Bool.not_true, cond_false, hw, ih', List.cons.injEq]
      simp only [he, true_and]
    · simp only [f23_arrrrzarrrrz_l4, f23_arrrrzarrrrz_l4_b, f23_arrrrzarrrrz_l4_j1, f23_arrrrzarrrrz_l4_j2, decide_eq_true hlt, cond_true, ifE_pos (show (0 : Int) ≤ i by omega), Int.toNat_natCast, g1, g2, Option.bind_some, extK, decide_eq_false he, Bool.not_false]
      rw [if_neg (fun e => he (List.cons.inj e).1)]
theorem refS_loop (a b : Ch) (hb : a.Stuck.length < 4611686018427387904) (h : a.Stuck.length = b.Stuck.length) (k : Nat) : ∀ (d i n : Nat), i + d = a.Stuck.length → d < n →
    f23_arrrrzarrrrz_l6 k n a.Stuck.length i a.Go a.Waits a.Stuck a.Left b.Go b.Waits b.Stuck b.Left = if a.Stuck.drop i = b.Stuck.drop i then some (.o2 a.Stuck.length a.Stuck.length false a.Go a.Waits a.Stuck a.Left b.Go b.Waits b.Stuck b.Left) else some (.o0 false) := by
  intro d
  induction d with
  | zero =>
    intro i n hid hn
    obtain ⟨n, rfl⟩ : ∃ m, n = m + 1 := ⟨n - 1, by omega⟩
    have e1 : a.Stuck.drop i = [] := List.drop_eq_nil_of_le (by omega)
    have e2 : b.Stuck.drop i = [] := List.drop_eq_nil_of_le (by omega)
    have e3 : i = a.Stuck.length := by omega
    subst e3
    rw [e1, e2, if_pos rfl]
    simp only [f23_arrrrzarrrrz_l6, f23_arrrrzarrrrz_l6_b, decide_eq_false (Int.lt_irrefl _), cond_false, Option.bind_some]
  | succ d ih =>
    intro i n hid hn
    obtain ⟨n, rfl⟩ : ∃ m, n = m + 1 := ⟨n - 1, by omega⟩
    have h1 : i < a.Stuck.length := by omega
    have h2 : i < b.Stuck.length := by omega
    have g1 : a.Stuck[i]? = some a.Stuck[i] := List.getElem?_eq_getElem h1
    have g2 : b.Stuck[i]? = some b.Stuck[i] := List.getElem?_eq_getElem h2
    have hlt : ((i : Int) < (a.Stuck.length : Int)) := by omega
    have hw : IntKind.i64.wrap ((i : Int) + 1) = ((i + 1 : Nat) : Int) := by rw [wrap_i64 (by omega) (by omega)]; rfl
    have ih' := ih (i + 1) n (by omega) (by omega)
    rw [List.drop_eq_getElem_cons h1, List.drop_eq_getElem_cons h2]
    by_cases he : a.Stuck[i] = b.Stuck[i]
    · simp only [f23_arrrrzarrrrz_l6, f23_arrrrzarrrrz_l6_b, f23_arrrrzarrrrz_l6_j1, f23_arrrrzarrrrz_l6_j2, decide_eq_true hlt, cond_true, ifE_pos (show (0 : Int) ≤ i by omega), Int.toNat_natCast, g1, g2, Option.bind_some, extK, decide_eq_true he, Bool.not_true, cond_false, hw, ih', List.cons.injEq]
      simp only [he, true_and]
    · simp only [f23_arrrrzarrrrz_l6, f23_arrrrzarrrrz_l6_b, f23_arrrrzarrrrz_l6_j1, f23_arrrrzarrrrz_l6_j2, decide_eq_true hlt, cond_true, ifE_pos (show (0 : Int) ≤ i by omega), Int.toNat_natCast, g1, g2, Option.bind_some, extK, decide_eq_false he, Bool.not_false]
      rw [if_neg (fun e => he (List.cons.inj e).1)]
theorem refL_loop (a b : Ch) (hb : a.Left.length < 4611686018427387904) (h : a.Left.length = b.Left.length) (k : Nat) : ∀ (d i n : Nat), i + d = a.Left.length → d < n →
    f23_arrrrzarrrrz_l8 k n a.Left.length i a.Go a.Waits a.Stuck a.Left b.Go b.Waits b.Stuck b.Left = if a.Left.drop i = b.Left.drop i then some (.o2 a.Left.length a.Left.length false a.Go a.Waits a.Stuck a.Left b.Go b.Waits b.Stuck b.Left) else some (.o0 false) := by
  intro d
  induction d with
  | zero =>
    intro i n hid hn
    obtain ⟨n, rfl⟩ : ∃ m, n = m + 1 := ⟨n - 1, by omega⟩
    have e1 : a.Left.drop i = [] := List.drop_eq_nil_of_le (by omega)
    have e2 : b.Left.drop i = [] := List.drop_eq_nil_of_le (by omega)
    have e3 : i = a.Left.length := by omega
    subst e3
    rw [e1, e2, if_pos rfl]
    simp only [f23_arrrrzarrrrz_l8, f23_arrrrzarrrrz_l8_b, decide_eq_false (Int.lt_irrefl _), cond_false, Option.bind_some]
  | succ d ih =>
    intro i n hid hn
    obtain ⟨n, rfl⟩ : ∃ m, n = m + 1 := ⟨n - 1, by omega⟩
    have h1 : i < a.Left.length := by omega
    have h2 : i < b.Left.length := by omega
    have g1 : a.Left[i]? = some a.Left[i] := List.getElem?_eq_getElem h1
    have g2 : b.Left[i]? = some b.Left[i] := List.getElem?_eq_getElem h2
    have hlt : ((i : Int) < (a.Left.length : Int)) := by omega
    have hw : IntKind.i64.wrap ((i : Int) + 1) = ((i + 1 : Nat) : Int) := by rw [wrap_i64 (by omega) (by omega)]; rfl
    have ih' := ih (i + 1) n (by omega) (by omega)
    rw [List.drop_eq_getElem_cons h1, List.drop_eq_getElem_cons h2]
    by_cases he : a.Left[i] = b.Left[i]
    · simp only [f23_arrrrzarrrrz_l8, f23_arrrrzarrrrz_l8_b, f23_arrrrzarrrrz_l8_j1, f23_arrrrzarrrrz_l8_j2, decide_eq_true hlt, cond_true, ifE_pos (show (0 : Int) ≤ i by omega), Int.toNat_natCast, g1, g2, Option.bind_some, extI, decide_eq_true he, Bool.not_true, cond_false, hw, ih', List.cons.injEq]
      simp only [he, true_and]
    · simp only [f23_arrrrzarrrrz_l8, f23_arrrrzarrrrz_l8_b, f23_arrrrzarrrrz_l8_j1, f23_arrrrzarrrrz_l8_j2, decide_eq_true hlt, cond_true, ifE_pos (show (0 : Int) ≤ i by omega), Int.toNat_natCast, g1, g2, Option.bind_some, extI, decide_eq_false he, Bool.not_false]
      rw [if_neg (fun e => he (List.cons.inj e).1)]
theorem same_at (k : Nat) (a b : Ch) (h1 : a.Go.length ≤ 30) (h2 : a.Waits.length ≤ 30) (h3 : a.Stuck.length ≤ 30) (h4 : a.Left.length ≤ 30) (hk : 40 ≤ k) : f22_arrrrzarrrrz k a.Go a.Waits a.Stuck a.Left b.Go b.Waits b.Stuck b.Left = some (.o0 (decide (a.Go = b.Go) && (decide (a.Waits = b.Waits) && (decide (a.Stuck = b.Stuck) && decide (a.Left = b.Left))))) := by
  obtain ⟨k, rfl⟩ : ∃ m, k = m + 1 := ⟨k - 1, by omega⟩
  simp only [f22_arrrrzarrrrz, f22_arrrrzarrrrz_e, eqG_at a.Go b.Go (by omega) k (by omega), eqK_at a.Waits b.Waits (by omega) k (by omega), eqK_at a.Stuck b.Stuck (by omega) k (by omega), eqI_at a.Left b.Left (by omega) k (by omega), Option.bind_some]
  cases decide (a.Go = b.Go) <;> cases decide (a.Waits = b.Waits) <;> cases decide (a.Stuck = b.Stuck) <;> rfl
theorem rsame_at (k : Nat) (a b : Ch) (h1 : a.Go.length ≤ 30) (h2 : a.Waits.length ≤ 30) (h3 : a.Stuck.length ≤ 30) (h4 : a.Left.length ≤ 30) (hk : 40 ≤ k) : f23_arrrrzarrrrz k a.Go a.Waits a.Stuck a.Left b.Go b.Waits b.Stuck b.Left = some (.o0 (decide (a.Go = b.Go) && (decide (a.Waits = b.Waits) && (decide (a.Stuck = b.Stuck) && decide (a.Left = b.Left))))) := by
  obtain ⟨k, rfl⟩ : ∃ m, k = m + 1 := ⟨k - 1, by omega⟩
  have ne : ∀ (x y : Nat), x = y → (((x : Int)) != (y : Int)) = false := fun x y h => by rw [h]; simp
  have nt : ∀ (x y : Nat), x ≠ y → (((x : Int)) != (y : Int)) = true := fun x y h => by simp; omega
  have e0 : ((0 : Nat) : Int) = 0 := rfl
  by_cases q1 : a.Go.length = b.Go.length
  case neg => simp only [f23_arrrrzarrrrz, f23_arrrrzarrrrz_e, nt _ _ q1, cond_true, decide_eq_false (fun e => q1 (congrArg List.length e)), Bool.false_and]
  by_cases q2 : a.Waits.length = b.Waits.length
  case neg => simp only [f23_arrrrzarrrrz, f23_arrrrzarrrrz_e, ne _ _ q1, nt _ _ q2, cond_true, cond_false, decide_eq_false (fun e => q2 (congrArg List.length e)), Bool.false_and, Bool.and_false]
  by_cases q3 : a.Stuck.length = b.Stuck.length
  case neg => simp only [f23_arrrrzarrrrz, f23_arrrrzarrrrz_e, ne _ _ q1, ne _ _ q2, nt _ _ q3, cond_true, cond_false, decide_eq_false (fun e => q3 (congrArg List.length e)), Bool.false_and, Bool.and_false]
  by_cases q4 : a.Left.length = b.Left.length
  case neg => simp only [f23_arrrrzarrrrz, f23_arrrrzarrrrz_e, ne _ _ q1, ne _ _ q2, ne _ _ q3, nt _ _ q4, cond_true, cond_false, decide_eq_false (fun e => q4 (congrArg List.length e)), Bool.and_false]
  have r1 := refG_loop a b (by omega) q1 k a.Go.length 0 k (by omega) (by omega)
  have r2 := refW_loop a b (by omega) q2 k a.Waits.length 0 k (by omega) (by omega)
  have r3 := refS_loop a b (by omega) q3 k a.Stuck.length 0 k (by omega) (by omega)
  have r4 := refL_loop a b (by omega) q4 k a.Left.length 0 k (by omega) (by omega)
  rw [e0, List.drop_zero, List.drop_zero] at r1 r2 r3 r4
  simp only [f23_arrrrzarrrrz, f23_arrrrzarrrrz_e, ne _ _ q1, ne _ _ q2, ne _ _ q3, ne _ _ q4, cond_false, f23_arrrrzarrrrz_j1]
  by_cases w1 : a.Go = b.Go
  case neg => rw [if_neg w1] at r1; simp only [r1, Option.bind_some, decide_eq_false w1, Bool.false_and]
  rw [if_pos w1] at r1
  by_cases w2 : a.Waits = b.Waits
  case neg => rw [if_neg w2] at r2; simp only [r1, Option.bind_some, f23_arrrrzarrrrz_j3, r2, decide_eq_false w2, Bool.false_and, Bool.and_false]
  rw [if_pos w2] at r2
  by_cases w3 : a.Stuck = b.Stuck
  case neg => rw [if_neg w3] at r3; simp only [r1, Option.bind_some, f23_arrrrzarrrrz_j3, r2, f23_arrrrzarrrrz_j5, r3, decide_eq_false w3, Bool.false_and, Bool.and_false]
  rw [if_pos w3] at r3
  by_cases w4 : a.Left = b.Left
  case neg => rw [if_neg w4] at r4; simp only [r1, Option.bind_some, f23_arrrrzarrrrz_j3, r2, f23_arrrrzarrrrz_j5, r3, f23_arrrrzarrrrz_j7, r4, decide_eq_false w4, Bool.and_false]
  rw [if_pos w4] at r4
  simp only [r1, Option.bind_some, f23_arrrrzarrrrz_j3, r2, f23_arrrrzarrrrz_j5, r3, f23_arrrrzarrrrz_j7, r4, f23_arrrrzarrrrz_j9, decide_eq_true w1, decide_eq_true w2, decide_eq_true w3, decide_eq_true w4, Bool.and_self]
def cutC (a : Ch) : Ch := { Go := a.Go.take 20, Waits := a.Waits.take 20, Stuck := a.Stuck.take 20, Left := a.Left.take 30 }
theorem takeMin {α : Type} (l : List α) (m : Nat) : List.take (Int.toNat (if (m : Int) < (l.length : Int) then (m : Int) else (l.length : Int))) l = l.take m ∧ Int.toNat (if (m : Int) < (l.length : Int) then (m : Int) else (l.length : Int)) ≤ l.length ∧ (0 : Int) ≤ (if (m : Int) < (l.length : Int) then (m : Int) else (l.length : Int)) := by
  refine ⟨?_, by split <;> omega, by split <;> omega⟩
  split
  · rw [Int.toNat_natCast]
  · rw [Int.toNat_natCast, List.take_of_length_le (Nat.le_refl _), List.take_of_length_le (by omega)]
theorem cut_at (k : Nat) (hk : 1 ≤ k) (a : Ch) : f21_arrrrz k a.Go a.Waits a.Stuck a.Left = some (.o0 (cutC a).Go (cutC a).Waits (cutC a).Stuck (cutC a).Left) := by
  obtain ⟨k, rfl⟩ : ∃ m, k = m + 1 := ⟨k - 1, by omega⟩
  have t1 := takeMin a.Go 20
  have t2 := takeMin a.Waits 20
  have t3 := takeMin a.Stuck 20
  have t4 := takeMin a.Left 30
  have c20 : ((20 : Nat) : Int) = 20 := rfl
  have c30 : ((30 : Nat) : Int) = 30 := rfl
  rw [c20] at t1 t2 t3
  rw [c30] at t4
  simp only [f21_arrrrz, f21_arrrrz_e, ifE_pos t1.2.2, ifE_pos t1.2.1, ifE_pos t2.2.2, ifE_pos t2.2.1, ifE_pos t3.2.2, ifE_pos t3.2.1, ifE_pos t4.2.2, ifE_pos t4.2.1, t1.1, t2.1, t3.1, t4.1, cutC]
theorem pureQueueSame : StmtQueueSame := by
  intro a b ha hb
  obtain ⟨K, hK⟩ : ∃ K, K = 1000 := ⟨_, rfl⟩
  refine ⟨K + 1, ?_⟩
  have l1 : (cutC a).Go.length ≤ 30 := by simp only [cutC, List.length_take]; omega
  have l2 : (cutC a).Waits.length ≤ 30 := by simp only [cutC, List.length_take]; omega
  have l3 : (cutC a).Stuck.length ≤ 30 := by simp only [cutC, List.length_take]; omega
  have l4 : (cutC a).Left.length ≤ 30 := by simp only [cutC, List.length_take]; omega
  have s1 := same_at K (cutC a) (cutC b) l1 l2 l3 l4 (by omega)
  have s2 := rsame_at K (cutC a) (cutC b) l1 l2 l3 l4 (by omega)
  have s3 := same_at K (cutC a) (cutC a) l1 l2 l3 l4 (by omega)
  rw [decide_eq_true rfl, decide_eq_true rfl, decide_eq_true rfl, decide_eq_true rfl] at s3
  simp only [f7_arrrrzarrrrz, f7_arrrrzarrrrz_e, f8_, ifE_pos (show 200 ≤ K by omega), Option.bind_some, Bool.not_true, cond_false, f7_arrrrzarrrrz_j1, cut_at K (by omega) a, cut_at K (by omega) b, s1, s2, s3, beq_self_eq_true, cond_true, Bool.and_self]
end Go.Proofs.YtiompmmbjpjjeaaDoorV
