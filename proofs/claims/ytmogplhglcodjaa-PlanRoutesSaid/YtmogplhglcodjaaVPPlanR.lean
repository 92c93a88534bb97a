/- What the document's search answers, by rounds; and its way. -/
import Derived.Test.YtmogplhglcodjaaVPPlanW
namespace Go.Proofs.YtmogplhglcodjaaV
open Go
set_option linter.unusedVariables false
set_option linter.unusedSimpArgs false
theorem LF.congr {α : Type} {l : List α} {f g : Int → α} (h : LF l f) (e : ∀ n, 0 ≤ n → n < 7 → f n = g n) : LF l g := ⟨h.1, fun n h0 h1 => by rw [h.2 n h0 h1, e n h0 h1]⟩
section
variable {k : Nat} {N need : Int} {L : List Ct} {left : List Int}
theorem bf_l1 (s now : Int) (h1 : List Int) : ∀ (d n m : Nat) (h2 : List Int) (f : Int → Int), n + d = 7 → d < m → LF h2 f →
    ∃ h2', f24_airzriii_l1 k m left s now need n N L h1 h2 = some (.o1 left s now need 7 false N L h1 h2') ∧ LF h2' (fun x => if (n : Int) ≤ x then never else f x) := by
  intro d
  induction d with
  | zero =>
    intro n m h2 f hn hm h
    obtain ⟨m, rfl⟩ : ∃ j, m = j + 1 := ⟨m - 1, by omega⟩
    obtain rfl : n = 7 := by omega
    simp only [f24_airzriii_l1, f24_airzriii_l1_b, decide_eq_false (show ¬ (((7 : Nat) : Int) < 7) by omega), cond_false, Option.bind_some]
    exact ⟨_, rfl, h.congr fun x x0 x1 => by rw [if_neg (show ¬ ((7 : Nat) : Int) ≤ x by omega)]⟩
  | succ d ih =>
    intro n m h2 f hn hm h
    obtain ⟨m, rfl⟩ : ∃ j, m = j + 1 := ⟨m - 1, by omega⟩
    have hl := h.1
    have hlt : (n : Int) < 7 := by omega
    have hw : IntKind.i64.wrap ((n : Int) + 1) = ((n + 1 : Nat) : Int) := by rw [wrap_i64 (by omega) (by omega)]; rfl
    obtain ⟨h2', r1, r2⟩ := ih (n + 1) m _ _ (by omega) (by omega) (h.set (n := (n : Int)) (by omega) hlt never)
    simp only [Int.toNat_natCast, never] at r1
    simp only [f24_airzriii_l1, f24_airzriii_l1_b, f24_airzriii_l1_j1, f24_airzriii_l1_j2, decide_eq_true hlt, cond_true, ifE_pos (show (0 : Int) ≤ (n : Int) by omega), ifE_pos hlt, Int.toNat_natCast, ifE_pos (show n + 1 ≤ h2.length by omega), Option.bind_some, hw, r1]
    refine ⟨_, rfl, r2.congr fun x x0 x1 => ?_⟩
    by_cases e : x = n
    · subst e; rw [if_neg (by omega), if_pos (by omega), fupd_same]
    · rw [fupd_ne _ _ e]
      by_cases h3 : (n : Int) ≤ x
      · rw [if_pos h3, if_pos (by omega)]
      · rw [if_neg h3, if_neg (by omega)]
theorem bfL_pos {N need : Int} : ∀ (L : List Ct) (left : List Int) (a : Int → Int), (∀ c ∈ L, CtOk N c) → (∀ n, 0 ≤ a n) → ∀ n, 0 ≤ bfL need L left a n
  | [], left, a, _, h => by simpa [bfL] using h
  | c :: L, [], a, _, h => by simpa [bfL] using h
  | c :: L, l :: left, a, hL, h => by
    simp only [bfL]
    refine bfL_pos L left _ (fun c hc => hL c (by simp [hc])) fun n => ?_
    split
    · by_cases e : n = c.To
      · subst e; rw [fupd_same]
        have := arrT_gt (hL c (by simp)) (a c.From)
        have := h c.From
        omega
      · rw [fupd_ne _ _ e]; exact h n
    · exact h n
theorem bf_l2 (hL : ∀ c ∈ L, CtOk N c) (hN : N ≤ 6) (hlen : left.length = L.length) (hl : L.length ≤ 24) (x13 : Int) (h1 : List Int) : ∀ (d i m : Nat) (h2 : List Int) (f : Int → Int), i + d = L.length → d < m → LF h2 f → (∀ n, 0 ≤ f n) →
    ∃ h2', f24_airzriii_l3_l2 k m left need x13 i N L h1 h2 = some (.o1 left need x13 L.length false N L h1 h2') ∧ LF h2' (bfL need (L.drop i) (left.drop i) f) := by
  intro d
  induction d with
  | zero =>
    intro i m h2 f hi hm h hp
    obtain ⟨m, rfl⟩ : ∃ j, m = j + 1 := ⟨m - 1, by omega⟩
    obtain rfl : i = L.length := by omega
    simp only [f24_airzriii_l3_l2, f24_airzriii_l3_l2_b, decide_eq_false (show ¬ ((L.length : Int) < (L.length : Int)) by omega), cond_false, Option.bind_some, List.drop_length, bfL]
    exact ⟨_, rfl, h⟩
  | succ d ih =>
    intro i m h2 f hi hm h hp
    obtain ⟨m, rfl⟩ : ∃ j, m = j + 1 := ⟨m - 1, by omega⟩
    have hlh := h.1
    have b1 : i < L.length := by omega
    have b2 : i < left.length := by omega
    have g1 : L[i]? = some L[i] := List.getElem?_eq_getElem b1
    have g2 : left[i]? = some left[i] := List.getElem?_eq_getElem b2
    have hlt : ((i : Int) < (L.length : Int)) := by omega
    have hw := nat_next b1 (by omega)
    have hok := hL _ (List.getElem_mem b1)
    rw [List.drop_eq_getElem_cons b1, List.drop_eq_getElem_cons b2, bfL]
    generalize L[i] = c at *
    generalize left[i] = l at *
    have f1 := hok.f1; have f2 := hok.f2; have t1 := hok.t1; have t2 := hok.t2
    obtain ⟨hA, a1, a2⟩ := ih (i + 1) m h2 f (by omega) (by omega) h hp
    have hpos : 0 ≤ arrT c (f c.From) := by have := arrT_gt hok (f c.From); have := hp c.From; omega
    obtain ⟨hB, c1, c2⟩ := ih (i + 1) m _ _ (by omega) (by omega) (h.set (n := c.To) (by omega) (by omega) (arrT c (f c.From))) (fun n => by
      by_cases e : n = c.To
      · subst e; rw [fupd_same]; exact hpos
      · rw [fupd_ne _ _ e]; exact hp n)
    simp only [f24_airzriii_l3_l2, f24_airzriii_l3_l2_b, f24_airzriii_l3_l2_j1, decide_eq_true hlt, cond_true, ifE_pos (show (0 : Int) ≤ (i : Int) by omega), Int.toNat_natCast, g1, g2, Option.bind_some, ifE_pos (show (0 : Int) ≤ c.From by omega), ifE_pos (show c.From < 7 by omega), h.head (show (0 : Int) ≤ c.From by omega) (show c.From < 7 by omega)]
    by_cases q1 : f c.From < c.End
    · simp only [decide_eq_false (show ¬ f c.From ≥ c.End by omega), cond_false]
      by_cases q2 : need ≤ l
      · have hwr := arr_wrap hok (hp c.From) (by have := hok.e2; omega)
        simp only [decide_eq_false (show ¬ need > l by omega), cond_false, f24_airzriii_l3_l2_j3, ifE_pos (show (0 : Int) ≤ c.From by omega), ifE_pos (show c.From < 7 by omega), h.head (show (0 : Int) ≤ c.From by omega) (show c.From < 7 by omega), Option.bind_some, f24_airzriii_l3_l2_j4, f24_airzriii_l3_l2_j7, f24_airzriii_l3_l2_j5, f24_airzriii_l3_l2_j6, ifE_pos (show (0 : Int) ≤ c.To by omega), ifE_pos (show c.To < 7 by omega), h.head (show (0 : Int) ≤ c.To by omega) (show c.To < 7 by omega), ifE_pos (show c.To.toNat + 1 ≤ h2.length by omega), hw]
        by_cases q3 : f c.From < c.Start
        · rw [if_pos (show c.Start > f c.From from q3)] at hwr
          simp only [decide_eq_true q3, cond_true, hwr]
          by_cases q4 : arrT c (f c.From) < f c.To
          · simp only [decide_eq_true q4, cond_true, Option.bind_some, if_pos (show f c.From < c.End ∧ need ≤ l ∧ arrT c (f c.From) < f c.To from ⟨q1, q2, q4⟩)]
            exact ⟨_, c1, c2⟩
          · simp only [decide_eq_false q4, cond_false, Option.bind_some, if_neg (show ¬ (f c.From < c.End ∧ need ≤ l ∧ arrT c (f c.From) < f c.To) from fun h => q4 h.2.2)]
            exact ⟨_, a1, a2⟩
        · rw [if_neg (show ¬ c.Start > f c.From from q3)] at hwr
          simp only [decide_eq_false q3, cond_false, hwr]
          by_cases q4 : arrT c (f c.From) < f c.To
          · simp only [decide_eq_true q4, cond_true, Option.bind_some, if_pos (show f c.From < c.End ∧ need ≤ l ∧ arrT c (f c.From) < f c.To from ⟨q1, q2, q4⟩)]
            exact ⟨_, c1, c2⟩
          · simp only [decide_eq_false q4, cond_false, Option.bind_some, if_neg (show ¬ (f c.From < c.End ∧ need ≤ l ∧ arrT c (f c.From) < f c.To) from fun h => q4 h.2.2)]
            exact ⟨_, a1, a2⟩
      · simp only [decide_eq_true (show need > l by omega), cond_true, f24_airzriii_l3_l2_j2, Option.bind_some, hw, if_neg (show ¬ (f c.From < c.End ∧ need ≤ l ∧ arrT c (f c.From) < f c.To) from fun h => q2 h.2.1)]
        exact ⟨_, a1, a2⟩
    · simp only [decide_eq_true (show f c.From ≥ c.End by omega), cond_true, f24_airzriii_l3_l2_j2, Option.bind_some, hw, if_neg (show ¬ (f c.From < c.End ∧ need ≤ l ∧ arrT c (f c.From) < f c.To) from fun h => q1 h.1)]
      exact ⟨_, a1, a2⟩
theorem bf_l3 (hk : 26 ≤ k) (hL : ∀ c ∈ L, CtOk N c) (hN : N ≤ 6) (hlen : left.length = L.length) (hl : L.length ≤ 24) (h1 : List Int) : ∀ (d i m : Nat) (h2 : List Int) (f : Int → Int), i + d = 8 → d < m → LF h2 f → (∀ n, 0 ≤ f n) →
    ∃ h2', f24_airzriii_l3 k m left need i N L h1 h2 = some (.o1 left need 8 false N L h1 h2') ∧ LF h2' (bfN need L left d f) := by
  intro d
  induction d with
  | zero =>
    intro i m h2 f hi hm h hp
    obtain ⟨m, rfl⟩ : ∃ j, m = j + 1 := ⟨m - 1, by omega⟩
    obtain rfl : i = 8 := by omega
    simp only [f24_airzriii_l3, f24_airzriii_l3_b, decide_eq_false (show ¬ (((8 : Nat) : Int) < 8) by omega), cond_false, Option.bind_some, bfN]
    exact ⟨_, rfl, h⟩
  | succ d ih =>
    intro i m h2 f hi hm h hp
    obtain ⟨m, rfl⟩ : ∃ j, m = j + 1 := ⟨m - 1, by omega⟩
    have hlt : (i : Int) < 8 := by omega
    have hw : IntKind.i64.wrap ((i : Int) + 1) = ((i + 1 : Nat) : Int) := by rw [wrap_i64 (by omega) (by omega)]; rfl
    obtain ⟨h3, r1, r2⟩ := bf_l2 (k := k) (need := need) hL hN hlen hl (i : Int) h1 L.length 0 k h2 f (by omega) (by omega) h hp
    rw [List.drop_zero, List.drop_zero] at r2
    have e0 : ((0 : Nat) : Int) = 0 := rfl
    rw [e0] at r1
    obtain ⟨h4, s1, s2⟩ := ih (i + 1) m h3 _ (by omega) (by omega) r2 (bfL_pos L left f hL hp)
    simp only [f24_airzriii_l3, f24_airzriii_l3_b, f24_airzriii_l3_j1, f24_airzriii_l3_j3, decide_eq_true hlt, cond_true, r1, Option.bind_some, hw, s1, bfN]
    exact ⟨_, rfl, s2⟩
theorem bf_at (hk : 40 ≤ k) (hL : ∀ c ∈ L, CtOk N c) (hN : N ≤ 6) (hlen : left.length = L.length) (hl : L.length ≤ 24) {s now : Int} (s1 : 1 ≤ s) (s2 : s ≤ N) (n0 : 0 ≤ now) : ∃ v, f24_airzriii k N L left s now need = some (.o0 v) ∧ LF v (bfN need L left 8 (bf0 s now)) := by
  obtain ⟨k, rfl⟩ : ∃ m, k = m + 1 := ⟨k - 1, by omega⟩
  obtain ⟨h2, r1, r2⟩ := bf_l1 (k := k) (N := N) (need := need) (L := L) (left := left) s now (List.replicate 7 (0 : Int)) 7 0 k _ _ (by omega) (by omega) (LF.rep (0 : Int))
  have e0 : ((0 : Nat) : Int) = 0 := rfl
  rw [e0] at r1
  have hlh := r2.1
  have hset := (r2.congr (g := fun _ => never) fun x x0 x1 => by rw [if_pos (by omega)]).set (n := s) (by omega) (by omega) now
  obtain ⟨h3, t1, t2⟩ := bf_l3 (k := k) (need := need) (by omega) hL hN hlen hl (List.replicate 7 (0 : Int)) 8 0 k _ _ (by omega) (by omega) hset (fun n => by
    by_cases e : n = s
    · subst e; rw [fupd_same]; exact n0
    · rw [fupd_ne _ _ e]; unfold never; omega)
  rw [e0] at t1
  have hl3 := t2.1
  have ht : List.take 7 h3 = h3 := List.take_of_length_le (by omega)
  simp only [f24_airzriii, f24_airzriii_e, r1, Option.bind_some, f24_airzriii_j2, ifE_pos (show (0 : Int) ≤ s by omega), ifE_pos (show s < 7 by omega), ifE_pos (show s.toNat + 1 ≤ h2.length by omega), t1, f24_airzriii_j4, ht, ifE_pos (show 7 ≤ h3.length by omega), ifE_pos hl3, List.length_replicate, ifE_pos (show 7 ≤ 7 by omega), List.drop_replicate, Nat.sub_self, List.replicate_zero, List.append_nil]
  exact ⟨_, rfl, t2⟩
theorem rroute_l1 (hk : 40 ≤ k) (hL : ∀ c ∈ L, CtOk N c) (hN : N ≤ 6) (hlen : left.length = L.length) (hl : L.length ≤ 24) {s to now : Int} (t1 : 1 ≤ to) (t2 : to ≤ N) (n0 : 0 ≤ now) : ∀ (d i m : Nat) (q : Int × Int), i + d = L.length → d < m →
    f11_airzriiii_l1 k m left s to now need q.1 q.2 i N L = some (.o1 left s to now need (rteL need s now (ear need L left to) (L.drop i) (left.drop i) i q).1 (rteL need s now (ear need L left to) (L.drop i) (left.drop i) i q).2 L.length false N L) := by
  intro d
  induction d with
  | zero =>
    intro i m q hi hm
    obtain ⟨m, rfl⟩ : ∃ j, m = j + 1 := ⟨m - 1, by omega⟩
    obtain rfl : i = L.length := by omega
    simp only [f11_airzriiii_l1, f11_airzriiii_l1_b, decide_eq_false (show ¬ ((L.length : Int) < (L.length : Int)) by omega), cond_false, Option.bind_some, List.drop_length, rteL]
  | succ d ih =>
    intro i m q hi hm
    obtain ⟨m, rfl⟩ : ∃ j, m = j + 1 := ⟨m - 1, by omega⟩
    have b1 : i < L.length := by omega
    have b2 : i < left.length := by omega
    have g1 : L[i]? = some L[i] := List.getElem?_eq_getElem b1
    have g2 : left[i]? = some left[i] := List.getElem?_eq_getElem b2
    have hlt : ((i : Int) < (L.length : Int)) := by omega
    have hw := nat_next b1 (by omega)
    have hok := hL _ (List.getElem_mem b1)
    have hcast : ((i + 1 : Nat) : Int) = (i : Int) + 1 := rfl
    rw [List.drop_eq_getElem_cons b1, List.drop_eq_getElem_cons b2, rteL]
    generalize L[i] = c at *
    generalize left[i] = l at *
    have ih1 := ih (i + 1) m q (by omega) (by omega)
    have ih2 := ih (i + 1) m ((i : Int), ear need L left to c.To (arrT c now)) (by omega) (by omega)
    rw [hcast] at ih1 ih2 hw
    simp only at ih2
    have f1 := hok.f1; have f2 := hok.f2; have u1 := hok.t1; have u2 := hok.t2
    simp only [f11_airzriiii_l1, f11_airzriiii_l1_b, f11_airzriiii_l1_j1, f11_airzriiii_l1_j2, decide_eq_true hlt, cond_true, ifE_pos (show (0 : Int) ≤ (i : Int) by omega), Int.toNat_natCast, g1, g2, Option.bind_some, hw]
    by_cases c1 : c.From = s
    · simp only [show (c.From != s) = false by simpa using c1, cond_false]
      by_cases c3 : now < c.End
      · simp only [decide_eq_false (show ¬ now ≥ c.End by omega), cond_false]
        by_cases c2 : need ≤ l
        · have hwr := arr_wrap hok n0 (show now ≤ 1099511627776 by have := hok.e2; omega)
          have gt := arrT_gt hok now
          obtain ⟨v, v1, v2⟩ := bf_at (k := k) (need := need) (now := arrT c now) hk hL hN hlen hl u1 u2 (by omega)
          have hv := v2.2 to (by omega) (by omega)
          have hear : bfN need L left 8 (bf0 c.To (arrT c now)) to = ear need L left to c.To (arrT c now) := rfl
          rw [hear] at hv
          simp only [decide_eq_false (show ¬ need > l by omega), cond_false, f11_airzriiii_l1_j3, f11_airzriiii_l1_j4, f11_airzriiii_l1_j7, f11_airzriiii_l1_j5, f11_airzriiii_l1_j6, ifE_pos (show (0 : Int) ≤ to by omega), ifE_pos (show to < 7 by omega), hw]
          by_cases q3 : now < c.Start
          · rw [if_pos (show c.Start > now from q3)] at hwr
            simp only [decide_eq_true q3, cond_true, hwr, v1, Option.bind_some, hv]
            by_cases q4 : ear need L left to c.To (arrT c now) < q.2
            · simp only [decide_eq_true q4, cond_true, Option.bind_some, if_pos (show c.From = s ∧ now < c.End ∧ need ≤ l ∧ ear need L left to c.To (arrT c now) < q.2 from ⟨c1, c3, c2, q4⟩), ih2]
            · simp only [decide_eq_false q4, cond_false, Option.bind_some, if_neg (show ¬ (c.From = s ∧ now < c.End ∧ need ≤ l ∧ ear need L left to c.To (arrT c now) < q.2) from fun h => q4 h.2.2.2), ih1]
          · rw [if_neg (show ¬ c.Start > now from q3)] at hwr
            simp only [decide_eq_false q3, cond_false, hwr, v1, Option.bind_some, hv]
            by_cases q4 : ear need L left to c.To (arrT c now) < q.2
            · simp only [decide_eq_true q4, cond_true, Option.bind_some, if_pos (show c.From = s ∧ now < c.End ∧ need ≤ l ∧ ear need L left to c.To (arrT c now) < q.2 from ⟨c1, c3, c2, q4⟩), ih2]
            · simp only [decide_eq_false q4, cond_false, Option.bind_some, if_neg (show ¬ (c.From = s ∧ now < c.End ∧ need ≤ l ∧ ear need L left to c.To (arrT c now) < q.2) from fun h => q4 h.2.2.2), ih1]
        · simp only [decide_eq_true (show need > l by omega), cond_true, Option.bind_some, if_neg (show ¬ (c.From = s ∧ now < c.End ∧ need ≤ l ∧ ear need L left to c.To (arrT c now) < q.2) from fun h => c2 h.2.2.1), ih1]
      · simp only [decide_eq_true (show now ≥ c.End by omega), cond_true, Option.bind_some, if_neg (show ¬ (c.From = s ∧ now < c.End ∧ need ≤ l ∧ ear need L left to c.To (arrT c now) < q.2) from fun h => c3 h.2.1), ih1]
    · simp only [show (c.From != s) = true by simpa using c1, cond_true, Option.bind_some, if_neg (show ¬ (c.From = s ∧ now < c.End ∧ need ≤ l ∧ ear need L left to c.To (arrT c now) < q.2) from fun h => c1 h.1), ih1]
theorem rroute_at (hk : 42 ≤ k) (hL : ∀ c ∈ L, CtOk N c) (hN : N ≤ 6) (hlen : left.length = L.length) (hl : L.length ≤ 24) {s to now : Int} (t1 : 1 ≤ to) (t2 : to ≤ N) (n0 : 0 ≤ now) :
    f11_airzriiii k N L left s to now need = some (if (rte L left s to now need).1 < 0 then .o0 (-1) 0 else .o0 (rte L left s to now need).1 (rte L left s to now need).2) := by
  obtain ⟨k, rfl⟩ : ∃ m, k = m + 1 := ⟨k - 1, by omega⟩
  have h := rroute_l1 (k := k) (need := need) (by omega) hL hN hlen hl (s := s) t1 t2 n0 L.length 0 k (-1, never) (by omega) (by omega)
  rw [List.drop_zero, List.drop_zero] at h
  have e0 : ((0 : Nat) : Int) = 0 := rfl
  rw [e0] at h
  have hr : rteL need s now (ear need L left to) L left 0 (-1, never) = rte L left s to now need := rfl
  rw [hr] at h
  simp only [never] at h
  simp only [f11_airzriiii, f11_airzriiii_e, h, Option.bind_some, f11_airzriiii_j2, f11_airzriiii_j3]
  by_cases q : (rte L left s to now need).1 < 0
  · simp only [decide_eq_true q, cond_true, if_pos q]
  · simp only [decide_eq_false q, cond_false, if_neg q]
end
end Go.Proofs.YtmogplhglcodjaaV
