/- The plain law of PlanEarlier. -/
import Derived.Test.YtmogplhglcodjaaVStmtPlanEarlier
import Derived.Test.YtmogplhglcodjaaVPPlanV
import Derived.Test.YtmogplhglcodjaaVPPlanE
namespace Go.Proofs.YtmogplhglcodjaaV
open Go Go.RowKit
set_option linter.unusedVariables false
set_option linter.unusedSimpArgs false
theorem pearly_l (k : Nat) (x2 : List Int) (x9 N : Int) (L : List Ct) (a b c d : Int) (len : Nat) (hlen : len ≤ 24) : ∀ (z i n : Nat) (h2 : List Int), i + z = len → z < n → h2.length = len → (∀ x ∈ h2.drop i, 0 ≤ x ∧ x ≤ 4294967296) → (∀ x ∈ h2, 0 ≤ x) →
    ∃ h3, f4_airzai4zr_l3 k n x2 x9 len i N L a b c d h2 = some (.o1 x2 x9 len len false N L a b c d h3) ∧ h3.length = len ∧ (∀ x ∈ h3, 0 ≤ x) ∧ (∀ (j : Nat) (a : Int), h2[j]? = some a → ∃ b, h3[j]? = some b ∧ a ≤ b) := by
  intro z
  induction z with
  | zero =>
    intro i n h2 hid hn hl hb hp
    obtain ⟨n, rfl⟩ : ∃ m, n = m + 1 := ⟨n - 1, by omega⟩
    have e3 : i = len := by omega
    subst e3
    exact ⟨h2, by simp [f4_airzai4zr_l3, f4_airzai4zr_l3_b], hl, hp, fun j a h => ⟨a, h, Int.le_refl _⟩⟩
  | succ z ih =>
    intro i n h2 hid hn hl hb hp
    obtain ⟨n, rfl⟩ : ∃ m, n = m + 1 := ⟨n - 1, by omega⟩
    have h1 : i < len := by omega
    have hlt : ((i : Int) < (len : Int)) := by omega
    have hi : i < h2.length := by omega
    have g1 : h2[i]? = some h2[i] := List.getElem?_eq_getElem hi
    have hd : h2.drop i = h2[i] :: h2.drop (i + 1) := List.drop_eq_getElem_cons hi
    rw [hd] at hb
    by_cases hm : i < x2.length
    · have g2 : x2[i]? = some x2[i] := List.getElem?_eq_getElem hm
      have hv := hb h2[i] (List.mem_cons_self ..)
      obtain ⟨w, hw⟩ : ∃ w, w = Int.tmod (if (0 : Int) > x2[i] then 0 else x2[i]) (1000 : Int) := ⟨_, rfl⟩
      have hw0 : 0 ≤ w ∧ w < 1000 := by
        rw [hw, Int.tmod_eq_emod_of_nonneg (by split <;> omega)]
        omega
      have hwr : IntKind.i64.wrap (h2[i] + w) = h2[i] + w := wrap_i64 (by omega) (by omega)
      obtain ⟨h3, q1, q2, q3, q4⟩ := ih (i + 1) n (h2.set i (h2[i] + w)) (by omega) (by omega) (by simpa using hl) (by
          intro x hx
          rw [List.drop_set_of_lt (by omega)] at hx
          exact hb x (List.mem_cons_of_mem _ hx)) (by
          intro x hx
          rcases List.mem_or_eq_of_mem_set hx with h | h
          · exact hp x h
          · omega)
      refine ⟨h3, ?_, q2, q3, fun j a hj => ?_⟩
      · simp only [f4_airzai4zr_l3, f4_airzai4zr_l3_b, f4_airzai4zr_l3_j1, f4_airzai4zr_l3_j2, decide_eq_true hlt, decide_eq_true (show (i : Int) < (x2.length : Int) by omega), cond_true, ifE_pos (show (0 : Int) ≤ i by omega), ifE_pos (show (i : Int) < (h2.length : Int) by omega), Int.toNat_natCast, g1, g2, Option.bind_some, ← hw, hwr, nat_next h1 (by omega), q1]
      · by_cases e : j = i
        · subst e
          rw [g1] at hj
          obtain ⟨b', hb', hle⟩ := q4 j (h2[j] + w) (by rw [List.getElem?_set_self hi])
          refine ⟨b', hb', ?_⟩
          simp only [Option.some.injEq] at hj
          omega
        · exact q4 j a (by rw [List.getElem?_set_ne (fun h => e h.symm)]; exact hj)
    · obtain ⟨h3, q1, q2, q3, q4⟩ := ih (i + 1) n h2 (by omega) (by omega) hl (fun x hx => hb x (List.mem_cons_of_mem _ hx)) hp
      refine ⟨h3, ?_, q2, q3, q4⟩
      simp only [f4_airzai4zr_l3, f4_airzai4zr_l3_b, f4_airzai4zr_l3_j1, f4_airzai4zr_l3_j3, decide_eq_true hlt, decide_eq_false (show ¬ (i : Int) < (x2.length : Int) by omega), cond_true, cond_false, Option.bind_some, nat_next h1 (by omega), q1]
theorem anyneg {l : List Int} (h : ∀ x ∈ l, 0 ≤ x) : (l.any fun x => decide (x < 0)) = false := by
  rw [List.any_eq_false]
  intro x hx
  have := h x hx
  simp only [decide_eq_true_eq]; omega
theorem purePlanEarlier : StmtPlanEarlier := by
  intro p a more hp ha hm
  obtain ⟨K, hK⟩ : ∃ K, K = 200 := ⟨_, rfl⟩
  refine ⟨K + 1, ?_⟩
  simp only [f4_airzai4zr, f4_airzai4zr_e, f7_, ifE_pos (show 60 ≤ K by omega), Option.bind_some, Bool.not_true, cond_false]
  unfold f4_airzai4zr_j1
  have s4 := vols_at K (by omega) p.Nodes p.Contacts
  cases hc : chkB p.Nodes p.Contacts with
  | false =>
    rw [hc, cond_false] at s4
    have s3 := route_at K p.Nodes p.Contacts [] a.From a.To a.Now a.Need (by omega) (by simp; omega) (by simp)
    rw [hc, cond_false] at s3
    simp only [s4, s3, Option.bind_some]
    rfl
  | true =>
    rw [hc, cond_true] at s4
    obtain ⟨hN1, hN, hl24, hL⟩ := chkB_ok hc
    have hv : (vols p.Contacts).length = p.Contacts.length := by simp [vols]
    have s3 := route_at K p.Nodes p.Contacts (vols p.Contacts) a.From a.To a.Now a.Need (by omega) (by omega) (by omega)
    rw [hc, cond_true] at s3
    simp only [s4, s3, Option.bind_some]
    cases hA : askB p.Nodes p.Contacts (vols p.Contacts) a.From a.To a.Now a.Need with
    | false => rfl
    | true =>
      by_cases hr : (rte p.Contacts (vols p.Contacts) a.From a.To a.Now a.Need).1 < 0
      · simp only [cond_true, if_pos hr]; rfl
      · simp only [cond_true, if_neg hr, bne_self_eq_false, cond_false]
        have hvb : ∀ x ∈ vols p.Contacts, 0 ≤ x ∧ x ≤ 4294967296 := by
          intro x hx
          obtain ⟨c, hc1, hc2⟩ := List.mem_map.1 hx
          have := ct_vol (hL c hc1).1 (hL c hc1).2.1 (hL c hc1).2.2
          rw [← hc2]; exact this.2
        obtain ⟨h3, q1, q2, q3, q4⟩ := pearly_l K more (rte p.Contacts (vols p.Contacts) a.From a.To a.Now a.Need).2 p.Nodes p.Contacts a.From a.To a.Now a.Need p.Contacts.length hl24 p.Contacts.length 0 K (vols p.Contacts) (by omega) (by omega) hv (by simpa using hvb) (fun x hx => (hvb x hx).1)
        have hle : LeL (vols p.Contacts) h3 := LeL.of _ _ (by omega) q4
        have e0 : ((0 : Nat) : Int) = 0 := rfl
        rw [e0] at q1
        simp only [askB, Bool.and_eq_true, decide_eq_true_eq, Bool.not_eq_true', decide_eq_false_iff_not] at hA
        obtain ⟨b1, b2, b3, b4, b5, b6, b7, b8, b9, b10⟩ := hA
        have wn : IntKind.i64.wrap (Int.tdiv a.Need 2) = a.Need / 2 := by
          have := wf_i64 ha.2.2.2
          rw [Int.tdiv_eq_ediv_of_nonneg (by omega)]
          exact wrap_i64 (by omega) (by omega)
        have wt : IntKind.i64.wrap (Int.tdiv a.Now 2) = a.Now / 2 := by
          rw [Int.tdiv_eq_ediv_of_nonneg (by omega)]
          exact wrap_i64 (by omega) (by omega)
        have hask : ∀ (t w : Int), 0 ≤ t → t ≤ 1048576 → 0 ≤ w → askB p.Nodes p.Contacts h3 a.From a.To t w = true := by
          intro t w t0 t1 w0
          simp only [askB, Bool.and_eq_true, decide_eq_true_eq, Bool.not_eq_true', decide_eq_false_iff_not]
          exact ⟨q2, anyneg q3, by omega, b4, b5, b6, b7, b8, t0, t1⟩
        have m1 := rte_mono (L := p.Contacts) (left := vols p.Contacts) (left' := h3) (s := a.From) (to := a.To) (now := a.Now) (now' := a.Now) (need := a.Need) (need' := a.Need / 2) (by omega) (Int.le_refl _) hle hr
        have m2 := rte_mono (L := p.Contacts) (left := vols p.Contacts) (left' := h3) (s := a.From) (to := a.To) (now := a.Now) (now' := a.Now / 2) (need := a.Need) (need' := a.Need) (Int.le_refl _) (by omega) hle hr
        have r1 := route_at K p.Nodes p.Contacts h3 a.From a.To a.Now (a.Need / 2) (by omega) (by omega) (by omega)
        have r2 := route_at K p.Nodes p.Contacts h3 a.From a.To (a.Now / 2) a.Need (by omega) (by omega) (by omega)
        rw [hc, cond_true, hask _ _ (by omega) (by omega) (by omega), cond_true, if_neg m1.1] at r1
        rw [hc, cond_true, hask _ _ (by omega) (by omega) (by omega), cond_true, if_neg m2.1] at r2
        simp only [f4_airzai4zr_j2, hv, q1, Option.bind_some, f4_airzai4zr_j4, wn, wt, r1, r2, beq_self_eq_true, cond_true, decide_eq_true m1.2, decide_eq_true m2.2]
end Go.Proofs.YtmogplhglcodjaaV
