/- The plain law of QueueSpends. -/
import Derived.Test.YtiompmmbjpjjeaaDoorVStmtQueueSpends
import Derived.Test.YtiompmmbjpjjeaaDoorVPWhole
namespace Go.Proofs.YtiompmmbjpjjeaaDoorV
open Go Go.RowKit
set_option linter.unusedVariables false
set_option linter.unusedSimpArgs false
theorem law_l (k : Nat) (a b x : Int) (h0 : 0 ≤ a) (n m t u n' m' t' u' : Int) (L L' : List Ct) (l l' : List Int) (K K' : List T44) (hl : l.length ≤ 30) (ha : l[a.toNat]? = some x) : ∀ (d i q : Nat) (h : List Int), i + d = l.length → d < q → h.length = l.length →
    (∀ j, i ≤ j → h[j]? = (l.set a.toNat (IntKind.i64.wrap (x - b)))[j]?) →
    ∃ h', f5_airzraiiz_l13 k q l.length i [a, b] n m t u L l' K n' m' t' u' L' l K' h = some (.o2 l.length l.length false [a, b] n m t u L l' K n' m' t' u' L' l K' h') := by
  intro d
  induction d with
  | zero =>
    intro i q h hi hq hh hr
    obtain ⟨q, rfl⟩ : ∃ z, q = z + 1 := ⟨q - 1, by omega⟩
    have e3 : i = l.length := by omega
    subst e3
    exact ⟨h, by simp [f5_airzraiiz_l13, f5_airzraiiz_l13_b]⟩
  | succ d ih =>
    intro i q h hi hq hh hr
    obtain ⟨q, rfl⟩ : ∃ z, q = z + 1 := ⟨q - 1, by omega⟩
    have h1 : i < l.length := by omega
    have g1 : l[i]? = some l[i] := List.getElem?_eq_getElem h1
    have hlt : ((i : Int) < (l.length : Int)) := by omega
    have hlt' : ((i : Int) < (h.length : Int)) := by omega
    have hw := nat_next h1 (by omega)
    have hi0 : (0 : Int) ≤ i := by omega
    obtain ⟨h', e⟩ := ih (i + 1) q (h.set i (-9)) (by omega) (by omega) (by rw [List.length_set]; exact hh) (fun j hj => by rw [List.getElem?_set_ne (by omega)]; exact hr j (by omega))
    refine ⟨h', ?_⟩
    have hri := hr i (Nat.le_refl i)
    by_cases hc : (i : Int) = a
    · have hc' : a.toNat = i := by omega
      have hxi : l[i] = x := by rw [hc', g1] at ha; exact Option.some.inj ha
      rw [hc', List.getElem?_set_self h1] at hri
      subst hc
      simp only [f5_airzraiiz_l13, f5_airzraiiz_l13_b, f5_airzraiiz_l13_j1, f5_airzraiiz_l13_j2, f5_airzraiiz_l13_j3, f5_airzraiiz_l13_j4, decide_eq_true hlt, cond_true, ifE_pos hi0, ifE_pos hlt, ifE_pos hlt', Int.toNat_natCast, g1, hxi, Option.bind_some, List.head?_cons, List.drop_succ_cons, List.drop_zero, beq_self_eq_true, hri, bne_self_eq_false, cond_false, hw, e]
    · have hc' : a.toNat ≠ i := by omega
      rw [List.getElem?_set_ne hc', g1] at hri
      have hb : ((i : Int) == a) = false := by simpa using hc
      simp only [f5_airzraiiz_l13, f5_airzraiiz_l13_b, f5_airzraiiz_l13_j1, f5_airzraiiz_l13_j5, f5_airzraiiz_l13_j3, f5_airzraiiz_l13_j4, decide_eq_true hlt, cond_true, ifE_pos hi0, ifE_pos hlt, ifE_pos hlt', Int.toNat_natCast, g1, Option.bind_some, List.head?_cons, hb, hri, bne_self_eq_false, cond_false, hw, e]
theorem pureQueueSpends : StmtQueueSpends := by
  intro x0 x1 x2 g0 g1 g2
  refine ⟨301, ?_⟩
  obtain ⟨L, l, hL, hl, hm, e9⟩ := short_at 300 (by omega) 0 x0.Nodes 0 0 x0.Contacts x1
  have e9' := short_same 300 (by omega) 0 x0.Nodes 0 0 L l hL hl
  have e8 : f8_ 300 = some (.o0 true) := by simp only [f8_]; exact ifE_pos (by omega)
  have e17 := whole_at 300 0 x0.Nodes 0 0 L l (by omega) hL hl
  have eR := right_at 300 x0.Nodes L (by omega)
  have eL := left_at 300 x0.Nodes L l (by omega) (by omega)
  generalize x2.E0 = a at *
  generalize x2.E1 = b at *
  cases hP : chkB x0.Nodes L with
  | false =>
    have sp := sp_plan 300 (by omega) x0.Nodes L l hl a b hP
    rw [hP] at eR
    simp only [f5_airzraiiz, f5_airzraiiz_e, f5_airzraiiz_j1, f5_airzraiiz_j2, f5_airzraiiz_j3, e8, e9, e9', e17, eR, sp, Option.bind_some, cond_true, cond_false, Bool.not_true, Bool.not_false, List.head?_cons, List.drop_succ_cons, List.drop_zero]
    rfl
  | true =>
    rw [hP] at eR
    cases hB : leftB L l with
    | false =>
      have sp := sp_left 300 (by omega) x0.Nodes L l hl a b hP hB
      rw [hB] at eL
      simp only [f5_airzraiiz, f5_airzraiiz_e, f5_airzraiiz_j1, f5_airzraiiz_j2, f5_airzraiiz_j3, e8, e9, e9', e17, eR, eL, sp, Option.bind_some, cond_true, cond_false, Bool.not_true, Bool.not_false, List.head?_cons, List.drop_succ_cons, List.drop_zero]
      rfl
    | true =>
      rw [hB] at eL
      by_cases h0 : a < 0
      · have sp := sp_ix 300 (by omega) x0.Nodes L l hl a b hP hB (by omega)
        simp only [f5_airzraiiz, f5_airzraiiz_e, f5_airzraiiz_j1, f5_airzraiiz_j2, f5_airzraiiz_j3, e8, e9, e9', e17, eR, eL, sp, Option.bind_some, cond_true, cond_false, Bool.not_true, Bool.not_false, List.head?_cons, List.drop_succ_cons, List.drop_zero, decide_eq_true h0]
        rfl
      · by_cases h1 : a ≥ (l.length : Int)
        · have sp := sp_ix 300 (by omega) x0.Nodes L l hl a b hP hB (by omega)
          simp only [f5_airzraiiz, f5_airzraiiz_e, f5_airzraiiz_j1, f5_airzraiiz_j2, f5_airzraiiz_j3, e8, e9, e9', e17, eR, eL, sp, Option.bind_some, cond_true, cond_false, Bool.not_true, Bool.not_false, List.head?_cons, List.drop_succ_cons, List.drop_zero, decide_eq_false h0, decide_eq_true h1]
          rfl
        · have h0' : 0 ≤ a := by omega
          have h1' : a < (l.length : Int) := by omega
          by_cases hb : b < 0
          · have sp := sp_neg 300 (by omega) x0.Nodes L l hl a b hP hB h0' h1' hb
            simp only [f5_airzraiiz, f5_airzraiiz_e, f5_airzraiiz_j1, f5_airzraiiz_j2, f5_airzraiiz_j3, e8, e9, e9', e17, eR, eL, sp, Option.bind_some, cond_true, cond_false, Bool.not_true, Bool.not_false, List.head?_cons, List.drop_succ_cons, List.drop_zero, decide_eq_false h0, decide_eq_false h1, decide_eq_true hb]
            rfl
          · have hx : l[a.toNat]? = some (l[a.toNat]'(by omega)) := List.getElem?_eq_getElem _
            generalize l[a.toNat]'(by omega) = x at hx
            by_cases hf : b > x
            · have sp := sp_full 300 (by omega) x0.Nodes L l hl a b hP hB h0' h1' hb x hx hf
              simp only [f5_airzraiiz, f5_airzraiiz_e, f5_airzraiiz_j1, f5_airzraiiz_j2, f5_airzraiiz_j3, e8, e9, e9', e17, eR, eL, sp, Option.bind_some, cond_true, cond_false, Bool.not_true, Bool.not_false, List.head?_cons, List.drop_succ_cons, List.drop_zero, decide_eq_false h0, decide_eq_false h1, decide_eq_false hb, ifE_pos h0', ifE_pos h1', hx, decide_eq_true hf]
              rfl
            · have sp := sp_ok 300 (by omega) x0.Nodes L l hl a b hP hB h0' h1' hb x hx hf
              obtain ⟨h', e13⟩ := law_l 300 a b x h0' 0 x0.Nodes 0 0 0 x0.Nodes 0 0 L L l l [] [] hl hx l.length 0 300 (l.set a.toNat (IntKind.i64.wrap (x - b))) (by omega) (by omega) (List.length_set ..) (fun _ _ => rfl)
              rw [Int.natCast_zero] at e13
              simp only [f5_airzraiiz, f5_airzraiiz_e, f5_airzraiiz_j1, f5_airzraiiz_j9, f5_airzraiiz_j15, f5_airzraiiz_j11, f5_airzraiiz_j12, f5_airzraiiz_j14, e8, e9, e9', e17, eR, eL, sp, Option.bind_some, cond_true, cond_false, Bool.not_true, Bool.not_false, List.head?_cons, List.drop_succ_cons, List.drop_zero, decide_eq_false h0, decide_eq_false h1, decide_eq_false hb, ifE_pos h0', ifE_pos h1', hx, decide_eq_false hf, bne_self_eq_false, List.length_set, e13]
end Go.Proofs.YtiompmmbjpjjeaaDoorV
