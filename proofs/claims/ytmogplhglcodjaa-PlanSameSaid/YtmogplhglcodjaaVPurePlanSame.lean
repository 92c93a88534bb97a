/- The plain law of PlanSame. -/
import Derived.Test.YtmogplhglcodjaaVStmtPlanSame
import Derived.Test.YtmogplhglcodjaaVPPlanS
namespace Go.Proofs.YtmogplhglcodjaaV
open Go Go.RowKit
set_option linter.unusedVariables false
set_option linter.unusedSimpArgs false
theorem psame_loop (p q : Int) (l1 l2 : List T44) (a b s e r d : Int) (hb : l1.length < 4611686018427387904) (k : Nat) : ∀ (z i n : Nat) (f : Bool), (f = true → l1.length = l2.length) → i + z = l1.length → z < n →
    f6_airzairzai6z_l2 k n f l1.length i p l1 q l2 a b s e r d = some (.o1 (f && decide (l1.drop i = l2.drop i)) l1.length l1.length false p l1 q l2 a b s e r d) := by
  intro z
  induction z with
  | zero =>
    intro i n f hf hid hn
    obtain ⟨n, rfl⟩ : ∃ m, n = m + 1 := ⟨n - 1, by omega⟩
    have e1 : l1.drop i = [] := List.drop_eq_nil_of_le (by omega)
    have e3 : i = l1.length := by omega
    have e2 : (f && decide (l1.drop i = l2.drop i)) = f := by
      cases f with
      | false => rfl
      | true => rw [e1, List.drop_eq_nil_of_le (by have := hf rfl; omega)]; rfl
    rw [e2]
    subst e3
    simp [f6_airzairzai6z_l2, f6_airzairzai6z_l2_b]
  | succ z ih =>
    intro i n f hf hid hn
    obtain ⟨n, rfl⟩ : ∃ m, n = m + 1 := ⟨n - 1, by omega⟩
    have h1 : i < l1.length := by omega
    have hlt : ((i : Int) < (l1.length : Int)) := by omega
    have hw : IntKind.i64.wrap ((i : Int) + 1) = ((i + 1 : Nat) : Int) := by rw [wrap_i64 (by omega) (by omega)]; rfl
    cases f with
    | false =>
      have ih' := ih (i + 1) n false (by simp) (by omega) (by omega)
      simp only [f6_airzairzai6z_l2, f6_airzairzai6z_l2_b, f6_airzairzai6z_l2_j1, f6_airzairzai6z_l2_j2, decide_eq_true hlt, cond_true, cond_false, Option.bind_some, hw, ih', Bool.false_and]
    | true =>
      have hl := hf rfl
      have h2 : i < l2.length := by omega
      have g1 : l1[i]? = some l1[i] := List.getElem?_eq_getElem h1
      have g2 : l2[i]? = some l2[i] := List.getElem?_eq_getElem h2
      have ih' := ih (i + 1) n (decide (l1[i] = l2[i])) (fun _ => hl) (by omega) (by omega)
      rw [List.drop_eq_getElem_cons h1, List.drop_eq_getElem_cons h2]
      simp only [f6_airzairzai6z_l2, f6_airzairzai6z_l2_b, f6_airzairzai6z_l2_j1, f6_airzairzai6z_l2_j2, decide_eq_true hlt, cond_true, ifE_pos (show (0 : Int) ≤ i by omega), Int.toNat_natCast, g1, g2, Option.bind_some, T44.ext', hw, ih', List.cons.injEq, Bool.true_and, Bool.decide_and]
theorem purePlanSame : StmtPlanSame := by
  intro p q c hp hq hc
  have hl : p.Contacts.length * 48 ≤ 140737488351232 := hp.2.2.1
  have hb : p.Contacts.length < 4611686018427387904 := by omega
  refine ⟨p.Contacts.length + 100, ?_⟩
  have s1 := same_at p.Nodes p.Contacts q.Nodes q.Contacts hb (p.Contacts.length + 99) (by omega)
  have s2 := same_at p.Nodes p.Contacts p.Nodes p.Contacts hb (p.Contacts.length + 99) (by omega)
  have s3 := copied_at p.Nodes p.Contacts hl (p.Contacts.length + 99) (by omega)
  have s4 := vol_at c.From c.To c.Start c.End c.Rate c.Delay (p.Contacts.length + 99) (by omega)
  have l1 := psame_loop p.Nodes q.Nodes p.Contacts q.Contacts c.From c.To c.Start c.End c.Rate c.Delay hb (p.Contacts.length + 99) p.Contacts.length 0 (p.Contacts.length + 99) (decide (p.Nodes = q.Nodes) && decide (p.Contacts.length = q.Contacts.length)) (by simp) (by omega) (by omega)
  have l2 := psame_loop p.Nodes q.Nodes p.Contacts q.Contacts c.From c.To c.Start c.End c.Rate c.Delay hb (p.Contacts.length + 99) p.Contacts.length 0 (p.Contacts.length + 99) false (by simp) (by omega) (by omega)
  simp only [List.drop_zero, Int.natCast_zero] at l1 l2
  have j3 : ∀ f x y, f = (decide (p.Nodes = q.Nodes) && decide (p.Contacts = q.Contacts)) → f6_airzairzai6z_j3 (p.Contacts.length + 99) f x y false p.Nodes p.Contacts q.Nodes q.Contacts c.From c.To c.Start c.End c.Rate c.Delay = some (.o0 true) := by
    intro f x y hf
    have j5 : ∀ w b, w = volC c.Start c.End c.Rate → f6_airzairzai6z_j5 (p.Contacts.length + 99) f w b p.Nodes p.Contacts q.Nodes q.Contacts c.From c.To c.Start c.End c.Rate c.Delay = some (.o0 true) := by
      intro w b hw
      simp only [f6_airzairzai6z_j5, s1, s2, s3, s4, Option.bind_some, hf, hw, beq_self_eq_true, cond_true, decide_true, Bool.and_self]
    have j4 : ∀ w, w = volC c.Start c.End c.Rate → f6_airzairzai6z_j4 (p.Contacts.length + 99) f w p.Nodes p.Contacts q.Nodes q.Contacts c.From c.To c.Start c.End c.Rate c.Delay = some (.o0 true) := by
      intro w hw
      simp only [f6_airzairzai6z_j4, s1, s2, s3, s4, Option.bind_some, hf, hw, beq_self_eq_true, cond_true, decide_true, Bool.and_self]
    unfold f6_airzairzai6z_j3
    unfold volC at j4 j5
    by_cases h1 : c.Rate ≥ 0
    · by_cases h2 : c.Start ≥ 0
      · by_cases h3 : c.End > c.Start
        · by_cases h4 : c.End ≤ 1048576
          · by_cases h5 : c.Rate ≤ 1048576
            · have hm : c.Rate * (c.End - c.Start) ≤ 1048576 * 1048576 := Int.mul_le_mul (by omega) (by omega) (by omega) (by omega)
              have h0 : 0 ≤ c.Rate * (c.End - c.Start) := Int.mul_nonneg (by omega) (by omega)
              have w1 : IntKind.i64.wrap (c.End - c.Start) = c.End - c.Start := wrap_i64 (by omega) (by omega)
              have w2 : IntKind.i64.wrap (c.Rate * (c.End - c.Start)) = c.Rate * (c.End - c.Start) := wrap_i64 (by omega) (by omega)
              simp only [decide_eq_true h1, decide_eq_true h2, decide_eq_true h3, decide_eq_true h4, decide_eq_true h5, cond_true]
              exact j4 _ (by rw [w1, w2, if_neg (by omega)])
            · simp only [decide_eq_true h1, decide_eq_true h2, decide_eq_true h3, decide_eq_true h4, decide_eq_false h5, cond_true, cond_false]
              exact j5 _ _ (by rw [if_pos (by omega)])
          · simp only [decide_eq_true h1, decide_eq_true h2, decide_eq_true h3, decide_eq_false h4, cond_true, cond_false]
            exact j5 _ _ (by rw [if_pos (by omega)])
        · simp only [decide_eq_true h1, decide_eq_true h2, decide_eq_false h3, cond_true, cond_false]
          exact j5 _ _ (by rw [if_pos (by omega)])
      · simp only [decide_eq_true h1, decide_eq_false h2, cond_true, cond_false]
        exact j5 _ _ (by rw [if_pos (by omega)])
    · simp only [decide_eq_false h1, cond_false]
      exact j5 _ _ (by rw [if_pos (by omega)])
  simp only [f6_airzairzai6z, f6_airzairzai6z_e, f7_, ifE_pos (show 60 ≤ p.Contacts.length + 99 by omega), Option.bind_some, Bool.not_true, cond_false]
  unfold f6_airzairzai6z_j1
  by_cases hn : p.Nodes = q.Nodes
  · rw [show (p.Nodes == q.Nodes) = true by simp [hn], cond_true]
    have e : (((p.Contacts.length : Int)) == (q.Contacts.length : Int)) = (decide (p.Nodes = q.Nodes) && decide (p.Contacts.length = q.Contacts.length)) := by
      rw [decide_eq_true hn, Bool.true_and, Bool.eq_iff_iff, decide_eq_true_iff, beq_iff_eq]; omega
    rw [e, l1, Option.bind_some]
    refine j3 _ _ _ ?_
    rw [decide_eq_true hn, Bool.true_and, Bool.true_and]
    by_cases he : p.Contacts = q.Contacts
    · rw [he]; simp
    · rw [decide_eq_false he, Bool.and_false]
  · rw [show (p.Nodes == q.Nodes) = false by simp [hn], cond_false, l2, Option.bind_some]
    refine j3 _ _ _ ?_
    simp [hn]
end Go.Proofs.YtmogplhglcodjaaV
