/- The plain law of PlanRoutes. -/
import Derived.Test.YtmogplhglcodjaaVStmtPlanRoutes
import Derived.Test.YtmogplhglcodjaaVPPlanR
namespace Go.Proofs.YtmogplhglcodjaaV
open Go Go.RowKit
set_option linter.unusedVariables false
set_option linter.unusedSimpArgs false
theorem copied_at (n : Int) (l : List T44) (hl : l.length * 48 ≤ 140737488351232) (k : Nat) (hk : 1 ≤ k) : f9_airz k n l = some (.o0 n l) := by
  obtain ⟨k, rfl⟩ : ∃ m, k = m + 1 := ⟨k - 1, by omega⟩
  simp only [f9_airz, f9_airz_e]
  rw [ifE_pos (show l.length * 48 ≤ roomy from hl)]
theorem proutes_loop (l : List Int) (r0 r1 r2 N : Int) (L : List T44) (a b c d : Int) (hb : l.length < 4611686018427387904) (k : Nat) : ∀ (z i n : Nat) (f : Bool), i + z = l.length → z < n →
    f3_airzrai4z_l3 k n l r0 r1 r2 f l l.length i N L a b c d = some (.o1 l r0 r1 r2 (f || (l.drop i).any fun x => decide (x < 0)) l l.length l.length false N L a b c d) := by
  intro z
  induction z with
  | zero =>
    intro i n f hid hn
    obtain ⟨n, rfl⟩ : ∃ m, n = m + 1 := ⟨n - 1, by omega⟩
    have e1 : l.drop i = [] := List.drop_eq_nil_of_le (by omega)
    have e3 : i = l.length := by omega
    rw [e1]
    subst e3
    simp [f3_airzrai4z_l3, f3_airzrai4z_l3_b]
  | succ z ih =>
    intro i n f hid hn
    obtain ⟨n, rfl⟩ : ∃ m, n = m + 1 := ⟨n - 1, by omega⟩
    have h1 : i < l.length := by omega
    have hlt : ((i : Int) < (l.length : Int)) := by omega
    have g1 : l[i]? = some l[i] := List.getElem?_eq_getElem h1
    have hw : IntKind.i64.wrap ((i : Int) + 1) = ((i + 1 : Nat) : Int) := by rw [wrap_i64 (by omega) (by omega)]; rfl
    have ih' := fun f => ih (i + 1) n f (by omega) (by omega)
    rw [List.drop_eq_getElem_cons h1, List.any_cons]
    cases f with
    | true => simp only [f3_airzrai4z_l3, f3_airzrai4z_l3_b, f3_airzrai4z_l3_j1, f3_airzrai4z_l3_j2, decide_eq_true hlt, cond_true, ifE_pos (show (0 : Int) ≤ i by omega), Int.toNat_natCast, g1, Option.bind_some, hw, ih', Bool.true_or]
    | false => simp only [f3_airzrai4z_l3, f3_airzrai4z_l3_b, f3_airzrai4z_l3_j1, f3_airzrai4z_l3_j2, decide_eq_true hlt, cond_true, cond_false, ifE_pos (show (0 : Int) ≤ i by omega), Int.toNat_natCast, g1, Option.bind_some, hw, ih', Bool.false_or]
theorem purePlanRoutes : StmtPlanRoutes := by
  intro p left a hp hleft ha
  have hl : p.Contacts.length * 48 ≤ 140737488351232 := hp.2.2.1
  have hl8 : left.length * 8 ≤ 140737488351232 := hleft.2.1
  have hb : left.length < 4611686018427387904 := by omega
  obtain ⟨K, hK⟩ : ∃ K, K = left.length + 200 := ⟨_, rfl⟩
  refine ⟨K + 1, ?_⟩
  have s1 := copied_at p.Nodes p.Contacts hl K (by omega)
  have s2 := right_at K p.Nodes p.Contacts (by omega)
  have s3 := route_at K p.Nodes p.Contacts left a.From a.To a.Now a.Need (by omega) (by omega) hb
  simp only [f3_airzrai4z, f3_airzrai4z_e, f7_, ifE_pos (show 60 ≤ K by omega), Option.bind_some, Bool.not_true, cond_false]
  unfold f3_airzrai4z_j1
  simp only [s1, s2, s3, Option.bind_some, ifE_pos (show left.length * 8 ≤ roomy from hl8)]
  cases hc : chkB p.Nodes p.Contacts with
  | false => rfl
  | true =>
    obtain ⟨hN1, hN, hL24, hL⟩ := chkB_ok hc
    have lp := fun (f : Bool) (r0 r1 r2 : Int) => proutes_loop left r0 r1 r2 p.Nodes p.Contacts a.From a.To a.Now a.Need hb K left.length 0 K f (by omega) (by omega)
    simp only [List.drop_zero, Int.natCast_zero] at lp
    have hgo : ∀ (f : Bool) (r0 r1 r2 : Int), f = true → f3_airzrai4z_j4 K left 0 0 2 (f || left.any fun x => decide (x < 0)) left left.length left.length false p.Nodes p.Contacts a.From a.To a.Now a.Need = some (.o0 true) := by
      intro f r0 r1 r2 hf
      rw [hf]; rfl
    have bad : askB p.Nodes p.Contacts left a.From a.To a.Now a.Need = false → ∀ f, (f || left.any fun x => decide (x < 0)) = true → 
        f3_airzrai4z_j4 K left 0 0 2 (f || left.any fun x => decide (x < 0)) left left.length left.length false p.Nodes p.Contacts a.From a.To a.Now a.Need = some (.o0 true) := by
      intro _ f hf
      rw [hf]; rfl
    simp only [cond_true, Bool.not_true, cond_false]
    by_cases c1 : left.length = p.Contacts.length
    case neg =>
      have e : askB p.Nodes p.Contacts left a.From a.To a.Now a.Need = false := by simp [askB, c1]
      rw [e]
      simp only [cond_false]
      unfold f3_airzrai4z_j2
      rw [show (((left.length : Int)) != (p.Contacts.length : Int)) = true by simp; omega, cond_true, lp, Option.bind_some]
      exact bad e _ rfl
    by_cases c2 : a.Need < 0
    case pos =>
      have e : askB p.Nodes p.Contacts left a.From a.To a.Now a.Need = false := by simp [askB, c2]
      rw [e]
      simp only [cond_false]
      unfold f3_airzrai4z_j2
      rw [show (((left.length : Int)) != (p.Contacts.length : Int)) = false by simp; omega, cond_false, decide_eq_true c2, cond_true, lp, Option.bind_some]
      exact bad e _ rfl
    by_cases c3 : a.From = a.To
    case pos =>
      have e : askB p.Nodes p.Contacts left a.From a.To a.Now a.Need = false := by simp [askB, c3]
      rw [e]
      simp only [cond_false]
      unfold f3_airzrai4z_j2
      rw [show (((left.length : Int)) != (p.Contacts.length : Int)) = false by simp; omega, cond_false, decide_eq_false c2, cond_false, show (a.From == a.To) = true by simpa using c3, cond_true, lp, Option.bind_some]
      exact bad e _ rfl
    by_cases c4 : a.From < 1
    case pos =>
      have e : askB p.Nodes p.Contacts left a.From a.To a.Now a.Need = false := by simp [askB, show ¬ 1 ≤ a.From by omega]
      rw [e]
      simp only [cond_false]
      unfold f3_airzrai4z_j2
      rw [show (((left.length : Int)) != (p.Contacts.length : Int)) = false by simp; omega, cond_false, decide_eq_false c2, cond_false, show (a.From == a.To) = false by simpa using c3, cond_false, decide_eq_true c4, cond_true, lp, Option.bind_some]
      exact bad e _ rfl
    by_cases c5 : a.From > p.Nodes
    case pos =>
      have e : askB p.Nodes p.Contacts left a.From a.To a.Now a.Need = false := by simp [askB, show ¬ a.From ≤ p.Nodes by omega]
      rw [e]
      simp only [cond_false]
      unfold f3_airzrai4z_j2
      rw [show (((left.length : Int)) != (p.Contacts.length : Int)) = false by simp; omega, cond_false, decide_eq_false c2, cond_false, show (a.From == a.To) = false by simpa using c3, cond_false, decide_eq_false c4, cond_false, decide_eq_true c5, cond_true, lp, Option.bind_some]
      exact bad e _ rfl
    by_cases c6 : a.To < 1
    case pos =>
      have e : askB p.Nodes p.Contacts left a.From a.To a.Now a.Need = false := by simp [askB, show ¬ 1 ≤ a.To by omega]
      rw [e]
      simp only [cond_false]
      unfold f3_airzrai4z_j2
      rw [show (((left.length : Int)) != (p.Contacts.length : Int)) = false by simp; omega, cond_false, decide_eq_false c2, cond_false, show (a.From == a.To) = false by simpa using c3, cond_false, decide_eq_false c4, cond_false, decide_eq_false c5, cond_false, decide_eq_true c6, cond_true, lp, Option.bind_some]
      exact bad e _ rfl
    by_cases c7 : a.To > p.Nodes
    case pos =>
      have e : askB p.Nodes p.Contacts left a.From a.To a.Now a.Need = false := by simp [askB, show ¬ a.To ≤ p.Nodes by omega]
      rw [e]
      simp only [cond_false]
      unfold f3_airzrai4z_j2
      rw [show (((left.length : Int)) != (p.Contacts.length : Int)) = false by simp; omega, cond_false, decide_eq_false c2, cond_false, show (a.From == a.To) = false by simpa using c3, cond_false, decide_eq_false c4, cond_false, decide_eq_false c5, cond_false, decide_eq_false c6, cond_false, decide_eq_true c7, cond_true, lp, Option.bind_some]
      exact bad e _ rfl
    by_cases c8 : a.Now < 0
    case pos =>
      have e : askB p.Nodes p.Contacts left a.From a.To a.Now a.Need = false := by simp [askB, show ¬ 0 ≤ a.Now by omega]
      rw [e]
      simp only [cond_false]
      unfold f3_airzrai4z_j2
      rw [show (((left.length : Int)) != (p.Contacts.length : Int)) = false by simp; omega, cond_false, decide_eq_false c2, cond_false, show (a.From == a.To) = false by simpa using c3, cond_false, decide_eq_false c4, cond_false, decide_eq_false c5, cond_false, decide_eq_false c6, cond_false, decide_eq_false c7, cond_false, decide_eq_true c8, cond_true, lp, Option.bind_some]
      exact bad e _ rfl
    have hj2 : ∀ r0 r1 r2 : Int, f3_airzrai4z_j2 K left r0 r1 r2 false p.Nodes p.Contacts a.From a.To a.Now a.Need = f3_airzrai4z_j4 K left r0 r1 r2 (decide (a.Now > 1048576) || left.any fun x => decide (x < 0)) left left.length left.length false p.Nodes p.Contacts a.From a.To a.Now a.Need := by
      intro r0 r1 r2
      unfold f3_airzrai4z_j2
      rw [show (((left.length : Int)) != (p.Contacts.length : Int)) = false by simp; omega, cond_false, decide_eq_false c2, cond_false, show (a.From == a.To) = false by simpa using c3, cond_false, decide_eq_false c4, cond_false, decide_eq_false c5, cond_false, decide_eq_false c6, cond_false, decide_eq_false c7, cond_false, decide_eq_false c8, cond_false, lp, Option.bind_some]
    have e : askB p.Nodes p.Contacts left a.From a.To a.Now a.Need = !(decide (a.Now > 1048576) || left.any fun x => decide (x < 0)) := by
      have g : decide (a.Now ≤ 1048576) = !decide (a.Now > 1048576) := by
        by_cases h : a.Now ≤ 1048576
        · rw [decide_eq_true h, decide_eq_false (by omega)]; rfl
        · rw [decide_eq_false h, decide_eq_true (by omega)]; rfl
      unfold askB
      rw [decide_eq_true c1, decide_eq_false c2, show (a.From == a.To) = false by simpa using c3, decide_eq_true (show 1 ≤ a.From by omega), decide_eq_true (show a.From ≤ p.Nodes by omega), decide_eq_true (show 1 ≤ a.To by omega), decide_eq_true (show a.To ≤ p.Nodes by omega), decide_eq_true (show 0 ≤ a.Now by omega), g]
      cases decide (a.Now > 1048576) <;> cases (left.any fun x => decide (x < 0)) <;> rfl
    rw [e]
    cases hw : (decide (a.Now > 1048576) || left.any fun x => decide (x < 0)) with
    | true =>
      simp only [Bool.not_true, cond_false, hj2, hw]
      rfl
    | false =>
      have s4 := rroute_at (k := K) (N := p.Nodes) (L := p.Contacts) (left := left) (need := a.Need) (s := a.From) (to := a.To) (now := a.Now) (by omega) (fun c hc => (hL c hc).1) (by omega) c1 hL24 (by omega) (by omega) (by omega)
      by_cases hr : (rte p.Contacts left a.From a.To a.Now a.Need).1 < 0
      · rw [if_pos hr] at s4
        simp only [Bool.not_false, cond_true, if_pos hr, hj2, hw]
        simp only [f3_airzrai4z_j4, cond_false, f3_airzrai4z_j5, s4, Option.bind_some]
        rfl
      · rw [if_neg hr] at s4
        simp only [Bool.not_false, cond_true, if_neg hr, hj2, hw]
        simp only [f3_airzrai4z_j4, cond_false, f3_airzrai4z_j5, s4, Option.bind_some, decide_eq_false hr, f3_airzrai4z_j6, beq_self_eq_true, cond_true]
end Go.Proofs.YtmogplhglcodjaaV
