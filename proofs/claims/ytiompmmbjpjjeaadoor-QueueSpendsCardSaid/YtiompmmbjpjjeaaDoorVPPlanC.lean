/- What the plan's smaller functions answer: Check and the document's Right; Volume; left numbers below nought. -/
import Derived.Test.YtiompmmbjpjjeaaDoorVPPlanM
import Derived.Test.YtiompmmbjpjjeaaDoorVP5
namespace Go.Proofs.YtiompmmbjpjjeaaDoorV
open Go
set_option linter.unusedVariables false
set_option linter.unusedSimpArgs false
def okC (N : Int) (c : Ct) : Bool := decide (1 ≤ c.From) && (decide (c.From ≤ N) && (decide (1 ≤ c.To) && (decide (c.To ≤ N) && (!(c.From == c.To) && (decide (0 ≤ c.Start) && (decide (c.Start < c.End) && (decide (c.End ≤ 1048576) && (decide (1 ≤ c.Rate) && (decide (c.Rate ≤ 4096) && (decide (0 ≤ c.Delay) && decide (c.Delay ≤ 4096)))))))))))
def ovl (d c : Ct) : Bool := d.From == c.From && (d.To == c.To && (decide (d.Start < c.End) && decide (c.Start < d.End)))
def chkL (N : Int) : List Ct → List Ct → Bool
  | _, [] => true
  | pre, c :: r => okC N c && (!(pre.any fun d => ovl d c) && chkL N (pre ++ [c]) r)
def chkB (N : Int) (L : List Ct) : Bool := decide (2 ≤ N) && (decide (N ≤ 6) && (decide (L.length ≤ 24) && chkL N [] L))
theorem chkL_ok {N : Int} : ∀ (r pre : List Ct), chkL N pre r = true → ∀ c ∈ r, okC N c = true
  | [], pre, h, c, hc => by cases hc
  | d :: r, pre, h, c, hc => by
    simp only [chkL, Bool.and_eq_true] at h
    rcases List.mem_cons.1 hc with rfl | hc
    · exact h.1
    · exact chkL_ok r _ h.2.2 c hc
theorem okC_ct {N : Int} {c : Ct} (h : okC N c = true) : CtOk N c ∧ 1 ≤ c.Rate ∧ c.Rate ≤ 4096 := by
  simp only [okC, Bool.and_eq_true, decide_eq_true_eq] at h
  obtain ⟨h1, h2, h3, h4, h5, h6, h7, h8, h9, h10, h11, h12⟩ := h
  exact ⟨⟨h1, h2, h3, h4, h6, h7, h8, h11, h12⟩, h9, h10⟩
theorem chkB_ok {N : Int} {L : List Ct} (h : chkB N L = true) : 2 ≤ N ∧ N ≤ 6 ∧ L.length ≤ 24 ∧ ∀ c ∈ L, CtOk N c ∧ 1 ≤ c.Rate ∧ c.Rate ≤ 4096 := by
  simp only [chkB, Bool.and_eq_true, decide_eq_true_eq] at h
  exact ⟨h.1, h.2.1, h.2.2.1, fun c hc => okC_ct (chkL_ok _ _ h.2.2.2 c hc)⟩
theorem within_at (k : Nat) (hk : 1 ≤ k) (x a b : Int) : f36_iii k x a b = some (.o0 (decide (a ≤ x) && decide (x ≤ b))) := by
  obtain ⟨k, rfl⟩ : ∃ m, k = m + 1 := ⟨k - 1, by omega⟩
  by_cases h : a ≤ x
  · simp only [f36_iii, f36_iii_e, decide_eq_true (show x ≥ a from h), decide_eq_true h, cond_true, Bool.true_and]
  · simp only [f36_iii, f36_iii_e, decide_eq_false (show ¬ x ≥ a from h), decide_eq_false h, cond_false, Bool.false_and]
theorem nat_next {i n : Nat} (h : i < n) (hn : n < 4611686018427387904) : IntKind.i64.wrap ((i : Int) + 1) = ((i + 1 : Nat) : Int) := by rw [wrap_i64 (by omega) (by omega)]; rfl
section
variable (k : Nat) (N : Int) (L : List Ct)
theorem chk_l3 (x18 : List Ct) (x19 x20 : Int) (pre : List Ct) (hp : pre.length ≤ 24) (c : Ct) : ∀ (d j n : Nat), j + d = pre.length → d < n →
    f33_airz_l2_l3 k n x18 x19 x20 pre pre.length j N L c.From c.To c.Start c.End c.Rate c.Delay = cond ((pre.drop j).any fun d => ovl d c) (some (.o0 230)) (some (.o2 x18 x19 x20 pre pre.length pre.length false N L c.From c.To c.Start c.End c.Rate c.Delay)) := by
  intro d
  induction d with
  | zero =>
    intro j n hj hn
    obtain ⟨n, rfl⟩ : ∃ m, n = m + 1 := ⟨n - 1, by omega⟩
    have e3 : j = pre.length := by omega
    subst e3
    simp [f33_airz_l2_l3, f33_airz_l2_l3_b]
  | succ d ih =>
    intro j n hj hn
    obtain ⟨n, rfl⟩ : ∃ m, n = m + 1 := ⟨n - 1, by omega⟩
    have h1 : j < pre.length := by omega
    have g1 : pre[j]? = some pre[j] := List.getElem?_eq_getElem h1
    have hlt : ((j : Int) < (pre.length : Int)) := by omega
    have hw := nat_next h1 (by omega)
    have ih' := ih (j + 1) n (by omega) (by omega)
    rw [List.drop_eq_getElem_cons h1, List.any_cons]
    simp only [f33_airz_l2_l3, f33_airz_l2_l3_b, f33_airz_l2_l3_j1, f33_airz_l2_l3_j2, decide_eq_true hlt, cond_true, ifE_pos (show (0 : Int) ≤ j by omega), Int.toNat_natCast, g1, Option.bind_some, hw, ovl]
    cases (pre[j].From == c.From) <;> cases (pre[j].To == c.To) <;> cases (decide (pre[j].Start < c.End)) <;> cases (decide (c.Start < pre[j].End)) <;> simp only [cond_true, cond_false, Option.bind_some, Bool.and_true, Bool.and_false, Bool.true_and, Bool.false_and, Bool.true_or, Bool.false_or, ih', ovl]
theorem chk_l2 (hk : 26 ≤ k) (hL : L.length ≤ 24) : ∀ (d i n : Nat), i + d = L.length → d < n →
    f33_airz_l2 k n L L.length i N L = cond (chkL N (L.take i) (L.drop i)) (some (.o2 L L.length L.length false N L)) (some (.o0 230)) := by
  intro d
  induction d with
  | zero =>
    intro i n hi hn
    obtain ⟨n, rfl⟩ : ∃ m, n = m + 1 := ⟨n - 1, by omega⟩
    have e3 : i = L.length := by omega
    subst e3
    simp [f33_airz_l2, f33_airz_l2_b, chkL]
  | succ d ih =>
    intro i n hi hn
    obtain ⟨n, rfl⟩ : ∃ m, n = m + 1 := ⟨n - 1, by omega⟩
    have h1 : i < L.length := by omega
    have g1 : L[i]? = some L[i] := List.getElem?_eq_getElem h1
    have hlt : ((i : Int) < (L.length : Int)) := by omega
    have hw := nat_next h1 (by omega)
    have ih' := ih (i + 1) n (by omega) (by omega)
    have ht : (L.take i).length = i := by rw [List.length_take]; omega
    have hl3 := chk_l3 k N L L L.length i (L.take i) (by omega) L[i] (L.take i).length 0 k (by omega) (by omega)
    have e0 : ((0 : Nat) : Int) = 0 := rfl
    rw [e0, List.drop_zero] at hl3
    rw [List.drop_eq_getElem_cons h1, chkL]
    have happ : L.take i ++ [L[i]] = L.take (i + 1) := by rw [List.take_append_getElem]
    rw [happ]
    generalize hc : L[i] = c at *
    simp only [f33_airz_l2, f33_airz_l2_b, f33_airz_l2_j1, decide_eq_true hlt, cond_true, ifE_pos (show (0 : Int) ≤ i by omega), Int.toNat_natCast, g1, Option.bind_some, within_at k (by omega), okC]
    have split : ∀ (b : Bool) (X Y Z : Option (R33_airz_l2)), (b = true → X = Z) → (b = false → Y = Z) → cond b X Y = Z := fun b X Y Z h1 h2 => by cases b; exact h2 rfl; exact h1 rfl
    by_cases a1 : 1 ≤ c.From
    case neg => simp [a1]
    by_cases a2 : c.From ≤ N
    case neg => simp [a1, a2]
    by_cases a3 : 1 ≤ c.To
    case neg => simp [a1, a2, a3]
    by_cases a4 : c.To ≤ N
    case neg => simp [a1, a2, a3, a4]
    by_cases a5 : c.From = c.To
    case pos => simp [a1, a2, a3, a4, a5]
    by_cases a6 : 0 ≤ c.Start
    case neg => simp [a1, a2, a3, a4, a5, a6, show c.Start < 0 by omega]
    by_cases a7 : c.Start < c.End
    case neg => simp [a1, a2, a3, a4, a5, a6, a7, show c.Start ≥ c.End by omega]
    by_cases a8 : c.End ≤ 1048576
    case neg => simp [a1, a2, a3, a4, a5, a6, a7, a8, show c.End > 1048576 by omega]
    by_cases a9 : 1 ≤ c.Rate
    case neg => simp [a1, a2, a3, a4, a5, a6, a7, a8, a9]
    by_cases a10 : c.Rate ≤ 4096
    case neg => simp [a1, a2, a3, a4, a5, a6, a7, a8, a9, a10]
    by_cases a11 : 0 ≤ c.Delay
    case neg => simp [a1, a2, a3, a4, a5, a6, a7, a8, a9, a10, a11]
    by_cases a12 : c.Delay ≤ 4096
    case neg => simp [a1, a2, a3, a4, a5, a6, a7, a8, a9, a10, a11, a12]
    have b5 : (c.From == c.To) = false := by simpa using a5
    simp only [decide_eq_true a1, decide_eq_true a2, decide_eq_true a3, decide_eq_true a4, b5, decide_eq_true a6, decide_eq_true a7, decide_eq_true a8, decide_eq_true a9, decide_eq_true a10, decide_eq_true a11, decide_eq_true a12, Bool.and_true, Bool.true_and, Bool.not_true, Bool.not_false, cond_false, decide_eq_false (show ¬ c.Start < 0 by omega), decide_eq_false (show ¬ c.Start ≥ c.End by omega), decide_eq_false (show ¬ c.End > 1048576 by omega), f33_airz_l2_j2, ifE_pos (show (0 : Int) ≤ (i : Int) by omega), Int.toNat_natCast, ifE_pos (show i ≤ L.length by omega), hl3]
    cases ((L.take i).any fun d => ovl d c)
    · simp only [cond_false, Option.bind_some, f33_airz_l2_j4, hw, Bool.not_false, Bool.true_and, ih']
    · simp only [cond_true, Option.bind_some, Bool.not_true, Bool.false_and, cond_false]
theorem check_at (hk : 27 ≤ k) : f33_airz k N L = some (.o0 (cond (chkB N L) 0 230)) := by
  obtain ⟨k, rfl⟩ : ∃ m, k = m + 1 := ⟨k - 1, by omega⟩
  simp only [f33_airz, f33_airz_e, within_at k (by omega), Option.bind_some, chkB]
  by_cases a1 : 2 ≤ N
  case neg => simp [a1]
  by_cases a2 : N ≤ 6
  case neg => simp [a1, a2]
  by_cases a3 : L.length ≤ 24
  case neg => simp [a1, a2, a3, show ((L.length : Int) > 24) by omega]
  have hl := chk_l2 k N L (by omega) a3 L.length 0 k (by omega) (by omega)
  have e0 : ((0 : Nat) : Int) = 0 := rfl
  rw [e0, List.take_zero, List.drop_zero] at hl
  simp only [decide_eq_true a1, decide_eq_true a2, decide_eq_true a3, Bool.and_true, Bool.true_and, Bool.not_true, cond_false, decide_eq_false (show ¬ ((L.length : Int) > 24) by omega), f33_airz_j1, hl]
  cases chkL N [] L <;> simp only [cond_true, cond_false, Option.bind_some, f33_airz_j3]
theorem right_l3 (i : Nat) (hi : i < L.length) (hp : L.length ≤ 24) (c : Ct) (hc : L[i]? = some c) : ∀ (d j n : Nat), j + d = i → d < n →
    f18_airz_l2_l3 k n i j N L c.From c.To c.Start c.End c.Rate c.Delay = cond (((L.take i).drop j).any fun d => ovl d c) (some (.o1 false)) (some (.o2 i i false N L c.From c.To c.Start c.End c.Rate c.Delay)) := by
  intro d
  induction d with
  | zero =>
    intro j n hj hn
    obtain ⟨n, rfl⟩ : ∃ m, n = m + 1 := ⟨n - 1, by omega⟩
    have e3 : j = i := by omega
    subst e3
    have e4 : (L.take j).drop j = [] := List.drop_eq_nil_of_le (by rw [List.length_take]; omega)
    simp [f18_airz_l2_l3, f18_airz_l2_l3_b, e4]
  | succ d ih =>
    intro j n hj hn
    obtain ⟨n, rfl⟩ : ∃ m, n = m + 1 := ⟨n - 1, by omega⟩
    have h1 : j < L.length := by omega
    have h2 : j < (L.take i).length := by rw [List.length_take]; omega
    have g1 : L[j]? = some L[j] := List.getElem?_eq_getElem h1
    have hlt : ((j : Int) < (i : Int)) := by omega
    have hw := nat_next h1 (by omega)
    have ih' := ih (j + 1) n (by omega) (by omega)
    rw [List.drop_eq_getElem_cons h2, List.any_cons, List.getElem_take]
    simp only [f18_airz_l2_l3, f18_airz_l2_l3_b, f18_airz_l2_l3_j1, f18_airz_l2_l3_j2, decide_eq_true hlt, cond_true, ifE_pos (show (0 : Int) ≤ j by omega), Int.toNat_natCast, g1, Option.bind_some, hw, ovl]
    have q1 : (decide (L[j].End ≤ c.Start)) = !(decide (c.Start < L[j].End)) := by by_cases h : c.Start < L[j].End <;> simp [h] <;> omega
    have q2 : (decide (c.End ≤ L[j].Start)) = !(decide (L[j].Start < c.End)) := by by_cases h : L[j].Start < c.End <;> simp [h] <;> omega
    rw [q1, q2]
    cases (L[j].From == c.From) <;> cases (L[j].To == c.To) <;> cases (decide (L[j].Start < c.End)) <;> cases (decide (c.Start < L[j].End)) <;> simp only [cond_true, cond_false, Option.bind_some, Bool.and_true, Bool.and_false, Bool.true_and, Bool.false_and, Bool.true_or, Bool.false_or, Bool.not_true, Bool.not_false, ih', ovl]
theorem right_l2 (hk : 26 ≤ k) (hL : L.length ≤ 24) : ∀ (d i n : Nat), i + d = L.length → d < n →
    f18_airz_l2 k n i N L = cond (chkL N (L.take i) (L.drop i)) (some (.o2 L.length false N L)) (some (.o0 false)) := by
  intro d
  induction d with
  | zero =>
    intro i n hi hn
    obtain ⟨n, rfl⟩ : ∃ m, n = m + 1 := ⟨n - 1, by omega⟩
    have e3 : i = L.length := by omega
    subst e3
    simp [f18_airz_l2, f18_airz_l2_b, chkL]
  | succ d ih =>
    intro i n hi hn
    obtain ⟨n, rfl⟩ : ∃ m, n = m + 1 := ⟨n - 1, by omega⟩
    have h1 : i < L.length := by omega
    have g1 : L[i]? = some L[i] := List.getElem?_eq_getElem h1
    have hlt : ((i : Int) < (L.length : Int)) := by omega
    have hw := nat_next h1 (by omega)
    have ih' := ih (i + 1) n (by omega) (by omega)
    have hl3 := right_l3 k N L i h1 hL L[i] g1 i 0 k (by omega) (by omega)
    have e0 : ((0 : Nat) : Int) = 0 := rfl
    rw [e0, List.drop_zero] at hl3
    rw [List.drop_eq_getElem_cons h1, chkL]
    have happ : L.take i ++ [L[i]] = L.take (i + 1) := by rw [List.take_append_getElem]
    rw [happ]
    generalize hc : L[i] = c at *
    simp only [f18_airz_l2, f18_airz_l2_b, f18_airz_l2_j1, decide_eq_true hlt, cond_true, ifE_pos (show (0 : Int) ≤ i by omega), Int.toNat_natCast, g1, Option.bind_some, okC]
    by_cases a1 : 1 ≤ c.From
    case neg => simp [a1, show c.From < 1 by omega]
    by_cases a2 : c.From ≤ N
    case neg => simp [a1, a2, show ¬ c.From < 1 by omega, show c.From > N by omega]
    by_cases a3 : 1 ≤ c.To
    case neg => simp [a1, a2, a3, show ¬ c.From < 1 by omega, show ¬ c.From > N by omega, show c.To < 1 by omega]
    by_cases a4 : c.To ≤ N
    case neg => simp [a1, a2, a3, a4, show ¬ c.From < 1 by omega, show ¬ c.From > N by omega, show ¬ c.To < 1 by omega, show c.To > N by omega]
    by_cases a5 : c.From = c.To
    case pos => simp [a1, a2, a3, a4, a5, show ¬ c.From < 1 by omega, show ¬ c.From > N by omega, show ¬ c.To < 1 by omega, show ¬ c.To > N by omega]
    have b5 : (c.From == c.To) = false := by simpa using a5
    have n1 : ¬ c.From < 1 := by omega
    have n2 : ¬ c.From > N := by omega
    have n3 : ¬ c.To < 1 := by omega
    have n4 : ¬ c.To > N := by omega
    simp only [decide_eq_true a1, decide_eq_true a2, decide_eq_true a3, decide_eq_true a4, b5, decide_eq_false n1, decide_eq_false n2, decide_eq_false n3, decide_eq_false n4, cond_false, Bool.true_and, Bool.not_false]
    by_cases a6 : 0 ≤ c.Start
    case neg => simp [a6, show c.Start < 0 by omega]
    by_cases a7 : c.Start < c.End
    case neg => simp [a6, a7, show ¬ c.Start < 0 by omega, show c.End ≤ c.Start by omega]
    by_cases a8 : c.End ≤ 1048576
    case neg => simp [a6, a7, a8, show ¬ c.Start < 0 by omega, show ¬ c.End ≤ c.Start by omega, show c.End > 1048576 by omega]
    by_cases a9 : 1 ≤ c.Rate
    case neg => simp [a6, a7, a8, a9, show ¬ c.Start < 0 by omega, show ¬ c.End ≤ c.Start by omega, show ¬ c.End > 1048576 by omega, show c.Rate < 1 by omega]
    by_cases a10 : c.Rate ≤ 4096
    case neg => simp [a6, a7, a8, a9, a10, show ¬ c.Start < 0 by omega, show ¬ c.End ≤ c.Start by omega, show ¬ c.End > 1048576 by omega, show ¬ c.Rate < 1 by omega, show c.Rate > 4096 by omega]
    by_cases a11 : 0 ≤ c.Delay
    case neg => simp [a6, a7, a8, a9, a10, a11, show ¬ c.Start < 0 by omega, show ¬ c.End ≤ c.Start by omega, show ¬ c.End > 1048576 by omega, show ¬ c.Rate < 1 by omega, show ¬ c.Rate > 4096 by omega, show c.Delay < 0 by omega]
    by_cases a12 : c.Delay ≤ 4096
    case neg => simp [a6, a7, a8, a9, a10, a11, a12, show ¬ c.Start < 0 by omega, show ¬ c.End ≤ c.Start by omega, show ¬ c.End > 1048576 by omega, show ¬ c.Rate < 1 by omega, show ¬ c.Rate > 4096 by omega, show ¬ c.Delay < 0 by omega, show c.Delay > 4096 by omega]
    simp only [decide_eq_true a6, decide_eq_true a7, decide_eq_true a8, decide_eq_true a9, decide_eq_true a10, decide_eq_true a11, decide_eq_true a12, Bool.true_and, Bool.and_true, decide_eq_false (show ¬ c.Start < 0 by omega), decide_eq_false (show ¬ c.End ≤ c.Start by omega), decide_eq_false (show ¬ c.End > 1048576 by omega), decide_eq_false (show ¬ c.Rate < 1 by omega), decide_eq_false (show ¬ c.Rate > 4096 by omega), decide_eq_false (show ¬ c.Delay < 0 by omega), decide_eq_false (show ¬ c.Delay > 4096 by omega), cond_false, f18_airz_l2_j2, hl3]
    cases ((L.take i).any fun d => ovl d c)
    · simp only [cond_false, Option.bind_some, f18_airz_l2_j4, hw, Bool.not_false, Bool.true_and, ih']
    · simp only [cond_true, Option.bind_some, Bool.not_true, Bool.false_and, cond_false]
theorem right_at (hk : 27 ≤ k) : f18_airz k N L = some (.o0 (chkB N L)) := by
  obtain ⟨k, rfl⟩ : ∃ m, k = m + 1 := ⟨k - 1, by omega⟩
  simp only [f18_airz, f18_airz_e, chkB]
  by_cases a1 : 2 ≤ N
  case neg => simp [a1, show N < 2 by omega]
  by_cases a2 : N ≤ 6
  case neg => simp [a1, a2, show ¬ N < 2 by omega, show N > 6 by omega]
  by_cases a3 : L.length ≤ 24
  case neg => simp [a1, a2, a3, show ¬ N < 2 by omega, show ¬ N > 6 by omega, show ((L.length : Int) > 24) by omega]
  have hl := right_l2 k N L (by omega) a3 L.length 0 k (by omega) (by omega)
  have e0 : ((0 : Nat) : Int) = 0 := rfl
  rw [e0, List.take_zero, List.drop_zero] at hl
  simp only [decide_eq_true a1, decide_eq_true a2, decide_eq_true a3, Bool.and_true, Bool.true_and, cond_false, decide_eq_false (show ¬ N < 2 by omega), decide_eq_false (show ¬ N > 6 by omega), decide_eq_false (show ¬ ((L.length : Int) > 24) by omega), f18_airz_j1, hl]
  cases chkL N [] L <;> simp only [cond_true, cond_false, Option.bind_some, f18_airz_j3]
end
end Go.Proofs.YtiompmmbjpjjeaaDoorV
