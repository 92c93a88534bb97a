/- Words of Check and Encode: segment.Same, claims, the writer. -/
import Derived.Test.YthjefcamonmjpaaVPPut
namespace Go.Proofs.YthjefcamonmjpaaV
open Go Go.Proofs.Ythjefcamonmjpaa
set_option linter.unusedVariables false
set_option linter.unusedSimpArgs false
theorem eqC_at (k : Nat) (l1 l2 : List T45) (hb : l1.length < 4611686018427387904) (hk : l1.length + 2 ≤ k) : ∃ b, f21_rr k l1 l2 = some (.o0 b) ∧ (b = true ↔ l1 = l2) := by
  obtain ⟨k, rfl⟩ : ∃ j, k = j + 1 := ⟨k - 1, by omega⟩
  by_cases hl : l1.length = l2.length
  · have := eqC_loop l1 l2 hb hl k l1.length 0 k (by omega) (by omega)
    simp only [List.drop_zero] at this
    have hl' : ((l1.length : Int) != (l2.length : Int)) = false := by simp; omega
    simp only [f21_rr, f21_rr_e, hl', cond_false, f21_rr_j1]
    rw [show ((0 : Nat) : Int) = 0 from rfl] at this
    rw [this]
    by_cases he : l1 = l2
    · exact ⟨true, by simp [he, f21_rr_j3], by simp [he]⟩
    · exact ⟨false, by simp [he], by simp [he]⟩
  · have hl' : ((l1.length : Int) != (l2.length : Int)) = true := by simp; omega
    have he : l1 ≠ l2 := fun h => hl (by rw [h])
    exact ⟨false, by simp [f21_rr, f21_rr_e, hl'], by simp [he]⟩
/-- segment.Same answers something, whatever the other one. -/
theorem same_at (s : T26) (k : Nat) (hb : s.Data.length < 4611686018427387904) (hb' : s.Claims.length < 4611686018427387904) (hk : s.Data.length + s.Claims.length + 4 ≤ k) : ∀ t1 t2 t3 t4 t5 t6 t7 t8 t9 t10 t11 t12 t13, ∃ b, f9_ai10brrzai10brrz k s.Kind s.Source s.Session s.Serial s.Checks s.Offset s.Total s.Lower s.Upper s.Reason s.Check s.Data s.Claims t1 t2 t3 t4 t5 t6 t7 t8 t9 t10 t11 t12 t13 = some (.o0 b) ∧ (b = true ↔ s = T26.mk t1 t2 t3 t4 t5 t6 t7 t8 t9 t10 t11 t12 t13) := by
  intro t1 t2 t3 t4 t5 t6 t7 t8 t9 t10 t11 t12 t13
  obtain ⟨k, rfl⟩ : ∃ j, k = j + 2 := ⟨k - 2, by omega⟩
  have h1 := eqB_at (k + 1) s.Data t12 hb (by omega)
  obtain ⟨b, h2, h3⟩ := eqC_at (k + 1) s.Claims t13 hb' (by omega)
  have e : decide (s = T26.mk t1 t2 t3 t4 t5 t6 t7 t8 t9 t10 t11 t12 t13) = ((s.Kind == t1 && (s.Source == t2 && (s.Offset == t6 && (s.Total == t7 && (s.Lower == t8 && (s.Upper == t9 && (s.Reason == t10 && (s.Session == t3 && (s.Serial == t4 && (s.Checks == t5 && s.Check == t11)))))))))) && (decide (s.Data = t12) && b)) := by
    rw [Bool.eq_iff_iff]
    cases s
    simp only [decide_eq_true_eq, T26.mk.injEq, Bool.and_eq_true, beq_iff_eq, h3]
    constructor
    · rintro ⟨a1, a2, a3, a4, a5, a6, a7, a8, a9, a10, a11, a12, a13⟩
      exact ⟨⟨a1, a2, a6, a7, a8, a9, a10, a3, a4, a5, a11⟩, a12, a13⟩
    · rintro ⟨⟨a1, a2, a6, a7, a8, a9, a10, a3, a4, a5, a11⟩, a12, a13⟩
      exact ⟨a1, a2, a3, a4, a5, a6, a7, a8, a9, a10, a11, a12, a13⟩
  refine ⟨decide (s = T26.mk t1 t2 t3 t4 t5 t6 t7 t8 t9 t10 t11 t12 t13), ?_, by simp⟩
  simp only [f9_ai10brrzai10brrz, f9_ai10brrzai10brrz_e, f19_ai10brrz, f19_ai10brrz_e, Option.bind_some, h1, h2]
  rw [e]
  generalize (s.Kind == t1 && (s.Source == t2 && (s.Offset == t6 && (s.Total == t7 && (s.Lower == t8 && (s.Upper == t9 && (s.Reason == t10 && (s.Session == t3 && (s.Serial == t4 && (s.Checks == t5 && s.Check == t11)))))))))) = c
  generalize decide (s.Data = t12) = d
  cases c <;> cases d <;> cases b <;> rfl
/-- May claims be? -/
def clm (hi : Int) : Int → List T45 → Bool
  | _, [] => true
  | e, c :: l => !decide (c.N < 1) && !decide (c.At ≤ e) && !decide (c.At ≥ hi) && !decide (c.N > IntKind.i64.wrap (hi - c.At)) && clm hi (IntKind.i64.wrap (c.At + c.N)) l
theorem claimed_l1 (k : Nat) (l : List T45) (hi : Int) (hl : l.length < 1000) : ∀ (d i n : Nat) (e : Int), i + d = l.length → d < n →
    (clm hi e (l.drop i) = true → ∃ e', f28_rii_l1 k n l hi e l (l.length : Int) (i : Int) = some (.o2 l hi e' l (l.length : Int) (l.length : Int) false)) ∧
    (clm hi e (l.drop i) = false → f28_rii_l1 k n l hi e l (l.length : Int) (i : Int) = some (.o0 false))
  | 0, i, n, e, h, hn => by
    obtain ⟨n, rfl⟩ : ∃ j, n = j + 1 := ⟨n - 1, by omega⟩
    obtain rfl : i = l.length := by omega
    refine ⟨fun _ => ⟨e, by simp [f28_rii_l1, f28_rii_l1_b]⟩, fun h => by simp [clm] at h⟩
  | d + 1, i, n, e, h, hn => by
    obtain ⟨n, rfl⟩ : ∃ j, n = j + 1 := ⟨n - 1, by omega⟩
    have h1 : i < l.length := by omega
    have g1 : l[i]? = some l[i] := List.getElem?_eq_getElem h1
    have hlt : ((i : Int) < (l.length : Int)) := by omega
    have hw : IntKind.i64.wrap ((i : Int) + 1) = ((i + 1 : Nat) : Int) := by rw [wrap_i64 (by omega) (by omega)]; rfl
    have ih := claimed_l1 k l hi hl d (i + 1) n (IntKind.i64.wrap (l[i].At + l[i].N)) (by omega) (by omega)
    rw [List.drop_eq_getElem_cons h1]
    simp only [clm, f28_rii_l1, f28_rii_l1_b, f28_rii_l1_j1, f28_rii_l1_j2, f28_rii_l1_j3, decide_eq_true hlt, cond_true, ifE_pos (show (0 : Int) ≤ i by omega), Int.toNat_natCast, g1, Option.bind_some, hw]
    cases decide (l[i].N < 1)
    · cases decide (l[i].At ≤ e)
      · cases decide (l[i].At ≥ hi)
        · cases decide (l[i].N > IntKind.i64.wrap (hi - l[i].At))
          · simpa using ih
          · simp
        · simp
      · simp
    · simp
theorem claimed_at (k : Nat) (l : List T45) (lo hi : Int) (hl : l.length < 1000) (hk : l.length + 2 ≤ k) : f28_rii k l lo hi = some (.o0 (clm hi (IntKind.i64.wrap (lo - 1)) l && decide ((l.length : Int) ≤ 20))) := by
  obtain ⟨k, rfl⟩ : ∃ j, k = j + 1 := ⟨k - 1, by omega⟩
  have q := claimed_l1 k l hi hl l.length 0 k (IntKind.i64.wrap (lo - 1)) (by omega) (by omega)
  rw [List.drop_zero, show ((0 : Nat) : Int) = 0 from rfl] at q
  simp only [f28_rii, f28_rii_e]
  cases hc : clm hi (IntKind.i64.wrap (lo - 1)) l
  · rw [q.2 hc]; rfl
  · obtain ⟨e', h⟩ := q.1 hc
    rw [h]; rfl
def inT (a lo hi : Int) : Bool := decide (a ≥ lo) && decide (a ≤ hi)
theorem in_at (k : Nat) (a lo hi : Int) : f27_iii (k + 1) a lo hi = some (.o0 (inT a lo hi)) := by
  simp only [f27_iii, f27_iii_e, inT]
  cases decide (a ≥ lo) <;> rfl
def G (n : Nat) (e : List Int) : Prop := Bytes e ∧ 3 ≤ e.length ∧ e.length ≤ n
theorem G.puts {n : Nat} {e : List Int} (h : G n e) (l : List Int) : G (n + 10 * l.length) (e ++ puts l) := by
  have := puts_length l
  exact ⟨bytes_append h.1 (puts_bytes l), by rw [List.length_append]; have := h.2.1; omega, by rw [List.length_append]; have := h.2.2; omega⟩
theorem G.mono {n m : Nat} {e : List Int} (h : G n e) (hm : n ≤ m) : G m e := ⟨h.1, h.2.1, Nat.le_trans h.2.2 hm⟩
theorem wr_bind {α : Type} (k : Nat) (l e : List Int) (F : R22_pr_bow → Option α) (hl : l ≠ []) (hl2 : l.length ≤ 10) (hk : 100 ≤ k) (he : e.length ≤ 100000) : Option.bind (f22_pr_bow k l e) F = F (.o1 e (e ++ puts l)) := by
  have hr : roomy = 70368744177664 := rfl
  rw [write_at k l e (by omega) (by omega) (by omega), wrote, if_neg hl]
  rfl
end Go.Proofs.YthjefcamonmjpaaV
