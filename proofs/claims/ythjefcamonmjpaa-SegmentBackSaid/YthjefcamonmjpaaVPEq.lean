/- What slices.Equal answers, of bytes and of claims; what the two Sames, short and copied answer. -/
import Derived.Test.YthjefcamonmjpaaVPWords
import Derived.Test.YthjefcamonmjpaaVP10
namespace Go.Proofs.YthjefcamonmjpaaV
open Go
set_option linter.unusedVariables false
set_option linter.unusedSimpArgs false
theorem eqB_loop (l1 l2 : List Int) (hb : l1.length < 4611686018427387904) (h : l1.length = l2.length) (k : Nat) : ∀ (d i n : Nat), i + d = l1.length → d < n →
    f20_rr_l2 k n l1 l2 l1.length i = if l1.drop i = l2.drop i then some (.o2 l1 l2 l1.length l1.length false) else some (.o0 false) := by
  intro d
  induction d with
  | zero =>
    intro i n hid hn
    obtain ⟨n, rfl⟩ : ∃ m, n = m + 1 := ⟨n - 1, by omega⟩
    have e1 : l1.drop i = [] := List.drop_eq_nil_of_le (by omega)
    have e2 : l2.drop i = [] := List.drop_eq_nil_of_le (by omega)
    have e3 : i = l1.length := by omega
    subst e3
    simp [f20_rr_l2, f20_rr_l2_b, e2]
  | succ d ih =>
    intro i n hid hn
    obtain ⟨n, rfl⟩ : ∃ m, n = m + 1 := ⟨n - 1, by omega⟩
    have h1 : i < l1.length := by omega
    have h2 : i < l2.length := by omega
    have g1 : l1[i]? = some l1[i] := List.getElem?_eq_getElem h1
    have g2 : l2[i]? = some l2[i] := List.getElem?_eq_getElem h2
    have hlt : ((i : Int) < (l1.length : Int)) := by omega
    have hw : IntKind.i64.wrap ((i : Int) + 1) = ((i + 1 : Nat) : Int) := by rw [wrap_i64 (by omega) (by omega)]; rfl
    have ih' := ih (i + 1) n (by omega) (by omega)
    rw [List.drop_eq_getElem_cons h1, List.drop_eq_getElem_cons h2]
    by_cases he : l1[i] = l2[i]
    · simp only [f20_rr_l2, f20_rr_l2_b, f20_rr_l2_j1, f20_rr_l2_j2, decide_eq_true hlt, cond_true, ifE_pos (show (0 : Int) ≤ i by omega), Int.toNat_natCast, g1, g2, Option.bind_some, he, bne_self_eq_false, cond_false, hw, ih', List.cons.injEq, true_and]
    · have hne : (l1[i] != l2[i]) = true := by simpa using he
      simp only [f20_rr_l2, f20_rr_l2_b, f20_rr_l2_j1, f20_rr_l2_j2, decide_eq_true hlt, cond_true, ifE_pos (show (0 : Int) ≤ i by omega), Int.toNat_natCast, g1, g2, Option.bind_some, hne, List.cons.injEq, he, false_and, if_false]
theorem T45.ext' (a b : T45) : (a.At == b.At && a.N == b.N) = true ↔ a = b := by
  cases a; cases b; simp
theorem eqC_loop (l1 l2 : List T45) (hb : l1.length < 4611686018427387904) (h : l1.length = l2.length) (k : Nat) : ∀ (d i n : Nat), i + d = l1.length → d < n →
    f21_rr_l2 k n l1 l2 l1.length i = if l1.drop i = l2.drop i then some (.o2 l1 l2 l1.length l1.length false) else some (.o0 false) := by
  intro d
  induction d with
  | zero =>
    intro i n hid hn
    obtain ⟨n, rfl⟩ : ∃ m, n = m + 1 := ⟨n - 1, by omega⟩
    have e1 : l1.drop i = [] := List.drop_eq_nil_of_le (by omega)
    have e2 : l2.drop i = [] := List.drop_eq_nil_of_le (by omega)
    have e3 : i = l1.length := by omega
    subst e3
    simp [f21_rr_l2, f21_rr_l2_b, e2]
  | succ d ih =>
    intro i n hid hn
    obtain ⟨n, rfl⟩ : ∃ m, n = m + 1 := ⟨n - 1, by omega⟩
    have h1 : i < l1.length := by omega
    have h2 : i < l2.length := by omega
    have g1 : l1[i]? = some l1[i] := List.getElem?_eq_getElem h1
    have g2 : l2[i]? = some l2[i] := List.getElem?_eq_getElem h2
    have hlt : ((i : Int) < (l1.length : Int)) := by omega
    have hw : IntKind.i64.wrap ((i : Int) + 1) = ((i + 1 : Nat) : Int) := by rw [wrap_i64 (by omega) (by omega)]; rfl
    have ih' := ih (i + 1) n (by omega) (by omega)
    rw [List.drop_eq_getElem_cons h1, List.drop_eq_getElem_cons h2]
    by_cases he : l1[i] = l2[i]
    · have hne := (T45.ext' _ _).2 he
      simp only [f21_rr_l2, f21_rr_l2_b, f21_rr_l2_j1, f21_rr_l2_j2, decide_eq_true hlt, cond_true, ifE_pos (show (0 : Int) ≤ i by omega), Int.toNat_natCast, g1, g2, Option.bind_some, hne, Bool.not_true, cond_false, hw, ih', List.cons.injEq]
      simp only [he, true_and]
    · have hne : (l1[i].At == l2[i].At && l1[i].N == l2[i].N) = false := by
        cases hh : (l1[i].At == l2[i].At && l1[i].N == l2[i].N) with
        | false => rfl
        | true => exact absurd ((T45.ext' _ _).1 hh) he
      simp only [f21_rr_l2, f21_rr_l2_b, f21_rr_l2_j1, f21_rr_l2_j2, decide_eq_true hlt, cond_true, ifE_pos (show (0 : Int) ≤ i by omega), Int.toNat_natCast, g1, g2, Option.bind_some, hne, Bool.not_false, List.cons.injEq, he, false_and, if_false]
end Go.Proofs.YthjefcamonmjpaaV
