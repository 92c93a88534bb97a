/- What slices.Equal answers, of bytes and of claims; what the two Sames, short and copied answer. -/
import Derived.Test.YthjefcamonmjpaaVPWords
import Derived.Test.YthjefcamonmjpaaVP10
namespace Go.Proofs.YthjefcamonmjpaaV
open Go
set_option linter.unusedVariables false
set_option linter.unusedSimpArgs false
theorem eqB_loop (l1 l2 : List Int) (hb : l1.length < 4611686018427387904) (h : l1.length = l2.length) (k : Nat) : ∀ (d i n : Nat), i + d = l1.length → d < n →
    f20_rr_l2 k n l1 l2 l1.length i = if l1.drop i = l2.drop i then some (.o2 l1 l2 l1.length l1.length false) else some (.o0 false) := by
  intro d
  induction d with
  | zero =>
    intro i n hid hn
    obtain ⟨n, rfl⟩ : ∃ m, n = m + 1 := ⟨n - 1, by omega⟩
    have e1 : l1.drop i = [] := List.drop_eq_nil_of_le (by omega)
    have e2 : l2.drop i = [] := List.drop_eq_nil_of_le (by omega)
    have e3 : i = l1.length := by omega
    subst e3
    simp [f20_rr_l2, f20_rr_l2_b, e2]
  | succ d ih =>
    intro i n hid hn
    obtain ⟨n, rfl⟩ : ∃ m, n = m + 1 := ⟨n - 1, by omega⟩
    have h1 : i < l1.length := by omega
    have h2 : i < l2.length := by omega
    have g1 : l1[i]? = some l1[i] := List.getElem?_eq_getElem h1
    have g2 : l2[i]? = some l2[i] := List.getElem?_eq_getElem h2
    have hlt : ((i : Int) < (l1.length : Int)) := by omega
    have hw : IntKind.i64.wrap ((i : Int) + 1) = ((i + 1 : Nat) : Int) := by rw [wrap_i64 (by omega) (by omega)]; rfl
    have ih' := ih (i + 1) n (by omega) (by omega)
    rw [List.drop_eq_getElem_cons h1, List.drop_eq_getElem_cons h2]
    by_cases he : l1[i] = l2[i]
    · simp only [f20_rr_l2, f20_rr_l2_b, f20_rr_l2_j1, f20_rr_l2_j2, decide_eq_true hlt, cond_true, ifE_pos (show (0 : Int) ≤ i by omega), Int.toNat_natCast, g1, g2, Option.bind_some, he, bne_self_eq_false, cond_false, hw, ih', List.cons.injEq, true_and]
    · have hne : (l1[i] != l2[i]) = true := by simpa using he
      simp only [f20_rr_l2, f20_rr_l2_b, f20_rr_l2_j1, f20_rr_l2_j2, decide_eq_true hlt, cond_true, ifE_pos (show (0 : Int) ≤ i by omega), Int.toNat_natCast, g1, g2, Option.bind_some, hne, List.cons.injEq, he, false_and, if_false]
theorem eqB_sp (l1 l2 : List Int) (hb : l1.length < 4611686018427387904) : Evn fun k => f20_rr k l1 l2 = some (.o0 (decide (l1 = l2))) := by
  refine Evn.up (Evn.of (l1.length + 1) fun k hk => ?_)
  by_cases hl : l1.length = l2.length
  · have := eqB_loop l1 l2 hb hl k l1.length 0 k (by omega) (by omega)
    simp only [List.drop_zero] at this
    have hl' : ((l1.length : Int) != (l2.length : Int)) = false := by simp; omega
    simp only [f20_rr, f20_rr_e, hl', cond_false, f20_rr_j1]
    rw [show ((0 : Nat) : Int) = 0 from rfl] at this
    rw [this]
    by_cases he : l1 = l2
    · simp [he, f20_rr_j3]
    · simp [he]
  · have hl' : ((l1.length : Int) != (l2.length : Int)) = true := by simp; omega
    have he : l1 ≠ l2 := fun h => hl (by rw [h])
    simp [f20_rr, f20_rr_e, hl', he]
theorem T45.ext' (a b : T45) : (a.At == b.At && a.N == b.N) = true ↔ a = b := by
  cases a; cases b; simp
theorem eqC_loop (l1 l2 : List T45) (hb : l1.length < 4611686018427387904) (h : l1.length = l2.length) (k : Nat) : ∀ (d i n : Nat), i + d = l1.length → d < n →
    f21_rr_l2 k n l1 l2 l1.length i = if l1.drop i = l2.drop i then some (.o2 l1 l2 l1.length l1.length false) else some (.o0 false) := by
  intro d
  induction d with
  | zero =>
    intro i n hid hn
    obtain ⟨n, rfl⟩ : ∃ m, n = m + 1 := ⟨n - 1, by omega⟩
    have e1 : l1.drop i = [] := List.drop_eq_nil_of_le (by omega)
    have e2 : l2.drop i = [] := List.drop_eq_nil_of_le (by omega)
    have e3 : i = l1.length := by omega
    subst e3
    simp [f21_rr_l2, f21_rr_l2_b, e2]
  | succ d ih =>
    intro i n hid hn
    obtain ⟨n, rfl⟩ : ∃ m, n = m + 1 := ⟨n - 1, by omega⟩
    have h1 : i < l1.length := by omega
    have h2 : i < l2.length := by omega
    have g1 : l1[i]? = some l1[i] := List.getElem?_eq_getElem h1
    have g2 : l2[i]? = some l2[i] := List.getElem?_eq_getElem h2
    have hlt : ((i : Int) < (l1.length : Int)) := by omega
    have hw : IntKind.i64.wrap ((i : Int) + 1) = ((i + 1 : Nat) : Int) := by rw [wrap_i64 (by omega) (by omega)]; rfl
    have ih' := ih (i + 1) n (by omega) (by omega)
    rw [List.drop_eq_getElem_cons h1, List.drop_eq_getElem_cons h2]
    by_cases he : l1[i] = l2[i]
    · have hne := (T45.ext' _ _).2 he
      simp only [f21_rr_l2, f21_rr_l2_b, f21_rr_l2_j1, f21_rr_l2_j2, decide_eq_true hlt, cond_true, ifE_pos (show (0 : Int) ≤ i by omega), Int.toNat_natCast, g1, g2, Option.bind_some, hne, Bool.not_true, cond_false, hw, ih', List.cons.injEq]
      simp only [he, true_and]
    · have hne : (l1[i].At == l2[i].At && l1[i].N == l2[i].N) = false := by
        cases hh : (l1[i].At == l2[i].At && l1[i].N == l2[i].N) with
        | false => rfl
        | true => exact absurd ((T45.ext' _ _).1 hh) he
      simp only [f21_rr_l2, f21_rr_l2_b, f21_rr_l2_j1, f21_rr_l2_j2, decide_eq_true hlt, cond_true, ifE_pos (show (0 : Int) ≤ i by omega), Int.toNat_natCast, g1, g2, Option.bind_some, hne, Bool.not_false, List.cons.injEq, he, false_and, if_false]
theorem eqC_sp (l1 l2 : List T45) (hb : l1.length < 4611686018427387904) : Evn fun k => ∃ b, f21_rr k l1 l2 = some (.o0 b) ∧ (b = true ↔ l1 = l2) := by
  refine Evn.up (Evn.of (l1.length + 1) fun k hk => ?_)
  by_cases hl : l1.length = l2.length
  · have := eqC_loop l1 l2 hb hl k l1.length 0 k (by omega) (by omega)
    simp only [List.drop_zero] at this
    have hl' : ((l1.length : Int) != (l2.length : Int)) = false := by simp; omega
    simp only [f21_rr, f21_rr_e, hl', cond_false, f21_rr_j1]
    rw [show ((0 : Nat) : Int) = 0 from rfl] at this
    rw [this]
    by_cases he : l1 = l2
    · exact ⟨true, by simp [he, f21_rr_j3], by simp [he]⟩
    · exact ⟨false, by simp [he], by simp [he]⟩
  · have hl' : ((l1.length : Int) != (l2.length : Int)) = true := by simp; omega
    have he : l1 ≠ l2 := fun h => hl (by rw [h])
    exact ⟨false, by simp [f21_rr, f21_rr_e, hl'], by simp [he]⟩
theorem same_sp (s t : T26) (hb : s.Data.length < 4611686018427387904) (hb' : s.Claims.length < 4611686018427387904) : Evn fun k => f9_ai10brrzai10brrz k s.Kind s.Source s.Session s.Serial s.Checks s.Offset s.Total s.Lower s.Upper s.Reason s.Check s.Data s.Claims t.Kind t.Source t.Session t.Serial t.Checks t.Offset t.Total t.Lower t.Upper t.Reason t.Check t.Data t.Claims = some (.o0 (decide (s = t))) := by
  refine Evn.up (((eqB_sp s.Data t.Data hb).and ((eqC_sp s.Claims t.Claims hb').and (Evn.ge 1))).mono fun k ⟨h1, ⟨b, h2, h3⟩, h4⟩ => ?_)
  obtain ⟨k, rfl⟩ : ∃ j, k = j + 1 := ⟨k - 1, by omega⟩
  simp only [f9_ai10brrzai10brrz, f9_ai10brrzai10brrz_e, f19_ai10brrz, f19_ai10brrz_e, Option.bind_some, h1, h2]
  have e : decide (s = t) = ((s.Kind == t.Kind && (s.Source == t.Source && (s.Offset == t.Offset && (s.Total == t.Total && (s.Lower == t.Lower && (s.Upper == t.Upper && (s.Reason == t.Reason && (s.Session == t.Session && (s.Serial == t.Serial && (s.Checks == t.Checks && s.Check == t.Check)))))))))) && (decide (s.Data = t.Data) && b)) := by
    rw [Bool.eq_iff_iff]
    cases s; cases t
    simp only [decide_eq_true_eq, T26.mk.injEq, Bool.and_eq_true, beq_iff_eq, h3]
    constructor
    · rintro ⟨a1, a2, a3, a4, a5, a6, a7, a8, a9, a10, a11, a12, a13⟩
      exact ⟨⟨a1, a2, a6, a7, a8, a9, a10, a3, a4, a5, a11⟩, a12, a13⟩
    · rintro ⟨⟨a1, a2, a6, a7, a8, a9, a10, a3, a4, a5, a11⟩, a12, a13⟩
      exact ⟨a1, a2, a3, a4, a5, a6, a7, a8, a9, a10, a11, a12, a13⟩
  rw [e]
  generalize (s.Kind == t.Kind && (s.Source == t.Source && (s.Offset == t.Offset && (s.Total == t.Total && (s.Lower == t.Lower && (s.Upper == t.Upper && (s.Reason == t.Reason && (s.Session == t.Session && (s.Serial == t.Serial && (s.Checks == t.Checks && s.Check == t.Check)))))))))) = c
  generalize decide (s.Data = t.Data) = d
  cases c <;> cases d <;> cases b <;> rfl
end Go.Proofs.YthjefcamonmjpaaV
