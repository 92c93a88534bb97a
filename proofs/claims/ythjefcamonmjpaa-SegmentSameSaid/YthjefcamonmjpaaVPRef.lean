/- What the reference's Same, the law's short and copied answer. -/
import Derived.Test.YthjefcamonmjpaaVPEq
namespace Go.Proofs.YthjefcamonmjpaaV
open Go
set_option linter.unusedVariables false
set_option linter.unusedSimpArgs false
theorem ref_loop (s t : T26) (hb : s.Claims.length < 4611686018427387904) (h : s.Claims.length = t.Claims.length) (k : Nat) : ∀ (d i n : Nat), i + d = s.Claims.length → d < n →
    f10_ai10brrzai10brrz_l2 k n s.Claims.length i s.Kind s.Source s.Session s.Serial s.Checks s.Offset s.Total s.Lower s.Upper s.Reason s.Check s.Data s.Claims t.Kind t.Source t.Session t.Serial t.Checks t.Offset t.Total t.Lower t.Upper t.Reason t.Check t.Data t.Claims = if s.Claims.drop i = t.Claims.drop i then some (.o2 s.Claims.length s.Claims.length false s.Kind s.Source s.Session s.Serial s.Checks s.Offset s.Total s.Lower s.Upper s.Reason s.Check s.Data s.Claims t.Kind t.Source t.Session t.Serial t.Checks t.Offset t.Total t.Lower t.Upper t.Reason t.Check t.Data t.Claims) else some (.o0 false) := by
  intro d
  induction d with
  | zero =>
    intro i n hid hn
    obtain ⟨n, rfl⟩ : ∃ m, n = m + 1 := ⟨n - 1, by omega⟩
    have e1 : s.Claims.drop i = [] := List.drop_eq_nil_of_le (by omega)
    have e2 : t.Claims.drop i = [] := List.drop_eq_nil_of_le (by omega)
    have e3 : i = s.Claims.length := by omega
    rw [e1, e2, if_pos rfl]
    subst e3
    simp only [f10_ai10brrzai10brrz_l2, f10_ai10brrzai10brrz_l2_b, Int.lt_irrefl, decide_false, cond_false, Option.bind_some]
  | succ d ih =>
    intro i n hid hn
    obtain ⟨n, rfl⟩ : ∃ m, n = m + 1 := ⟨n - 1, by omega⟩
    have h1 : i < s.Claims.length := by omega
    have h2 : i < t.Claims.length := by omega
    have g1 : s.Claims[i]? = some s.Claims[i] := List.getElem?_eq_getElem h1
    have g2 : t.Claims[i]? = some t.Claims[i] := List.getElem?_eq_getElem h2
    have hlt : ((i : Int) < (s.Claims.length : Int)) := by omega
    have hw : IntKind.i64.wrap ((i : Int) + 1) = ((i + 1 : Nat) : Int) := by rw [wrap_i64 (by omega) (by omega)]; rfl
    have ih' := ih (i + 1) n (by omega) (by omega)
    rw [List.drop_eq_getElem_cons h1, List.drop_eq_getElem_cons h2]
    by_cases he : s.Claims[i] = t.Claims[i]
    · have hne := (T45.ext' _ _).2 he
      simp only [f10_ai10brrzai10brrz_l2, f10_ai10brrzai10brrz_l2_b, f10_ai10brrzai10brrz_l2_j1, f10_ai10brrzai10brrz_l2_j2, decide_eq_true hlt, cond_true, ifE_pos (show (0 : Int) ≤ i by omega), Int.toNat_natCast, g1, g2, Option.bind_some, hne, Bool.not_true, cond_false, hw, ih', List.cons.injEq]
      simp only [he, true_and]
    · have hne : (s.Claims[i].At == t.Claims[i].At && s.Claims[i].N == t.Claims[i].N) = false := by
        cases hh : (s.Claims[i].At == t.Claims[i].At && s.Claims[i].N == t.Claims[i].N) with
        | false => rfl
        | true => exact absurd ((T45.ext' _ _).1 hh) he
      simp only [f10_ai10brrzai10brrz_l2, f10_ai10brrzai10brrz_l2_b, f10_ai10brrzai10brrz_l2_j1, f10_ai10brrzai10brrz_l2_j2, decide_eq_true hlt, cond_true, ifE_pos (show (0 : Int) ≤ i by omega), Int.toNat_natCast, g1, g2, Option.bind_some, hne, Bool.not_false, List.cons.injEq, he, false_and, if_false]
/-- Bytes are told by their string. -/
theorem strOf_inj {a b : List Int} (ha : ∀ x ∈ a, 0 ≤ x ∧ x < 256) (hb : ∀ x ∈ b, 0 ≤ x ∧ x < 256) : ((strOf a).toList == (strOf b).toList) = decide (a = b) := by
  have e : ∀ l : List Int, (strOf l).toList = l.map fun n => UInt8.ofNat n.toNat := fun l => by
    rw [strOf, ByteArray.toList_eq]
  rw [e, e, Bool.eq_iff_iff]
  simp only [beq_iff_eq, decide_eq_true_eq]
  refine ⟨fun h => ?_, fun h => by rw [h]⟩
  have key : ∀ (a b : List Int), (∀ x ∈ a, 0 ≤ x ∧ x < 256) → (∀ x ∈ b, 0 ≤ x ∧ x < 256) → (a.map fun n => UInt8.ofNat n.toNat) = (b.map fun n => UInt8.ofNat n.toNat) → a = b := by
    intro a
    induction a with
    | nil => intro b _ _ h; cases b <;> simp_all
    | cons x a ih =>
      intro b ha hb h
      cases b with
      | nil => simp at h
      | cons y b =>
        simp only [List.map_cons, List.cons.injEq] at h
        obtain ⟨h1, h2⟩ := h
        have hx := ha x (by simp)
        have hy := hb y (by simp)
        have h3 := congrArg UInt8.toNat h1
        simp only [UInt8.toNat_ofNat'] at h3
        have : x = y := by omega
        rw [this, ih b (fun z hz => ha z (by simp [hz])) (fun z hz => hb z (by simp [hz])) h2]
  exact key a b ha hb h
theorem ref_sp (s t : T26) (hb : s.Claims.length < 4611686018427387904) (ha : ∀ x ∈ s.Data, 0 ≤ x ∧ x < 256) (ha' : ∀ x ∈ t.Data, 0 ≤ x ∧ x < 256) : Evn fun k => f10_ai10brrzai10brrz k s.Kind s.Source s.Session s.Serial s.Checks s.Offset s.Total s.Lower s.Upper s.Reason s.Check s.Data s.Claims t.Kind t.Source t.Session t.Serial t.Checks t.Offset t.Total t.Lower t.Upper t.Reason t.Check t.Data t.Claims = some (.o0 (decide (s = t))) := by
  refine Evn.up (Evn.of (s.Claims.length + 1) fun k hk => ?_)
  by_cases hl : s.Claims.length = t.Claims.length
  · have := ref_loop s t hb hl k s.Claims.length 0 k (by omega) (by omega)
    simp only [List.drop_zero] at this
    have hl' : ((s.Claims.length : Int) != (t.Claims.length : Int)) = false := by simp; omega
    rw [show ((0 : Nat) : Int) = 0 from rfl] at this
    simp only [f10_ai10brrzai10brrz, f10_ai10brrzai10brrz_e, hl', cond_false, f10_ai10brrzai10brrz_j1, this]
    by_cases he : s.Claims = t.Claims
    · simp only [if_pos he, Option.bind_some, f10_ai10brrzai10brrz_j3, strOf_inj ha ha']
      have e : decide (s = t) = (s.Kind == t.Kind && (s.Source == t.Source && (s.Session == t.Session && (s.Serial == t.Serial && (s.Checks == t.Checks && (s.Offset == t.Offset && (s.Total == t.Total && (s.Lower == t.Lower && (s.Upper == t.Upper && (s.Reason == t.Reason && (s.Check == t.Check && decide (s.Data = t.Data)))))))))))) := by
        rw [Bool.eq_iff_iff]
        cases s; cases t
        simp only at he
        simp only [decide_eq_true_eq, T26.mk.injEq, Bool.and_eq_true, beq_iff_eq, he, and_true]
      rw [e]
      cases s.Kind == t.Kind <;> simp only [cond_true, cond_false, Bool.false_and, Bool.true_and]
      cases s.Source == t.Source <;> simp only [cond_true, cond_false, Bool.false_and, Bool.true_and]
      cases s.Session == t.Session <;> simp only [cond_true, cond_false, Bool.false_and, Bool.true_and]
      cases s.Serial == t.Serial <;> simp only [cond_true, cond_false, Bool.false_and, Bool.true_and]
      cases s.Checks == t.Checks <;> simp only [cond_true, cond_false, Bool.false_and, Bool.true_and]
      cases s.Offset == t.Offset <;> simp only [cond_true, cond_false, Bool.false_and, Bool.true_and]
      cases s.Total == t.Total <;> simp only [cond_true, cond_false, Bool.false_and, Bool.true_and]
      cases s.Lower == t.Lower <;> simp only [cond_true, cond_false, Bool.false_and, Bool.true_and]
      cases s.Upper == t.Upper <;> simp only [cond_true, cond_false, Bool.false_and, Bool.true_and]
      cases s.Reason == t.Reason <;> simp only [cond_true, cond_false, Bool.false_and, Bool.true_and]
      cases s.Check == t.Check <;> simp only [cond_true, cond_false, Bool.false_and, Bool.true_and]
    · have hne : s ≠ t := fun h => he (by rw [h])
      simp only [if_neg he, Option.bind_some, decide_eq_false hne]
  · have hl' : ((s.Claims.length : Int) != (t.Claims.length : Int)) = true := by simp; omega
    have he : s ≠ t := fun h => hl (by rw [h])
    simp only [f10_ai10brrzai10brrz, f10_ai10brrzai10brrz_e, hl', cond_true, decide_eq_false he]
theorem copied_sp (s : T26) (hb : s.Data.length ≤ 70368744177664) (hb' : s.Claims.length * 16 ≤ 70368744177664) : Evn fun k => f11_ai10brrz k s.Kind s.Source s.Session s.Serial s.Checks s.Offset s.Total s.Lower s.Upper s.Reason s.Check s.Data s.Claims = some (.o0 s.Kind s.Source s.Session s.Serial s.Checks s.Offset s.Total s.Lower s.Upper s.Reason s.Check s.Data s.Claims) := by
  refine Evn.up (Evn.all fun k => ?_)
  simp only [f11_ai10brrz, f11_ai10brrz_e]
  rw [ifE_pos (by unfold roomy; omega), ifE_pos (by unfold roomy; omega)]
/-- A segment that can be played in time. -/
def shortT (s : T26) : T26 := { s with Data := s.Data.take 300, Claims := s.Claims.take 40 }
theorem short_sp (s : T26) : Evn fun k => f8_ai10brrz k s.Kind s.Source s.Session s.Serial s.Checks s.Offset s.Total s.Lower s.Upper s.Reason s.Check s.Data s.Claims = some (.o0 s.Kind s.Source s.Session s.Serial s.Checks s.Offset s.Total s.Lower s.Upper s.Reason s.Check 0 (s.Data.take 300).length 0 (s.Claims.take 40).length (s.Data.take 300 ++ [7]) (s.Claims.take 40 ++ [T45.mk 77 0])) := by
  refine Evn.up (Evn.all fun k => ?_)
  simp only [f8_ai10brrz, f8_ai10brrz_e]
  generalize hn : min s.Data.length 300 = n
  generalize hm : min s.Claims.length 40 = m
  have hn' : (if (300 : Int) < (s.Data.length : Int) then (300 : Int) else (s.Data.length : Int)) = (n : Int) := by split <;> omega
  have hm' : (if (40 : Int) < (s.Claims.length : Int) then (40 : Int) else (s.Claims.length : Int)) = (m : Int) := by split <;> omega
  have w1 : IntKind.i64.wrap ((n : Int) + 2) = (n : Int) + 2 := wrap_i64 (by omega) (by omega)
  have w2 : IntKind.i64.wrap ((m : Int) + 2) = (m : Int) + 2 := wrap_i64 (by omega) (by omega)
  have t1 : s.Data.take n = s.Data.take 300 := by
    rw [← hn, List.take_eq_take_iff]; omega
  have t2 : s.Claims.take m = s.Claims.take 40 := by
    rw [← hm, List.take_eq_take_iff]; omega
  have l1 : (s.Data.take 300).length = n := by rw [List.length_take]; omega
  have l2 : (s.Claims.take 40).length = m := by rw [List.length_take]; omega
  simp only [hn', hm', w1, w2, Int.toNat_natCast, t1, t2, l1, l2, List.length_append, List.length_cons, List.length_nil]
  rw [ifE_pos (by omega), ifE_pos (by unfold roomy; omega), ifE_pos (by omega), ifE_pos (by omega), ifE_pos (by unfold roomy; omega), ifE_pos (by unfold roomy; omega), ifE_pos (by omega),
    ifE_pos (by omega), ifE_pos (by unfold roomy; omega), ifE_pos (by omega), ifE_pos (by omega), ifE_pos (by unfold roomy; omega), ifE_pos (by unfold roomy; omega), ifE_pos (by omega)]
end Go.Proofs.YthjefcamonmjpaaV
