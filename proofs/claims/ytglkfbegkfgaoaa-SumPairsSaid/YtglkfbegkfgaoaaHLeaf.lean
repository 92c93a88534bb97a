/- What the printed leaves answer: two rows one behind the other; whether two rows of bytes are the same. -/
import Derived.Test.YtglkfbegkfgaoaaPxf13
import Derived.Test.YtglkfbegkfgaoaaPxf14
import Derived.Test.YtglkfbegkfgaoaaPxf28
namespace Go.Proofs.Ytglkfbegkfgaoaa.P
open Go.RowKit Go.Proofs.YtglkfbegkfgaoaaW.PrintWords Go.Proofs.YtglkfbegkfgaoaaW.PrintLast Go.Proofs.YtglkfbegkfgaoaaW.PrintMore
set_option linter.unusedVariables false
set_option linter.unusedSimpArgs false

theorem rd_at {l : List Int} {i : Nat} (h : i < l.length) : rd l (i : Int) = l[i] := by simp [rd, List.getElem?_eq_getElem h]
theorem w64_succ {i : Nat} (h : i < 9223372036854775807) : wrap64 ((i : Int) + 1) = ((i + 1 : Nat) : Int) := by unfold wrap64; omega

theorem both_l1 (m : List Int) : ∀ (n i : Nat) (x : List Int), n + i = m.length → x.length + n < 140737488355328 → m.length < 140737488355328 → Ev (fun k => heliographref01_Both.l1 k m x (i : Int)) (x ++ m.drop i)
  | 0, i, x, h, _, hm => by
    refine ⟨1, fun k hk => ?_⟩
    obtain ⟨k, rfl⟩ : ∃ m, k = m + 1 := ⟨k - 1, by omega⟩
    simp only [heliographref01_Both.l1]
    rw [if_neg (by omega), List.drop_eq_nil_of_le (by omega), List.append_nil]
  | n + 1, i, x, h, hx, hm => by
    have hi : i < m.length := by omega
    refine Ev.step (f := fun k => heliographref01_Both.l1 k m (x ++ [m[i]]) ((i + 1 : Nat) : Int)) (fun k => ?_) ?_
    · simp only [heliographref01_Both.l1]
      rw [if_pos (by omega), if_pos (by omega), if_pos (by omega), rd_at hi, w64_succ (by omega)]
    · have := both_l1 m n (i + 1) (x ++ [m[i]]) (by omega) (by simp; omega) hm
      rwa [List.append_assoc, List.singleton_append, ← List.drop_eq_getElem_cons hi] at this
theorem both_l0 (l m : List Int) : ∀ (n i : Nat) (x : List Int), n + i = l.length → x.length + n + m.length < 140737488355328 → l.length < 140737488355328 → Ev (fun k => heliographref01_Both.l0 k l m x (i : Int)) (x ++ l.drop i ++ m)
  | 0, i, x, h, hx, hl => by
    refine Ev.step (f := fun k => heliographref01_Both.l1 k m x 0) (fun k => ?_) ?_
    · simp only [heliographref01_Both.l0]
      rw [if_neg (by omega)]
    · have := both_l1 m m.length 0 x (by omega) (by omega) (by omega)
      rw [List.drop_zero] at this
      rw [List.drop_eq_nil_of_le (by omega), List.append_nil]
      exact this
  | n + 1, i, x, h, hx, hl => by
    have hi : i < l.length := by omega
    refine Ev.step (f := fun k => heliographref01_Both.l0 k l m (x ++ [l[i]]) ((i + 1 : Nat) : Int)) (fun k => ?_) ?_
    · simp only [heliographref01_Both.l0]
      rw [if_pos (by omega), if_pos (by omega), if_pos (by omega), rd_at hi, w64_succ (by omega)]
    · have := both_l0 l m n (i + 1) (x ++ [l[i]]) (by omega) (by simp; omega) hl
      rwa [List.append_assoc x, List.singleton_append, ← List.drop_eq_getElem_cons hi] at this
theorem both_ev {l m : List Int} (h : l.length + m.length < 140737488355328) : Ev (fun k => heliographref01_Both.f k l m) (l ++ m) := by
  have := both_l0 l m l.length 0 [] (by omega) (by simp; omega) (by omega)
  rw [List.drop_zero, List.nil_append] at this
  refine Ev.congr (fun k => ?_) this
  unfold heliographref01_Both.f
  have hw : wrap64 ((l.length : Int) + (m.length : Int)) = ((l.length + m.length : Nat) : Int) := by unfold wrap64; omega
  rw [hw, if_pos (by omega), if_pos (by omega)]
  rfl

theorem same_l0 (l m : List Int) (hl : l.length = m.length) (hb : l.length < 140737488355328) : ∀ (n i : Nat), n + i = l.length → Ev (fun k => heliographref01_Same.l0 k l m (i : Int)) (decide (l.drop i = m.drop i))
  | 0, i, h => by
    refine ⟨1, fun k hk => ?_⟩
    obtain ⟨k, rfl⟩ : ∃ m, k = m + 1 := ⟨k - 1, by omega⟩
    simp only [heliographref01_Same.l0]
    rw [if_neg (by omega), List.drop_eq_nil_of_le (by omega), List.drop_eq_nil_of_le (by omega)]
    simp
  | n + 1, i, h => by
    have hi : i < l.length := by omega
    have hi2 : i < m.length := by omega
    rw [List.drop_eq_getElem_cons hi, List.drop_eq_getElem_cons hi2]
    by_cases he : l[i] = m[i]
    · refine Ev.step (f := fun k => heliographref01_Same.l0 k l m ((i + 1 : Nat) : Int)) (fun k => ?_) ?_
      · simp only [heliographref01_Same.l0]
        rw [if_pos (by omega), if_pos (by omega), if_pos (by omega), rd_at hi, rd_at hi2, if_pos he, w64_succ (by omega)]
      · have := same_l0 l m hl hb n (i + 1) (by omega)
        have e : decide (l[i] :: l.drop (i + 1) = m[i] :: m.drop (i + 1)) = decide (l.drop (i + 1) = m.drop (i + 1)) := by
          rw [decide_eq_decide, List.cons.injEq]
          exact and_iff_right he
        rw [e]
        exact this
    · have e : decide (l[i] :: l.drop (i + 1) = m[i] :: m.drop (i + 1)) = false := by
        rw [decide_eq_false_iff_not, List.cons.injEq]
        exact fun h => he h.1
      rw [e]
      refine ⟨1, fun k hk => ?_⟩
      obtain ⟨k, rfl⟩ : ∃ m, k = m + 1 := ⟨k - 1, by omega⟩
      simp only [heliographref01_Same.l0]
      rw [if_pos (by omega), if_pos (by omega), if_pos (by omega), rd_at hi, rd_at hi2, if_neg he]
theorem same_ev {l m : List Int} (hb : l.length < 140737488355328) : Ev (fun k => heliographref01_Same.f k l m) (decide (l = m)) := by
  by_cases hl : l.length = m.length
  · have := same_l0 l m hl hb l.length 0 (by omega)
    rw [List.drop_zero, List.drop_zero] at this
    refine Ev.congr (fun k => ?_) this
    unfold heliographref01_Same.f
    rw [if_pos (by omega)]
    rfl
  · refine ⟨0, fun k _ => ?_⟩
    unfold heliographref01_Same.f
    dsimp only
    rw [if_neg (by omega)]
    simp only [Option.some.injEq]
    symm
    simp only [decide_eq_false_iff_not]
    rintro rfl
    exact hl rfl

theorem equal_l0 (l m : List Int) (hl : l.length = m.length) (hb : l.length < 140737488355328) : ∀ (n i : Nat), n + i = l.length → Ev (fun k => slices_Equal_byte_byte.l0 k l m (l.length : Int) (i : Int)) (decide (l.drop i = m.drop i))
  | 0, i, h => by
    refine ⟨1, fun k hk => ?_⟩
    obtain ⟨k, rfl⟩ : ∃ m, k = m + 1 := ⟨k - 1, by omega⟩
    simp only [slices_Equal_byte_byte.l0]
    rw [if_neg (by omega), List.drop_eq_nil_of_le (by omega), List.drop_eq_nil_of_le (by omega)]
    simp
  | n + 1, i, h => by
    have hi : i < l.length := by omega
    have hi2 : i < m.length := by omega
    rw [List.drop_eq_getElem_cons hi, List.drop_eq_getElem_cons hi2]
    by_cases he : l[i] = m[i]
    · refine Ev.step (f := fun k => slices_Equal_byte_byte.l0 k l m (l.length : Int) ((i + 1 : Nat) : Int)) (fun k => ?_) ?_
      · simp only [slices_Equal_byte_byte.l0]
        rw [if_pos (by omega), if_pos (by omega), if_pos (by omega), if_pos (by omega), rd_at hi, rd_at hi2, if_pos he, w64_succ (by omega)]
      · have := equal_l0 l m hl hb n (i + 1) (by omega)
        have e : decide (l[i] :: l.drop (i + 1) = m[i] :: m.drop (i + 1)) = decide (l.drop (i + 1) = m.drop (i + 1)) := by
          rw [decide_eq_decide, List.cons.injEq]
          exact and_iff_right he
        rw [e]
        exact this
    · have e : decide (l[i] :: l.drop (i + 1) = m[i] :: m.drop (i + 1)) = false := by
        rw [decide_eq_false_iff_not, List.cons.injEq]
        exact fun h => he h.1
      rw [e]
      refine ⟨1, fun k hk => ?_⟩
      obtain ⟨k, rfl⟩ : ∃ m, k = m + 1 := ⟨k - 1, by omega⟩
      simp only [slices_Equal_byte_byte.l0]
      rw [if_pos (by omega), if_pos (by omega), if_pos (by omega), if_pos (by omega), rd_at hi, rd_at hi2, if_neg he]
theorem equal_ev {l m : List Int} (hb : l.length < 140737488355328) : Ev (fun k => slices_Equal_byte_byte.f k l m) (decide (l = m)) := by
  by_cases hl : l.length = m.length
  · have := equal_l0 l m hl hb l.length 0 (by omega)
    rw [List.drop_zero, List.drop_zero] at this
    refine Ev.congr (fun k => ?_) this
    unfold slices_Equal_byte_byte.f
    rw [if_pos (by omega)]
    rfl
  · refine ⟨0, fun k _ => ?_⟩
    unfold slices_Equal_byte_byte.f
    dsimp only
    rw [if_neg (by omega)]
    simp only [Option.some.injEq]
    symm
    simp only [decide_eq_false_iff_not]
    rintro rfl
    exact hl rfl
end Go.Proofs.Ytglkfbegkfgaoaa.P
