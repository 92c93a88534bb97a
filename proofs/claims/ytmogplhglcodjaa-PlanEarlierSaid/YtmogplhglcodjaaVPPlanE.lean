/- With more that is left, less need, or earlier, nothing arrives later. -/
import Derived.Test.YtmogplhglcodjaaVPPlanW
namespace Go.Proofs.YtmogplhglcodjaaV
open Go
set_option linter.unusedVariables false
set_option linter.unusedSimpArgs false
def LeL : List Int → List Int → Prop
  | [], [] => True
  | a :: x, b :: y => a ≤ b ∧ LeL x y
  | _, _ => False
theorem LeL.refl : ∀ x : List Int, LeL x x
  | [] => trivial
  | a :: x => ⟨Int.le_refl a, LeL.refl x⟩
theorem LeL.of : ∀ x y : List Int, x.length = y.length → (∀ (j : Nat) (a : Int), x[j]? = some a → ∃ b, y[j]? = some b ∧ a ≤ b) → LeL x y
  | [], [], _, _ => trivial
  | a :: x, b :: y, hl, h => by
    refine ⟨?_, LeL.of x y (by simpa using hl) fun j c hc => ?_⟩
    · obtain ⟨b', hb, hab⟩ := h 0 a rfl
      simp only [List.getElem?_cons_zero, Option.some.injEq] at hb
      omega
    · obtain ⟨b', hb, hab⟩ := h (j + 1) c (by simpa using hc)
      exact ⟨b', by simpa using hb, hab⟩
  | [], b :: y, hl, _ => by simp at hl
  | a :: x, [], hl, _ => by simp at hl
theorem bfL_mono {need need' : Int} (hn : need' ≤ need) : ∀ (L : List Ct) (left left' : List Int) (a a' : Int → Int), LeL left left' → (∀ n, a' n ≤ a n) → ∀ n, bfL need' L left' a' n ≤ bfL need L left a n
  | [], left, left', a, a', _, ha, n => by simpa [bfL] using ha n
  | c :: L, [], [], a, a', _, ha, n => by simpa [bfL] using ha n
  | c :: L, l :: left, l' :: left', a, a', hl, ha, n => by
    simp only [bfL]
    refine bfL_mono hn L left left' _ _ hl.2 (fun m => ?_) n
    have h1 := ha c.From
    have h2 := ha c.To
    have h3 := hl.1
    have h4 := arrT_mono (c := c) h1
    by_cases e : m = c.To
    · subst e
      by_cases q : a c.From < c.End ∧ need ≤ l ∧ arrT c (a c.From) < a c.To
      · rw [if_pos q, fupd_same]
        by_cases q' : a' c.From < c.End ∧ need' ≤ l' ∧ arrT c (a' c.From) < a' c.To
        · rw [if_pos q', fupd_same]; exact h4
        · rw [if_neg q']; omega
      · rw [if_neg q]
        by_cases q' : a' c.From < c.End ∧ need' ≤ l' ∧ arrT c (a' c.From) < a' c.To
        · rw [if_pos q', fupd_same]; omega
        · rw [if_neg q']; exact h2
    · have g : ∀ (P : Prop) [Decidable P] (f : Int → Int) (x : Int), (if P then fupd f c.To x else f) m = f m := by
        intro P _ f x
        split
        · rw [fupd_ne _ _ e]
        · rfl
      rw [g, g]; exact ha m
  | c :: L, [], b :: y, a, a', hl, ha, n => hl.elim
  | c :: L, b :: y, [], a, a', hl, ha, n => hl.elim
theorem bfN_mono {need need' : Int} (hn : need' ≤ need) (L : List Ct) (left left' : List Int) (hl : LeL left left') : ∀ (f : Nat) (a a' : Int → Int), (∀ n, a' n ≤ a n) → ∀ n, bfN need' L left' f a' n ≤ bfN need L left f a n
  | 0, a, a', ha, n => ha n
  | f + 1, a, a', ha, n => bfN_mono hn L left left' hl f _ _ (bfL_mono hn L left left' a a' hl ha) n
theorem ear_mono {need need' : Int} (hn : need' ≤ need) (L : List Ct) (left left' : List Int) (hl : LeL left left') (to s : Int) {now now' : Int} (h : now' ≤ now) : ear need' L left' to s now' ≤ ear need L left to s now := by
  refine bfN_mono hn L left left' hl 8 _ _ (fun n => ?_) to
  unfold bf0
  by_cases e : n = s
  · subst e; rw [fupd_same, fupd_same]; exact h
  · rw [fupd_ne _ _ e, fupd_ne _ _ e]; exact Int.le_refl _
theorem rteL_mono {need need' node now now' : Int} (hn : need' ≤ need) (ht : now' ≤ now) {E E' : Int → Int → Int} (hE : ∀ s t t', t' ≤ t → E' s t' ≤ E s t) : ∀ (L : List Ct) (left left' : List Int) (i : Int) (q q' : Int × Int), LeL left left' → 0 ≤ i →
    (q'.2 ≤ q.2 ∧ (q'.2 < never → 0 ≤ q'.1) ∧ (0 ≤ q.1 → q.2 < never) ∧ q.2 ≤ never) →
    ((rteL need' node now' E' L left' i q').2 ≤ (rteL need node now E L left i q).2 ∧ ((rteL need' node now' E' L left' i q').2 < never → 0 ≤ (rteL need' node now' E' L left' i q').1) ∧ (0 ≤ (rteL need node now E L left i q).1 → (rteL need node now E L left i q).2 < never) ∧ (rteL need node now E L left i q).2 ≤ never)
  | [], left, left', i, q, q', _, _, h => by simpa [rteL] using h
  | c :: L, [], [], i, q, q', _, _, h => by simpa [rteL] using h
  | c :: L, l :: left, l' :: left', i, q, q', hl, hi, h => by
    simp only [rteL]
    refine rteL_mono hn ht hE L left left' (i + 1) _ _ hl.2 (by omega) ?_
    have h1 := hE c.To (arrT c now) (arrT c now') (arrT_mono ht)
    have h2 := hl.1
    obtain ⟨k1, k2, k3, k4⟩ := h
    by_cases p : c.From = node ∧ now < c.End ∧ need ≤ l ∧ E c.To (arrT c now) < q.2
    · rw [if_pos p]
      by_cases p' : c.From = node ∧ now' < c.End ∧ need' ≤ l' ∧ E' c.To (arrT c now') < q'.2
      · rw [if_pos p']
        exact ⟨h1, fun _ => hi, fun _ => show E c.To (arrT c now) < never by omega, show E c.To (arrT c now) ≤ never by omega⟩
      · rw [if_neg p']
        have : q'.2 ≤ E' c.To (arrT c now') := by
          refine Int.not_lt.1 fun hh => p' ⟨p.1, ?_, ?_, hh⟩ <;> omega
        exact ⟨show q'.2 ≤ E c.To (arrT c now) by omega, k2, fun _ => show E c.To (arrT c now) < never by omega, show E c.To (arrT c now) ≤ never by omega⟩
    · rw [if_neg p]
      by_cases p' : c.From = node ∧ now' < c.End ∧ need' ≤ l' ∧ E' c.To (arrT c now') < q'.2
      · rw [if_pos p']
        exact ⟨show E' c.To (arrT c now') ≤ q.2 by omega, fun _ => hi, k3, k4⟩
      · rw [if_neg p']
        exact ⟨k1, k2, k3, k4⟩
  | c :: L, [], b :: y, i, q, q', hl, _, h => hl.elim
  | c :: L, b :: y, [], i, q, q', hl, _, h => hl.elim
theorem rte_mono {L : List Ct} {left left' : List Int} {s to now now' need need' : Int} (hn : need' ≤ need) (ht : now' ≤ now) (hl : LeL left left') (h : ¬ (rte L left s to now need).1 < 0) :
    ¬ (rte L left' s to now' need').1 < 0 ∧ (rte L left' s to now' need').2 ≤ (rte L left s to now need).2 := by
  have := rteL_mono (node := s) hn ht (E := ear need L left to) (E' := ear need' L left' to) (fun s t t' h => ear_mono hn L left left' hl to s h) L left left' 0 (-1, never) (-1, never) hl (by omega)
    ⟨Int.le_refl _, fun h => absurd h (Int.lt_irrefl _), fun h => absurd h (by decide), Int.le_refl _⟩
  obtain ⟨k1, k2, k3, k4⟩ := this
  unfold rte at h ⊢
  have g := k3 (by omega)
  exact ⟨by have := k2 (by omega); omega, k1⟩
end Go.Proofs.YtmogplhglcodjaaV
