/- Ways through a plan, with no program in sight: what can be reached, how the nearest is sought, and by rounds; both tell the earliest arrival. -/
import Derived.Test.YtiompmmbjpjjeaaDoorVPWords
namespace Go.Proofs.YtiompmmbjpjjeaaDoorV
open Go
set_option linter.unusedVariables false
abbrev Ct := T54
def never : Int := 1099511627776
/-- When one arrives by a contact. -/
def arrT (c : Ct) (t : Int) : Int := (if c.Start > t then c.Start else t) + c.Delay + 1
def fupd {α : Type} (f : Int → α) (n : Int) (x : α) : Int → α := fun m => if m = n then x else f m
theorem fupd_same {α : Type} (f : Int → α) (n : Int) (x : α) : fupd f n x n = x := by simp [fupd]
theorem fupd_ne {α : Type} (f : Int → α) {n m : Int} (x : α) (h : m ≠ n) : fupd f n x m = f m := by simp [fupd, h]
/-- A contact that may be. -/
structure CtOk (N : Int) (c : Ct) : Prop where
  f1 : 1 ≤ c.From
  f2 : c.From ≤ N
  t1 : 1 ≤ c.To
  t2 : c.To ≤ N
  s1 : 0 ≤ c.Start
  s2 : c.Start < c.End
  e2 : c.End ≤ 1048576
  d1 : 0 ≤ c.Delay
  d2 : c.Delay ≤ 4096
theorem arrT_gt {N : Int} {c : Ct} (h : CtOk N c) (t : Int) : t < arrT c t := by
  have := h.d1
  unfold arrT; split <;> omega
theorem arrT_mono {c : Ct} {t u : Int} (h : t ≤ u) : arrT c t ≤ arrT c u := by unfold arrT; split <;> split <;> omega
/-- By so many contacts one can be at a node at a moment. -/
inductive Rch (L : List Ct) (left : List Int) (need s now : Int) : Nat → Int → Int → Prop
  | base : Rch L left need s now 0 s now
  | step {k : Nat} {n t : Int} {i : Nat} {c : Ct} {l : Int} (h : Rch L left need s now k n t) (hc : L[i]? = some c) (hl : left[i]? = some l) (hn : need ≤ l) (hf : c.From = n) (ht : t < c.End) : Rch L left need s now (k + 1) c.To (arrT c t)
section
variable {L : List Ct} {left : List Int} {need s now N : Int}
theorem Rch.node (hL : ∀ c ∈ L, CtOk N c) (h1 : 1 ≤ s) (h2 : s ≤ N) {k : Nat} {n t : Int} (h : Rch L left need s now k n t) : 1 ≤ n ∧ n ≤ N := by
  cases h with
  | base => exact ⟨h1, h2⟩
  | step h hc hl hn hf ht => have := hL _ (List.mem_of_getElem? hc); exact ⟨this.t1, this.t2⟩
theorem Rch.le (hL : ∀ c ∈ L, CtOk N c) {k : Nat} {n t : Int} (h : Rch L left need s now k n t) : now ≤ t := by
  induction h with
  | base => exact Int.le_refl _
  | step h hc hl hn hf ht ih => have := arrT_gt (hL _ (List.mem_of_getElem? hc)) ‹Int›; rename_i t _ _ _ ; have := arrT_gt (hL _ (List.mem_of_getElem? hc)) t; omega
theorem Rch.bound (hL : ∀ c ∈ L, CtOk N c) (hn : now ≤ 1052674) {k : Nat} {n t : Int} (h : Rch L left need s now k n t) : t ≤ 1052674 := by
  cases h with
  | base => exact hn
  | step h hc hl hn hf ht =>
    have := hL _ (List.mem_of_getElem? hc)
    have h1 := this.s2
    have h2 := this.e2
    have h3 := this.d2
    unfold arrT; split <;> omega
end
/-! The nearest first. -/
abbrev Two := (Int → Int) × (Int → Bool)
def rlx1 (n t : Int) (q : Two) : Two := if q.2 n = false ∨ t < q.1 n then (fupd q.1 n t, fupd q.2 n true) else q
def relaxL (need node now : Int) : List Ct → List Int → Two → Two
  | c :: L, l :: left, q => relaxL need node now L left (if c.From = node ∧ need ≤ l ∧ now < c.End then rlx1 c.To (arrT c now) q else q)
  | _, _, q => q
theorem relaxL_spec (need node now : Int) : ∀ (L : List Ct) (left : List Int) (q : Two),
    (∀ n, q.2 n = true → (relaxL need node now L left q).2 n = true ∧ (relaxL need node now L left q).1 n ≤ q.1 n) ∧
    (∀ (i : Nat) c l, L[i]? = some c → left[i]? = some l → c.From = node → need ≤ l → now < c.End → (relaxL need node now L left q).2 c.To = true ∧ (relaxL need node now L left q).1 c.To ≤ arrT c now) ∧
    (∀ n, ((relaxL need node now L left q).1 n = q.1 n ∧ (relaxL need node now L left q).2 n = q.2 n) ∨ ∃ (i : Nat) (c : Ct) (l : Int), L[i]? = some c ∧ left[i]? = some l ∧ c.From = node ∧ need ≤ l ∧ now < c.End ∧ c.To = n ∧
      (relaxL need node now L left q).1 n = arrT c now ∧ (relaxL need node now L left q).2 n = true ∧ (q.2 n = false ∨ arrT c now < q.1 n))
  | [], left, q => ⟨fun n h => ⟨by simpa [relaxL] using h, by simp [relaxL]⟩, fun i c l h => by simp at h, fun n => .inl (by simp [relaxL])⟩
  | c :: L, [], q => ⟨fun n h => ⟨by simpa [relaxL] using h, by simp [relaxL]⟩, fun i c l _ h => by simp at h, fun n => .inl (by simp [relaxL])⟩
  | c :: L, l :: left, q => by
    simp only [relaxL]
    by_cases hc : c.From = node ∧ need ≤ l ∧ now < c.End
    · rw [if_pos hc]
      obtain ⟨A, B, C⟩ := relaxL_spec need node now L left (rlx1 c.To (arrT c now) q)
      have r1 : ∀ n, q.2 n = true → (rlx1 c.To (arrT c now) q).2 n = true ∧ (rlx1 c.To (arrT c now) q).1 n ≤ q.1 n := fun n h => by
        unfold rlx1
        split
        · rename_i hh
          by_cases e : n = c.To
          · subst e
            rcases hh with hh | hh
            · rw [h] at hh; cases hh
            · simp only [fupd_same]; exact ⟨trivial, by omega⟩
          · simp only [fupd_ne _ _ e]; exact ⟨h, Int.le_refl _⟩
        · exact ⟨h, Int.le_refl _⟩
      have r2 : (rlx1 c.To (arrT c now) q).2 c.To = true ∧ (rlx1 c.To (arrT c now) q).1 c.To ≤ arrT c now := by
        unfold rlx1
        split
        · simp only [fupd_same]; exact ⟨trivial, Int.le_refl _⟩
        · rename_i hh
          simp only [not_or, Bool.not_eq_false, Int.not_lt] at hh
          exact ⟨hh.1, hh.2⟩
      refine ⟨fun n h => ?_, fun i c' l' h1 h2 h3 h4 h5 => ?_, fun n => ?_⟩
      · obtain ⟨h1, h2⟩ := r1 n h
        obtain ⟨h3, h4⟩ := A n h1
        exact ⟨h3, by omega⟩
      · cases i with
        | zero =>
          simp at h1 h2; subst h1 h2
          obtain ⟨h6, h7⟩ := A _ r2.1
          exact ⟨h6, by omega⟩
        | succ i => exact B i c' l' (by simpa using h1) (by simpa using h2) h3 h4 h5
      · rcases C n with ⟨h1, h2⟩ | ⟨i, c', l', h1, h2, h3, h4, h5, h6, h7, h8, h9⟩
        · rw [h1, h2]
          unfold rlx1
          split
          · rename_i hh
            by_cases e : n = c.To
            · subst e
              refine .inr ⟨0, c, l, by simp, by simp, hc.1, hc.2.1, hc.2.2, rfl, ?_, ?_, ?_⟩
              · simp only [fupd_same]
              · simp only [fupd_same]
              · exact hh
            · exact .inl ⟨fupd_ne _ _ e, fupd_ne _ _ e⟩
          · exact .inl ⟨rfl, rfl⟩
        · refine .inr ⟨i + 1, c', l', by simpa using h1, by simpa using h2, h3, h4, h5, h6, h7, h8, ?_⟩
          rcases h9 with h9 | h9
          · cases hq : q.2 n with
            | false => exact .inl rfl
            | true => have := (r1 n hq).1; rw [h9] at this; cases this
          · cases hq : q.2 n with
            | false => exact .inl rfl
            | true => have := (r1 n hq).2; exact .inr (by omega)
    · rw [if_neg hc]
      obtain ⟨A, B, C⟩ := relaxL_spec need node now L left q
      refine ⟨A, fun i c' l' h1 h2 h3 h4 h5 => ?_, fun n => ?_⟩
      · cases i with
        | zero => simp at h1 h2; subst h1 h2; exact absurd ⟨h3, h4, h5⟩ hc
        | succ i => exact B i c' l' (by simpa using h1) (by simpa using h2) h3 h4 h5
      · rcases C n with h | ⟨i, c', l', h1, h2, h⟩
        · exact .inl h
        · exact .inr ⟨i + 1, c', l', by simpa using h1, by simpa using h2, h⟩
/-- The nearest of those that are known and not done. -/
def selS (N : Int) (at' : Int → Int) (kn dn : Int → Bool) : Nat → Int → Int → Int
  | 0, _, nx => nx
  | f + 1, n, nx => if n ≤ N then selS N at' kn dn f (n + 1) (if kn n = true ∧ dn n = false ∧ (nx = 0 ∨ at' n < at' nx) then n else nx) else nx
theorem selS_spec (N : Int) (at' : Int → Int) (kn dn : Int → Bool) : ∀ (f : Nat) (n nx : Int), N + 1 - n ≤ f → 1 ≤ n →
    ((nx = 0 ∧ ∀ m, 1 ≤ m → m < n → ¬ (kn m = true ∧ dn m = false)) ∨ (1 ≤ nx ∧ nx ≤ N ∧ kn nx = true ∧ dn nx = false ∧ ∀ m, 1 ≤ m → m < n → kn m = true → dn m = false → at' nx ≤ at' m)) →
    ((selS N at' kn dn f n nx = 0 ∧ ∀ m, 1 ≤ m → m ≤ N → ¬ (kn m = true ∧ dn m = false)) ∨ (1 ≤ selS N at' kn dn f n nx ∧ selS N at' kn dn f n nx ≤ N ∧ kn (selS N at' kn dn f n nx) = true ∧ dn (selS N at' kn dn f n nx) = false ∧
      ∀ m, 1 ≤ m → m ≤ N → kn m = true → dn m = false → at' (selS N at' kn dn f n nx) ≤ at' m))
  | 0, n, nx, hf, hn, h => by
    simp only [selS]
    rcases h with ⟨h1, h2⟩ | ⟨h1, h2, h3, h4, h5⟩
    · exact .inl ⟨h1, fun m a b => h2 m a (by omega)⟩
    · exact .inr ⟨h1, h2, h3, h4, fun m a b => h5 m a (by omega)⟩
  | f + 1, n, nx, hf, hn, h => by
    simp only [selS]
    split
    · rename_i hN
      refine selS_spec N at' kn dn f (n + 1) _ (by omega) (by omega) ?_
      split
      · rename_i hc
        refine .inr ⟨hn, hN, hc.1, hc.2.1, fun m a b k d => ?_⟩
        by_cases e : m = n
        · subst e; exact Int.le_refl _
        · rcases h with ⟨h1, h2⟩ | ⟨h1, h2, h3, h4, h5⟩
          · exact absurd ⟨k, d⟩ (h2 m a (by omega))
          · have := h5 m a (by omega) k d
            rcases hc.2.2 with q | q
            · omega
            · omega
      · rename_i hc
        rcases h with ⟨h1, h2⟩ | ⟨h1, h2, h3, h4, h5⟩
        · refine .inl ⟨h1, fun m a b => ?_⟩
          by_cases e : m = n
          · subst e; intro hh; exact hc ⟨hh.1, hh.2, .inl h1⟩
          · exact h2 m a (by omega)
        · refine .inr ⟨h1, h2, h3, h4, fun m a b k d => ?_⟩
          by_cases e : m = n
          · subst e
            have : ¬ (at' m < at' nx) := fun q => hc ⟨k, d, .inr q⟩
            omega
          · exact h5 m a (by omega) k d
    · rcases h with ⟨h1, h2⟩ | ⟨h1, h2, h3, h4, h5⟩
      · exact .inl ⟨h1, fun m a b => h2 m a (by omega)⟩
      · exact .inr ⟨h1, h2, h3, h4, fun m a b => h5 m a (by omega)⟩
def selN (N : Int) (at' : Int → Int) (kn dn : Int → Bool) : Int := selS N at' kn dn N.toNat 1 0
theorem selN_spec (N : Int) (hN : 0 ≤ N) (at' : Int → Int) (kn dn : Int → Bool) :
    ((selN N at' kn dn = 0 ∧ ∀ m, 1 ≤ m → m ≤ N → ¬ (kn m = true ∧ dn m = false)) ∨ (1 ≤ selN N at' kn dn ∧ selN N at' kn dn ≤ N ∧ kn (selN N at' kn dn) = true ∧ dn (selN N at' kn dn) = false ∧
      ∀ m, 1 ≤ m → m ≤ N → kn m = true → dn m = false → at' (selN N at' kn dn) ≤ at' m)) :=
  selS_spec N at' kn dn N.toNat 1 0 (by omega) (by omega) (.inl ⟨rfl, fun m a b => by omega⟩)
def dijS (N to need : Int) (L : List Ct) (left : List Int) : Nat → (Int → Int) → (Int → Bool) → (Int → Bool) → Two
  | 0, a, kn, _ => (a, kn)
  | f + 1, a, kn, dn => if selN N a kn dn = 0 ∨ selN N a kn dn = to then (a, kn) else
      dijS N to need L left f (relaxL need (selN N a kn dn) (a (selN N a kn dn)) L left (a, kn)).1 (relaxL need (selN N a kn dn) (a (selN N a kn dn)) L left (a, kn)).2 (fupd dn (selN N a kn dn) true)
def b2n (b : Bool) : Nat := if b then 0 else 1
def mu (dn : Int → Bool) : Nat := b2n (dn 1) + b2n (dn 2) + b2n (dn 3) + b2n (dn 4) + b2n (dn 5) + b2n (dn 6)
theorem mu_upd {dn : Int → Bool} {n : Int} (h1 : 1 ≤ n) (h2 : n ≤ 6) (h : dn n = false) : mu (fupd dn n true) + 1 = mu dn := by
  have : n = 1 ∨ n = 2 ∨ n = 3 ∨ n = 4 ∨ n = 5 ∨ n = 6 := by omega
  rcases this with rfl | rfl | rfl | rfl | rfl | rfl <;> simp [mu, fupd, h, b2n] <;> omega
structure DInv (L : List Ct) (left : List Int) (need s now N : Int) (K : Nat) (a : Int → Int) (kn dn : Int → Bool) : Prop where
  start : kn s = true ∧ a s ≤ now
  snd : ∀ n, kn n = true → ∃ k, k ≤ K ∧ Rch L left need s now k n (a n)
  known : ∀ n, dn n = true → kn n = true
  rel : ∀ n, dn n = true → ∀ (i : Nat) c l, L[i]? = some c → left[i]? = some l → c.From = n → need ≤ l → a n < c.End → kn c.To = true ∧ a c.To ≤ arrT c (a n)
  mono : ∀ d u, dn d = true → kn u = true → dn u = false → a d ≤ a u
  cnt : K + mu dn ≤ 6
/-- What is told of a node, at the end. -/
def Earliest (L : List Ct) (left : List Int) (need s now to : Int) (q : Two) : Prop :=
  (q.2 to = true → ∃ k, k ≤ 6 ∧ Rch L left need s now k to (q.1 to)) ∧ ∀ k t, Rch L left need s now k to t → q.2 to = true ∧ q.1 to ≤ t
theorem dijS_spec {L : List Ct} {left : List Int} {need s now N to : Int} (hL : ∀ c ∈ L, CtOk N c) (hN : 0 ≤ N) (hN6 : N ≤ 6) (hs1 : 1 ≤ s) (hs2 : s ≤ N) (ht1 : 1 ≤ to) (ht2 : to ≤ N) : ∀ (f : Nat) (K : Nat) (a : Int → Int) (kn dn : Int → Bool), mu dn < f → DInv L left need s now N K a kn dn →
    Earliest L left need s now to (dijS N to need L left f a kn dn)
  | 0, K, a, kn, dn, hf, I => by omega
  | f + 1, K, a, kn, dn, hf, I => by
    simp only [dijS]
    have hsel := selN_spec N hN a kn dn
    generalize hnx : selN N a kn dn = nx at *
    have hK := I.cnt
    split
    · rename_i hex
      refine ⟨fun h => ?_, fun k t h => ?_⟩
      · obtain ⟨k, h1, h2⟩ := I.snd to h
        exact ⟨k, by omega, h2⟩
      · rcases hsel with ⟨h0, hall⟩ | ⟨h1, h2, h3, h4, h5⟩
        · -- all that is known is done
          have main : ∀ k n t, Rch L left need s now k n t → kn n = true ∧ a n ≤ t := by
            intro k n t h
            induction h with
            | base => exact I.start
            | step h hc hl hn hf ht ih =>
              rename_i k n t i c l
              have hnode := h.node hL hs1 hs2
              have hd : dn n = true := by
                cases hq : dn n with
                | true => rfl
                | false => exact absurd ⟨ih.1, hq⟩ (hall n hnode.1 hnode.2)
              obtain ⟨r1, r2⟩ := I.rel n hd i c l hc hl hf hn (by omega)
              have := arrT_mono (c := c) ih.2
              exact ⟨r1, by omega⟩
          exact main k to t h
        · have hto : nx = to := by rcases hex with e | e <;> omega
          have main : ∀ k n t, Rch L left need s now k n t → (dn n = true ∧ a n ≤ t) ∨ a nx ≤ t := by
            intro k n t h
            have side : ∀ m t, 1 ≤ m → m ≤ N → kn m = true → a m ≤ t → (dn m = true ∧ a m ≤ t) ∨ a nx ≤ t := fun m t q1 q2 q3 q4 => by
              cases hq : dn m with
              | true => exact .inl ⟨rfl, q4⟩
              | false => have := h5 m q1 q2 q3 hq; exact .inr (by omega)
            induction h with
            | base => exact side s now hs1 hs2 I.start.1 I.start.2
            | step h hc hl hn hf ht ih =>
              rename_i k n t i c l
              have hok := hL _ (List.mem_of_getElem? hc)
              have hgt := arrT_gt hok t
              rcases ih with ⟨hd, hle⟩ | hle
              · obtain ⟨r1, r2⟩ := I.rel n hd i c l hc hl hf hn (by omega)
                have := arrT_mono (c := c) hle
                exact side c.To _ hok.t1 hok.t2 r1 (by omega)
              · exact .inr (by omega)
          subst hto
          rcases main k nx t h with ⟨hd, _⟩ | h6
          · rw [h4] at hd; cases hd
          · exact ⟨h3, h6⟩
    · rename_i hex
      simp only [not_or] at hex
      rcases hsel with ⟨h0, _⟩ | ⟨h1, h2, h3, h4, h5⟩
      · exact absurd h0 hex.1
      · obtain ⟨A, B, C⟩ := relaxL_spec need nx (a nx) L left (a, kn)
        generalize relaxL need nx (a nx) L left (a, kn) = q at *
        simp only at A B C
        have old : ∀ n, kn n = true → a n ≤ a nx → q.1 n = a n ∧ q.2 n = true := fun n hk hle => by
          rcases C n with ⟨e1, e2⟩ | ⟨i, c, l, c1, c2, c3, c4, c5, c6, c7, c8, c9⟩
          · exact ⟨e1, by rw [e2]; exact hk⟩
          · have := arrT_gt (hL _ (List.mem_of_getElem? c1)) (a nx)
            rcases c9 with c9 | c9
            · rw [hk] at c9; cases c9
            · omega
        have hmu := mu_upd h1 (by omega) h4
        refine dijS_spec hL hN hN6 hs1 hs2 ht1 ht2 f (K + 1) q.1 q.2 (fupd dn nx true) (by omega) ?_
        refine { start := ?_, snd := fun n hn => ?_, known := fun n hn => ?_, rel := fun n hn i c l c1 c2 c3 c4 c5 => ?_, mono := fun d u hd hu hdu => ?_, cnt := by omega }
        · obtain ⟨g1, g2⟩ := A s I.start.1
          exact ⟨g1, by have := I.start.2; omega⟩
        · rcases C n with ⟨e1, e2⟩ | ⟨i, c, l, c1, c2, c3, c4, c5, c6, c7, c8, c9⟩
          · rw [e2] at hn
            obtain ⟨k, g1, g2⟩ := I.snd n hn
            exact ⟨k, by omega, by rw [e1]; exact g2⟩
          · obtain ⟨k, g1, g2⟩ := I.snd nx h3
            refine ⟨k + 1, by omega, ?_⟩
            rw [c7, ← c6]
            exact .step g2 c1 c2 c4 c3 c5
        · by_cases e : n = nx
          · subst e; exact (old n h3 (Int.le_refl _)).2
          · rw [fupd_ne _ _ e] at hn
            have hk := I.known n hn
            exact (A n hk).1
        · by_cases e : n = nx
          · subst e
            have := (old n h3 (Int.le_refl _)).1
            rw [this] at c5 ⊢
            exact B i c l c1 c2 c3 c4 c5
          · rw [fupd_ne _ _ e] at hn
            have hk := I.known n hn
            have ho := (old n hk (I.mono n nx hn h3 h4)).1
            rw [ho] at c5 ⊢
            obtain ⟨r1, r2⟩ := I.rel n hn i c l c1 c2 c3 c4 c5
            obtain ⟨g1, g2⟩ := A c.To r1
            exact ⟨g1, by omega⟩
        · have hun : u ≠ nx := fun e => by rw [e, fupd_same] at hdu; cases hdu
          rw [fupd_ne _ _ hun] at hdu
          have hdv : a d ≤ a nx ∧ kn d = true := by
            by_cases e : d = nx
            · subst e; exact ⟨Int.le_refl _, h3⟩
            · rw [fupd_ne _ _ e] at hd
              exact ⟨I.mono d nx hd h3 h4, I.known d hd⟩
          have ho := (old d hdv.2 hdv.1).1
          rw [ho]
          rcases C u with ⟨e1, e2⟩ | ⟨i, c, l, c1, c2, c3, c4, c5, c6, c7, c8, c9⟩
          · rw [e2] at hu
            rw [e1]
            by_cases hin : 1 ≤ u ∧ u ≤ N
            · have := h5 u hin.1 hin.2 hu hdu; omega
            · obtain ⟨k, g1, g2⟩ := I.snd u hu
              exact absurd (g2.node hL hs1 hs2) hin
          · have := arrT_gt (hL _ (List.mem_of_getElem? c1)) (a nx)
            rw [c7]; omega
/-! By rounds. -/
def bfL (need : Int) : List Ct → List Int → (Int → Int) → (Int → Int)
  | c :: L, l :: left, a => bfL need L left (if a c.From < c.End ∧ need ≤ l ∧ arrT c (a c.From) < a c.To then fupd a c.To (arrT c (a c.From)) else a)
  | _, _, a => a
def bfN (need : Int) (L : List Ct) (left : List Int) : Nat → (Int → Int) → (Int → Int)
  | 0, a => a
  | f + 1, a => bfN need L left f (bfL need L left a)
theorem bfL_le (need : Int) : ∀ (L : List Ct) (left : List Int) (a : Int → Int) (n : Int), bfL need L left a n ≤ a n
  | [], left, a, n => by simp [bfL]
  | c :: L, [], a, n => by simp [bfL]
  | c :: L, l :: left, a, n => by
    simp only [bfL]
    refine Int.le_trans (bfL_le need L left _ n) ?_
    split
    · rename_i h
      by_cases e : n = c.To
      · subst e; rw [fupd_same]; omega
      · rw [fupd_ne _ _ e]; exact Int.le_refl _
    · exact Int.le_refl _
theorem bfL_edge (need : Int) : ∀ (L : List Ct) (left : List Int) (a : Int → Int) (i : Nat) (c : Ct) (l : Int), L[i]? = some c → left[i]? = some l → need ≤ l → a c.From < c.End → bfL need L left a c.To ≤ arrT c (a c.From)
  | [], left, a, i, c, l, h, _, _, _ => by simp at h
  | c0 :: L, [], a, i, c, l, _, h, _, _ => by simp at h
  | c0 :: L, l0 :: left, a, i, c, l, h1, h2, h3, h4 => by
    simp only [bfL]
    cases i with
    | zero =>
      simp at h1 h2; subst h1 h2
      refine Int.le_trans (bfL_le need L left _ _) ?_
      split
      · rw [fupd_same]; exact Int.le_refl _
      · rename_i h
        have : ¬ (arrT c0 (a c0.From) < a c0.To) := fun q => h ⟨h4, h3, q⟩
        omega
    | succ i =>
      have hle : ∀ n, (if a c0.From < c0.End ∧ need ≤ l0 ∧ arrT c0 (a c0.From) < a c0.To then fupd a c0.To (arrT c0 (a c0.From)) else a) n ≤ a n := fun n => by
        split
        · by_cases e : n = c0.To
          · subst e; rw [fupd_same]; omega
          · rw [fupd_ne _ _ e]; exact Int.le_refl _
        · exact Int.le_refl _
      have := bfL_edge need L left _ i c l (by simpa using h1) (by simpa using h2) h3 (Int.lt_of_le_of_lt (hle c.From) h4)
      exact Int.le_trans this (arrT_mono (hle c.From))
theorem bfL_snd {need s now : Int} {L0 : List Ct} {left0 : List Int} (hnv : ∀ c ∈ L0, c.End ≤ never) : ∀ (L : List Ct) (left : List Int) (a : Int → Int), (∀ (i : Nat) (c : Ct) (l : Int), L[i]? = some c → left[i]? = some l → ∃ j : Nat, L0[j]? = some c ∧ left0[j]? = some l) → (∀ n, a n = never ∨ ∃ k, Rch L0 left0 need s now k n (a n)) →
    ∀ n, bfL need L left a n = never ∨ ∃ k, Rch L0 left0 need s now k n (bfL need L left a n)
  | [], left, a, _, h => by simpa [bfL] using h
  | c :: L, [], a, _, h => by simpa [bfL] using h
  | c :: L, l :: left, a, hsub, h => by
    simp only [bfL]
    refine bfL_snd hnv L left _ (fun i c' l' h1 h2 => hsub (i + 1) c' l' (by simpa using h1) (by simpa using h2)) fun n => ?_
    split
    · rename_i hc
      by_cases e : n = c.To
      · subst e
        rw [fupd_same]
        obtain ⟨j, j1, j2⟩ := hsub 0 c l (by simp) (by simp)
        rcases h c.From with h0 | ⟨k, hk⟩
        · have := hnv c (List.mem_of_getElem? j1)
          rw [h0] at hc; omega
        · exact .inr ⟨k + 1, .step hk j1 j2 hc.2.1 rfl hc.1⟩
      · rw [fupd_ne _ _ e]; exact h n
    · exact h n
theorem bfN_snd {need s now : Int} {L : List Ct} {left : List Int} (hnv : ∀ c ∈ L, c.End ≤ never) : ∀ (f : Nat) (a : Int → Int), (∀ n, a n = never ∨ ∃ k, Rch L left need s now k n (a n)) → ∀ n, bfN need L left f a n = never ∨ ∃ k, Rch L left need s now k n (bfN need L left f a n)
  | 0, a, h => h
  | f + 1, a, h => bfN_snd hnv f _ (bfL_snd hnv L left a (fun i c l h1 h2 => ⟨i, h1, h2⟩) h)
theorem bfN_le (need : Int) (L : List Ct) (left : List Int) : ∀ (f : Nat) (a : Int → Int) (n : Int), bfN need L left f a n ≤ a n
  | 0, a, n => Int.le_refl _
  | f + 1, a, n => Int.le_trans (bfN_le need L left f _ n) (bfL_le need L left a n)
theorem bfN_cmp {need s now : Int} {L : List Ct} {left : List Int} : ∀ (f j : Nat) (a : Int → Int), (∀ k n t, k ≤ j → Rch L left need s now k n t → a n ≤ t) → ∀ k n t, k ≤ j + f → Rch L left need s now k n t → bfN need L left f a n ≤ t
  | 0, j, a, h, k, n, t, hk, hr => h k n t (by omega) hr
  | f + 1, j, a, h, k, n, t, hk, hr => by
    refine bfN_cmp f (j + 1) (bfL need L left a) (fun k n t hk hr => ?_) k n t (by omega) hr
    by_cases e : k ≤ j
    · exact Int.le_trans (bfL_le need L left a n) (h k n t e hr)
    · cases hr with
      | base => omega
      | step hr hc hl hn hf ht =>
        rename_i k n t i c l
        have h1 := h k n t (by omega) hr
        subst hf
        exact Int.le_trans (bfL_edge need L left a i c l hc hl hn (by omega)) (arrT_mono h1)
def bf0 (s now : Int) : Int → Int := fupd (fun _ => never) s now
/-- Both tell the same. -/
theorem both {L : List Ct} {left : List Int} {need s now N to : Int} (hL : ∀ c ∈ L, CtOk N c) (hnow : now ≤ 1052674) (hN6 : N ≤ 6) (q : Two) (h : Earliest L left need s now to q) :
    (q.2 to = true → bfN need L left 8 (bf0 s now) to = q.1 to) ∧ (q.2 to = false → bfN need L left 8 (bf0 s now) to = never) := by
  have snd := bfN_snd (need := need) (s := s) (now := now) (left := left) (fun c hc => by have := (hL c hc).e2; unfold never; omega) 8 (bf0 s now) (fun n => by
    unfold bf0
    by_cases e : n = s
    · subst e; rw [fupd_same]; exact .inr ⟨0, .base⟩
    · rw [fupd_ne _ _ e]; exact .inl rfl) to
  have cmp := bfN_cmp (need := need) (s := s) (now := now) (L := L) (left := left) 8 0 (bf0 s now) (fun k n t hk hr => by
    cases hr with
    | base => unfold bf0; rw [fupd_same]; exact Int.le_refl _
    | step => omega)
  obtain ⟨h1, h2⟩ := h
  refine ⟨fun hq => ?_, fun hq => ?_⟩
  · obtain ⟨k, hk, hr⟩ := h1 hq
    have le := cmp k to _ (by omega) hr
    rcases snd with e | ⟨k', hr'⟩
    · have := hr.bound hL hnow
      rw [e] at le
      unfold never at le
      omega
    · have := (h2 k' _ hr').2
      omega
  · rcases snd with e | ⟨k', hr'⟩
    · exact e
    · have := (h2 k' _ hr').1
      rw [hq] at this; cases this
end Go.Proofs.YtiompmmbjpjjeaaDoorV
