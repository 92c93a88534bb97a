/- What the plan's search answers: the earliest arrival; and the way that begins so. -/
import Derived.Test.YtmogplhglcodjaaVPPlanC
import Derived.Test.YtmogplhglcodjaaVP5
namespace Go.Proofs.YtmogplhglcodjaaV
open Go
set_option linter.unusedVariables false
set_option linter.unusedSimpArgs false
/-- Seven cells. -/
def LF {α : Type} (l : List α) (f : Int → α) : Prop := l.length = 7 ∧ ∀ n : Int, 0 ≤ n → n < 7 → l[n.toNat]? = some (f n)
theorem LF.head {α : Type} {l : List α} {f : Int → α} (h : LF l f) {n : Int} (h0 : 0 ≤ n) (h1 : n < 7) : List.head? (List.drop n.toNat l) = some (f n) := by
  rw [List.head?_drop]; exact h.2 n h0 h1
theorem LF.set {α : Type} {l : List α} {f : Int → α} (h : LF l f) {n : Int} (h0 : 0 ≤ n) (h1 : n < 7) (x : α) : LF (List.take n.toNat l ++ (x :: List.drop (n.toNat + 1) l)) (fupd f n x) := by
  have hl := h.1
  have e : List.take n.toNat l ++ (x :: List.drop (n.toNat + 1) l) = l.set n.toNat x := by
    rw [List.set_eq_take_append_cons_drop, if_pos (by omega)]
  rw [e]
  refine ⟨by simpa using hl, fun m m0 m1 => ?_⟩
  rw [List.getElem?_set]
  by_cases hm : n.toNat = m.toNat
  · have : n = m := by omega
    subst this
    rw [if_pos rfl, if_pos (by omega), fupd_same]
  · rw [if_neg hm, fupd_ne _ _ (by intro q; exact hm (by rw [q]))]
    exact h.2 m m0 m1
theorem LF.rep {α : Type} (x : α) : LF (List.replicate 7 x) (fun _ => x) := ⟨by simp, fun n h0 h1 => by rw [List.getElem?_replicate, if_pos (by omega)]⟩
theorem arrT_le {N : Int} {c : Ct} (h : CtOk N c) {t : Int} (ht : t < c.End) : arrT c t ≤ 1052674 := by
  have := h.s2; have := h.e2; have := h.d2
  unfold arrT; split <;> omega
theorem arr_wrap {N : Int} {c : Ct} (h : CtOk N c) {t : Int} (h0 : 0 ≤ t) (h1 : t ≤ 1099511627776) : IntKind.i64.wrap ((IntKind.i64.wrap ((if c.Start > t then c.Start else t) + c.Delay)) + (1 : Int)) = arrT c t := by
  have := h.s1; have := h.s2; have := h.e2; have := h.d1; have := h.d2
  unfold arrT
  have e : -9223372036854775808 ≤ (if c.Start > t then c.Start else t) + c.Delay ∧ (if c.Start > t then c.Start else t) + c.Delay < 9223372036854775807 := by split <;> omega
  rw [wrap_i64 e.1 (by omega), wrap_i64 (by omega) (by omega)]
section
variable {k : Nat} {N need : Int} {L : List Ct} {left : List Int}
theorem rnda_at (hk : 1 ≤ k) {i : Nat} {c : Ct} (hc : L[i]? = some c) (h0 : 0 ≤ c.To) (h1 : c.To < 7) (t : Int) {e2 : List Int} {e3 : List Bool} {q : Two} (h2 : LF e2 q.1) (h3 : LF e3 q.2) :
    ∃ e2' e3', f999999999_iiy_lpppbirribLbL k i t N L left need e2 e3 = some (.o0 N L left need e2' e3') ∧ LF e2' (rlx1 c.To t q).1 ∧ LF e3' (rlx1 c.To t q).2 := by
  obtain ⟨k, rfl⟩ : ∃ m, k = m + 1 := ⟨k - 1, by omega⟩
  have l2 := h2.1
  have l3 := h3.1
  simp only [f999999999_iiy_lpppbirribLbL, f999999999_iiy_lpppbirribLbL_e, ifE_pos (show (0 : Int) ≤ (i : Int) by omega), Int.toNat_natCast, hc, Option.bind_some, ifE_pos h0, ifE_pos h1, h3.head h0 h1, h2.head h0 h1]
  unfold rlx1
  cases hk : q.2 c.To with
  | false =>
    simp only [Bool.not_false, cond_true, ifE_pos (show c.To.toNat + 1 ≤ e2.length by omega), ifE_pos (show c.To.toNat + 1 ≤ e3.length by omega), true_or, if_true]
    exact ⟨_, _, rfl, h2.set h0 h1 t, h3.set h0 h1 true⟩
  | true =>
    simp only [Bool.not_true, cond_false, Bool.true_eq_false, false_or]
    by_cases hlt : t < q.1 c.To
    · simp only [decide_eq_true hlt, cond_true, ifE_pos (show c.To.toNat + 1 ≤ e2.length by omega), ifE_pos (show c.To.toNat + 1 ≤ e3.length by omega), if_pos hlt]
      exact ⟨_, _, rfl, h2.set h0 h1 t, h3.set h0 h1 true⟩
    · simp only [decide_eq_false hlt, cond_false, if_neg hlt]
      exact ⟨_, _, rfl, h2, h3⟩
theorem froma_l1 (hk : 1 ≤ k) (hL : ∀ c ∈ L, CtOk N c) (hN : N ≤ 6) (hlen : left.length = L.length) (hl : L.length ≤ 24) {node now : Int} (n0 : 0 ≤ now) (n1 : now ≤ 1099511627776) : ∀ (d i n : Nat) (e2 : List Int) (e3 : List Bool) (q : Two), i + d = L.length → d < n → LF e2 q.1 → LF e3 q.2 →
    ∃ e2' e3', f29_yppp_lpppbirribLbLbirribibi_l1 k n L L.length i N L left need e2 e3 N L left need node now = some (.o1 L L.length L.length false N L left need e2' e3' N L left need node now) ∧ LF e2' (relaxL need node now (L.drop i) (left.drop i) q).1 ∧ LF e3' (relaxL need node now (L.drop i) (left.drop i) q).2 := by
  intro d
  induction d with
  | zero =>
    intro i n e2 e3 q hi hn h2 h3
    obtain ⟨n, rfl⟩ : ∃ m, n = m + 1 := ⟨n - 1, by omega⟩
    have e3 : i = L.length := by omega
    subst e3
    simp only [f29_yppp_lpppbirribLbLbirribibi_l1, f29_yppp_lpppbirribLbLbirribibi_l1_b, decide_eq_false (show ¬ ((L.length : Int) < (L.length : Int)) by omega), cond_false, Option.bind_some, List.drop_length, relaxL]
    exact ⟨_, _, rfl, h2, h3⟩
  | succ d ih =>
    intro i n e2 e3 q hi hn h2 h3
    obtain ⟨n, rfl⟩ : ∃ m, n = m + 1 := ⟨n - 1, by omega⟩
    have h1 : i < L.length := by omega
    have h1' : i < left.length := by omega
    have g1 : L[i]? = some L[i] := List.getElem?_eq_getElem h1
    have g2 : left[i]? = some left[i] := List.getElem?_eq_getElem h1'
    have hlt : ((i : Int) < (L.length : Int)) := by omega
    have hw := nat_next h1 (by omega)
    have hok := hL _ (List.getElem_mem h1)
    rw [List.drop_eq_getElem_cons h1, List.drop_eq_getElem_cons h1', relaxL]
    generalize L[i] = c at *
    generalize left[i] = l at *
    have t1 := hok.t1
    have t2 := hok.t2
    obtain ⟨e2', e3', r1, r2, r3⟩ := rnda_at (N := N) (need := need) (left := left) hk g1 (by omega) (by omega) (arrT c now) h2 h3
    have ihA := ih (i + 1) n e2' e3' _ (by omega) (by omega) r2 r3
    have ihB := ih (i + 1) n e2 e3 q (by omega) (by omega) h2 h3
    simp only [f29_yppp_lpppbirribLbLbirribibi_l1, f29_yppp_lpppbirribLbLbirribibi_l1_b, f29_yppp_lpppbirribLbLbirribibi_l1_j1, f29_yppp_lpppbirribLbLbirribibi_l1_j2, decide_eq_true hlt, cond_true, ifE_pos (show (0 : Int) ≤ (i : Int) by omega), Int.toNat_natCast, g1, g2, Option.bind_some, arr_wrap hok n0 n1, hw]
    by_cases c1 : c.From = node
    · simp only [show (c.From == node) = true by simpa using c1, cond_true]
      by_cases c2 : need ≤ l
      · simp only [decide_eq_true c2, cond_true]
        by_cases c3 : now < c.End
        · simp only [decide_eq_true c3, cond_true, r1, Option.bind_some, if_pos (show c.From = node ∧ need ≤ l ∧ now < c.End from ⟨c1, c2, c3⟩)]
          exact ihA
        · simp only [decide_eq_false c3, cond_false, Option.bind_some, if_neg (show ¬ (c.From = node ∧ need ≤ l ∧ now < c.End) from fun h => c3 h.2.2)]
          exact ihB
      · simp only [decide_eq_false c2, cond_false, Option.bind_some, if_neg (show ¬ (c.From = node ∧ need ≤ l ∧ now < c.End) from fun h => c2 h.2.1)]
        exact ihB
    · simp only [show (c.From == node) = false by simpa using c1, cond_false, Option.bind_some, if_neg (show ¬ (c.From = node ∧ need ≤ l ∧ now < c.End) from fun h => c1 h.1)]
      exact ihB
theorem froma_at (hk : 26 ≤ k) (hL : ∀ c ∈ L, CtOk N c) (hN : N ≤ 6) (hlen : left.length = L.length) (hl : L.length ≤ 24) {node now : Int} (n0 : 0 ≤ now) (n1 : now ≤ 1099511627776) {e2 : List Int} {e3 : List Bool} {q : Two} (h2 : LF e2 q.1) (h3 : LF e3 q.2) :
    ∃ e2' e3', f29_yppp_lpppbirribLbLbirribibi k N L left need e2 e3 N L left need node now = some (.o0 N L left need e2' e3' N L left need node now) ∧ LF e2' (relaxL need node now L left q).1 ∧ LF e3' (relaxL need node now L left q).2 := by
  obtain ⟨k, rfl⟩ : ∃ m, k = m + 1 := ⟨k - 1, by omega⟩
  obtain ⟨e2', e3', r1, r2, r3⟩ := froma_l1 (k := k) (need := need) (by omega) hL hN hlen hl (node := node) n0 n1 L.length 0 k e2 e3 q (by omega) (by omega) h2 h3
  rw [List.drop_zero, List.drop_zero] at r2 r3
  have e0 : ((0 : Nat) : Int) = 0 := rfl
  rw [e0] at r1
  simp only [f29_yppp_lpppbirribLbLbirribibi, f29_yppp_lpppbirribLbLbirribibi_e, r1, Option.bind_some]
  exact ⟨_, _, rfl, r2, r3⟩
theorem sel_l (hN : N ≤ 6) (to : Int) {a : List Int} {kn dn : List Bool} {at' : Int → Int} {kn' dn' : Int → Bool} (ha : LF a at') (hk : LF kn kn') (hd : LF dn dn') : ∀ (f n : Nat) (nx : Int) (m : Nat), N + 1 - n = f → 1 ≤ n → 0 ≤ nx → nx ≤ 6 → f < m →
    f23_airriziii_s1_l1_l1 k m to nx n N L left need a kn dn = some (.o1 to (selS N at' kn' dn' f n nx) (N + 1) false N L left need a kn dn) := by
  intro f
  induction f with
  | zero =>
    intro n nx m hn h1 x0 x6 hm
    obtain ⟨m, rfl⟩ : ∃ j, m = j + 1 := ⟨m - 1, by omega⟩
    have e : (n : Int) = N + 1 := by omega
    simp only [f23_airriziii_s1_l1_l1, f23_airriziii_s1_l1_l1_b, decide_eq_false (show ¬ ((n : Int) ≤ N) by omega), cond_false, Option.bind_some, selS]
    rw [e]
  | succ f ih =>
    intro n nx m hn h1 x0 x6 hm
    obtain ⟨m, rfl⟩ : ∃ j, m = j + 1 := ⟨m - 1, by omega⟩
    have hle : (n : Int) ≤ N := by omega
    have hw : IntKind.i64.wrap ((n : Int) + 1) = ((n + 1 : Nat) : Int) := by rw [wrap_i64 (by omega) (by omega)]; rfl
    have n0 : (0 : Int) ≤ (n : Int) := by omega
    have n7 : (n : Int) < 7 := by omega
    have ihA := ih (n + 1) n m (by omega) (by omega) (by omega) (by omega) (by omega)
    have ihB := ih (n + 1) nx m (by omega) (by omega) (by omega) (by omega) (by omega)
    have hcast : ((n + 1 : Nat) : Int) = (n : Int) + 1 := rfl
    rw [hcast] at ihA ihB
    rw [selS, if_pos hle]
    simp only [f23_airriziii_s1_l1_l1, f23_airriziii_s1_l1_l1_b, f23_airriziii_s1_l1_l1_j1, f23_airriziii_s1_l1_l1_j2, f23_airriziii_s1_l1_l1_j3, decide_eq_true hle, cond_true, ifE_pos n0, ifE_pos n7, hk.head n0 n7, hd.head n0 n7, ha.head n0 n7, ifE_pos x0, ifE_pos (show nx < 7 by omega), ha.head x0 (show nx < 7 by omega), Option.bind_some, hw, hcast]
    cases h2 : kn' n with
    | false =>
      simp only [cond_false, Option.bind_some, ihB, Bool.false_eq_true, false_and, if_false]
    | true =>
      simp only [cond_true, true_and]
      cases h3 : dn' n with
      | true => simp only [Bool.not_true, cond_false, Option.bind_some, ihB, Bool.true_eq_false, false_and, if_false]
      | false =>
        simp only [Bool.not_false, cond_true, true_and]
        by_cases h4 : nx = 0
        · simp only [show (nx == 0) = true by simpa using h4, cond_true, Option.bind_some, ihA, if_pos (show nx = 0 ∨ at' n < at' nx from .inl h4)]
        · simp only [show (nx == 0) = false by simpa using h4, cond_false, h4, false_or]
          by_cases h5 : at' n < at' nx
          · simp only [decide_eq_true h5, cond_true, Option.bind_some, ihA, if_pos h5]
          · simp only [decide_eq_false h5, cond_false, Option.bind_some, ihB, if_neg h5]
theorem dij_l (hk : 30 ≤ k) (hL : ∀ c ∈ L, CtOk N c) (hN1 : 1 ≤ N) (hN : N ≤ 6) (hlen : left.length = L.length) (hl : L.length ≤ 24) (to : Int) : ∀ (f m : Nat) (a : List Int) (kn dn : List Bool) (at' : Int → Int) (kn' dn' : Int → Bool), mu dn' < f → f ≤ m → LF a at' → LF kn kn' → LF dn dn' → (∀ n, kn' n = true → 0 ≤ at' n ∧ at' n ≤ 1099511627776) →
    ∃ nx a2 kn2 dn2, f23_airriziii_s1_l1 k m to N L left need a kn dn = some (.o0 to nx true N L left need a2 kn2 dn2) ∧ LF a2 (dijS N to need L left f at' kn' dn').1 ∧ LF kn2 (dijS N to need L left f at' kn' dn').2 := by
  intro f
  induction f with
  | zero => intro m a kn dn at' kn' dn' h; omega
  | succ f ih =>
    intro m a kn dn at' kn' dn' hmu hm ha hkn hdn hb
    obtain ⟨m, rfl⟩ : ∃ j, m = j + 1 := ⟨m - 1, by omega⟩
    have hsel := sel_l (k := k) (need := need) (L := L) (left := left) hN to ha hkn hdn N.toNat 1 0 k (by omega) (by omega) (by omega) (by omega) (by omega)
    have e1 : ((1 : Nat) : Int) = 1 := rfl
    rw [e1, show selS N at' kn' dn' N.toNat 1 0 = selN N at' kn' dn' from rfl] at hsel
    have hspec := selN_spec N (by omega) at' kn' dn'
    simp only [f23_airriziii_s1_l1, f23_airriziii_s1_l1_b, hsel, Option.bind_some, f23_airriziii_s1_l1_j2, dijS]
    generalize selN N at' kn' dn' = nx at *
    by_cases h0 : nx = 0
    · simp only [show (nx == 0) = true by simpa using h0, cond_true, Option.bind_some, if_pos (show nx = 0 ∨ nx = to from .inl h0)]
      exact ⟨_, _, _, _, rfl, ha, hkn⟩
    · simp only [show (nx == 0) = false by simpa using h0, cond_false]
      by_cases h1 : nx = to
      · simp only [show (nx == to) = true by simpa using h1, cond_true, Option.bind_some, if_pos (show nx = 0 ∨ nx = to from .inr h1)]
        exact ⟨_, _, _, _, rfl, ha, hkn⟩
      · simp only [show (nx == to) = false by simpa using h1, cond_false, if_neg (show ¬ (nx = 0 ∨ nx = to) by omega)]
        rcases hspec with ⟨q, _⟩ | ⟨q1, q2, q3, q4, _⟩
        · exact absurd q h0
        · have ld := hdn.1
          obtain ⟨b0, b1⟩ := hb nx q3
          obtain ⟨a2, kn2, r1, r2, r3⟩ := froma_at (k := k) (need := need) (node := nx) (by omega) hL hN hlen hl b0 b1 (q := (at', kn')) ha hkn
          have hfrom : f22_airrizii k N L left need nx (at' nx) = some (.o0 N L left need nx (at' nx)) := by
            obtain ⟨k, rfl⟩ : ∃ m, k = m + 1 := ⟨k - 1, by omega⟩
            rfl
          simp only [f23_airriziii_s1_l1_j3, ifE_pos (show (0 : Int) ≤ nx by omega), ifE_pos (show nx < 7 by omega), ifE_pos (show nx.toNat + 1 ≤ dn.length by omega), ha.head (show (0 : Int) ≤ nx by omega) (show nx < 7 by omega), Option.bind_some, hfrom, r1]
          refine ih m a2 kn2 _ _ _ (fupd dn' nx true) (by have := mu_upd q1 (by omega) q4; omega) (by omega) r2 r3 (hdn.set (by omega) (by omega) true) fun n hn => ?_
          rcases (relaxL_spec need nx (at' nx) L left (at', kn')).2.2 n with ⟨g1, g2⟩ | ⟨i, c, l, c1, _, _, _, c5, _, c7, _⟩
          · rw [g2] at hn; rw [g1]; exact hb n hn
          · have hok := hL _ (List.mem_of_getElem? c1)
            have g1 := arrT_gt hok (at' nx)
            have g2 := arrT_le hok c5
            rw [c7]
            omega
theorem arr_at (hk : 40 ≤ k) (hL : ∀ c ∈ L, CtOk N c) (hN1 : 1 ≤ N) (hN : N ≤ 6) (hlen : left.length = L.length) (hl : L.length ≤ 24) {s to now : Int} (hs1 : 1 ≤ s) (hs2 : s ≤ N) (ht1 : 1 ≤ to) (ht2 : to ≤ N) (n0 : 0 ≤ now) (n1 : now ≤ 1052674) :
    ∃ a b, f23_airriziii k N L left need s to now = some (.o0 a b) ∧ (b = true → a = bfN need L left 8 (bf0 s now) to ∧ a < never) ∧ (b = false → bfN need L left 8 (bf0 s now) to = never) := by
  obtain ⟨k, rfl⟩ : ∃ m, k = m + 1 := ⟨k - 1, by omega⟩
  have d1 := (LF.rep (0 : Int)).set (n := s) (by omega) (by omega) now
  have d2 := (LF.rep false).set (n := s) (by omega) (by omega) true
  have hm : mu (fun _ => false) < 7 := by decide
  obtain ⟨nx, a2, kn2, dn2, r1, r2, r3⟩ := dij_l (k := k) (need := need) (by omega) hL hN1 hN hlen hl to 7 k _ _ _ _ _ _ hm (by omega) d1 d2 (LF.rep false) (fun n hn => by
    by_cases e : n = s
    · subst e; rw [fupd_same]; omega
    · rw [fupd_ne _ _ e] at hn; cases hn)
  have I : DInv L left need s now N 0 (fupd (fun _ => (0 : Int)) s now) (fupd (fun _ => false) s true) (fun _ => false) := by
    refine { start := ⟨fupd_same _ _ _, by rw [fupd_same]; exact Int.le_refl _⟩, snd := fun n hn => ?_, known := fun n hn => (by cases hn), rel := fun n hn => (by cases hn), mono := fun d u hd => (by cases hd), cnt := by decide }
    by_cases e : n = s
    · subst e; rw [fupd_same]; exact ⟨0, Nat.le_refl _, .base⟩
    · rw [fupd_ne _ _ e] at hn; cases hn
  have hE := dijS_spec hL (by omega) hN hs1 hs2 ht1 ht2 7 0 _ _ _ hm I
  have hB := both hL (by omega) hN _ hE
  generalize dijS N to need L left 7 (fupd (fun _ => (0 : Int)) s now) (fupd (fun _ => false) s true) (fun _ => false) = q at *
  simp only [f23_airriziii, f23_airriziii_e, f23_airriziii_s1, f23_airriziii_s1_b, ifE_pos (show (0 : Int) ≤ s by omega), ifE_pos (show s < 7 by omega), ifE_pos (show s.toNat + 1 ≤ 7 by omega), r1, Option.bind_some, f23_airriziii_s1_j2, ifE_pos (show (0 : Int) ≤ to by omega), ifE_pos (show to < 7 by omega), r2.head (show (0 : Int) ≤ to by omega) (show to < 7 by omega), r3.head (show (0 : Int) ≤ to by omega) (show to < 7 by omega)]
  refine ⟨_, _, rfl, fun hb => ⟨(hB.1 hb).symm, ?_⟩, hB.2⟩
  obtain ⟨j, _, hj⟩ := hE.1 hb
  have := hj.bound hL (by omega)
  unfold never; omega
/-! The way. -/
/-- The earliest arrival at a node. -/
def ear (need : Int) (L : List Ct) (left : List Int) (to : Int) (s now : Int) : Int := bfN need L left 8 (bf0 s now) to
def rteL (need node now : Int) (E : Int → Int → Int) : List Ct → List Int → Int → Int × Int → Int × Int
  | c :: L, l :: left, i, q => rteL need node now E L left (i + 1) (if c.From = node ∧ now < c.End ∧ need ≤ l ∧ E c.To (arrT c now) < q.2 then (i, E c.To (arrT c now)) else q)
  | _, _, _, q => q
def Rel (first best : Int) (q : Int × Int) : Prop := first = q.1 ∧ (q.1 < 0 → q.2 = never) ∧ (0 ≤ q.1 → best = q.2) ∧ q.2 ≤ never
theorem rndr_at (hk : 41 ≤ k) (hL : ∀ c ∈ L, CtOk N c) (hN1 : 1 ≤ N) (hN : N ≤ 6) (hlen : left.length = L.length) (hl : L.length ≤ 24) {i : Nat} {c : Ct} (hc : L[i]? = some c) {to now first best : Int} {q : Int × Int} (ht1 : 1 ≤ to) (ht2 : to ≤ N) (n0 : 0 ≤ now) (n1 : now < c.End) (hq : Rel first best q) :
    ∃ f2 b2, f999999999_iiy_lpppppbirbibirribibi k i (arrT c now) N L to N L left need first best = some (.o0 N L to N L left need f2 b2) ∧ Rel f2 b2 (if ear need L left to c.To (arrT c now) < q.2 then ((i : Int), ear need L left to c.To (arrT c now)) else q) := by
  obtain ⟨k, rfl⟩ : ∃ m, k = m + 1 := ⟨k - 1, by omega⟩
  have hok := hL _ (List.mem_of_getElem? hc)
  have gt := arrT_gt hok now
  have := hok.s2; have := hok.e2; have := hok.d2
  have hb : arrT c now ≤ 1052674 := by unfold arrT; split <;> omega
  obtain ⟨a, b, r1, r2, r3⟩ := arr_at (k := k) (need := need) (by omega) hL hN1 hN hlen hl hok.t1 hok.t2 ht1 ht2 (now := arrT c now) (by omega) hb
  obtain ⟨q1, q2, q3, q4⟩ := hq
  simp only [f999999999_iiy_lpppppbirbibirribibi, f999999999_iiy_lpppppbirbibirribibi_e, ifE_pos (show (0 : Int) ≤ (i : Int) by omega), Int.toNat_natCast, hc, Option.bind_some, r1]
  cases b with
  | false =>
    have e3 : ear need L left to c.To (arrT c now) = never := r3 rfl
    simp only [cond_false, e3, if_neg (show ¬ never < q.2 by omega)]
    exact ⟨_, _, rfl, q1, q2, q3, q4⟩
  | true =>
    obtain ⟨e1, e2⟩ := r2 rfl
    have e3 : ear need L left to c.To (arrT c now) = a := e1.symm
    simp only [cond_true, e3]
    by_cases h : first < 0
    · have := q2 (by omega)
      simp only [decide_eq_true h, cond_true, if_pos (show a < q.2 by omega)]
      exact ⟨_, _, rfl, rfl, fun h => by simp at h; omega, fun _ => rfl, by simp only; omega⟩
    · have := q3 (by omega)
      simp only [decide_eq_false h, cond_false]
      by_cases h2 : a < best
      · simp only [decide_eq_true h2, cond_true, if_pos (show a < q.2 by omega)]
        exact ⟨_, _, rfl, rfl, fun h => by simp at h; omega, fun _ => rfl, by simp only; omega⟩
      · simp only [decide_eq_false h2, cond_false, if_neg (show ¬ a < q.2 by omega)]
        exact ⟨_, _, rfl, q1, q2, q3, q4⟩
theorem fromr_l1 (hk : 41 ≤ k) (hL : ∀ c ∈ L, CtOk N c) (hN1 : 1 ≤ N) (hN : N ≤ 6) (hlen : left.length = L.length) (hl : L.length ≤ 24) {node to now : Int} (ht1 : 1 ≤ to) (ht2 : to ≤ N) (n0 : 0 ≤ now) (n1 : now ≤ 1099511627776) : ∀ (d i n : Nat) (first best : Int) (q : Int × Int), i + d = L.length → d < n → Rel first best q →
    ∃ f2 b2, f29_yppp_lpppppbirbibirribibibirribibi_l1 k n L L.length i N L to N L left need first best N L left need node now = some (.o1 L L.length L.length false N L to N L left need f2 b2 N L left need node now) ∧ Rel f2 b2 (rteL need node now (ear need L left to) (L.drop i) (left.drop i) i q) := by
  intro d
  induction d with
  | zero =>
    intro i n first best q hi hn hq
    obtain ⟨n, rfl⟩ : ∃ m, n = m + 1 := ⟨n - 1, by omega⟩
    have e3 : i = L.length := by omega
    subst e3
    simp only [f29_yppp_lpppppbirbibirribibibirribibi_l1, f29_yppp_lpppppbirbibirribibibirribibi_l1_b, decide_eq_false (show ¬ ((L.length : Int) < (L.length : Int)) by omega), cond_false, Option.bind_some, List.drop_length, rteL]
    exact ⟨_, _, rfl, hq⟩
  | succ d ih =>
    intro i n first best q hi hn hq
    obtain ⟨n, rfl⟩ : ∃ m, n = m + 1 := ⟨n - 1, by omega⟩
    have h1 : i < L.length := by omega
    have h1' : i < left.length := by omega
    have g1 : L[i]? = some L[i] := List.getElem?_eq_getElem h1
    have g2 : left[i]? = some left[i] := List.getElem?_eq_getElem h1'
    have hlt : ((i : Int) < (L.length : Int)) := by omega
    have hw := nat_next h1 (by omega)
    have hok := hL _ (List.getElem_mem h1)
    have hcast : ((i + 1 : Nat) : Int) = (i : Int) + 1 := rfl
    rw [List.drop_eq_getElem_cons h1, List.drop_eq_getElem_cons h1', rteL]
    generalize L[i] = c at *
    generalize left[i] = l at *
    have ihB := ih (i + 1) n first best q (by omega) (by omega) hq
    rw [hcast] at ihB hw
    simp only [f29_yppp_lpppppbirbibirribibibirribibi_l1, f29_yppp_lpppppbirbibirribibibirribibi_l1_b, f29_yppp_lpppppbirbibirribibibirribibi_l1_j1, f29_yppp_lpppppbirbibirribibibirribibi_l1_j2, decide_eq_true hlt, cond_true, ifE_pos (show (0 : Int) ≤ (i : Int) by omega), Int.toNat_natCast, g1, g2, Option.bind_some, arr_wrap hok n0 n1, hw]
    by_cases c1 : c.From = node
    · simp only [show (c.From == node) = true by simpa using c1, cond_true]
      by_cases c2 : need ≤ l
      · simp only [decide_eq_true c2, cond_true]
        by_cases c3 : now < c.End
        · obtain ⟨f2, b2, r1, r2⟩ := rndr_at (need := need) (left := left) hk hL hN1 hN hlen hl g1 ht1 ht2 n0 c3 hq
          simp only [decide_eq_true c3, cond_true, r1, Option.bind_some]
          have ihA := ih (i + 1) n f2 b2 _ (by omega) (by omega) r2
          rw [hcast] at ihA
          by_cases c4 : ear need L left to c.To (arrT c now) < q.2
          · rw [if_pos c4] at ihA
            rw [if_pos (show c.From = node ∧ now < c.End ∧ need ≤ l ∧ ear need L left to c.To (arrT c now) < q.2 from ⟨c1, c3, c2, c4⟩)]
            exact ihA
          · rw [if_neg c4] at ihA
            rw [if_neg (show ¬ (c.From = node ∧ now < c.End ∧ need ≤ l ∧ ear need L left to c.To (arrT c now) < q.2) from fun h => c4 h.2.2.2)]
            exact ihA
        · simp only [decide_eq_false c3, cond_false, Option.bind_some, if_neg (show ¬ (c.From = node ∧ now < c.End ∧ need ≤ l ∧ ear need L left to c.To (arrT c now) < q.2) from fun h => c3 h.2.1)]
          exact ihB
      · simp only [decide_eq_false c2, cond_false, Option.bind_some, if_neg (show ¬ (c.From = node ∧ now < c.End ∧ need ≤ l ∧ ear need L left to c.To (arrT c now) < q.2) from fun h => c2 h.2.2.1)]
        exact ihB
    · simp only [show (c.From == node) = false by simpa using c1, cond_false, Option.bind_some, if_neg (show ¬ (c.From = node ∧ now < c.End ∧ need ≤ l ∧ ear need L left to c.To (arrT c now) < q.2) from fun h => c1 h.1)]
      exact ihB
theorem rteL_rel {need node now : Int} {E : Int → Int → Int} : ∀ (L : List Ct) (left : List Int) (i : Int) (q : Int × Int), 0 ≤ i → (q.1 < 0 ∨ q.1 < i) → -1 ≤ q.1 → (-1 ≤ (rteL need node now E L left i q).1 ∧ (rteL need node now E L left i q).1 < max 0 (i + L.length))
  | [], left, i, q, h0, h1, h2 => by simp only [rteL, List.length_nil]; omega
  | c :: L, [], i, q, h0, h1, h2 => by simp only [rteL, List.length_cons]; omega
  | c :: L, l :: left, i, q, h0, h1, h2 => by
    simp only [rteL, List.length_cons]
    have := rteL_rel (need := need) (node := node) (now := now) (E := E) L left (i + 1) (if c.From = node ∧ now < c.End ∧ need ≤ l ∧ E c.To (arrT c now) < q.2 then (i, E c.To (arrT c now)) else q) (by omega) (by split <;> (try simp only) <;> omega) (by split <;> (try simp only) <;> omega)
    omega
/-- No number below nought. -/
theorem neg_at (k : Nat) (hk : 1 ≤ k) (n : Int) : f20_i k n = some (.o0 (decide (n < 0))) := by
  obtain ⟨k, rfl⟩ : ∃ m, k = m + 1 := ⟨k - 1, by omega⟩
  rfl
theorem idx_l (k : Nat) (hk : 1 ≤ k) (l : List Int) (hl : l.length < 4611686018427387904) : ∀ (d i n : Nat), i + d = l.length → d < n →
    (((l.drop i).any fun x => decide (x < 0)) = true → ∃ j : Nat, f28_rf20_l1 k n l l.length i = some (.o0 j)) ∧ (((l.drop i).any fun x => decide (x < 0)) = false → f28_rf20_l1 k n l l.length i = some (.o2 l l.length l.length false)) := by
  intro d
  induction d with
  | zero =>
    intro i n hi hn
    obtain ⟨n, rfl⟩ : ∃ m, n = m + 1 := ⟨n - 1, by omega⟩
    have e3 : i = l.length := by omega
    subst e3
    simp only [f28_rf20_l1, f28_rf20_l1_b, decide_eq_false (show ¬ ((l.length : Int) < (l.length : Int)) by omega), cond_false, Option.bind_some, List.drop_length, List.any_nil]
    exact ⟨fun h => (by cases h), fun _ => trivial⟩
  | succ d ih =>
    intro i n hi hn
    obtain ⟨n, rfl⟩ : ∃ m, n = m + 1 := ⟨n - 1, by omega⟩
    have h1 : i < l.length := by omega
    have g1 : l[i]? = some l[i] := List.getElem?_eq_getElem h1
    have hlt : ((i : Int) < (l.length : Int)) := by omega
    have hw := nat_next h1 (by omega)
    have ih' := ih (i + 1) n (by omega) (by omega)
    rw [List.drop_eq_getElem_cons h1, List.any_cons]
    simp only [f28_rf20_l1, f28_rf20_l1_b, f28_rf20_l1_j1, f28_rf20_l1_j2, decide_eq_true hlt, cond_true, ifE_pos (show (0 : Int) ≤ (i : Int) by omega), Int.toNat_natCast, g1, Option.bind_some, neg_at k hk, hw]
    cases decide (l[i] < 0)
    · simp only [cond_false, Bool.false_or, Option.bind_some]; exact ih'
    · simp only [cond_true, Bool.true_or, Option.bind_some]
      exact ⟨fun _ => ⟨i, rfl⟩, fun h => (by cases h)⟩
theorem cont_at (k : Nat) (l : List Int) (hk : l.length + 3 ≤ k) (hl : l.length < 4611686018427387904) : f19_rf20 k l = some (.o0 (l.any fun x => decide (x < 0))) := by
  obtain ⟨k, rfl⟩ : ∃ m, k = m + 1 := ⟨k - 1, by omega⟩
  obtain ⟨k, rfl⟩ : ∃ m, k = m + 1 := ⟨k - 1, by omega⟩
  have h := idx_l k (by omega) l hl l.length 0 k (by omega) (by omega)
  rw [List.drop_zero] at h
  have e0 : ((0 : Nat) : Int) = 0 := rfl
  rw [e0] at h
  simp only [f19_rf20, f19_rf20_e, f28_rf20, f28_rf20_e]
  cases hb : l.any fun x => decide (x < 0) with
  | true =>
    obtain ⟨j, hj⟩ := h.1 hb
    simp only [hj, Option.bind_some, decide_eq_true (show (j : Int) ≥ 0 by omega)]
  | false =>
    simp only [h.2 hb, Option.bind_some, f28_rf20_j2]
    rfl
/-- Whether a question may be asked. -/
def askB (N : Int) (L : List Ct) (left : List Int) (s to now need : Int) : Bool := decide (left.length = L.length) && (!(left.any fun x => decide (x < 0)) && (!(decide (need < 0)) && (!(s == to) && (decide (1 ≤ s) && (decide (s ≤ N) && (decide (1 ≤ to) && (decide (to ≤ N) && (decide (0 ≤ now) && decide (now ≤ 1048576)))))))))
def rte (L : List Ct) (left : List Int) (s to now need : Int) : Int × Int := rteL need s now (ear need L left to) L left 0 (-1, never)
theorem route_at (k : Nat) (N : Int) (L : List Ct) (left : List Int) (s to now need : Int) (hk : 100 ≤ k) (hk2 : left.length + 6 ≤ k) (hl : left.length < 4611686018427387904) : f8_airzriiii k N L left s to now need =
    some (cond (chkB N L) (cond (askB N L left s to now need) (if (rte L left s to now need).1 < 0 then .o0 0 0 4 else .o0 (rte L left s to now need).1 (rte L left s to now need).2 0) (.o0 0 0 2)) (.o0 0 0 230)) := by
  obtain ⟨k, rfl⟩ : ∃ m, k = m + 1 := ⟨k - 1, by omega⟩
  simp only [f8_airzriiii, f8_airzriiii_e, check_at k N L (by omega), Option.bind_some]
  cases hc : chkB N L with
  | false => rfl
  | true =>
    obtain ⟨b1, b2, b3, b4⟩ := chkB_ok hc
    have hL : ∀ c ∈ L, CtOk N c := fun c h => (b4 c h).1
    simp only [cond_true, show ((0 : Int) != 0) = false from rfl, cond_false, f8_airzriiii_j1, askB]
    by_cases a1 : left.length = L.length
    case neg => simp [a1, show ((left.length : Int) != (L.length : Int)) = true by simp; omega]
    simp only [show ((left.length : Int) != (L.length : Int)) = false by simp; omega, cond_false, cont_at k left (by omega) hl, Option.bind_some, decide_eq_true a1, Bool.true_and]
    cases a2 : left.any fun x => decide (x < 0) with
    | true => rfl
    | false =>
    simp only [cond_false, Bool.not_false, Bool.true_and]
    by_cases a3 : need < 0
    case pos => simp [a3]
    simp only [decide_eq_false a3, cond_false, Bool.not_false, Bool.true_and]
    by_cases a4 : s = to
    case pos => simp [a4]
    simp only [show (s == to) = false by simpa using a4, cond_false, Bool.not_false, Bool.true_and, within_at k (by omega), Option.bind_some]
    by_cases a5 : 1 ≤ s
    case neg => simp [a5]
    by_cases a6 : s ≤ N
    case neg => simp [a5, a6]
    by_cases a7 : 1 ≤ to
    case neg => simp [a5, a6, a7]
    by_cases a8 : to ≤ N
    case neg => simp [a5, a6, a7, a8]
    by_cases a9 : 0 ≤ now
    case neg => simp [a5, a6, a7, a8, a9]
    by_cases a10 : now ≤ 1048576
    case neg => simp [a5, a6, a7, a8, a9, a10]
    simp only [decide_eq_true a5, decide_eq_true a6, decide_eq_true a7, decide_eq_true a8, decide_eq_true a9, decide_eq_true a10, Bool.and_true, Bool.not_true, cond_false, cond_true, f8_airzriiii_j2]
    have hfrom : f22_airrizii k N L left need s now = some (.o0 N L left need s now) := by
      obtain ⟨k, rfl⟩ : ∃ m, k = m + 1 := ⟨k - 1, by omega⟩
      rfl
    have hr0 : Rel (-1) 0 ((-1 : Int), never) := ⟨rfl, fun _ => rfl, fun h => by simp at h, Int.le_refl _⟩
    have hfr : ∃ f2 b2, f29_yppp_lpppppbirbibirribibibirribibi k N L to N L left need (-1) 0 N L left need s now = some (.o0 N L to N L left need f2 b2 N L left need s now) ∧ Rel f2 b2 (rte L left s to now need) := by
      obtain ⟨k, rfl⟩ : ∃ m, k = m + 1 := ⟨k - 1, by omega⟩
      obtain ⟨f2, b2, r1, r2⟩ := fromr_l1 (k := k) (need := need) (node := s) (by omega) hL (by omega) b2 a1 b3 a7 a8 a9 (by omega) L.length 0 k (-1) 0 (-1, never) (by omega) (by omega) hr0
      rw [List.drop_zero, List.drop_zero] at r2
      have e0 : ((0 : Nat) : Int) = 0 := rfl
      rw [e0] at r1 r2
      simp only [f29_yppp_lpppppbirbibirribibibirribibi, f29_yppp_lpppppbirbibirribibibirribibi_e, r1, Option.bind_some]
      exact ⟨_, _, rfl, r2⟩
    obtain ⟨f2, b2', r1, q1, q2, q3, q4⟩ := hfr
    have e0 : ((0 : Nat) : Int) = 0 := rfl
    simp only [hfrom, r1, Option.bind_some, f8_airzriiii_j3, f8_airzriiii_j4]
    by_cases h : f2 < 0
    · simp only [decide_eq_true h, cond_true, if_pos (show (rte L left s to now need).1 < 0 by omega)]
    · simp only [decide_eq_false h, cond_false]
      rw [if_neg (show ¬ (rte L left s to now need).1 < 0 by omega), q1, q3 (by omega)]
end
end Go.Proofs.YtmogplhglcodjaaV
