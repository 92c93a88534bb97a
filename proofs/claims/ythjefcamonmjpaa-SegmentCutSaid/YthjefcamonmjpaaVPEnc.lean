/- What Encode answers: an error, or sealed bytes, three at least ahead of the sum. -/
import Derived.Test.YthjefcamonmjpaaVPPut
namespace Go.Proofs.YthjefcamonmjpaaV
open Go Go.Proofs.Ythjefcamonmjpaa
set_option linter.unusedVariables false
set_option linter.unusedSimpArgs false
theorem eqC_at (k : Nat) (l1 l2 : List T45) (hb : l1.length < 4611686018427387904) (hk : l1.length + 2 ≤ k) : ∃ b, f21_rr k l1 l2 = some (.o0 b) ∧ (b = true ↔ l1 = l2) := by
  obtain ⟨k, rfl⟩ : ∃ j, k = j + 1 := ⟨k - 1, by omega⟩
  by_cases hl : l1.length = l2.length
  · have := eqC_loop l1 l2 hb hl k l1.length 0 k (by omega) (by omega)
    simp only [List.drop_zero] at this
    have hl' : ((l1.length : Int) != (l2.length : Int)) = false := by simp; omega
    simp only [f21_rr, f21_rr_e, hl', cond_false, f21_rr_j1]
    rw [show ((0 : Nat) : Int) = 0 from rfl] at this
    rw [this]
    by_cases he : l1 = l2
    · exact ⟨true, by simp [he, f21_rr_j3], by simp [he]⟩
    · exact ⟨false, by simp [he], by simp [he]⟩
  · have hl' : ((l1.length : Int) != (l2.length : Int)) = true := by simp; omega
    have he : l1 ≠ l2 := fun h => hl (by rw [h])
    exact ⟨false, by simp [f21_rr, f21_rr_e, hl'], by simp [he]⟩
/-- segment.Same answers something, whatever the other one. -/
theorem same_at (s : T26) (k : Nat) (hb : s.Data.length < 4611686018427387904) (hb' : s.Claims.length < 4611686018427387904) (hk : s.Data.length + s.Claims.length + 4 ≤ k) : ∀ t1 t2 t3 t4 t5 t6 t7 t8 t9 t10 t11 t12 t13, ∃ b, f9_ai10brrzai10brrz k s.Kind s.Source s.Session s.Serial s.Checks s.Offset s.Total s.Lower s.Upper s.Reason s.Check s.Data s.Claims t1 t2 t3 t4 t5 t6 t7 t8 t9 t10 t11 t12 t13 = some (.o0 b) ∧ (b = true ↔ s = T26.mk t1 t2 t3 t4 t5 t6 t7 t8 t9 t10 t11 t12 t13) := by
  intro t1 t2 t3 t4 t5 t6 t7 t8 t9 t10 t11 t12 t13
  obtain ⟨k, rfl⟩ : ∃ j, k = j + 2 := ⟨k - 2, by omega⟩
  have h1 := eqB_at (k + 1) s.Data t12 hb (by omega)
  obtain ⟨b, h2, h3⟩ := eqC_at (k + 1) s.Claims t13 hb' (by omega)
  have e : decide (s = T26.mk t1 t2 t3 t4 t5 t6 t7 t8 t9 t10 t11 t12 t13) = ((s.Kind == t1 && (s.Source == t2 && (s.Offset == t6 && (s.Total == t7 && (s.Lower == t8 && (s.Upper == t9 && (s.Reason == t10 && (s.Session == t3 && (s.Serial == t4 && (s.Checks == t5 && s.Check == t11)))))))))) && (decide (s.Data = t12) && b)) := by
    rw [Bool.eq_iff_iff]
    cases s
    simp only [decide_eq_true_eq, T26.mk.injEq, Bool.and_eq_true, beq_iff_eq, h3]
    constructor
    · rintro ⟨a1, a2, a3, a4, a5, a6, a7, a8, a9, a10, a11, a12, a13⟩
      exact ⟨⟨a1, a2, a6, a7, a8, a9, a10, a3, a4, a5, a11⟩, a12, a13⟩
    · rintro ⟨⟨a1, a2, a6, a7, a8, a9, a10, a3, a4, a5, a11⟩, a12, a13⟩
      exact ⟨a1, a2, a3, a4, a5, a6, a7, a8, a9, a10, a11, a12, a13⟩
  refine ⟨decide (s = T26.mk t1 t2 t3 t4 t5 t6 t7 t8 t9 t10 t11 t12 t13), ?_, by simp⟩
  simp only [f9_ai10brrzai10brrz, f9_ai10brrzai10brrz_e, f19_ai10brrz, f19_ai10brrz_e, Option.bind_some, h1, h2]
  rw [e]
  generalize (s.Kind == t1 && (s.Source == t2 && (s.Offset == t6 && (s.Total == t7 && (s.Lower == t8 && (s.Upper == t9 && (s.Reason == t10 && (s.Session == t3 && (s.Serial == t4 && (s.Checks == t5 && s.Check == t11)))))))))) = c
  generalize decide (s.Data = t12) = d
  cases c <;> cases d <;> cases b <;> rfl
theorem same_all (s : T26) (hb : s.Data.length < 4611686018427387904) (hb' : s.Claims.length < 4611686018427387904) : Evn fun k => ∀ t1 t2 t3 t4 t5 t6 t7 t8 t9 t10 t11 t12 t13, ∃ b, f9_ai10brrzai10brrz k s.Kind s.Source s.Session s.Serial s.Checks s.Offset s.Total s.Lower s.Upper s.Reason s.Check s.Data s.Claims t1 t2 t3 t4 t5 t6 t7 t8 t9 t10 t11 t12 t13 = some (.o0 b) ∧ (b = true ↔ s = T26.mk t1 t2 t3 t4 t5 t6 t7 t8 t9 t10 t11 t12 t13) := Evn.of _ fun k hk => same_at s k hb hb' hk
/-- May claims be? -/
def clm (hi : Int) : Int → List T45 → Bool
  | _, [] => true
  | e, c :: l => !decide (c.N < 1) && !decide (c.At ≤ e) && !decide (c.At ≥ hi) && !decide (c.N > IntKind.i64.wrap (hi - c.At)) && clm hi (IntKind.i64.wrap (c.At + c.N)) l
theorem claimed_l1 (k : Nat) (l : List T45) (hi : Int) (hl : l.length < 1000) : ∀ (d i n : Nat) (e : Int), i + d = l.length → d < n →
    (clm hi e (l.drop i) = true → ∃ e', f28_rii_l1 k n l hi e l (l.length : Int) (i : Int) = some (.o2 l hi e' l (l.length : Int) (l.length : Int) false)) ∧
    (clm hi e (l.drop i) = false → f28_rii_l1 k n l hi e l (l.length : Int) (i : Int) = some (.o0 false))
  | 0, i, n, e, h, hn => by
    obtain ⟨n, rfl⟩ : ∃ j, n = j + 1 := ⟨n - 1, by omega⟩
    obtain rfl : i = l.length := by omega
    refine ⟨fun _ => ⟨e, by simp [f28_rii_l1, f28_rii_l1_b]⟩, fun h => by simp [clm] at h⟩
  | d + 1, i, n, e, h, hn => by
    obtain ⟨n, rfl⟩ : ∃ j, n = j + 1 := ⟨n - 1, by omega⟩
    have h1 : i < l.length := by omega
    have g1 : l[i]? = some l[i] := List.getElem?_eq_getElem h1
    have hlt : ((i : Int) < (l.length : Int)) := by omega
    have hw : IntKind.i64.wrap ((i : Int) + 1) = ((i + 1 : Nat) : Int) := by rw [wrap_i64 (by omega) (by omega)]; rfl
    have ih := claimed_l1 k l hi hl d (i + 1) n (IntKind.i64.wrap (l[i].At + l[i].N)) (by omega) (by omega)
    rw [List.drop_eq_getElem_cons h1]
    simp only [clm, f28_rii_l1, f28_rii_l1_b, f28_rii_l1_j1, f28_rii_l1_j2, f28_rii_l1_j3, decide_eq_true hlt, cond_true, ifE_pos (show (0 : Int) ≤ i by omega), Int.toNat_natCast, g1, Option.bind_some, hw]
    cases decide (l[i].N < 1)
    · cases decide (l[i].At ≤ e)
      · cases decide (l[i].At ≥ hi)
        · cases decide (l[i].N > IntKind.i64.wrap (hi - l[i].At))
          · simpa using ih
          · simp
        · simp
      · simp
    · simp
theorem claimed_at (k : Nat) (l : List T45) (lo hi : Int) (hl : l.length < 1000) (hk : l.length + 2 ≤ k) : f28_rii k l lo hi = some (.o0 (clm hi (IntKind.i64.wrap (lo - 1)) l && decide ((l.length : Int) ≤ 20))) := by
  obtain ⟨k, rfl⟩ : ∃ j, k = j + 1 := ⟨k - 1, by omega⟩
  have q := claimed_l1 k l hi hl l.length 0 k (IntKind.i64.wrap (lo - 1)) (by omega) (by omega)
  rw [List.drop_zero, show ((0 : Nat) : Int) = 0 from rfl] at q
  simp only [f28_rii, f28_rii_e]
  cases hc : clm hi (IntKind.i64.wrap (lo - 1)) l
  · rw [q.2 hc]; rfl
  · obtain ⟨e', h⟩ := q.1 hc
    rw [h]; rfl
def inT (a lo hi : Int) : Bool := decide (a ≥ lo) && decide (a ≤ hi)
theorem in_at (k : Nat) (a lo hi : Int) : f27_iii (k + 1) a lo hi = some (.o0 (inT a lo hi)) := by
  simp only [f27_iii, f27_iii_e, inT]
  cases decide (a ≥ lo) <;> rfl
def Tot (o : Option R15_ai10brrz) : Prop := ∃ c, o = some (.o0 c)
theorem Tot.cond {x : Bool} {a b : Option R15_ai10brrz} (ha : Tot a) (hb : Tot b) : Tot (cond x a b) := by cases x <;> assumption
theorem Tot.some (c : Int) : Tot (some (.o0 c)) := ⟨c, rfl⟩
theorem chk_tot (s : T26) (hb : s.Data.length < 1000) (hb' : s.Claims.length < 1000) : Evn fun k => Tot (f15_ai10brrz k s.Kind s.Source s.Session s.Serial s.Checks s.Offset s.Total s.Lower s.Upper s.Reason s.Check s.Data s.Claims) := by
  refine Evn.up (((same_all s (by omega) (by omega)).and (Evn.ge 1100)).mono fun k ⟨h, hk⟩ => ?_)
  have hc := claimed_at k s.Claims s.Lower s.Upper hb' (by omega)
  obtain ⟨k, rfl⟩ : ∃ j, k = j + 1 := ⟨k - 1, by omega⟩
  have j1 : ∀ x t1 t2 t3 t4 t5 t6 t7 t8 t9 t10 t11 t12 t13, Tot (f15_ai10brrz_j1 (k + 1) x s.Kind s.Source s.Session s.Serial s.Checks s.Offset s.Total s.Lower s.Upper s.Reason s.Check s.Data s.Claims t1 t2 t3 t4 t5 t6 t7 t8 t9 t10 t11 t12 t13) := by
    intro x t1 t2 t3 t4 t5 t6 t7 t8 t9 t10 t11 t12 t13
    obtain ⟨b, e, _⟩ := h t1 t2 t3 t4 t5 t6 t7 t8 t9 t10 t11 t12 t13
    simp only [f15_ai10brrz_j1, e, Option.bind_some, f15_ai10brrz_j2]
    exact .cond (.some _) (.cond (.some _) (.some _))
  have j5 : ∀ x y z t1 t2 t3 t4 t5 t6 t7 t8 t9 t10 t11 t12 t13, Tot (f15_ai10brrz_j5 (k + 1) x y z s.Kind s.Source s.Session s.Serial s.Checks s.Offset s.Total s.Lower s.Upper s.Reason s.Check s.Data s.Claims t1 t2 t3 t4 t5 t6 t7 t8 t9 t10 t11 t12 t13) := fun x y z => j1 x
  have j7 : ∀ x z t1 t2 t3 t4 t5 t6 t7 t8 t9 t10 t11 t12 t13, Tot (f15_ai10brrz_j7 (k + 1) x z s.Kind s.Source s.Session s.Serial s.Checks s.Offset s.Total s.Lower s.Upper s.Reason s.Check s.Data s.Claims t1 t2 t3 t4 t5 t6 t7 t8 t9 t10 t11 t12 t13) := fun x z => j1 x
  simp only [f15_ai10brrz, f15_ai10brrz_e, f15_ai10brrz_j3, f15_ai10brrz_j4, f15_ai10brrz_j6, in_at, hc, Option.bind_some]
  repeat' (first | exact j1 .. | exact j5 .. | exact j7 .. | apply Tot.cond)
def G (n : Nat) (e : List Int) : Prop := Bytes e ∧ 3 ≤ e.length ∧ e.length ≤ n
theorem G.puts {n : Nat} {e : List Int} (h : G n e) (l : List Int) : G (n + 10 * l.length) (e ++ puts l) := by
  have := puts_length l
  exact ⟨bytes_append h.1 (puts_bytes l), by rw [List.length_append]; have := h.2.1; omega, by rw [List.length_append]; have := h.2.2; omega⟩
theorem G.mono {n m : Nat} {e : List Int} (h : G n e) (hm : n ≤ m) : G m e := ⟨h.1, h.2.1, Nat.le_trans h.2.2 hm⟩
theorem wr_bind {α : Type} (k : Nat) (l e : List Int) (F : R22_pr_bow → Option α) (hl : l ≠ []) (hl2 : l.length ≤ 10) (hk : 100 ≤ k) (he : e.length ≤ 100000) : Option.bind (f22_pr_bow k l e) F = F (.o1 e (e ++ puts l)) := by
  have hr : roomy = 70368744177664 := rfl
  rw [write_at k l e (by omega) (by omega) (by omega), wrote, if_neg hl]
  rfl
theorem enc_l6 (k : Nat) (hk : 100 ≤ k) (l : List T45) (hl : l.length ≤ 1000) : ∀ (d i n m : Nat) (h : List Int), i + d = l.length → d < n → G m h → m + 20 * d ≤ 50000 →
    ∃ h', f12_ai10brrz_l6 k n l (l.length : Int) (i : Int) h = some (.o2 l (l.length : Int) (l.length : Int) false h') ∧ G (m + 20 * d) h'
  | 0, i, n, m, h, hi, hn, hg, _ => by
    obtain ⟨n, rfl⟩ : ∃ j, n = j + 1 := ⟨n - 1, by omega⟩
    obtain rfl : i = l.length := by omega
    exact ⟨h, by simp [f12_ai10brrz_l6, f12_ai10brrz_l6_b], hg⟩
  | d + 1, i, n, m, h, hi, hn, hg, hm => by
    obtain ⟨n, rfl⟩ : ∃ j, n = j + 1 := ⟨n - 1, by omega⟩
    have h1 : i < l.length := by omega
    have g1 : l[i]? = some l[i] := List.getElem?_eq_getElem h1
    have hlt : ((i : Int) < (l.length : Int)) := by omega
    have hw : IntKind.i64.wrap ((i : Int) + 1) = ((i + 1 : Nat) : Int) := by rw [wrap_i64 (by omega) (by omega)]; rfl
    obtain ⟨h', e1, e2⟩ := enc_l6 k hk l hl d (i + 1) n (m + 20) (h ++ puts [l[i].At, l[i].N]) (by omega) (by omega) (hg.puts [l[i].At, l[i].N]) (by omega)
    refine ⟨h', ?_, e2.mono (by omega)⟩
    rw [← e1]
    have he := hg.2.2
    simp only [f12_ai10brrz_l6, f12_ai10brrz_l6_b, f12_ai10brrz_l6_j1, decide_eq_true hlt, cond_true, ifE_pos (show (0 : Int) ≤ i by omega), Int.toNat_natCast, g1, Option.bind_some]
    rw [wr_bind k [l[i].At, l[i].N] h _ (by simp) (by simp) hk (by omega)]
    simp only [f12_ai10brrz_l6_j3, Option.bind_some, hw]
/-- What Encode answers. -/
def EncT (o : Option R12_ai10brrz) : Prop := (∃ c, c ≠ 0 ∧ o = some (.o0 c [])) ∨ ∃ b, o = some (.o0 0 (sealB b)) ∧ G 10000 b
theorem fin_seal (k : Nat) (e : List Int) (hk : 20000 ≤ k) (h : G 10000 e) : EncT (Option.bind (f23_r k e) fun o1 => match o1 with | .o0 v4 => some (.o0 0 v4)) := by
  have hr : roomy = 70368744177664 := rfl
  have := h.2.2
  rw [seal32_at k e h.1 (by omega) (by omega)]
  exact .inr ⟨e, rfl, h⟩
theorem enc_sp (s : T26) (hb : s.Data.length ≤ 300) (hd : Bytes s.Data) (hb' : s.Claims.length ≤ 40) : Evn fun k => EncT (f12_ai10brrz k s.Kind s.Source s.Session s.Serial s.Checks s.Offset s.Total s.Lower s.Upper s.Reason s.Check s.Data s.Claims) := by
  have hr : roomy = 70368744177664 := rfl
  refine Evn.up (((chk_tot s (by omega) (by omega)).and (Evn.ge 20000)).mono fun k ⟨⟨c, h⟩, hk⟩ => ?_)
  simp only [f12_ai10brrz, f12_ai10brrz_e, h, Option.bind_some]
  by_cases hc : c = 0
  · subst hc
    have e0 : ((0 : Int) != 0) = false := rfl
    simp only [e0, cond_false, f12_ai10brrz_j1]
    have w8 : 0 ≤ IntKind.u8.wrap s.Kind ∧ IntKind.u8.wrap s.Kind < 256 := by rw [IntKind.wrap_u8]; omega
    have g0 : G 30 ([IntKind.u8.wrap s.Kind] ++ puts [s.Source, IntKind.i64.wrap s.Session]) := by
      have hp := puts_length [s.Source, IntKind.i64.wrap s.Session]
      simp only [List.length_cons, List.length_nil] at hp
      refine ⟨bytes_append (fun x hx => by simp only [List.mem_singleton] at hx; subst hx; exact w8) (puts_bytes _), ?_, ?_⟩ <;> rw [List.length_append, List.length_singleton] <;> omega
    rw [wr_bind k [s.Source, IntKind.i64.wrap s.Session] _ _ (by simp) (by simp) (by omega) (by simp)]
    simp only []
    generalize [IntKind.u8.wrap s.Kind] ++ puts [s.Source, IntKind.i64.wrap s.Session] = e at g0
    have ge := g0.2.2
    cases hk1 : (s.Kind == 1)
    · simp only [cond_false]
      cases hk2 : (s.Kind == 2)
      · simp only [cond_false]
        cases hk3 : (s.Kind == 3)
        · simp only [cond_false]
          cases hk4 : (s.Kind == 4)
          · simp only [cond_false, f12_ai10brrz_j19]
            cases hk6 : (s.Kind == 6)
            · simp only [cond_false, f12_ai10brrz_j20]
              exact fin_seal k e hk (g0.mono (by omega))
            · simp only [cond_true]
              rw [wr_bind k [s.Reason] _ _ (by simp) (by simp) (by omega) (by omega)]
              exact fin_seal k _ hk ((g0.puts [s.Reason]).mono (by simp))
          · simp only [cond_true, f12_ai10brrz_j17]
            rw [wr_bind k [s.Reason] _ _ (by simp) (by simp) (by omega) (by omega)]
            exact fin_seal k _ hk ((g0.puts [s.Reason]).mono (by simp))
        · simp only [cond_true]
          rw [wr_bind k [IntKind.i64.wrap s.Serial] _ _ (by simp) (by simp) (by omega) (by omega)]
          exact fin_seal k _ hk ((g0.puts [IntKind.i64.wrap s.Serial]).mono (by simp))
      · simp only [cond_true]
        rw [wr_bind k [IntKind.i64.wrap s.Serial, IntKind.i64.wrap s.Checks, s.Lower, s.Upper, (s.Claims.length : Int)] _ _ (by simp) (by simp) (by omega) (by omega)]
        obtain ⟨h', e1, e2⟩ := enc_l6 k (by omega) s.Claims (by omega) s.Claims.length 0 k _ (e ++ puts [IntKind.i64.wrap s.Serial, IntKind.i64.wrap s.Checks, s.Lower, s.Upper, (s.Claims.length : Int)]) (by omega) (by omega) (g0.puts _) (by simp; omega)
        rw [show ((0 : Nat) : Int) = 0 from rfl] at e1
        simp only [e1, Option.bind_some, f12_ai10brrz_j7]
        exact fin_seal k h' hk (e2.mono (by simp; omega))
    · simp only [cond_true]
      cases s.Check
      · simp only [cond_false]
        rw [wr_bind k [0] _ _ (by simp) (by simp) (by omega) (by omega)]
        simp only [f12_ai10brrz_j5]
        have g1 := g0.puts [0]
        have ge1 := g1.2.2
        simp only [List.length_singleton] at ge1
        rw [wr_bind k [s.Offset, s.Total, (s.Data.length : Int)] _ _ (by simp) (by simp) (by omega) (by omega)]
        have g2 := g1.puts [s.Offset, s.Total, (s.Data.length : Int)]
        have ge2 := g2.2.2
        simp only [List.length_cons, List.length_nil] at ge2
        simp only []
        rw [ifE_pos (by omega)]
        refine fin_seal k _ hk ⟨bytes_append g2.1 hd, ?_, ?_⟩ <;> rw [List.length_append] <;> have := g2.2.1 <;> omega
      · simp only [cond_true]
        rw [wr_bind k [1, IntKind.i64.wrap s.Serial] _ _ (by simp) (by simp) (by omega) (by omega)]
        simp only [f12_ai10brrz_j4]
        have g1 := g0.puts [1, IntKind.i64.wrap s.Serial]
        have ge1 := g1.2.2
        simp only [List.length_cons, List.length_nil] at ge1
        rw [wr_bind k [s.Offset, s.Total, (s.Data.length : Int)] _ _ (by simp) (by simp) (by omega) (by omega)]
        have g2 := g1.puts [s.Offset, s.Total, (s.Data.length : Int)]
        have ge2 := g2.2.2
        simp only [List.length_cons, List.length_nil] at ge2
        simp only []
        rw [ifE_pos (by omega)]
        refine fin_seal k _ hk ⟨bytes_append g2.1 hd, ?_, ?_⟩ <;> rw [List.length_append] <;> have := g2.2.1 <;> omega
  · have e0 : (c != 0) = true := by simpa using hc
    simp only [e0, cond_true]
    exact .inl ⟨c, hc, rfl⟩
end Go.Proofs.YthjefcamonmjpaaV
