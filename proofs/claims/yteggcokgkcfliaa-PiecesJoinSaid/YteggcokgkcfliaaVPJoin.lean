/- Few bundles, the same ones, all together, what is missing, and the whole: the program's answers and the document's. -/
import Derived.Test.YteggcokgkcfliaaVPGat
namespace Go.Proofs.YteggcokgkcfliaaV
open Go
set_option linter.unusedVariables false
set_option linter.unusedSimpArgs false
def fewL (L : List Bun) : List Bun := (L.take 12).map oneB
theorem oneB_idem (b : Bun) : oneB (oneB b) = oneB b := by simp [oneB, List.take_take]
theorem fewL_idem (L : List Bun) : fewL (fewL L) = fewL L := by
  unfold fewL
  rw [← List.map_take, List.take_take, Nat.min_self, List.map_map]
  exact List.map_congr_left fun b _ => oneB_idem b
theorem few_l (k : Nat) (hk : 1 ≤ k) (L : List Bun) (hL : L.length < 4611686018427387904) : ∀ (d i n : Nat) (acc : List Bun), i + d = L.length → d < n → i ≤ 12 → acc.length = i →
    (∃ j : Int, f21_r_l1 k n L L.length i acc = some (.o2 L L.length j false (acc ++ ((L.drop i).take (12 - i)).map oneB))) ∨ (∃ (j : Int) (c : Bun), f21_r_l1 k n L L.length i acc = some (.o0 L L.length j true (acc ++ ((L.drop i).take (12 - i)).map oneB) c.Source c.Dest c.Seq c.Created c.Lifetime c.HopLimit c.Hops c.Priority c.Offset c.Total c.Payload)) := by
  intro d
  induction d with
  | zero =>
    intro i n acc hid hn hi ha
    obtain ⟨n, rfl⟩ : ∃ m, n = m + 1 := ⟨n - 1, by omega⟩
    have e1 : L.drop i = [] := List.drop_eq_nil_of_le (by omega)
    refine .inl ⟨i, ?_⟩
    rw [e1]
    simp only [f21_r_l1, f21_r_l1_b, decide_eq_false (show ¬ ((i : Int) < (L.length : Int)) by omega), cond_false, Option.bind_some, List.take_nil, List.map_nil, List.append_nil]
  | succ d ih =>
    intro i n acc hid hn hi ha
    obtain ⟨n, rfl⟩ : ∃ m, n = m + 1 := ⟨n - 1, by omega⟩
    have h1 : i < L.length := by omega
    have g1 : L[i]? = some L[i] := List.getElem?_eq_getElem h1
    have hw : IntKind.i64.wrap ((i : Int) + 1) = ((i + 1 : Nat) : Int) := i_next h1 hL
    by_cases h12 : i = 12
    · refine .inr ⟨i, L[i], ?_⟩
      subst h12
      simp only [f21_r_l1, f21_r_l1_b, f21_r_l1_j1, decide_eq_true (show (((12 : Nat) : Int) < (L.length : Int)) by omega), cond_true, ifE_pos (show (0 : Int) ≤ ((12 : Nat) : Int) by decide), Int.toNat_natCast, g1, Option.bind_some, show ((((12 : Nat) : Int)) == 12) = true from rfl, Nat.sub_self, List.take_zero, List.map_nil, List.append_nil]
    · have e : T25.mk (oneB L[i]).Source (oneB L[i]).Dest (oneB L[i]).Seq (oneB L[i]).Created (oneB L[i]).Lifetime (oneB L[i]).HopLimit (oneB L[i]).Hops (oneB L[i]).Priority (oneB L[i]).Offset (oneB L[i]).Total (oneB L[i]).Payload = oneB L[i] := rfl
      have h104 : (acc.length + 1) * 104 ≤ 10000 := by omega
      have hr : (acc.length + 1) * 104 ≤ roomy := Nat.le_trans h104 (by decide)
      have hne : ((i : Int) == 12) = false := by rw [beq_eq_false_iff_ne]; omega
      have et : (L.drop i).take (12 - i) = L[i] :: (L.drop (i + 1)).take (12 - (i + 1)) := by
        rw [List.drop_eq_getElem_cons h1, show 12 - i = (12 - (i + 1)) + 1 by omega, List.take_succ_cons]
      have step : f21_r_l1 k (n + 1) L L.length i acc = f21_r_l1 k n L L.length ((i + 1 : Nat) : Int) (acc ++ [oneB L[i]]) := by
        simp only [f21_r_l1, f21_r_l1_b, f21_r_l1_j1, f21_r_l1_j2, decide_eq_true (show ((i : Int) < (L.length : Int)) by omega), cond_true, cond_false, ifE_pos (show (0 : Int) ≤ i by omega), Int.toNat_natCast, g1, Option.bind_some, hne, one_at k hk L[i], ifE_pos hr, e, f21_r_l1_j3, hw]
      have hcat : acc ++ List.map oneB (L[i] :: (L.drop (i + 1)).take (12 - (i + 1))) = (acc ++ [oneB L[i]]) ++ ((L.drop (i + 1)).take (12 - (i + 1))).map oneB := by simp
      rw [step, et, hcat]
      exact ih (i + 1) n (acc ++ [oneB L[i]]) (by omega) (by omega) (by omega) (by simp [ha])
theorem few_at (k : Nat) (L : List Bun) (hL : L.length < 4611686018427387904) (hk : L.length + 3 ≤ k) : f21_r k L = some (.o0 (fewL L)) := by
  obtain ⟨k, rfl⟩ : ∃ m, k = m + 1 := ⟨k - 1, by omega⟩
  have e0 : ((0 : Nat) : Int) = 0 := rfl
  rcases few_l k (by omega) L hL L.length 0 k [] (by omega) (by omega) (by omega) rfl with ⟨j, q⟩ | ⟨j, c, q⟩
  · rw [e0] at q
    simp only [f21_r, f21_r_e, q, Option.bind_some, f21_r_j3, List.nil_append, List.drop_zero, Nat.sub_zero, fewL]
  · rw [e0] at q
    simp only [f21_r, f21_r_e, q, Option.bind_some, f21_r_j2, List.nil_append, List.drop_zero, Nat.sub_zero, fewL]
theorem lsame_l (k : Nat) (hk : 600 ≤ k) (l1 l2 : List Bun) (hb : l1.length < 4611686018427387904) (f1 : ∀ b ∈ l1, Fit b) (h : l1.length = l2.length) : ∀ (d i n : Nat), i + d = l1.length → d < n →
    f13_rr_l2 k n l1 l2 l1.length i = if l1.drop i = l2.drop i then some (.o2 l1 l2 l1.length l1.length false) else some (.o0 false) := by
  intro d
  induction d with
  | zero =>
    intro i n hid hn
    obtain ⟨n, rfl⟩ : ∃ m, n = m + 1 := ⟨n - 1, by omega⟩
    have e1 : l1.drop i = [] := List.drop_eq_nil_of_le (by omega)
    have e2 : l2.drop i = [] := List.drop_eq_nil_of_le (by omega)
    have e3 : i = l1.length := by omega
    subst e3
    simp [f13_rr_l2, f13_rr_l2_b, e2]
  | succ d ih =>
    intro i n hid hn
    obtain ⟨n, rfl⟩ : ∃ m, n = m + 1 := ⟨n - 1, by omega⟩
    have h1 : i < l1.length := by omega
    have h2 : i < l2.length := by omega
    have g1 : l1[i]? = some l1[i] := List.getElem?_eq_getElem h1
    have g2 : l2[i]? = some l2[i] := List.getElem?_eq_getElem h2
    have hlt : ((i : Int) < (l1.length : Int)) := by omega
    have hw : IntKind.i64.wrap ((i : Int) + 1) = ((i + 1 : Nat) : Int) := i_next h1 hb
    have ih' := ih (i + 1) n (by omega) (by omega)
    have fp := f1 l1[i] (List.getElem_mem h1)
    have t := rsame_at k l1[i] l2[i] (by have := fp.2.1; omega) (by have := fp.2.1; omega)
    rw [List.drop_eq_getElem_cons h1, List.drop_eq_getElem_cons h2]
    by_cases he : l1[i] = l2[i]
    · simp only [f13_rr_l2, f13_rr_l2_b, f13_rr_l2_j1, f13_rr_l2_j2, decide_eq_true hlt, cond_true, ifE_pos (show (0 : Int) ≤ i by omega), Int.toNat_natCast, g1, g2, Option.bind_some, t, decide_eq_true he, Bool.not_true, cond_false, hw, ih', List.cons.injEq]
      simp only [he, true_and]
    · simp only [f13_rr_l2, f13_rr_l2_b, f13_rr_l2_j1, f13_rr_l2_j2, decide_eq_true hlt, cond_true, ifE_pos (show (0 : Int) ≤ i by omega), Int.toNat_natCast, g1, g2, Option.bind_some, t, decide_eq_false he, Bool.not_false]
      rw [if_neg (fun e => he (List.cons.inj e).1)]
theorem lsame_at (k : Nat) (l1 l2 : List Bun) (hb : l1.length < 4611686018427387904) (f1 : ∀ b ∈ l1, Fit b) (hk : l1.length + 2 ≤ k) (hk2 : 601 ≤ k) : f13_rr k l1 l2 = some (.o0 (decide (l1 = l2))) := by
  obtain ⟨k, rfl⟩ : ∃ m, k = m + 1 := ⟨k - 1, by omega⟩
  by_cases h : l1.length = l2.length
  · have q := lsame_l k (by omega) l1 l2 hb f1 h l1.length 0 k (by omega) (by omega)
    simp only [List.drop_zero, Int.natCast_zero] at q
    have hl : (((l1.length : Int)) != (l2.length : Int)) = false := by rw [h]; simp
    by_cases he : l1 = l2
    · rw [if_pos he] at q
      simp only [f13_rr, f13_rr_e, f13_rr_j1, f13_rr_j3, hl, cond_false, q, Option.bind_some, decide_eq_true he]
    · rw [if_neg he] at q
      simp only [f13_rr, f13_rr_e, f13_rr_j1, f13_rr_j3, hl, cond_false, q, Option.bind_some, decide_eq_false he]
  · have hl : (((l1.length : Int)) != (l2.length : Int)) = true := by simp; omega
    have he : ¬ l1 = l2 := fun e => h (by rw [e])
    simp only [f13_rr, f13_rr_e, hl, cond_true, decide_eq_false he]
/-! The document's: all together. -/
theorem rall_l2 (k : Nat) (hk : 600 ≤ k) (L : List Bun) (hL : L.length ≤ 1000) (fL : ∀ b ∈ L, Fit b) (i : Nat) (hi : i < L.length) : ∀ (d j n : Nat), j + d = i + 1 → d < n →
    f24_r_l1_l2 k n L i L.length i ((i + 1 : Nat) : Int) j = some (cond (((L.take (i + 1)).drop j).all (togB L[i])) (.o2 L i L.length i ((i + 1 : Nat) : Int) ((i + 1 : Nat) : Int) false) (.o0 false)) := by
  intro d
  induction d with
  | zero =>
    intro j n hid hn
    obtain ⟨n, rfl⟩ : ∃ m, n = m + 1 := ⟨n - 1, by omega⟩
    have e1 : (L.take (i + 1)).drop j = [] := List.drop_eq_nil_of_le (by rw [List.length_take]; omega)
    have e3 : j = i + 1 := by omega
    rw [e1]
    subst e3
    simp only [f24_r_l1_l2, f24_r_l1_l2_b, decide_eq_false (Int.lt_irrefl _), cond_false, cond_true, Option.bind_some, List.all_nil]
  | succ d ih =>
    intro j n hid hn
    obtain ⟨n, rfl⟩ : ∃ m, n = m + 1 := ⟨n - 1, by omega⟩
    have h1 : j < L.length := by omega
    have g1 : L[i]? = some L[i] := List.getElem?_eq_getElem hi
    have g2 : L[j]? = some L[j] := List.getElem?_eq_getElem h1
    have ih' := ih (j + 1) n (by omega) (by omega)
    have hm : j < (L.take (i + 1)).length := by rw [List.length_take]; omega
    have t := rtogB_at k hk (fL L[i] (List.getElem_mem hi)) (fL L[j] (List.getElem_mem h1))
    rw [List.drop_eq_getElem_cons hm, List.all_cons, List.getElem_take]
    simp only [f24_r_l1_l2, f24_r_l1_l2_b, f24_r_l1_l2_j1, f24_r_l1_l2_j2, decide_eq_true (show (j : Int) < ((i + 1 : Nat) : Int) by omega), cond_true, ifE_pos (show (0 : Int) ≤ j by omega), ifE_pos (show (0 : Int) ≤ i by omega), Int.toNat_natCast, g1, g2, Option.bind_some, t, i_next h1 (by omega)]
    cases togB L[i] L[j] with
    | true => simp only [Bool.not_true, cond_false, Option.bind_some, ih', Bool.true_and]
    | false => simp only [Bool.not_false, cond_true, Option.bind_some, Bool.false_and, cond_false]
theorem rall_l1 (k : Nat) (hk : 2000 ≤ k) (L : List Bun) (hL : L.length ≤ 1000) (fL : ∀ b ∈ L, Fit b) : ∀ (d i n : Nat), i + d = L.length → d < n →
    f24_r_l1 k n L L.length i = some (cond (chkG (L.take i) (L.drop i)) (.o2 L L.length L.length false) (.o0 false)) := by
  intro d
  induction d with
  | zero =>
    intro i n hid hn
    obtain ⟨n, rfl⟩ : ∃ m, n = m + 1 := ⟨n - 1, by omega⟩
    have e1 : L.drop i = [] := List.drop_eq_nil_of_le (by omega)
    have e3 : i = L.length := by omega
    rw [e1]
    subst e3
    simp only [f24_r_l1, f24_r_l1_b, decide_eq_false (Int.lt_irrefl _), cond_false, cond_true, Option.bind_some, chkG]
  | succ d ih =>
    intro i n hid hn
    obtain ⟨n, rfl⟩ : ∃ m, n = m + 1 := ⟨n - 1, by omega⟩
    have h1 : i < L.length := by omega
    have ih' := ih (i + 1) n (by omega) (by omega)
    have t := rall_l2 k (by omega) L hL fL i h1 (i + 1) 0 k (by omega) (by omega)
    have e0 : ((0 : Nat) : Int) = 0 := rfl
    rw [e0, List.drop_zero] at t
    rw [List.drop_eq_getElem_cons h1, chkG, ← take_next h1]
    simp only [f24_r_l1, f24_r_l1_b, f24_r_l1_j1, decide_eq_true (show (i : Int) < (L.length : Int) by omega), cond_true, i_next h1 (show L.length < 4611686018427387904 by omega), t]
    cases (L.take (i + 1)).all (togB L[i]) with
    | true => simp only [cond_true, Option.bind_some, f24_r_l1_j3, i_next h1 (show L.length < 4611686018427387904 by omega), ih', Bool.true_and]
    | false => simp only [cond_false, Option.bind_some, Bool.false_and]
theorem rall_at (k : Nat) (hk : 2001 ≤ k) (L : List Bun) (hL : L.length ≤ 1000) (fL : ∀ b ∈ L, Fit b) : f24_r k L = some (.o0 (chkL L)) := by
  obtain ⟨k, rfl⟩ : ∃ m, k = m + 1 := ⟨k - 1, by omega⟩
  have q := rall_l1 k (by omega) L hL fL L.length 0 k (by omega) (by omega)
  have e0 : ((0 : Nat) : Int) = 0 := rfl
  rw [e0, List.take_zero, List.drop_zero] at q
  unfold chkL
  simp only [f24_r, f24_r_e, q, Option.bind_some]
  cases chkG [] L with
  | false => simp only [cond_false, Option.bind_some, Bool.false_and]
  | true =>
    simp only [cond_true, Option.bind_some, Bool.true_and, f24_r_j2]
    rw [show decide ((L.length : Int) > 0) = decide (0 < L.length) by
      by_cases h : 0 < L.length
      · rw [decide_eq_true h, decide_eq_true (by omega)]
      · rw [decide_eq_false h, decide_eq_false (by omega)]]
/-! The document's: which bytes there are. -/
theorem rhave_b (k : Nat) (L : List Bun) (x21 x22 : Int) (b : Bun) (ob : okP b) (h : List Bool) (v : List Int) (hh : (h.length : Int) = b.Total) (hv : (v.length : Int) = b.Total) : ∀ (d j n : Nat), j + d = b.Payload.length → d < n →
    f35_r_l1_l2 k n L x21 x22 b.Payload b.Payload.length j (putB h b.Offset.toNat j) (putI v b.Offset.toNat (b.Payload.take j)) b.Source b.Dest b.Seq b.Created b.Lifetime b.HopLimit b.Hops b.Priority b.Offset b.Total b.Payload = some (.o1 L x21 x22 b.Payload b.Payload.length b.Payload.length false (putB h b.Offset.toNat b.Payload.length) (putI v b.Offset.toNat b.Payload) b.Source b.Dest b.Seq b.Created b.Lifetime b.HopLimit b.Hops b.Priority b.Offset b.Total b.Payload) := by
  have bb := ob.b
  intro d
  induction d with
  | zero =>
    intro j n hid hn
    obtain ⟨n, rfl⟩ : ∃ m, n = m + 1 := ⟨n - 1, by omega⟩
    have e3 : j = b.Payload.length := by omega
    subst e3
    simp only [f35_r_l1_l2, f35_r_l1_l2_b, decide_eq_false (Int.lt_irrefl _), cond_false, Option.bind_some, List.take_length]
  | succ d ih =>
    intro j n hid hn
    obtain ⟨n, rfl⟩ : ∃ m, n = m + 1 := ⟨n - 1, by omega⟩
    have h1 : j < b.Payload.length := by omega
    have g0 : b.Payload[j]? = some b.Payload[j] := List.getElem?_eq_getElem h1
    have ih' := ih (j + 1) n (by omega) (by omega)
    have hw : IntKind.i64.wrap (b.Offset + (j : Int)) = ((b.Offset.toNat + j : Nat) : Int) := by rw [wrap_i64 (by omega) (by omega)]; omega
    have hl : (putB h b.Offset.toNat j).length = h.length := putB_len (by omega)
    have hl2 : (putI v b.Offset.toNat (b.Payload.take j)).length = v.length := putI_len (by rw [List.length_take]; omega)
    have hg : b.Offset.toNat + j < (putB h b.Offset.toNat j).length := by omega
    have hg2 : b.Offset.toNat + j < (putI v b.Offset.toNat (b.Payload.take j)).length := by omega
    have g1 : (putB h b.Offset.toNat j)[b.Offset.toNat + j]? = some (putB h b.Offset.toNat j)[b.Offset.toNat + j] := List.getElem?_eq_getElem hg
    have g2 : (putI v b.Offset.toNat (b.Payload.take j))[b.Offset.toNat + j]? = some (putI v b.Offset.toNat (b.Payload.take j))[b.Offset.toNat + j] := List.getElem?_eq_getElem hg2
    simp only [f35_r_l1_l2, f35_r_l1_l2_b, f35_r_l1_l2_j1, f35_r_l1_l2_j2, decide_eq_true (show (j : Int) < (b.Payload.length : Int) by omega), cond_true, hw, ifE_pos (show (0 : Int) ≤ (j : Int) by omega), ifE_pos (show (0 : Int) ≤ ((b.Offset.toNat + j : Nat) : Int) by omega), ifE_pos (show ((b.Offset.toNat + j : Nat) : Int) < ((putB h b.Offset.toNat j).length : Int) by omega), ifE_pos (show ((b.Offset.toNat + j : Nat) : Int) < ((putI v b.Offset.toNat (b.Payload.take j)).length : Int) by omega), Int.toNat_natCast, g0, g1, g2, Option.bind_some, putB_succ (show b.Offset.toNat + j < h.length by omega), putI_succ h1 (show b.Offset.toNat + b.Payload.length ≤ v.length by omega), i_next h1 (by omega), ih']
theorem rhave_l (k : Nat) (hk : 2000 ≤ k) (L : List Bun) (T : Int) (hL : L.length ≤ 1000) (oL : ∀ b ∈ L, okP b ∧ b.Total = T) : ∀ (d i n : Nat) (h : List Bool) (v : List Int), i + d = L.length → d < n → (h.length : Int) = T → (v.length : Int) = T →
    f35_r_l1 k n L L.length i h v = some (.o1 L L.length L.length false (hasL (L.drop i) h) (allL (L.drop i) v)) := by
  intro d
  induction d with
  | zero =>
    intro i n h v hid hn hh hv
    obtain ⟨n, rfl⟩ : ∃ m, n = m + 1 := ⟨n - 1, by omega⟩
    have e1 : L.drop i = [] := List.drop_eq_nil_of_le (by omega)
    have e3 : i = L.length := by omega
    rw [e1]
    subst e3
    simp only [f35_r_l1, f35_r_l1_b, decide_eq_false (Int.lt_irrefl _), cond_false, Option.bind_some, hasL, allL, List.foldl_nil]
  | succ d ih =>
    intro i n h v hid hn hh hv
    obtain ⟨n, rfl⟩ : ∃ m, n = m + 1 := ⟨n - 1, by omega⟩
    have h1 : i < L.length := by omega
    have g1 : L[i]? = some L[i] := List.getElem?_eq_getElem h1
    obtain ⟨ob, tb⟩ := oL L[i] (List.getElem_mem h1)
    have bb := ob.b
    have q := rhave_b k L L.length i L[i] ob h v (by omega) (by omega) L[i].Payload.length 0 k (by omega) (by omega)
    have e0 : ((0 : Nat) : Int) = 0 := rfl
    rw [e0, putB_zero, List.take_zero, putI_zero] at q
    have ih' := ih (i + 1) n (putB h L[i].Offset.toNat L[i].Payload.length) (putI v L[i].Offset.toNat L[i].Payload) (by omega) (by omega) (by rw [putB_len (by omega)]; exact hh) (by rw [putI_len (by omega)]; exact hv)
    rw [List.drop_eq_getElem_cons h1]
    simp only [f35_r_l1, f35_r_l1_b, f35_r_l1_j1, decide_eq_true (show (i : Int) < (L.length : Int) by omega), cond_true, ifE_pos (show (0 : Int) ≤ i by omega), Int.toNat_natCast, g1, Option.bind_some, q, f35_r_l1_j3, i_next h1 (show L.length < 4611686018427387904 by omega), ih', hasL, allL, List.foldl_cons]
theorem rhave_at (k : Nat) (hk : 2001 ≤ k) (L : List Bun) (hL : L.length ≤ 1000) (hc : chkL L = true) : f35_r k L = some (.o0 (hasF L) (allF L)) := by
  obtain ⟨k, rfl⟩ : ∃ m, k = m + 1 := ⟨k - 1, by omega⟩
  unfold chkL at hc
  rw [Bool.and_eq_true, decide_eq_true_iff] at hc
  cases L with
  | nil => simp at hc
  | cons c r =>
    have hT := chkG_total hc.1
    have oc := (hT c (by simp)).1.b
    have e0 : ((0 : Nat) : Int) = 0 := rfl
    have q2 := rhave_l k (by omega) (c :: r) c.Total hL hT (c :: r).length 0 k (List.replicate c.Total.toNat false) (List.replicate c.Total.toNat 0) (by omega) (by omega) (by simp; omega) (by simp; omega)
    rw [e0, List.drop_zero] at q2
    have hr : (c.Total : Int) * 1 ≤ (roomy : Int) := by have : ((roomy : Nat) : Int) = 140737488351232 := rfl; omega
    simp only [f35_r, f35_r_e, List.getElem?_cons_zero, Option.bind_some, ifE_pos (show (0 : Int) ≤ c.Total by omega), ifE_pos (Int.le_refl c.Total), ifE_pos hr, q2, f35_r_j2, hasF, allF]
theorem hasL_len : ∀ (l : List Bun) (h : List Bool), (∀ b ∈ l, okP b ∧ b.Total = (h.length : Int)) → (hasL l h).length = h.length
  | [], h, _ => rfl
  | b :: l, h, hb => by
    have ob := (hb b (by simp)).1.b
    have tb := (hb b (by simp)).2
    have hl : (putB h b.Offset.toNat b.Payload.length).length = h.length := putB_len (by omega)
    have := hasL_len l (putB h b.Offset.toNat b.Payload.length) (fun c hc => by rw [hl]; exact hb c (by simp [hc]))
    rw [hl] at this
    exact this
theorem hasF_len {L : List Bun} (hc : chkL L = true) : (hasF L).length ≤ 400 := by
  unfold chkL at hc
  rw [Bool.and_eq_true, decide_eq_true_iff] at hc
  cases L with
  | nil => simp at hc
  | cons c r =>
    have hT := chkG_total hc.1
    have oc := (hT c (by simp)).1.b
    have := hasL_len (c :: r) (List.replicate c.Total.toNat false) (fun b hb => ⟨(hT b hb).1, by rw [(hT b hb).2, List.length_replicate]; omega⟩)
    rw [List.length_replicate] at this
    unfold hasF
    simp only []
    omega
theorem allL_len : ∀ (l : List Bun) (v : List Int), (∀ b ∈ l, okP b ∧ b.Total = (v.length : Int)) → (allL l v).length = v.length
  | [], v, _ => rfl
  | b :: l, v, hb => by
    have ob := (hb b (by simp)).1.b
    have tb := (hb b (by simp)).2
    have hl : (putI v b.Offset.toNat b.Payload).length = v.length := putI_len (by omega)
    have := allL_len l (putI v b.Offset.toNat b.Payload) (fun c hc => by rw [hl]; exact hb c (by simp [hc]))
    rw [hl] at this
    exact this
theorem allF_len {c : Bun} {r : List Bun} (hc : chkL (c :: r) = true) : ((allF (c :: r)).length : Int) = c.Total := by
  unfold chkL at hc
  rw [Bool.and_eq_true, decide_eq_true_iff] at hc
  have hT := chkG_total hc.1
  have oc := (hT c (by simp)).1.b
  have := allL_len (c :: r) (List.replicate c.Total.toNat 0) (fun b hb => ⟨(hT b hb).1, by rw [(hT b hb).2, List.length_replicate]; omega⟩)
  rw [List.length_replicate] at this
  unfold allF
  simp only []
  omega
theorem rmiss_at (k : Nat) (hk : 2002 ≤ k) (L : List Bun) (hL : L.length ≤ 1000) (hc : chkL L = true) : f25_r k L = some (.o0 (gapsF (hasF L))) := by
  obtain ⟨k, rfl⟩ : ∃ m, k = m + 1 := ⟨k - 1, by omega⟩
  have hl := hasF_len hc
  have q := (rmiss_l k (hasF L) (by omega) (hasF L).length 0 k (by omega) (by omega)).1 [] (by simp) (by simp)
  have e0 : ((0 : Nat) : Int) = 0 := rfl
  rw [e0, List.drop_zero] at q
  simp only [f25_r, f25_r_e, rhave_at k (by omega) L hL hc, Option.bind_some, q, f25_r_j2, List.nil_append, gapsF]
theorem miss_at (k : Nat) (hk : 2002 ≤ k) (L : List Bun) (hL : L.length ≤ 1000) (fL : ∀ b ∈ L, Fit b) : f23_r k L = some (cond (chkL L) (.o0 0 (gapsF (hasF L))) (.o0 280 [])) := by
  obtain ⟨k, rfl⟩ : ∃ m, k = m + 1 := ⟨k - 1, by omega⟩
  simp only [f23_r, f23_r_e, gath_at k (by omega) L hL fL, Option.bind_some]
  cases hc : chkL L with
  | false =>
    have q := gaps_at k [] (by simp) (by simp; omega)
    simp only [cond_false, q, Option.bind_some, gapsF, gapsS]
  | true =>
    have hl := hasF_len hc
    simp only [cond_true, gaps_at k (hasF L) (by omega) (by omega), Option.bind_some]
/-! The whole. -/
def maxH (l : List Bun) (h : Int) : Int := l.foldl (fun h b => if b.Hops > h then b.Hops else h) h
def joinB : List Bun → Bun
  | [] => ⟨0, 0, 0, 0, 0, 0, 0, 0, 0, 0, []⟩
  | c :: r => { c with Offset := 0, Payload := allF (c :: r), Hops := maxH (c :: r) c.Hops }
theorem joinB_len {L : List Bun} (hc : chkL L = true) : (joinB L).Payload.length ≤ 400 := by
  cases L with
  | nil => simp [joinB]
  | cons c r =>
    have h := allF_len hc
    unfold chkL at hc
    rw [Bool.and_eq_true, decide_eq_true_iff] at hc
    have oc := (chkG_total hc.1 c (by simp)).1.b
    simp only [joinB]
    omega
theorem join_l (k : Nat) (L : List Bun) (hL : L.length ≤ 1000) (c : Bun) (v : List Int) : ∀ (d i n : Nat) (h : Int), i + d = L.length → d < n →
    f18_r_l5 k n L L.length i 0 0 0 0 0 0 0 0 0 0 [] c.Source c.Dest c.Seq c.Created c.Lifetime c.HopLimit h c.Priority 0 c.Total v = some (.o1 L L.length L.length false 0 0 0 0 0 0 0 0 0 0 [] c.Source c.Dest c.Seq c.Created c.Lifetime c.HopLimit (maxH (L.drop i) h) c.Priority 0 c.Total v) := by
  intro d
  induction d with
  | zero =>
    intro i n h hid hn
    obtain ⟨n, rfl⟩ : ∃ m, n = m + 1 := ⟨n - 1, by omega⟩
    have e1 : L.drop i = [] := List.drop_eq_nil_of_le (by omega)
    have e3 : i = L.length := by omega
    rw [e1]
    subst e3
    simp only [f18_r_l5, f18_r_l5_b, decide_eq_false (Int.lt_irrefl _), cond_false, Option.bind_some, maxH, List.foldl_nil]
  | succ d ih =>
    intro i n h hid hn
    obtain ⟨n, rfl⟩ : ∃ m, n = m + 1 := ⟨n - 1, by omega⟩
    have h1 : i < L.length := by omega
    have g1 : L[i]? = some L[i] := List.getElem?_eq_getElem h1
    have ih' := ih (i + 1) n (if L[i].Hops > h then L[i].Hops else h) (by omega) (by omega)
    rw [List.drop_eq_getElem_cons h1]
    simp only [f18_r_l5, f18_r_l5_b, f18_r_l5_j1, f18_r_l5_j2, decide_eq_true (show (i : Int) < (L.length : Int) by omega), cond_true, ifE_pos (show (0 : Int) ≤ i by omega), Int.toNat_natCast, g1, Option.bind_some, i_next h1 (show L.length < 4611686018427387904 by omega), ih', maxH, List.foldl_cons]
theorem rjoin_l (k : Nat) (L : List Bun) (hL : L.length ≤ 1000) (c : Bun) (v : List Int) : ∀ (d i n : Nat) (h : Int), i + d = L.length → d < n →
    f22_r_l3 k n L L.length i 0 0 0 0 0 0 0 0 0 0 [] c.Source c.Dest c.Seq c.Created c.Lifetime c.HopLimit h c.Priority 0 c.Total v = some (.o1 L L.length L.length false 0 0 0 0 0 0 0 0 0 0 [] c.Source c.Dest c.Seq c.Created c.Lifetime c.HopLimit (maxH (L.drop i) h) c.Priority 0 c.Total v) := by
  intro d
  induction d with
  | zero =>
    intro i n h hid hn
    obtain ⟨n, rfl⟩ : ∃ m, n = m + 1 := ⟨n - 1, by omega⟩
    have e1 : L.drop i = [] := List.drop_eq_nil_of_le (by omega)
    have e3 : i = L.length := by omega
    rw [e1]
    subst e3
    simp only [f22_r_l3, f22_r_l3_b, decide_eq_false (Int.lt_irrefl _), cond_false, Option.bind_some, maxH, List.foldl_nil]
  | succ d ih =>
    intro i n h hid hn
    obtain ⟨n, rfl⟩ : ∃ m, n = m + 1 := ⟨n - 1, by omega⟩
    have h1 : i < L.length := by omega
    have g1 : L[i]? = some L[i] := List.getElem?_eq_getElem h1
    have ih' := ih (i + 1) n (if L[i].Hops > h then L[i].Hops else h) (by omega) (by omega)
    rw [List.drop_eq_getElem_cons h1]
    simp only [f22_r_l3, f22_r_l3_b, f22_r_l3_j1, f22_r_l3_j2, decide_eq_true (show (i : Int) < (L.length : Int) by omega), cond_true, ifE_pos (show (0 : Int) ≤ i by omega), Int.toNat_natCast, g1, Option.bind_some, i_next h1 (show L.length < 4611686018427387904 by omega), ih', maxH, List.foldl_cons]
theorem join_at (k : Nat) (hk : 2002 ≤ k) (L : List Bun) (hL : L.length ≤ 1000) (fL : ∀ b ∈ L, Fit b) : f18_r k L = some (cond (chkL L) (cond (decide (((gapsF (hasF L)).length : Int) > 0)) (.o0 0 0 0 0 0 0 0 0 0 0 [] 4) (.o1 (joinB L).Source (joinB L).Dest (joinB L).Seq (joinB L).Created (joinB L).Lifetime (joinB L).HopLimit (joinB L).Hops (joinB L).Priority (joinB L).Offset (joinB L).Total 0 (joinB L).Payload)) (.o0 0 0 0 0 0 0 0 0 0 0 [] 280)) := by
  obtain ⟨k, rfl⟩ : ∃ m, k = m + 1 := ⟨k - 1, by omega⟩
  simp only [f18_r, f18_r_e, gath_at k (by omega) L hL fL, Option.bind_some]
  cases hc : chkL L with
  | false =>
    simp only [cond_false, show ((280 : Int) != 0) = true by decide, cond_true]
  | true =>
    have hl := hasF_len hc
    simp only [cond_true, bne_self_eq_false, cond_false, gaps_at k (hasF L) (by omega) (by omega), Option.bind_some]
    cases hg : decide (((gapsF (hasF L)).length : Int) > 0) with
    | true => simp only [cond_true]
    | false =>
      cases L with
      | nil => unfold chkL at hc; simp at hc
      | cons c r =>
        have q := join_l k (c :: r) hL c (allF (c :: r)) (c :: r).length 0 k c.Hops (by omega) (by omega)
        have e0 : ((0 : Nat) : Int) = 0 := rfl
        rw [e0, List.drop_zero] at q
        simp only [cond_false, f18_r_j4, List.getElem?_cons_zero, Option.bind_some, q, f18_r_j6, joinB]
theorem rjoin_at (k : Nat) (hk : 2003 ≤ k) (L : List Bun) (hL : L.length ≤ 1000) (fL : ∀ b ∈ L, Fit b) : f22_r k L = some (cond (chkL L) (cond (decide (((gapsF (hasF L)).length : Int) > 0)) (.o0 0 0 0 0 0 0 0 0 0 0 [] 4) (.o1 (joinB L).Source (joinB L).Dest (joinB L).Seq (joinB L).Created (joinB L).Lifetime (joinB L).HopLimit (joinB L).Hops (joinB L).Priority (joinB L).Offset (joinB L).Total 0 (joinB L).Payload)) (.o0 0 0 0 0 0 0 0 0 0 0 [] 280)) := by
  obtain ⟨k, rfl⟩ : ∃ m, k = m + 1 := ⟨k - 1, by omega⟩
  simp only [f22_r, f22_r_e, rall_at k (by omega) L hL fL, Option.bind_some]
  cases hc : chkL L with
  | false =>
    simp only [cond_false, Bool.not_false, cond_true]
  | true =>
    simp only [cond_true, Bool.not_true, cond_false, f22_r_j1, rmiss_at k (by omega) L hL hc, Option.bind_some]
    cases hg : decide (((gapsF (hasF L)).length : Int) > 0) with
    | true => simp only [cond_true]
    | false =>
      have hv := rhave_at k (by omega) L hL hc
      cases L with
      | nil => unfold chkL at hc; simp at hc
      | cons c r =>
        have q := rjoin_l k (c :: r) hL c (allF (c :: r)) (c :: r).length 0 k c.Hops (by omega) (by omega)
        have e0 : ((0 : Nat) : Int) = 0 := rfl
        rw [e0, List.drop_zero] at q
        simp only [cond_false, f22_r_j2, hv, List.getElem?_cons_zero, Option.bind_some, q, f22_r_j4, joinB]
end Go.Proofs.YteggcokgkcfliaaV
