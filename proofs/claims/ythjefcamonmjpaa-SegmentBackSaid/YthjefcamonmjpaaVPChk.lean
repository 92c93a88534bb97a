/- Just what Check and Encode answer. -/
import Derived.Test.YthjefcamonmjpaaVPEnc
namespace Go.Proofs.YthjefcamonmjpaaV
open Go Go.Proofs.Ythjefcamonmjpaa
set_option linter.unusedVariables false
set_option linter.unusedSimpArgs false
/-- May a segment's numbers be? -/
def okT (s : T26) : Bool :=
  inT s.Source 1 6 && (decide (s.Session > 0) && (
    cond (s.Kind == 1) (inT s.Total 1 512 && (inT (s.Data.length : Int) 1 100 && (inT s.Offset 0 (IntKind.i64.wrap (s.Total - (s.Data.length : Int))) && (s.Check == decide (s.Serial > 0)))))
    (cond (s.Kind == 2) (decide (s.Serial > 0) && (decide (s.Checks > 0) && (inT s.Upper 1 512 && (inT s.Lower 0 (IntKind.i64.wrap (s.Upper - 1)) && (clm s.Upper (IntKind.i64.wrap (s.Lower - 1)) s.Claims && decide ((s.Claims.length : Int) ≤ 20))))))
    (cond (s.Kind == 3) (decide (s.Serial > 0))
    (cond (s.Kind == 4) (inT s.Reason 0 255)
    (cond (s.Kind == 6) (inT s.Reason 0 255)
    (cond (s.Kind == 5) true (s.Kind == 7))))))))
/-- A segment with what its kind counts. -/
def onlyT (s : T26) : T26 :=
  cond (s.Kind == 1) ⟨s.Kind, s.Source, s.Session, s.Serial, 0, s.Offset, s.Total, 0, 0, 0, s.Check, s.Data, []⟩
  (cond (s.Kind == 2) ⟨s.Kind, s.Source, s.Session, s.Serial, s.Checks, 0, 0, s.Lower, s.Upper, 0, false, [], s.Claims⟩
  (cond (s.Kind == 3) ⟨s.Kind, s.Source, s.Session, s.Serial, 0, 0, 0, 0, 0, 0, false, [], []⟩
  (cond (s.Kind == 4) ⟨s.Kind, s.Source, s.Session, 0, 0, 0, 0, 0, 0, s.Reason, false, [], []⟩
  (cond (s.Kind == 6) ⟨s.Kind, s.Source, s.Session, 0, 0, 0, 0, 0, 0, s.Reason, false, [], []⟩
  ⟨s.Kind, s.Source, s.Session, 0, 0, 0, 0, 0, 0, 0, false, [], []⟩))))
def eqT (a b : T26) : Bool := decide (a = b)
/-- What Check answers. -/
def chkT (s : T26) : Int := cond (okT s && eqT s (onlyT s)) 0 200
theorem chk_at (s : T26) (k : Nat) (hb : s.Data.length < 1000) (hb' : s.Claims.length < 1000) (hk : 2100 ≤ k) : f15_ai10brrz k s.Kind s.Source s.Session s.Serial s.Checks s.Offset s.Total s.Lower s.Upper s.Reason s.Check s.Data s.Claims = some (.o0 (chkT s)) := by
  obtain ⟨k, rfl⟩ : ∃ j, k = j + 2 := ⟨k - 2, by omega⟩
  have hsame := same_at s (k + 1) (by omega) (by omega) (by omega)
  have hc := claimed_at (k + 1) s.Claims s.Lower s.Upper hb' (by omega)
  have j1 : ∀ x t1 t2 t3 t4 t5 t6 t7 t8 t9 t10 t11 t12 t13, f15_ai10brrz_j1 (k + 1) x s.Kind s.Source s.Session s.Serial s.Checks s.Offset s.Total s.Lower s.Upper s.Reason s.Check s.Data s.Claims t1 t2 t3 t4 t5 t6 t7 t8 t9 t10 t11 t12 t13 = some (.o0 (cond (x && eqT s (T26.mk t1 t2 t3 t4 t5 t6 t7 t8 t9 t10 t11 t12 t13)) 0 200)) := by
    intro x t1 t2 t3 t4 t5 t6 t7 t8 t9 t10 t11 t12 t13
    obtain ⟨b, e, hb⟩ := hsame t1 t2 t3 t4 t5 t6 t7 t8 t9 t10 t11 t12 t13
    simp only [f15_ai10brrz_j1, e, Option.bind_some, f15_ai10brrz_j2]
    have hd : eqT s (T26.mk t1 t2 t3 t4 t5 t6 t7 t8 t9 t10 t11 t12 t13) = b := by rw [Bool.eq_iff_iff, eqT, decide_eq_true_eq, hb]
    rw [hd]
    cases x <;> cases b <;> rfl
  have j5 : ∀ x y z t1 t2 t3 t4 t5 t6 t7 t8 t9 t10 t11 t12 t13, f15_ai10brrz_j5 (k + 1) x y z s.Kind s.Source s.Session s.Serial s.Checks s.Offset s.Total s.Lower s.Upper s.Reason s.Check s.Data s.Claims t1 t2 t3 t4 t5 t6 t7 t8 t9 t10 t11 t12 t13 = some (.o0 (cond (x && eqT s (T26.mk t1 t2 t3 t4 t5 t6 t7 t8 t9 t10 t11 t12 t13)) 0 200)) := fun x y z => j1 x
  have j7 : ∀ x z t1 t2 t3 t4 t5 t6 t7 t8 t9 t10 t11 t12 t13, f15_ai10brrz_j7 (k + 1) x z s.Kind s.Source s.Session s.Serial s.Checks s.Offset s.Total s.Lower s.Upper s.Reason s.Check s.Data s.Claims t1 t2 t3 t4 t5 t6 t7 t8 t9 t10 t11 t12 t13 = some (.o0 (cond (x && eqT s (T26.mk t1 t2 t3 t4 t5 t6 t7 t8 t9 t10 t11 t12 t13)) 0 200)) := fun x z => j1 x
  simp only [f15_ai10brrz, f15_ai10brrz_e, f15_ai10brrz_j3, f15_ai10brrz_j4, f15_ai10brrz_j6, in_at, hc, Option.bind_some, j1, j5, j7, chkT, okT, onlyT]
  generalize inT s.Source 1 6 = b1
  generalize decide (s.Session > 0) = b2
  cases b1 <;> cases b2 <;> simp only [cond_true, cond_false, Bool.false_and, Bool.true_and]
  all_goals
    cases (s.Kind == 1)
    · cases (s.Kind == 2)
      · cases (s.Kind == 3)
        · cases (s.Kind == 4)
          · cases (s.Kind == 6)
            · cases (s.Kind == 5)
              · cases (s.Kind == 7) <;> simp
              · simp
            · simp
          · simp
        · simp
      · cases decide (s.Serial > 0) <;> cases decide (s.Checks > 0) <;> cases inT s.Upper 1 512 <;> cases inT s.Lower 0 (IntKind.i64.wrap (s.Upper - 1)) <;> simp
    · cases inT s.Total 1 512 <;> cases inT (s.Data.length : Int) 1 100 <;> cases inT s.Offset 0 (IntKind.i64.wrap (s.Total - (s.Data.length : Int))) <;> simp
/-- The bytes that Encode seals. -/
def bodyB (s : T26) : List Int :=
  ([IntKind.u8.wrap s.Kind] ++ puts [s.Source, IntKind.i64.wrap s.Session]) ++
    cond (s.Kind == 1) (cond s.Check (puts [1, IntKind.i64.wrap s.Serial]) (puts [0]) ++ puts [s.Offset, s.Total, (s.Data.length : Int)] ++ s.Data)
    (cond (s.Kind == 2) (puts [IntKind.i64.wrap s.Serial, IntKind.i64.wrap s.Checks, s.Lower, s.Upper, (s.Claims.length : Int)] ++ s.Claims.flatMap fun c => puts [c.At, c.N])
    (cond (s.Kind == 3) (puts [IntKind.i64.wrap s.Serial])
    (cond (s.Kind == 4) (puts [s.Reason])
    (cond (s.Kind == 6) (puts [s.Reason]) []))))
theorem encx_l6 (k : Nat) (hk : 100 ≤ k) (l : List T45) (hl : l.length ≤ 1000) : ∀ (d i n m : Nat) (h : List Int), i + d = l.length → d < n → G m h → m + 20 * d ≤ 50000 →
    f12_ai10brrz_l6 k n l (l.length : Int) (i : Int) h = some (.o2 l (l.length : Int) (l.length : Int) false (h ++ (l.drop i).flatMap fun c => puts [c.At, c.N])) ∧ G (m + 20 * d) (h ++ (l.drop i).flatMap fun c => puts [c.At, c.N])
  | 0, i, n, m, h, hi, hn, hg, _ => by
    obtain ⟨n, rfl⟩ : ∃ j, n = j + 1 := ⟨n - 1, by omega⟩
    obtain rfl : i = l.length := by omega
    rw [List.drop_length, List.flatMap_nil, List.append_nil]
    exact ⟨by simp [f12_ai10brrz_l6, f12_ai10brrz_l6_b], hg⟩
  | d + 1, i, n, m, h, hi, hn, hg, hm => by
    obtain ⟨n, rfl⟩ : ∃ j, n = j + 1 := ⟨n - 1, by omega⟩
    have h1 : i < l.length := by omega
    have g1 : l[i]? = some l[i] := List.getElem?_eq_getElem h1
    have hlt : ((i : Int) < (l.length : Int)) := by omega
    have hw : IntKind.i64.wrap ((i : Int) + 1) = ((i + 1 : Nat) : Int) := by rw [wrap_i64 (by omega) (by omega)]; rfl
    obtain ⟨e1, e2⟩ := encx_l6 k hk l hl d (i + 1) n (m + 20) (h ++ puts [l[i].At, l[i].N]) (by omega) (by omega) (hg.puts [l[i].At, l[i].N]) (by omega)
    rw [List.drop_eq_getElem_cons h1, List.flatMap_cons, ← List.append_assoc]
    refine ⟨?_, e2.mono (by omega)⟩
    rw [← e1]
    have he := hg.2.2
    simp only [f12_ai10brrz_l6, f12_ai10brrz_l6_b, f12_ai10brrz_l6_j1, decide_eq_true hlt, cond_true, ifE_pos (show (0 : Int) ≤ i by omega), Int.toNat_natCast, g1, Option.bind_some]
    rw [wr_bind k [l[i].At, l[i].N] h _ (by simp) (by simp) hk (by omega)]
    simp only [f12_ai10brrz_l6_j3, Option.bind_some, hw]
theorem finx (k : Nat) (e : List Int) (hk : 60000 ≤ k) (h : G 50000 e) : (Option.bind (f23_r k e) fun o1 => match o1 with | .o0 v4 => some (R12_ai10brrz.o0 0 v4)) = some (.o0 0 (sealB e)) ∧ G 50000 e := by
  have hr : roomy = 70368744177664 := rfl
  have := h.2.2
  rw [seal32_at k e h.1 (by omega) (by omega)]
  exact ⟨rfl, h⟩
/-- What Encode answers. -/
theorem enc_at (s : T26) (k : Nat) (hb : s.Data.length < 1000) (hd : Bytes s.Data) (hb' : s.Claims.length < 1000) (hk : 60001 ≤ k) : f12_ai10brrz k s.Kind s.Source s.Session s.Serial s.Checks s.Offset s.Total s.Lower s.Upper s.Reason s.Check s.Data s.Claims = some (.o0 (chkT s) (if chkT s = 0 then sealB (bodyB s) else [])) ∧ G 50000 (bodyB s) := by
  have hr : roomy = 70368744177664 := rfl
  obtain ⟨k, rfl⟩ : ∃ j, k = j + 1 := ⟨k - 1, by omega⟩
  have hk : 60000 ≤ k := by omega
  suffices hh : ∀ c : Int, c = 0 → f12_ai10brrz_j1 k c false s.Kind s.Source s.Session s.Serial s.Checks s.Offset s.Total s.Lower s.Upper s.Reason s.Check s.Data s.Claims = some (.o0 0 (sealB (bodyB s))) ∧ G 50000 (bodyB s) by
    have hg := (hh 0 rfl).2
    refine ⟨?_, hg⟩
    simp only [f12_ai10brrz, f12_ai10brrz_e, chk_at s k hb hb' (by omega), Option.bind_some]
    by_cases hc : chkT s = 0
    · have e0 : (chkT s != 0) = false := by rw [hc]; rfl
      simp only [e0, cond_false, (hh (chkT s) hc).1, if_pos hc]
      rw [hc]
    · have e0 : (chkT s != 0) = true := by simpa using hc
      simp only [e0, cond_true, if_neg hc]
  intro c hc
  simp only [f12_ai10brrz_j1, bodyB]
  have w8 : 0 ≤ IntKind.u8.wrap s.Kind ∧ IntKind.u8.wrap s.Kind < 256 := by rw [IntKind.wrap_u8]; omega
  have g0 : G 30 ([IntKind.u8.wrap s.Kind] ++ puts [s.Source, IntKind.i64.wrap s.Session]) := by
    have hp := puts_length [s.Source, IntKind.i64.wrap s.Session]
    simp only [List.length_cons, List.length_nil] at hp
    refine ⟨bytes_append (fun x hx => by simp only [List.mem_singleton] at hx; subst hx; exact w8) (puts_bytes _), ?_, ?_⟩ <;> rw [List.length_append, List.length_singleton] <;> omega
  rw [wr_bind k [s.Source, IntKind.i64.wrap s.Session] _ _ (by simp) (by simp) (by omega) (by simp)]
  simp only []
  generalize [IntKind.u8.wrap s.Kind] ++ puts [s.Source, IntKind.i64.wrap s.Session] = e at g0
  have ge := g0.2.2
  cases hk1 : (s.Kind == 1)
  · simp only [cond_false]
    cases hk2 : (s.Kind == 2)
    · simp only [cond_false]
      cases hk3 : (s.Kind == 3)
      · simp only [cond_false]
        cases hk4 : (s.Kind == 4)
        · simp only [cond_false, f12_ai10brrz_j19]
          cases hk6 : (s.Kind == 6)
          · simp only [cond_false, f12_ai10brrz_j20, List.append_nil]
            exact finx k e hk (g0.mono (by omega))
          · simp only [cond_true]
            rw [wr_bind k [s.Reason] _ _ (by simp) (by simp) (by omega) (by omega)]
            exact finx k _ hk ((g0.puts [s.Reason]).mono (by simp))
        · simp only [cond_true, f12_ai10brrz_j17]
          rw [wr_bind k [s.Reason] _ _ (by simp) (by simp) (by omega) (by omega)]
          exact finx k _ hk ((g0.puts [s.Reason]).mono (by simp))
      · simp only [cond_true]
        rw [wr_bind k [IntKind.i64.wrap s.Serial] _ _ (by simp) (by simp) (by omega) (by omega)]
        exact finx k _ hk ((g0.puts [IntKind.i64.wrap s.Serial]).mono (by simp))
    · simp only [cond_true]
      rw [wr_bind k [IntKind.i64.wrap s.Serial, IntKind.i64.wrap s.Checks, s.Lower, s.Upper, (s.Claims.length : Int)] _ _ (by simp) (by simp) (by omega) (by omega)]
      obtain ⟨e1, e2⟩ := encx_l6 k (by omega) s.Claims (by omega) s.Claims.length 0 k _ (e ++ puts [IntKind.i64.wrap s.Serial, IntKind.i64.wrap s.Checks, s.Lower, s.Upper, (s.Claims.length : Int)]) (by omega) (by omega) (g0.puts _) (by simp; omega)
      rw [show ((0 : Nat) : Int) = 0 from rfl, List.drop_zero] at e1
      rw [List.drop_zero] at e2
      simp only [e1, Option.bind_some, f12_ai10brrz_j7]
      rw [List.append_assoc] at e2 ⊢
      exact finx k _ hk (e2.mono (by simp; omega))
  · simp only [cond_true]
    cases s.Check
    · simp only [cond_false]
      rw [wr_bind k [0] _ _ (by simp) (by simp) (by omega) (by omega)]
      simp only [f12_ai10brrz_j5]
      have g1 := g0.puts [0]
      have ge1 := g1.2.2
      simp only [List.length_singleton] at ge1
      rw [wr_bind k [s.Offset, s.Total, (s.Data.length : Int)] _ _ (by simp) (by simp) (by omega) (by omega)]
      have g2 := g1.puts [s.Offset, s.Total, (s.Data.length : Int)]
      have ge2 := g2.2.2
      simp only [List.length_cons, List.length_nil] at ge2
      simp only []
      rw [ifE_pos (by omega)]
      rw [← List.append_assoc, ← List.append_assoc]
      refine finx k _ hk ⟨bytes_append g2.1 hd, ?_, ?_⟩ <;> rw [List.length_append] <;> have := g2.2.1 <;> omega
    · simp only [cond_true]
      rw [wr_bind k [1, IntKind.i64.wrap s.Serial] _ _ (by simp) (by simp) (by omega) (by omega)]
      simp only [f12_ai10brrz_j4]
      have g1 := g0.puts [1, IntKind.i64.wrap s.Serial]
      have ge1 := g1.2.2
      simp only [List.length_cons, List.length_nil] at ge1
      rw [wr_bind k [s.Offset, s.Total, (s.Data.length : Int)] _ _ (by simp) (by simp) (by omega) (by omega)]
      have g2 := g1.puts [s.Offset, s.Total, (s.Data.length : Int)]
      have ge2 := g2.2.2
      simp only [List.length_cons, List.length_nil] at ge2
      simp only []
      rw [ifE_pos (by omega)]
      rw [← List.append_assoc, ← List.append_assoc]
      refine finx k _ hk ⟨bytes_append g2.1 hd, ?_, ?_⟩ <;> rw [List.length_append] <;> have := g2.2.1 <;> omega
end Go.Proofs.YthjefcamonmjpaaV
