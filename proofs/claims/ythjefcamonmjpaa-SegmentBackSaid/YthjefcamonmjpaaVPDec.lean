/- What was encoded is decoded. -/
import Derived.Test.YthjefcamonmjpaaVPGet
import Derived.Test.YthjefcamonmjpaaVPChk
namespace Go.Proofs.YthjefcamonmjpaaV
open Go Go.Proofs.Ythjefcamonmjpaa
set_option linter.unusedVariables false
set_option linter.unusedSimpArgs false
/-- Few bytes. -/
def Sm (l : List Int) : Prop := Bytes l ∧ l.length ≤ 60000
theorem Sm.tail {a b : List Int} (h : Sm (a ++ b)) : Sm b := ⟨fun x hx => h.1 x (List.mem_append_right _ hx), by have := h.2; rw [List.length_append] at this; omega⟩
theorem rf (k : Nat) (hk : 61000 ≤ k) (v : Int) (rest : List Int) (h0 : 0 ≤ v) (h : v < 4294967296) (hs : Sm (sdn v ++ rest)) : f25_p_brb k (sdn v ++ rest) false = some (.o0 v rest false) := by
  have := hs.2
  rw [reader_at k _ false hs.1 (by omega) (by omega), getN_sdn v h0 h rest]
theorem w32 {v : Int} (h0 : 0 ≤ v) (h : v < 4294967296) : IntKind.i64.wrap v = v ∧ IntKind.u32.wrap v = v := ⟨wrap_i64 (by omega) (by omega), wrap_u32 h0 h⟩
/-- What stands behind the kind, the source and the session. -/
def tailB (s : T26) : List Int :=
    cond (s.Kind == 1) (cond s.Check (puts [1, IntKind.i64.wrap s.Serial]) (puts [0]) ++ puts [s.Offset, s.Total, (s.Data.length : Int)] ++ s.Data)
    (cond (s.Kind == 2) (puts [IntKind.i64.wrap s.Serial, IntKind.i64.wrap s.Checks, s.Lower, s.Upper, (s.Claims.length : Int)] ++ s.Claims.flatMap fun c => puts [c.At, c.N])
    (cond (s.Kind == 3) (puts [IntKind.i64.wrap s.Serial])
    (cond (s.Kind == 4) (puts [s.Reason])
    (cond (s.Kind == 6) (puts [s.Reason]) []))))
theorem bodyB_tail (s : T26) : bodyB s = IntKind.u8.wrap s.Kind :: (sdn s.Source ++ (sdn (IntKind.i64.wrap s.Session) ++ tailB s)) := by
  simp [bodyB, tailB, puts]
def R26_pp_brbbiiiiiiiiiibrow.val : R26_pp_brbbiiiiiiiiiibrow → List Int × Bool × T26
  | .o0 y y1 y2 y3 y4 y5 y6 y7 y8 y9 y10 y11 y12 y13 y14 => (y, y1, ⟨y2, y3, y4, y5, y6, y7, y8, y9, y10, y11, y12, y14, y13⟩)
  | .o1 y y1 y2 y3 y4 y5 y6 y7 y8 y9 y10 y11 y12 y13 y14 => (y, y1, ⟨y2, y3, y4, y5, y6, y7, y8, y9, y10, y11, y12, y13, y14⟩)
  | .o2 y y1 y2 y3 y4 y5 y6 y7 y8 y9 y10 y11 y12 y13 y14 => (y, y1, ⟨y2, y3, y4, y5, y6, y7, y8, y9, y10, y11, y12, y13, y14⟩)
def R13_r.val : R13_r → T26 × Int
  | .o0 y0 y1 y2 y3 y4 y5 y6 y7 y8 y9 y10 y11 y12 y13 => (⟨y0, y1, y2, y3, y4, y5, y6, y7, y8, y9, y10, y11, y13⟩, y12)
  | .o1 y0 y1 y2 y3 y4 y5 y6 y7 y8 y9 y10 y11 y12 y13 => (⟨y0, y1, y2, y3, y4, y5, y6, y7, y8, y9, y10, y12, y13⟩, y11)
/-- A segment whose numbers a Go program can hold. -/
structure Wf (s : T26) : Prop where
  ses : 0 ≤ s.Session ∧ s.Session < 4294967296
  ser : 0 ≤ s.Serial ∧ s.Serial < 4294967296
  chk : 0 ≤ s.Checks ∧ s.Checks < 4294967296
  tot : -9223372036854775808 ≤ s.Total ∧ s.Total < 9223372036854775808
  data : Bytes s.Data
  cl : ∀ c ∈ s.Claims, (-9223372036854775808 ≤ c.At ∧ c.At < 9223372036854775808) ∧ (-9223372036854775808 ≤ c.N ∧ c.N < 9223372036854775808)
theorem clm_ok (hi : Int) (hhi : 0 ≤ hi ∧ hi ≤ 512) : ∀ (l : List T45) (e : Int), -1 ≤ e → clm hi e l = true → (∀ c ∈ l, (-9223372036854775808 ≤ c.At ∧ c.At < 9223372036854775808) ∧ (-9223372036854775808 ≤ c.N ∧ c.N < 9223372036854775808)) → ∀ c ∈ l, (0 ≤ c.At ∧ c.At < 4294967296) ∧ (0 ≤ c.N ∧ c.N < 4294967296)
  | [], _, _, _, _ => by simp
  | c :: l, e, he, h, hw => by
    simp only [clm, Bool.and_eq_true, Bool.not_eq_true', decide_eq_false_iff_not] at h
    obtain ⟨⟨⟨⟨h1, h2⟩, h3⟩, h4⟩, h5⟩ := h
    have hc := hw c (List.mem_cons_self ..)
    rw [wrap_i64 (by omega) (by omega)] at h4
    rw [wrap_i64 (by omega) (by omega)] at h5
    intro d hd
    rcases List.mem_cons.1 hd with rfl | hd
    · omega
    · exact clm_ok hi hhi l (c.At + c.N) (by omega) h5 (fun x hx => hw x (List.mem_cons_of_mem _ hx)) d hd
/-- The loop over claims. -/
theorem fld_l7 (k : Nat) (hk : 61000 ≤ k) (x : Nat) (hx : x ≤ 20) (rest : List Int) (a0 a1 a2 a3 a4 a5 a6 a7 a8 a9 : Int) (a10 : Bool) (a11 : List Int) : ∀ (l : List T45) (i n : Nat) (acc : List T45), i + l.length = x → l.length < n → acc.length ≤ i → (∀ c ∈ l, (0 ≤ c.At ∧ c.At < 4294967296) ∧ (0 ≤ c.N ∧ c.N < 4294967296)) → Sm ((l.flatMap fun c => puts [c.At, c.N]) ++ rest) →
    f26_pp_brbbiiiiiiiiiibrow_s1_l7 k n (x : Int) (i : Int) ((l.flatMap fun c => puts [c.At, c.N]) ++ rest) false a0 a1 a2 a3 a4 a5 a6 a7 a8 a9 a10 a11 acc = some (.o1 (x : Int) (x : Int) false rest false a0 a1 a2 a3 a4 a5 a6 a7 a8 a9 a10 a11 (acc ++ l))
  | [], i, n, acc, hi, hn, _, _, _ => by
    obtain ⟨n, rfl⟩ : ∃ j, n = j + 1 := ⟨n - 1, by omega⟩
    obtain rfl : i = x := by simpa using hi
    simp [f26_pp_brbbiiiiiiiiiibrow_s1_l7, f26_pp_brbbiiiiiiiiiibrow_s1_l7_b]
  | c :: l, i, n, acc, hi, hn, ha, hc, hs => by
    simp only [List.length_cons] at hi hn
    obtain ⟨n, rfl⟩ : ∃ j, n = j + 1 := ⟨n - 1, by omega⟩
    have hlt : ((i : Int) < (x : Int)) := by omega
    have hw : IntKind.i64.wrap ((i : Int) + 1) = ((i + 1 : Nat) : Int) := by rw [wrap_i64 (by omega) (by omega)]; rfl
    have h1 := hc c (List.mem_cons_self ..)
    have e : (((c :: l).flatMap fun c => puts [c.At, c.N]) ++ rest) = sdn c.At ++ (sdn c.N ++ ((l.flatMap fun c => puts [c.At, c.N]) ++ rest)) := by simp [puts]
    rw [e] at hs ⊢
    have ih := fld_l7 k hk x hx rest a0 a1 a2 a3 a4 a5 a6 a7 a8 a9 a10 a11 l (i + 1) n (acc ++ [T45.mk c.At c.N]) (by omega) (by omega) (by simp; omega) (fun d hd => hc d (List.mem_cons_of_mem _ hd)) hs.tail.tail
    have hr : roomy = 70368744177664 := rfl
    simp only [f26_pp_brbbiiiiiiiiiibrow_s1_l7, f26_pp_brbbiiiiiiiiiibrow_s1_l7_b, decide_eq_true hlt, cond_true, f26_pp_brbbiiiiiiiiiibrow_s1_l7_j1, rf k hk c.At _ h1.1.1 h1.1.2 hs, rf k hk c.N _ h1.2.1 h1.2.2 hs.tail, Option.bind_some, ifE_pos (show (acc.length + 1) * 16 ≤ roomy by omega), f26_pp_brbbiiiiiiiiiibrow_s1_l7_j2, hw, ih, List.append_assoc, List.singleton_append]
theorem fld_j5 (k : Nat) (hk : 61000 ≤ k) (rest : List Int) (a0 a1 a2 a3 a4 a5 a6 a7 a8 a9 : Int) (a10 : Bool) (a11 : List Int) (l : List T45) (hl : l.length ≤ 20) (hc : ∀ c ∈ l, (0 ≤ c.At ∧ c.At < 4294967296) ∧ (0 ≤ c.N ∧ c.N < 4294967296)) (hs : Sm ((l.flatMap fun c => puts [c.At, c.N]) ++ rest)) :
    f26_pp_brbbiiiiiiiiiibrow_s1_j5 k (l.length : Int) false ((l.flatMap fun c => puts [c.At, c.N]) ++ rest) false a0 a1 a2 a3 a4 a5 a6 a7 a8 a9 a10 a11 [] =
      (if l = [] then some (.o4 0 0 false rest false a0 a1 a2 a3 a4 a5 a6 a7 a8 a9 a10 a11 []) else some (.o5 (l.length : Int) (l.length : Int) false rest false a0 a1 a2 a3 a4 a5 a6 a7 a8 a9 a10 a11 l)) := by
  obtain ⟨n, rfl⟩ : ∃ j, k = j + 1 := ⟨k - 1, by omega⟩
  have hr : roomy = 70368744177664 := rfl
  cases l with
  | nil => simp [f26_pp_brbbiiiiiiiiiibrow_s1_j5, f26_pp_brbbiiiiiiiiiibrow_s1_l6, f26_pp_brbbiiiiiiiiiibrow_s1_l6_b, f26_pp_brbbiiiiiiiiiibrow_s1_j8]
  | cons c l =>
    have hlt : ((0 : Int) < ((c :: l).length : Int)) := by simp only [List.length_cons]; omega
    have hw : IntKind.i64.wrap ((0 : Int) + 1) = ((1 : Nat) : Int) := by decide +kernel
    have h1 := hc c (List.mem_cons_self ..)
    have e : (((c :: l).flatMap fun c => puts [c.At, c.N]) ++ rest) = sdn c.At ++ (sdn c.N ++ ((l.flatMap fun c => puts [c.At, c.N]) ++ rest)) := by simp [puts]
    rw [e] at hs ⊢
    have q := fld_l7 (n + 1) hk (c :: l).length hl rest a0 a1 a2 a3 a4 a5 a6 a7 a8 a9 a10 a11 l 1 n [T45.mk c.At c.N] (by simp only [List.length_cons]; omega) (by simp only [List.length_cons] at hl; omega) (by simp) (fun d hd => hc d (List.mem_cons_of_mem _ hd)) hs.tail.tail
    simp only [f26_pp_brbbiiiiiiiiiibrow_s1_j5, f26_pp_brbbiiiiiiiiiibrow_s1_l6, f26_pp_brbbiiiiiiiiiibrow_s1_l6_b, decide_eq_true hlt, cond_true, f26_pp_brbbiiiiiiiiiibrow_s1_l6_j1, rf (n + 1) hk c.At _ h1.1.1 h1.1.2 hs, rf (n + 1) hk c.N _ h1.2.1 h1.2.2 hs.tail, Option.bind_some, List.length_nil, ifE_pos (show (0 + 1) * 16 ≤ roomy by omega), f26_pp_brbbiiiiiiiiiibrow_s1_l6_j2, hw, List.nil_append, q, f26_pp_brbbiiiiiiiiiibrow_s1_j9, List.cons_append, if_neg (List.cons_ne_nil c l)]
theorem chk_zero {s : T26} (hc : chkT s = 0) : okT s = true ∧ s = onlyT s := by
  unfold chkT at hc
  cases h : (okT s && eqT s (onlyT s))
  · rw [h] at hc; simp at hc
  · simpa [eqT] using h
theorem fld_fwd (s : T26) (hw : Wf s) (hc : chkT s = 0) (k : Nat) (hk : 61001 ≤ k) (hs : Sm (tailB s)) : ∃ o, f26_pp_brbbiiiiiiiiiibrow k (tailB s) false s.Kind s.Source s.Session 0 0 0 0 0 0 0 false [] [] = some o ∧ o.val = ([], false, s) := by
  obtain ⟨k, rfl⟩ : ∃ j, k = j + 1 := ⟨k - 1, by omega⟩
  have hk : 61000 ≤ k := by omega
  have hr : roomy = 70368744177664 := rfl
  have h := chk_zero hc
  obtain ⟨K, src, ses, ser, chk, off, tot, low, up, rea, ck, data, cl⟩ := s
  obtain ⟨w1, w2, w3, w4, w5, w6⟩ := hw
  simp only at w1 w2 w3 w4 w5 w6 ⊢
  simp only [okT, onlyT, inT, Bool.and_eq_true, decide_eq_true_eq] at h
  obtain ⟨⟨⟨h1a, h1b⟩, h2, h3⟩, h4⟩ := h
  have wser := w32 w2.1 w2.2
  have wchk := w32 w3.1 w3.2
  by_cases k1 : K = 1
  · subst k1
    simp only [show ((1 : Int) == 1) = true from rfl, cond_true, T26.mk.injEq, true_and, and_true, Bool.and_eq_true, decide_eq_true_eq] at h3 h4
    obtain ⟨rfl, rfl, rfl, rfl, rfl⟩ := h4
    obtain ⟨⟨t1, t2⟩, ⟨t3, t4⟩, ⟨t5, t6⟩, t7⟩ := h3
    rw [wrap_i64 (by omega) (by omega)] at t6
    have hd : ¬ ((data.length : Int) > (data.length : Int)) := by omega
    have fin : ∀ ck', f26_pp_brbbiiiiiiiiiibrow_s1_j2 k (data.length : Int) false data false 1 src ses ser 0 off tot 0 0 0 ck' [] [] = some (.o1 [] false 1 src ses ser 0 off tot 0 0 0 ck' data []) := by
      intro ck'
      obtain ⟨k, rfl⟩ : ∃ j, k = j + 1 := ⟨k - 1, by omega⟩
      simp only [f26_pp_brbbiiiiiiiiiibrow_s1_j2, ifE_pos (show (0 : Int) ≤ (data.length : Int) by omega), Int.toNat_natCast, ifE_pos (Nat.le_refl data.length), List.take_length, f34_r, ifE_pos (show data.length * 1 ≤ roomy by omega), Option.bind_some, f26_pp_brbbiiiiiiiiiibrow_s1_j3, List.drop_length]
    cases ck
    · have e0 : ser = 0 := by
        simp at t7
        omega
      subst e0
      have e : tailB ⟨1, src, ses, 0, 0, off, tot, 0, 0, 0, false, data, []⟩ = sdn 0 ++ (sdn off ++ (sdn tot ++ (sdn (data.length : Int) ++ data))) := by simp [tailB, puts]
      rw [e] at hs ⊢
      refine ⟨.o0 [] false 1 src ses 0 0 off tot 0 0 0 false [] data, ?_, rfl⟩
      simp only [f26_pp_brbbiiiiiiiiiibrow, f26_pp_brbbiiiiiiiiiibrow_e, f26_pp_brbbiiiiiiiiiibrow_s1, f26_pp_brbbiiiiiiiiiibrow_s1_b, show ((1 : Int) == 1) = true from rfl, show ((0 : Int) == 1) = false from rfl, show ((0 : Int) == 0) = true from rfl, cond_true, cond_false,
        rf k hk 0 _ (by omega) (by omega) hs, Option.bind_some, f26_pp_brbbiiiiiiiiiibrow_s1_j4, rf k hk off _ (by omega) (by omega) hs.tail, rf k hk tot _ (by omega) (by omega) hs.tail.tail, rf k hk (data.length : Int) _ (by omega) (by omega) hs.tail.tail.tail, decide_eq_false hd, fin]
    · have e : tailB ⟨1, src, ses, ser, 0, off, tot, 0, 0, 0, true, data, []⟩ = sdn 1 ++ (sdn ser ++ (sdn off ++ (sdn tot ++ (sdn (data.length : Int) ++ data)))) := by simp [tailB, puts, wser.1]
      rw [e] at hs ⊢
      refine ⟨.o0 [] false 1 src ses ser 0 off tot 0 0 0 true [] data, ?_, rfl⟩
      simp only [f26_pp_brbbiiiiiiiiiibrow, f26_pp_brbbiiiiiiiiiibrow_e, f26_pp_brbbiiiiiiiiiibrow_s1, f26_pp_brbbiiiiiiiiiibrow_s1_b, show ((1 : Int) == 1) = true from rfl, cond_true, cond_false,
        rf k hk 1 _ (by omega) (by omega) hs, Option.bind_some, f26_pp_brbbiiiiiiiiiibrow_s1_j1, rf k hk ser _ (by omega) (by omega) hs.tail, rf k hk off _ (by omega) (by omega) hs.tail.tail, rf k hk tot _ (by omega) (by omega) hs.tail.tail.tail, rf k hk (data.length : Int) _ (by omega) (by omega) hs.tail.tail.tail.tail, decide_eq_false hd, wser.2, fin]
  have q1 : (K == 1) = false := by rw [beq_eq_false_iff_ne]; exact k1
  simp only [q1, cond_false] at h3 h4
  by_cases k2 : K = 2
  · subst k2
    simp only [show ((2 : Int) == 2) = true from rfl, cond_true, T26.mk.injEq, true_and, and_true, Bool.and_eq_true, decide_eq_true_eq] at h3 h4
    obtain ⟨rfl, rfl, rfl, rfl, rfl⟩ := h4
    obtain ⟨t1, t2, ⟨t3, t4⟩, ⟨t5, t6⟩, t7, t8⟩ := h3
    rw [wrap_i64 (by omega) (by omega)] at t6 t7
    have hcl := clm_ok up (by omega) cl (low - 1) (by omega) t7 w6
    have hd : ¬ ((cl.length : Int) > 20) := by omega
    have e : tailB ⟨2, src, ses, ser, chk, 0, 0, low, up, 0, false, [], cl⟩ = sdn ser ++ (sdn chk ++ (sdn low ++ (sdn up ++ (sdn (cl.length : Int) ++ ((cl.flatMap fun c => puts [c.At, c.N]) ++ []))))) := by simp [tailB, puts, wser.1, wchk.1]
    rw [e] at hs ⊢
    have j5 := fld_j5 k hk [] 2 src ses ser chk 0 0 low up 0 false [] cl (by omega) hcl hs.tail.tail.tail.tail.tail
    by_cases hnil : cl = []
    · subst hnil
      refine ⟨.o1 [] false 2 src ses ser chk 0 0 low up 0 false [] [], ?_, rfl⟩
      simp only [f26_pp_brbbiiiiiiiiiibrow, f26_pp_brbbiiiiiiiiiibrow_e, f26_pp_brbbiiiiiiiiiibrow_s1, f26_pp_brbbiiiiiiiiiibrow_s1_b, show ((2 : Int) == 1) = false from rfl, show ((2 : Int) == 2) = true from rfl, cond_true, cond_false,
        rf k hk ser _ (by omega) (by omega) hs, Option.bind_some, rf k hk chk _ (by omega) (by omega) hs.tail, rf k hk low _ (by omega) (by omega) hs.tail.tail, rf k hk up _ (by omega) (by omega) hs.tail.tail.tail, rf k hk (([] : List T45).length : Int) _ (by omega) (by omega) hs.tail.tail.tail.tail, decide_eq_false hd, wser.2, wchk.2, j5, if_true]
    · refine ⟨.o2 [] false 2 src ses ser chk 0 0 low up 0 false [] cl, ?_, rfl⟩
      simp only [f26_pp_brbbiiiiiiiiiibrow, f26_pp_brbbiiiiiiiiiibrow_e, f26_pp_brbbiiiiiiiiiibrow_s1, f26_pp_brbbiiiiiiiiiibrow_s1_b, show ((2 : Int) == 1) = false from rfl, show ((2 : Int) == 2) = true from rfl, cond_true, cond_false,
        rf k hk ser _ (by omega) (by omega) hs, Option.bind_some, rf k hk chk _ (by omega) (by omega) hs.tail, rf k hk low _ (by omega) (by omega) hs.tail.tail, rf k hk up _ (by omega) (by omega) hs.tail.tail.tail, rf k hk (cl.length : Int) _ (by omega) (by omega) hs.tail.tail.tail.tail, decide_eq_false hd, wser.2, wchk.2, j5, if_neg hnil]
  have q2 : (K == 2) = false := by rw [beq_eq_false_iff_ne]; exact k2
  simp only [q2, cond_false] at h3 h4
  by_cases k3 : K = 3
  · subst k3
    simp only [show ((3 : Int) == 3) = true from rfl, cond_true, T26.mk.injEq, true_and, and_true] at h3 h4
    obtain ⟨rfl, rfl, rfl, rfl, rfl, rfl, rfl, rfl, rfl⟩ := h4
    have e : tailB ⟨3, src, ses, ser, 0, 0, 0, 0, 0, 0, false, [], []⟩ = sdn ser ++ [] := by simp [tailB, puts, wser.1]
    rw [e] at hs ⊢
    refine ⟨.o1 [] false 3 src ses ser 0 0 0 0 0 0 false [] [], ?_, rfl⟩
    simp only [f26_pp_brbbiiiiiiiiiibrow, f26_pp_brbbiiiiiiiiiibrow_e, f26_pp_brbbiiiiiiiiiibrow_s1, f26_pp_brbbiiiiiiiiiibrow_s1_b, show ((3 : Int) == 1) = false from rfl, show ((3 : Int) == 2) = false from rfl, show ((3 : Int) == 3) = true from rfl, cond_true, cond_false,
        rf k hk ser _ (by omega) (by omega) hs, Option.bind_some, wser.2, f26_pp_brbbiiiiiiiiiibrow_s1_j10]
  have q3 : (K == 3) = false := by rw [beq_eq_false_iff_ne]; exact k3
  simp only [q3, cond_false] at h3 h4
  by_cases k4 : K = 4
  · subst k4
    simp only [show ((4 : Int) == 4) = true from rfl, cond_true, T26.mk.injEq, true_and, and_true, Bool.and_eq_true, decide_eq_true_eq] at h3 h4
    obtain ⟨rfl, rfl, rfl, rfl, rfl, rfl, rfl, rfl, rfl⟩ := h4
    have e : tailB ⟨4, src, ses, 0, 0, 0, 0, 0, 0, rea, false, [], []⟩ = sdn rea ++ [] := by simp [tailB, puts]
    rw [e] at hs ⊢
    refine ⟨.o1 [] false 4 src ses 0 0 0 0 0 0 rea false [] [], ?_, rfl⟩
    simp only [f26_pp_brbbiiiiiiiiiibrow, f26_pp_brbbiiiiiiiiiibrow_e, f26_pp_brbbiiiiiiiiiibrow_s1, f26_pp_brbbiiiiiiiiiibrow_s1_b, show ((4 : Int) == 1) = false from rfl, show ((4 : Int) == 2) = false from rfl, show ((4 : Int) == 3) = false from rfl, show ((4 : Int) == 4) = true from rfl, cond_true, cond_false,
        f26_pp_brbbiiiiiiiiiibrow_s1_j11, rf k hk rea _ (by omega) (by omega) hs, Option.bind_some, f26_pp_brbbiiiiiiiiiibrow_s1_j10]
  have q4 : (K == 4) = false := by rw [beq_eq_false_iff_ne]; exact k4
  simp only [q4, cond_false] at h3 h4
  by_cases k6 : K = 6
  · subst k6
    simp only [show ((6 : Int) == 6) = true from rfl, cond_true, T26.mk.injEq, true_and, and_true, Bool.and_eq_true, decide_eq_true_eq] at h3 h4
    obtain ⟨rfl, rfl, rfl, rfl, rfl, rfl, rfl, rfl, rfl⟩ := h4
    have e : tailB ⟨6, src, ses, 0, 0, 0, 0, 0, 0, rea, false, [], []⟩ = sdn rea ++ [] := by simp [tailB, puts]
    rw [e] at hs ⊢
    refine ⟨.o1 [] false 6 src ses 0 0 0 0 0 0 rea false [] [], ?_, rfl⟩
    simp only [f26_pp_brbbiiiiiiiiiibrow, f26_pp_brbbiiiiiiiiiibrow_e, f26_pp_brbbiiiiiiiiiibrow_s1, f26_pp_brbbiiiiiiiiiibrow_s1_b, show ((6 : Int) == 1) = false from rfl, show ((6 : Int) == 2) = false from rfl, show ((6 : Int) == 3) = false from rfl, show ((6 : Int) == 4) = false from rfl, show ((6 : Int) == 6) = true from rfl, cond_true, cond_false,
        f26_pp_brbbiiiiiiiiiibrow_s1_j13, rf k hk rea _ (by omega) (by omega) hs, Option.bind_some, f26_pp_brbbiiiiiiiiiibrow_s1_j10]
  have q6 : (K == 6) = false := by rw [beq_eq_false_iff_ne]; exact k6
  simp only [q6, cond_false, T26.mk.injEq, true_and, and_true] at h3 h4
  obtain ⟨rfl, rfl, rfl, rfl, rfl, rfl, rfl, rfl, rfl, rfl⟩ := h4
  have e : tailB ⟨K, src, ses, 0, 0, 0, 0, 0, 0, 0, false, [], []⟩ = [] := by simp [tailB, q1, q2, q3, q4, q6]
  rw [e]
  refine ⟨.o1 [] false K src ses 0 0 0 0 0 0 0 false [] [], ?_, rfl⟩
  simp only [f26_pp_brbbiiiiiiiiiibrow, f26_pp_brbbiiiiiiiiiibrow_e, f26_pp_brbbiiiiiiiiiibrow_s1, f26_pp_brbbiiiiiiiiiibrow_s1_b, q1, q2, q3, q4, q6, cond_false, f26_pp_brbbiiiiiiiiiibrow_s1_j13, f26_pp_brbbiiiiiiiiiibrow_s1_j14, Option.bind_some]
theorem opensB_seal (b : List Int) : opensB (sealB b) = .o1 0 b := by
  have h : (sealB b).length - 4 = b.length := by rw [sealB_length]; omega
  unfold opensB
  rw [if_neg (by rw [sealB_length]; omega), h, show (sealB b).take b.length = b from List.take_left' rfl, if_pos rfl]
/-- What was encoded is decoded. -/
theorem dec_fwd (s : T26) (hw : Wf s) (hc : chkT s = 0) (k : Nat) (hk : 70000 ≤ k) (hb : s.Data.length < 1000) (hb' : s.Claims.length < 1000) (hg : G 50000 (bodyB s)) : ∃ o, f13_r k (sealB (bodyB s)) = some o ∧ o.val = (s, 0) := by
  obtain ⟨k, rfl⟩ : ∃ j, k = j + 1 := ⟨k - 1, by omega⟩
  have hk : 61001 ≤ k := by omega
  have hr : roomy = 70368744177664 := rfl
  have hlen := sealB_length (bodyB s)
  have hg2 := hg.2.2
  have hg1 := hg.2.1
  have ho := open32_at k (sealB (bodyB s)) (sealB_bytes hg.1) (by omega) (by omega)
  rw [opensB_seal] at ho
  have h7 : ¬ (((sealB (bodyB s)).length : Int) < 7) := by omega
  obtain ⟨okh, _⟩ := chk_zero hc
  have hK : 1 ≤ s.Kind ∧ s.Kind ≤ 7 ∧ 1 ≤ s.Source ∧ s.Source ≤ 6 := by
    simp only [okT, inT, Bool.and_eq_true, decide_eq_true_eq] at okh
    obtain ⟨⟨h1, h2⟩, h3, h4⟩ := okh
    refine ⟨?_, ?_, h1, h2⟩ <;> (
      by_cases c1 : s.Kind = 1
      · omega
      by_cases c2 : s.Kind = 2
      · omega
      by_cases c3 : s.Kind = 3
      · omega
      by_cases c4 : s.Kind = 4
      · omega
      by_cases c6 : s.Kind = 6
      · omega
      by_cases c5 : s.Kind = 5
      · omega
      have d1 : (s.Kind == 1) = false := by rw [beq_eq_false_iff_ne]; exact c1
      have d2 : (s.Kind == 2) = false := by rw [beq_eq_false_iff_ne]; exact c2
      have d3 : (s.Kind == 3) = false := by rw [beq_eq_false_iff_ne]; exact c3
      have d4 : (s.Kind == 4) = false := by rw [beq_eq_false_iff_ne]; exact c4
      have d6 : (s.Kind == 6) = false := by rw [beq_eq_false_iff_ne]; exact c6
      have d5 : (s.Kind == 5) = false := by rw [beq_eq_false_iff_ne]; exact c5
      simp only [d1, d2, d3, d4, d5, d6, cond_false, beq_iff_eq] at h4
      omega)
  have wk : IntKind.i64.wrap (IntKind.u8.wrap s.Kind) = s.Kind := by rw [wrap_u8 (by omega) (by omega), wrap_i64 (by omega) (by omega)]
  have wses := w32 hw.ses.1 hw.ses.2
  have hs : Sm (sdn s.Source ++ (sdn s.Session ++ tailB s)) := by
    have e := bodyB_tail s
    rw [wses.1] at e
    rw [e] at hg
    refine ⟨fun x hx => hg.1 x (List.mem_cons_of_mem _ hx), ?_⟩
    have := hg.2.2
    simp only [List.length_cons] at this
    omega
  obtain ⟨o, e1, e2⟩ := fld_fwd s hw hc k hk hs.tail.tail
  have hge : ¬ (((([] : List Int).length : Nat) : Int) > 0) := by simp
  have hchk := chk_at s k hb hb' (by omega)
  have r1 := rf k (by omega) s.Source _ (by omega) (by omega) hs
  have r2 := rf k (by omega) s.Session _ hw.ses.1 hw.ses.2 hs.tail
  have hen : bodyB s = IntKind.u8.wrap s.Kind :: (sdn s.Source ++ (sdn s.Session ++ tailB s)) := by rw [bodyB_tail, wses.1]
  simp only [f13_r, f13_r_e, decide_eq_false h7, cond_false, f13_r_j1, ho, Option.bind_some, show ((0 : Int) != 0) = false from rfl, f13_r_j2]
  rw [ifE_pos (by omega)]
  simp only [hen, List.getElem?_cons_zero, Option.bind_some, List.take_length, List.drop_succ_cons, List.drop_zero, r1, r2, wk, wses.2, e1]
  cases o with
  | o0 y y1 y2 y3 y4 y5 y6 y7 y8 y9 y10 y11 y12 y13 y14 =>
    simp only [R26_pp_brbbiiiiiiiiiibrow.val, Prod.mk.injEq] at e2
    obtain ⟨rfl, rfl, e3⟩ := e2
    subst e3
    simp only at hchk
    exact ⟨_, by simp only [cond_false, decide_eq_false hge, hchk, hc, Option.bind_some, show ((0 : Int) != 0) = false from rfl, f13_r_j3]; rfl, rfl⟩
  | o1 y y1 y2 y3 y4 y5 y6 y7 y8 y9 y10 y11 y12 y13 y14 =>
    simp only [R26_pp_brbbiiiiiiiiiibrow.val, Prod.mk.injEq] at e2
    obtain ⟨rfl, rfl, e3⟩ := e2
    subst e3
    simp only at hchk
    exact ⟨_, by simp only [cond_false, decide_eq_false hge, hchk, hc, Option.bind_some, show ((0 : Int) != 0) = false from rfl, f13_r_j4]; rfl, rfl⟩
  | o2 y y1 y2 y3 y4 y5 y6 y7 y8 y9 y10 y11 y12 y13 y14 =>
    simp only [R26_pp_brbbiiiiiiiiiibrow.val, Prod.mk.injEq] at e2
    obtain ⟨rfl, rfl, e3⟩ := e2
    subst e3
    simp only at hchk
    exact ⟨_, by simp only [cond_false, decide_eq_false hge, hchk, hc, Option.bind_some, show ((0 : Int) != 0) = false from rfl, f13_r_j5]; rfl, rfl⟩
end Go.Proofs.YthjefcamonmjpaaV
