/- What the program's functions answer: plain functions, and that the interpreter answers what they do. Written by a program of this session, out of the translation. -/
import Derived.Test.YtmogplhglcodjaaVPC
namespace Go.Proofs.YtmogplhglcodjaaV
open Go
set_option linter.unusedVariables false
set_option linter.unusedSimpArgs false
set_option maxRecDepth 8000
set_option maxHeartbeats 4000000
-- f7_: f7 heliograph/heliographlaw13.wakes
inductive R7_ where
  | o0 (y : Bool)
noncomputable def R7_.st : R7_ → V × List O × List O
  | .o0 y => (V.p (Value.bool y), [], [])
noncomputable def f7_ (k : Nat) : Option R7_ := ifE (60 ≤ k) (some (.o0 true))
theorem f7__ok (k : Nat) (r : R7_) (hF : f7_ k = some r) : CV k 7 [] [] = some r.st := by
  obtain ⟨h, hF⟩ := ifE_some.1 hF
  cases hF
  exact callV_le h wakes
-- f27_rr: f27 slices.Equal[[]heliograph/api.Contact,heliograph/api.Contact]
inductive R27_rr where
  | o0 (y : Bool)
noncomputable def R27_rr.st : R27_rr → V × List O × List O
  | .o0 y => (V.p (Value.bool y), [], [])
inductive R27_rr_l2 where
  | o0 (y : Bool)
  | o1 (y y_1 : List T44) (y_2 y_3 : Int)
  | o2 (y y_1 : List T44) (y_2 y_3 : Int) (y_4 : Bool)
noncomputable def R27_rr_l2.st : R27_rr_l2 → Out × St
  | .o0 y => (.ret, ({ n := 26, F := [(4, V.p (Value.bool y))], M := [] } : St))
  | .o1 y y_1 y_2 y_3 => (.norm, ({ n := 26, F := [(0, V.sl 6 (rowsOf encT44 y)), (1, V.sl 6 (rowsOf encT44 y_1)), (12, V.p (Value.int .i64 y_2)), (13, V.p (Value.int .i64 y_3))], M := [] } : St))
  | .o2 y y_1 y_2 y_3 y_4 => (.exit 0, ({ n := 26, F := [(0, V.sl 6 (rowsOf encT44 y)), (1, V.sl 6 (rowsOf encT44 y_1)), (12, V.p (Value.int .i64 y_2)), (13, V.p (Value.int .i64 y_3)), (14, V.p (Value.bool y_4))], M := [] } : St))
noncomputable def f27_rr_l2_j2 (k : Nat) (x0 x1 : List T44) (x12 x13 : Int) (x24 : Bool) : Option R27_rr_l2 :=
  some (R27_rr_l2.o1 x0 x1 x12 (IntKind.i64.wrap (x13 + (1 : Int))))
theorem f27_rr_l2_j2_ok (k : Nat) (x0 x1 : List T44) (x12 x13 : Int) (x24 : Bool) (r : R27_rr_l2) (hF : f27_rr_l2_j2 k x0 x1 x12 x13 x24 = some r) : EX 27 k (nav B27 [2, 2, 2, 1, 2, 2, 1, 2, 2]) ({ n := 26, F := [(0, V.sl 6 (rowsOf encT44 x0)), (1, V.sl 6 (rowsOf encT44 x1)), (12, V.p (Value.int .i64 x12)), (13, V.p (Value.int .i64 x13)), (24, V.p (Value.bool x24))], M := [] } : St) = some r.st := by
  unfold f27_rr_l2_j2 at hF
  cases hF
  simp (maxSteps := 999999) (disch := first | exact D (by decide) | exact K (by kernel_rfl)) only [E, EE, ↓reduceIte, simprocAttr, show (nav B27 [2, 2, 2, 1, 2, 2, 1, 2, 2]) = Code.region 8 _ false from rfl, hk_27_8, hz_27_8, hs_27_8, R27_rr_l2.st]
noncomputable def f27_rr_l2_j1 (k : Nat) (x0 x1 : List T44) (x12 x13 : Int) (x14 : Bool) : Option R27_rr_l2 :=
  ifE ((0 : Int) ≤ x13) (
    Option.bind (x0[(Int.toNat x13)]?) fun v2 =>
      Option.bind (x1[(Int.toNat x13)]?) fun v4 =>
        cond ((!((v2.From == v4.From) && ((v2.To == v4.To) && ((v2.Start == v4.Start) && ((v2.End == v4.End) && ((v2.Rate == v4.Rate) && (v2.Delay == v4.Delay))))))))
          (some (R27_rr_l2.o0 false))
          (f27_rr_l2_j2 k x0 x1 x12 x13 false))
theorem f27_rr_l2_j1_ok (k : Nat) (x0 x1 : List T44) (x12 x13 : Int) (x14 : Bool) (r : R27_rr_l2) (hF : f27_rr_l2_j1 k x0 x1 x12 x13 x14 = some r) : EX 27 k (nav B27 [2, 2, 1, 2, 2, 1, 2, 2]) ({ n := 26, F := [(0, V.sl 6 (rowsOf encT44 x0)), (1, V.sl 6 (rowsOf encT44 x1)), (12, V.p (Value.int .i64 x12)), (13, V.p (Value.int .i64 x13)), (14, V.p (Value.bool x14))], M := [] } : St) = some r.st := by
  unfold f27_rr_l2_j1 at hF
  replace hF := ifE_some.1 hF
  obtain ⟨h1, hF⟩ := hF
  replace hF := Option.bind_eq_some_iff.1 hF
  obtain ⟨v2, h3, hF⟩ := hF
  replace hF := Option.bind_eq_some_iff.1 hF
  obtain ⟨v4, h5, hF⟩ := hF
  simp (maxSteps := 999999) (disch := first | exact D (by decide) | exact K (by kernel_rfl)) only [E, EE, ↓reduceIte, simprocAttr, xk B27 [2, 2, 1, 2, 2, 1, 2, 2] .sq rfl, xk B27 [1, 2, 2, 1, 2, 2, 1, 2, 2] (.bk 1) rfl, xk B27 [2, 1, 2, 2, 1, 2, 2, 1, 2, 2] .sq rfl, show (nav B27 [1, 2, 1, 2, 2, 1, 2, 2, 1, 2, 2]) = Code.region 5 _ false from rfl, hk_27_5, hz_27_5, hs_27_5, xk B27 [2, 2, 1, 2, 2, 1, 2, 2, 1, 2, 2] .sq rfl, show (nav B27 [1, 2, 2, 1, 2, 2, 1, 2, 2, 1, 2, 2]) = Code.region 6 _ true from rfl, hk_27_6, hz_27_6, hs_27_6, indexAddrV, u_22, i_22, is_22, ib_22, iz_22, u_44, i_44, is_44, ib_44, iz_44, encT44_eq, ag_44, u_3, i_3, is_3, ib_3, iz_3, xk B27 [2, 2, 2, 1, 2, 2, 1, 2, 2, 1, 2, 2] (.cd 24) rfl, h1, h3, h5]
  replace hF := cond_some hF
  rcases hF with ⟨h6, hF⟩ | ⟨h6, hF⟩
  · cases hF
    simp (maxSteps := 999999) (disch := first | exact D (by decide) | exact K (by kernel_rfl)) only [E, EE, ↓reduceIte, simprocAttr, xk B27 [2, 2, 2, 2, 1, 2, 2, 1, 2, 2, 1, 2, 2] .sq rfl, show (nav B27 [1, 2, 2, 2, 2, 1, 2, 2, 1, 2, 2, 1, 2, 2]) = Code.region 7 _ false from rfl, hk_27_7, hz_27_7, hs_27_7, xk B27 [2, 2, 2, 2, 2, 1, 2, 2, 1, 2, 2, 1, 2, 2] .rt rfl, R27_rr_l2.st, h1, h3, h5, h6]
  · have hJ := f27_rr_l2_j2_ok k x0 x1 x12 x13 false _ hF
    simp (maxSteps := 999999) (disch := first | exact D (by decide) | exact K (by kernel_rfl)) only [E, EE, ↓reduceIte, simprocAttr, xk B27 [3, 2, 2, 2, 1, 2, 2, 1, 2, 2, 1, 2, 2] .sk rfl, h1, h3, h5, h6]
    try simp only [NM, EE] at hJ
    exact hJ
noncomputable def f27_rr_l2_b (k : Nat) (x0 x1 : List T44) (x12 x13 : Int) : Option R27_rr_l2 :=
  cond ((decide (x13 < x12)))
    (f27_rr_l2_j1 k x0 x1 x12 x13 true)
    (some (R27_rr_l2.o2 x0 x1 x12 x13 false))
theorem f27_rr_l2_b_ok (k : Nat) (x0 x1 : List T44) (x12 x13 : Int) (r : R27_rr_l2) (hF : f27_rr_l2_b k x0 x1 x12 x13 = some r) : EX 27 k (nav B27 [1, 2, 2, 1, 2, 2]) ({ n := 26, F := [(0, V.sl 6 (rowsOf encT44 x0)), (1, V.sl 6 (rowsOf encT44 x1)), (12, V.p (Value.int .i64 x12)), (13, V.p (Value.int .i64 x13))], M := [] } : St) = some r.st := by
  unfold f27_rr_l2_b at hF
  simp (maxSteps := 999999) (disch := first | exact D (by decide) | exact K (by kernel_rfl)) only [E, EE, ↓reduceIte, simprocAttr, xk B27 [1, 2, 2, 1, 2, 2] .sq rfl, show (nav B27 [1, 1, 2, 2, 1, 2, 2]) = Code.region 4 _ false from rfl, hk_27_4, hz_27_4, hs_27_4, xk B27 [2, 1, 2, 2, 1, 2, 2] .sq rfl, xk B27 [1, 2, 1, 2, 2, 1, 2, 2] (.cd 14) rfl]
  replace hF := cond_some hF
  rcases hF with ⟨h1, hF⟩ | ⟨h1, hF⟩
  · have hJ := f27_rr_l2_j1_ok k x0 x1 x12 x13 true _ hF
    simp (maxSteps := 999999) (disch := first | exact D (by decide) | exact K (by kernel_rfl)) only [E, EE, ↓reduceIte, simprocAttr, xk B27 [2, 1, 2, 1, 2, 2, 1, 2, 2] .sk rfl, h1]
    try simp only [NM, EE] at hJ
    exact hJ
  · cases hF
    simp (maxSteps := 999999) (disch := first | exact D (by decide) | exact K (by kernel_rfl)) only [E, EE, ↓reduceIte, simprocAttr, xk B27 [3, 1, 2, 1, 2, 2, 1, 2, 2] (.ex 0) rfl, R27_rr_l2.st, h1]
noncomputable def f27_rr_l2 (k : Nat) : Nat → (List T44) → (List T44) → Int → Int → Option R27_rr_l2
  | 0, _, _, _, _ => none
  | n + 1, x0, x1, x12, x13 => Option.bind (f27_rr_l2_b k x0 x1 x12 x13) fun o =>
    match o with
    | .o0 y => some (.o0 y)
    | .o1 y y_1 y_2 y_3 => f27_rr_l2 k n y y_1 y_2 y_3
    | .o2 y y_1 y_2 y_3 y_4 => some (.o2 y y_1 y_2 y_3 y_4)
theorem f27_rr_l2_ok (k n : Nat) : ∀ (x0 x1 : List T44) (x12 x13 : Int) (r : R27_rr_l2) (hF : f27_rr_l2 k n x0 x1 x12 x13 = some r) (σ : St) (hσ : headR (hints.head 27 4) (hints.canon 27 4) σ = some ({ n := 26, F := [(0, V.sl 6 (rowsOf encT44 x0)), (1, V.sl 6 (rowsOf encT44 x1)), (12, V.p (Value.int .i64 x12)), (13, V.p (Value.int .i64 x13))], M := [] } : St)), LP 27 k (nav B27 [1, 2, 2, 1, 2, 2]) n σ = some r.st := by
  induction n with
  | zero => intro x0 x1 x12 x13 r hF; cases hF
  | succ n ih =>
    intro x0 x1 x12 x13 r hF σ hσ
    rw [f27_rr_l2] at hF
    obtain ⟨o, h, hF⟩ := Option.bind_eq_some_iff.1 hF
    have hB := f27_rr_l2_b_ok k x0 x1 x12 x13 o h
    unfold LP at ih ⊢
    unfold EX at hB
    rw [loopK_succ, show firstReg (nav B27 [1, 2, 2, 1, 2, 2]) = 4 from rfl, hσ, headK_some, hB]
    cases o with
    | o0 y => cases hF; rfl
    | o1 y y_1 y_2 y_3 =>
      refine ih y y_1 y_2 y_3 r hF _ ?_
      simp (maxSteps := 999999) (disch := first | exact D (by decide) | exact K (by kernel_rfl)) only [E, EE, ↓reduceIte, simprocAttr, hh_27_4, hc_27_4]
    | o2 y y_1 y_2 y_3 y_4 => cases hF; rfl
noncomputable def f27_rr_j3 (k : Nat) (x0 x1 : List T44) (x12 x13 : Int) (x14 : Bool) : Option R27_rr :=
  some (R27_rr.o0 true)
theorem f27_rr_j3_ok (k : Nat) (x0 x1 : List T44) (x12 x13 : Int) (x14 : Bool) (r : R27_rr) (hF : f27_rr_j3 k x0 x1 x12 x13 x14 = some r) : finK Try.prog Try.f27 0 (EX 27 k (nav B27 [2, 2, 2]) ({ n := 26, F := [(0, V.sl 6 (rowsOf encT44 x0)), (1, V.sl 6 (rowsOf encT44 x1)), (12, V.p (Value.int .i64 x12)), (13, V.p (Value.int .i64 x13)), (14, V.p (Value.bool x14))], M := [] } : St)) = some r.st := by
  unfold f27_rr_j3 at hF
  cases hF
  simp (maxSteps := 999999) (disch := first | exact D (by decide) | exact K (by kernel_rfl)) only [E, EE, ↓reduceIte, simprocAttr, xk B27 [2, 2, 2] .sq rfl, show (nav B27 [1, 2, 2, 2]) = Code.region 9 _ false from rfl, hk_27_9, hz_27_9, hs_27_9, xk B27 [2, 2, 2, 2] .rt rfl, finK_norm, finK_ret, fin27, R27_rr.st]
noncomputable def f27_rr_j1 (k : Nat) (x0 x1 : List T44) (x10 : Bool) : Option R27_rr :=
  Option.bind (f27_rr_l2 k k x0 x1 ((List.length x0) : Int) 0) fun o1 =>
    match o1 with
    | .o0 v4 =>
      some (R27_rr.o0 v4)
    | .o1 _ _ _ _ =>
      none
    | .o2 v5 v6 v7 v8 v9 =>
      f27_rr_j3 k v5 v6 v7 v8 v9
theorem f27_rr_j1_ok (k : Nat) (x0 x1 : List T44) (x10 : Bool) (r : R27_rr) (hF : f27_rr_j1 k x0 x1 x10 = some r) : finK Try.prog Try.f27 0 (EX 27 k (nav B27 [2, 2]) ({ n := 26, F := [(0, V.sl 6 (rowsOf encT44 x0)), (1, V.sl 6 (rowsOf encT44 x1)), (10, V.p (Value.bool x10))], M := [] } : St)) = some r.st := by
  unfold f27_rr_j1 at hF
  replace hF := Option.bind_eq_some_iff.1 hF
  obtain ⟨o1, h2, hF⟩ := hF
  have hc3 := f27_rr_l2_ok k k x0 x1 ((List.length x0) : Int) 0 _ h2
  simp (maxSteps := 999999) (disch := first | exact D (by decide) | exact K (by kernel_rfl)) only [E, EE, ↓reduceIte, simprocAttr, xk B27 [2, 2] .sq rfl, xk B27 [1, 2, 2] .sq rfl, show (nav B27 [1, 1, 2, 2]) = Code.region 3 _ false from rfl, hk_27_3, hz_27_3, hs_27_3, u_22, i_22, is_22, ib_22, iz_22, xk B27 [2, 1, 2, 2] (.bk 0) rfl, xk B27 [2, 2, 1, 2, 2] .lp rfl, hh_27_4, hc_27_4]
  (try simp only [NM, EE] at hc3)
  rw [hc3 _ (by simp (maxSteps := 999999) (disch := first | exact D (by decide) | exact K (by kernel_rfl)) only [E, EE, ↓reduceIte, simprocAttr, hh_27_4, hc_27_4])]
  clear hc3
  cases o1 with
  | o0 v4 =>
    (try dsimp only at hF)
    cases hF
    simp (maxSteps := 999999) (disch := first | exact D (by decide) | exact K (by kernel_rfl)) only [E, EE, ↓reduceIte, simprocAttr, R27_rr_l2.st, finK_norm, finK_ret, fin27, R27_rr.st]
  | o1 _ _ _ _ =>
    (try dsimp only at hF)
    cases hF
  | o2 v5 v6 v7 v8 v9 =>
    (try dsimp only at hF)
    have hJ := f27_rr_j3_ok k v5 v6 v7 v8 v9 _ hF
    simp (maxSteps := 999999) (disch := first | exact D (by decide) | exact K (by kernel_rfl)) only [E, EE, ↓reduceIte, simprocAttr, R27_rr_l2.st]
    try simp only [NM, EE] at hJ
    exact hJ
noncomputable def f27_rr_e (k : Nat) (a0 a1 : List T44) : Option R27_rr :=
  cond ((((List.length a0) : Int) != ((List.length a1) : Int)))
    (some (R27_rr.o0 false))
    (f27_rr_j1 k a0 a1 false)
theorem f27_rr_e_ok (k : Nat) (a0 a1 : List T44) (r : R27_rr) (hF : f27_rr_e k a0 a1 = some r) : finK Try.prog Try.f27 0 (EX 27 k (nav B27 []) ({ n := 26, F := [(0, V.sl 6 (rowsOf encT44 a0)), (1, V.sl 6 (rowsOf encT44 a1))], M := [] } : St)) = some r.st := by
  unfold f27_rr_e at hF
  simp (maxSteps := 999999) (disch := first | exact D (by decide) | exact K (by kernel_rfl)) only [E, EE, ↓reduceIte, simprocAttr, xk B27 [] .sq rfl, show (nav B27 [1]) = Code.region 0 _ false from rfl, hk_27_0, hz_27_0, hs_27_0, xk B27 [2] .sq rfl, xk B27 [1, 2] .sq rfl, show (nav B27 [1, 1, 2]) = Code.region 1 _ false from rfl, hk_27_1, hz_27_1, hs_27_1, u_22, i_22, is_22, ib_22, iz_22, xk B27 [2, 1, 2] (.cd 10) rfl]
  replace hF := cond_some hF
  rcases hF with ⟨h1, hF⟩ | ⟨h1, hF⟩
  · cases hF
    simp (maxSteps := 999999) (disch := first | exact D (by decide) | exact K (by kernel_rfl)) only [E, EE, ↓reduceIte, simprocAttr, xk B27 [2, 2, 1, 2] .sq rfl, show (nav B27 [1, 2, 2, 1, 2]) = Code.region 2 _ false from rfl, hk_27_2, hz_27_2, hs_27_2, xk B27 [2, 2, 2, 1, 2] .rt rfl, finK_norm, finK_ret, fin27, R27_rr.st, h1]
  · have hJ := f27_rr_j1_ok k a0 a1 false _ hF
    simp (maxSteps := 999999) (disch := first | exact D (by decide) | exact K (by kernel_rfl)) only [E, EE, ↓reduceIte, simprocAttr, xk B27 [3, 2, 1, 2] .sk rfl, h1]
    try simp only [NM, EE] at hJ
    exact hJ
noncomputable def f27_rr (k : Nat) (a0 a1 : List T44) : Option R27_rr := match k with | 0 => none | k + 1 => f27_rr_e k a0 a1
theorem f27_rr_ok (k : Nat) (a0 a1 : List T44) (r : R27_rr) (hF : f27_rr k a0 a1 = some r) : CV k 27 [V.sl 6 (rowsOf encT44 a0), V.sl 6 (rowsOf encT44 a1)] [] = some r.st := by
  cases k with
  | zero => cases hF
  | succ k =>
    unfold CV
    rw [ev_call (F := Try.f27) (c := (nav B27 [])) rfl Try.func27 rfl rfl rfl rfl]
    exact f27_rr_e_ok k a0 a1 r hF
-- f17_airzairz: f17 heliograph/plan.Same
inductive R17_airzairz where
  | o0 (y : Bool)
noncomputable def R17_airzairz.st : R17_airzairz → V × List O × List O
  | .o0 y => (V.p (Value.bool y), [], [])
noncomputable def f17_airzairz_e (k : Nat) (a0 : Int) (a0_1 : List T44) (a1 : Int) (a1_1 : List T44) : Option R17_airzairz :=
  cond ((a0 == a1))
    (
      Option.bind (f27_rr k a0_1 a1_1) fun o2 =>
        match o2 with
        | .o0 v5 =>
          some (R17_airzairz.o0 v5))
    (some (R17_airzairz.o0 false))
theorem f17_airzairz_e_ok (k : Nat) (a0 : Int) (a0_1 : List T44) (a1 : Int) (a1_1 : List T44) (r : R17_airzairz) (hF : f17_airzairz_e k a0 a0_1 a1 a1_1 = some r) : finK Try.prog Try.f17 0 (EX 17 k (nav B17 []) ({ n := 17, F := [(0, V.agg [V.p (Value.int .i64 a0), V.sl 6 (rowsOf encT44 a0_1)]), (1, V.agg [V.p (Value.int .i64 a1), V.sl 6 (rowsOf encT44 a1_1)])], M := [] } : St)) = some r.st := by
  unfold f17_airzairz_e at hF
  simp (maxSteps := 999999) (disch := first | exact D (by decide) | exact K (by kernel_rfl)) only [E, EE, ↓reduceIte, simprocAttr, xk B17 [] .sq rfl, show (nav B17 [1]) = Code.region 0 _ false from rfl, hk_17_0, hz_17_0, hs_17_0, xk B17 [2] .sq rfl, show (nav B17 [1, 2]) = Code.region 1 _ false from rfl, hk_17_1, hz_17_1, hs_17_1, fieldAddrV, u_24, i_24, is_24, ib_24, iz_24, u_3, i_3, is_3, ib_3, iz_3]
  replace hF := cond_some hF
  rcases hF with ⟨h1, hF⟩ | ⟨h1, hF⟩
  · replace hF := Option.bind_eq_some_iff.1 hF
    obtain ⟨o2, h3, hF⟩ := hF
    have hc4 := f27_rr_ok k a0_1 a1_1 _ h3
    cases o2 with
    | o0 v5 =>
      (try dsimp only at hF)
      (try simp only [NM, EE, R27_rr.st] at hc4)
      cases hF
      simp (maxSteps := 999999) (disch := first | exact D (by decide) | exact K (by kernel_rfl)) only [E, EE, ↓reduceIte, simprocAttr, fieldAddrV, u_24, i_24, is_24, ib_24, iz_24, u_22, i_22, is_22, ib_22, iz_22, callStep, CL, gv, List.contains, xk B17 [2, 2] .rt rfl, finK_norm, finK_ret, fin17, R17_airzairz.st, h1, hc4]
  · cases hF
    simp (maxSteps := 999999) (disch := first | exact D (by decide) | exact K (by kernel_rfl)) only [E, EE, ↓reduceIte, simprocAttr, xk B17 [2, 2] .rt rfl, finK_norm, finK_ret, fin17, R17_airzairz.st, h1]
noncomputable def f17_airzairz (k : Nat) (a0 : Int) (a0_1 : List T44) (a1 : Int) (a1_1 : List T44) : Option R17_airzairz := match k with | 0 => none | k + 1 => f17_airzairz_e k a0 a0_1 a1 a1_1
theorem f17_airzairz_ok (k : Nat) (a0 : Int) (a0_1 : List T44) (a1 : Int) (a1_1 : List T44) (r : R17_airzairz) (hF : f17_airzairz k a0 a0_1 a1 a1_1 = some r) : CV k 17 [V.agg [V.p (Value.int .i64 a0), V.sl 6 (rowsOf encT44 a0_1)], V.agg [V.p (Value.int .i64 a1), V.sl 6 (rowsOf encT44 a1_1)]] [] = some r.st := by
  cases k with
  | zero => cases hF
  | succ k =>
    unfold CV
    rw [ev_call (F := Try.f17) (c := (nav B17 [])) rfl Try.func17 rfl rfl rfl rfl]
    exact f17_airzairz_e_ok k a0 a0_1 a1 a1_1 r hF
-- f9_airz: f9 heliograph/heliographlaw13.copied
inductive R9_airz where
  | o0 (y : Int) (y_1 : List T44)
noncomputable def R9_airz.st : R9_airz → V × List O × List O
  | .o0 y y_1 => (V.agg [V.p (Value.int .i64 y), V.own 2000000], [], [O.row true 6 44 (rowsOf encT44 y_1)])
noncomputable def f9_airz_e (k : Nat) (a0 : Int) (a0_1 : List T44) : Option R9_airz :=
  ifE ((List.length a0_1) * 48 ≤ roomy) (
    some (R9_airz.o0 a0 a0_1))
theorem f9_airz_e_ok (k : Nat) (a0 : Int) (a0_1 : List T44) (r : R9_airz) (hF : f9_airz_e k a0 a0_1 = some r) : finK Try.prog Try.f9 0 (EX 9 k (nav B9 []) ({ n := 9, F := [(0, V.agg [V.p (Value.int .i64 a0), V.sl 6 (rowsOf encT44 a0_1)])], M := [] } : St)) = some r.st := by
  unfold f9_airz_e at hF
  replace hF := ifE_some.1 hF
  obtain ⟨h1, hF⟩ := hF
  cases hF
  simp (maxSteps := 999999) (disch := first | exact D (by decide) | exact K (by kernel_rfl)) only [E, EE, ↓reduceIte, simprocAttr, xk B9 [] .sq rfl, show (nav B9 [1]) = Code.region 0 _ false from rfl, hk_9_0, hz_9_0, hs_9_0, u_24, i_24, is_24, ib_24, iz_24, xk B9 [2] .sq rfl, show (nav B9 [1, 2]) = Code.region 1 _ false from rfl, hk_9_1, hz_9_1, hs_9_1, buildSliceV, fillRows, sm_44, u_22, i_22, is_22, ib_22, iz_22, u_44, i_44, is_44, ib_44, iz_44, fieldAddrV, appendV, content, xk B9 [2, 2] .sq rfl, show (nav B9 [1, 2, 2]) = Code.region 2 _ false from rfl, hk_9_2, hz_9_2, hs_9_2, xk B9 [2, 2, 2] .rt rfl, finK_norm, finK_ret, fin9, R9_airz.st, h1]
noncomputable def f9_airz (k : Nat) (a0 : Int) (a0_1 : List T44) : Option R9_airz := match k with | 0 => none | k + 1 => f9_airz_e k a0 a0_1
theorem f9_airz_ok (k : Nat) (a0 : Int) (a0_1 : List T44) (r : R9_airz) (hF : f9_airz k a0 a0_1 = some r) : CV k 9 [V.agg [V.p (Value.int .i64 a0), V.sl 6 (rowsOf encT44 a0_1)]] [] = some r.st := by
  cases k with
  | zero => cases hF
  | succ k =>
    unfold CV
    rw [ev_call (F := Try.f9) (c := (nav B9 [])) rfl Try.func9 rfl rfl rfl rfl]
    exact f9_airz_e_ok k a0 a0_1 r hF
-- f16_ai6z: f16 heliograph/plan.Volume
inductive R16_ai6z where
  | o0 (y : Int)
noncomputable def R16_ai6z.st : R16_ai6z → V × List O × List O
  | .o0 y => (V.p (Value.int .i64 y), [], [])
noncomputable def f16_ai6z_j1 (k : Nat) (x27 : Bool) (m1 m1_1 m1_2 m1_3 m1_4 m1_5 : Int) : Option R16_ai6z :=
  some (R16_ai6z.o0 (IntKind.i64.wrap (m1_4 * (IntKind.i64.wrap (m1_3 - m1_2)))))
theorem f16_ai6z_j1_ok (k : Nat) (x27 : Bool) (m1 m1_1 m1_2 m1_3 m1_4 m1_5 : Int) (r : R16_ai6z) (hF : f16_ai6z_j1 k x27 m1 m1_1 m1_2 m1_3 m1_4 m1_5 = some r) : finK Try.prog Try.f16 0 (EX 16 k (nav B16 [2, 2]) ({ n := 36, F := [(1, V.ptr 1 0), (27, V.p (Value.bool x27))], M := [(1, O.box 44 [V.p (Value.int .i64 m1), V.p (Value.int .i64 m1_1), V.p (Value.int .i64 m1_2), V.p (Value.int .i64 m1_3), V.p (Value.int .i64 m1_4), V.p (Value.int .i64 m1_5)])] } : St)) = some r.st := by
  unfold f16_ai6z_j1 at hF
  cases hF
  simp (maxSteps := 999999) (disch := first | exact D (by decide) | exact K (by kernel_rfl)) only [E, EE, ↓reduceIte, simprocAttr, xk B16 [2, 2] .sq rfl, show (nav B16 [1, 2, 2]) = Code.region 3 _ false from rfl, hk_16_3, hz_16_3, hs_16_3, fieldAddrV, u_44, i_44, is_44, ib_44, iz_44, u_3, i_3, is_3, ib_3, iz_3, xk B16 [2, 2, 2] .rt rfl, finK_norm, finK_ret, fin16, R16_ai6z.st]
noncomputable def f16_ai6z_e (k : Nat) (a0 a0_1 a0_2 a0_3 a0_4 a0_5 : Int) : Option R16_ai6z :=
  cond ((decide (a0_4 < 0)))
    (some (R16_ai6z.o0 0))
    (
      cond ((decide (a0_2 < 0)))
        (some (R16_ai6z.o0 0))
        (
          cond ((decide (a0_3 ≤ a0_2)))
            (some (R16_ai6z.o0 0))
            (
              cond ((decide (a0_4 > 1048576)))
                (some (R16_ai6z.o0 0))
                (
                  cond ((decide (a0_3 > 1048576)))
                    (some (R16_ai6z.o0 0))
                    (f16_ai6z_j1 k false a0 a0_1 a0_2 a0_3 a0_4 a0_5)))))
theorem f16_ai6z_e_ok (k : Nat) (a0 a0_1 a0_2 a0_3 a0_4 a0_5 : Int) (r : R16_ai6z) (hF : f16_ai6z_e k a0 a0_1 a0_2 a0_3 a0_4 a0_5 = some r) : finK Try.prog Try.f16 0 (EX 16 k (nav B16 []) ({ n := 36, F := [(0, V.agg [V.p (Value.int .i64 a0), V.p (Value.int .i64 a0_1), V.p (Value.int .i64 a0_2), V.p (Value.int .i64 a0_3), V.p (Value.int .i64 a0_4), V.p (Value.int .i64 a0_5)])], M := [] } : St)) = some r.st := by
  unfold f16_ai6z_e at hF
  simp (maxSteps := 999999) (disch := first | exact D (by decide) | exact K (by kernel_rfl)) only [E, EE, ↓reduceIte, simprocAttr, xk B16 [] .sq rfl, show (nav B16 [1]) = Code.region 0 _ false from rfl, hk_16_0, hz_16_0, hs_16_0, xk B16 [2] .sq rfl, xk B16 [1, 2] .sq rfl, show (nav B16 [1, 1, 2]) = Code.region 1 _ false from rfl, hk_16_1, hz_16_1, hs_16_1, fieldAddrV, u_44, i_44, is_44, ib_44, iz_44, u_3, i_3, is_3, ib_3, iz_3]
  replace hF := cond_some hF
  rcases hF with ⟨h1, hF⟩ | ⟨h1, hF⟩
  · cases hF
    simp (maxSteps := 999999) (disch := first | exact D (by decide) | exact K (by kernel_rfl)) only [E, EE, ↓reduceIte, simprocAttr, xk B16 [2, 1, 2] (.cd 27) rfl, xk B16 [2, 2, 1, 2] .sq rfl, show (nav B16 [1, 2, 2, 1, 2]) = Code.region 2 _ false from rfl, hk_16_2, hz_16_2, hs_16_2, xk B16 [2, 2, 2, 1, 2] .rt rfl, finK_norm, finK_ret, fin16, R16_ai6z.st, h1]
  · simp (maxSteps := 999999) (disch := first | exact D (by decide) | exact K (by kernel_rfl)) only [E, EE, ↓reduceIte, simprocAttr, fieldAddrV, u_44, i_44, is_44, ib_44, iz_44, u_3, i_3, is_3, ib_3, iz_3, h1]
    replace hF := cond_some hF
    rcases hF with ⟨h2, hF⟩ | ⟨h2, hF⟩
    · cases hF
      simp (maxSteps := 999999) (disch := first | exact D (by decide) | exact K (by kernel_rfl)) only [E, EE, ↓reduceIte, simprocAttr, xk B16 [2, 1, 2] (.cd 27) rfl, xk B16 [2, 2, 1, 2] .sq rfl, show (nav B16 [1, 2, 2, 1, 2]) = Code.region 2 _ false from rfl, hk_16_2, hz_16_2, hs_16_2, xk B16 [2, 2, 2, 1, 2] .rt rfl, finK_norm, finK_ret, fin16, R16_ai6z.st, h1, h2]
    · simp (maxSteps := 999999) (disch := first | exact D (by decide) | exact K (by kernel_rfl)) only [E, EE, ↓reduceIte, simprocAttr, fieldAddrV, u_44, i_44, is_44, ib_44, iz_44, u_3, i_3, is_3, ib_3, iz_3, h1, h2]
      replace hF := cond_some hF
      rcases hF with ⟨h3, hF⟩ | ⟨h3, hF⟩
      · cases hF
        simp (maxSteps := 999999) (disch := first | exact D (by decide) | exact K (by kernel_rfl)) only [E, EE, ↓reduceIte, simprocAttr, xk B16 [2, 1, 2] (.cd 27) rfl, xk B16 [2, 2, 1, 2] .sq rfl, show (nav B16 [1, 2, 2, 1, 2]) = Code.region 2 _ false from rfl, hk_16_2, hz_16_2, hs_16_2, xk B16 [2, 2, 2, 1, 2] .rt rfl, finK_norm, finK_ret, fin16, R16_ai6z.st, h1, h2, h3]
      · simp (maxSteps := 999999) (disch := first | exact D (by decide) | exact K (by kernel_rfl)) only [E, EE, ↓reduceIte, simprocAttr, fieldAddrV, u_44, i_44, is_44, ib_44, iz_44, u_3, i_3, is_3, ib_3, iz_3, h1, h2, h3]
        replace hF := cond_some hF
        rcases hF with ⟨h4, hF⟩ | ⟨h4, hF⟩
        · cases hF
          simp (maxSteps := 999999) (disch := first | exact D (by decide) | exact K (by kernel_rfl)) only [E, EE, ↓reduceIte, simprocAttr, xk B16 [2, 1, 2] (.cd 27) rfl, xk B16 [2, 2, 1, 2] .sq rfl, show (nav B16 [1, 2, 2, 1, 2]) = Code.region 2 _ false from rfl, hk_16_2, hz_16_2, hs_16_2, xk B16 [2, 2, 2, 1, 2] .rt rfl, finK_norm, finK_ret, fin16, R16_ai6z.st, h1, h2, h3, h4]
        · simp (maxSteps := 999999) (disch := first | exact D (by decide) | exact K (by kernel_rfl)) only [E, EE, ↓reduceIte, simprocAttr, fieldAddrV, u_44, i_44, is_44, ib_44, iz_44, u_3, i_3, is_3, ib_3, iz_3, xk B16 [2, 1, 2] (.cd 27) rfl, h1, h2, h3, h4]
          replace hF := cond_some hF
          rcases hF with ⟨h5, hF⟩ | ⟨h5, hF⟩
          · cases hF
            simp (maxSteps := 999999) (disch := first | exact D (by decide) | exact K (by kernel_rfl)) only [E, EE, ↓reduceIte, simprocAttr, xk B16 [2, 2, 1, 2] .sq rfl, show (nav B16 [1, 2, 2, 1, 2]) = Code.region 2 _ false from rfl, hk_16_2, hz_16_2, hs_16_2, xk B16 [2, 2, 2, 1, 2] .rt rfl, finK_norm, finK_ret, fin16, R16_ai6z.st, h1, h2, h3, h4, h5]
          · have hJ := f16_ai6z_j1_ok k false a0 a0_1 a0_2 a0_3 a0_4 a0_5 _ hF
            simp (maxSteps := 999999) (disch := first | exact D (by decide) | exact K (by kernel_rfl)) only [E, EE, ↓reduceIte, simprocAttr, xk B16 [3, 2, 1, 2] .sk rfl, h1, h2, h3, h4, h5]
            try simp only [NM, EE] at hJ
            exact hJ
noncomputable def f16_ai6z (k : Nat) (a0 a0_1 a0_2 a0_3 a0_4 a0_5 : Int) : Option R16_ai6z := match k with | 0 => none | k + 1 => f16_ai6z_e k a0 a0_1 a0_2 a0_3 a0_4 a0_5
theorem f16_ai6z_ok (k : Nat) (a0 a0_1 a0_2 a0_3 a0_4 a0_5 : Int) (r : R16_ai6z) (hF : f16_ai6z k a0 a0_1 a0_2 a0_3 a0_4 a0_5 = some r) : CV k 16 [V.agg [V.p (Value.int .i64 a0), V.p (Value.int .i64 a0_1), V.p (Value.int .i64 a0_2), V.p (Value.int .i64 a0_3), V.p (Value.int .i64 a0_4), V.p (Value.int .i64 a0_5)]] [] = some r.st := by
  cases k with
  | zero => cases hF
  | succ k =>
    unfold CV
    rw [ev_call (F := Try.f16) (c := (nav B16 [])) rfl Try.func16 rfl rfl rfl rfl]
    exact f16_ai6z_e_ok k a0 a0_1 a0_2 a0_3 a0_4 a0_5 r hF
-- f6_airzairzai6z: f6 heliograph/heliographlaw13.PlanSame
inductive R6_airzairzai6z where
  | o0 (y : Bool)
noncomputable def R6_airzairzai6z.st : R6_airzairzai6z → V × List O × List O
  | .o0 y => (V.p (Value.bool y), [], [])
inductive R6_airzairzai6z_l2 where
  | o0 (y : Bool) (y_1 y_2 y_3 : Int) (y_4 : List T44) (y_5 : Int) (y_6 : List T44) (y_7 y_8 y_9 y_10 y_11 y_12 : Int)
  | o1 (y : Bool) (y_1 y_2 : Int) (y_3 : Bool) (y_4 : Int) (y_5 : List T44) (y_6 : Int) (y_7 : List T44) (y_8 y_9 y_10 y_11 y_12 y_13 : Int)
noncomputable def R6_airzairzai6z_l2.st : R6_airzairzai6z_l2 → Out × St
  | .o0 y y_1 y_2 y_3 y_4 y_5 y_6 y_7 y_8 y_9 y_10 y_11 y_12 => (.norm, ({ n := 97, F := [(3, V.ptr 30000 0), (4, V.ptr 30001 0), (5, V.ptr 30002 0), (7, V.p (Value.bool y)), (28, V.p (Value.int .i64 y_1)), (29, V.p (Value.int .i64 y_2))], M := [(30000, O.box 24 [V.p (Value.int .i64 y_3), V.sl 6 (rowsOf encT44 y_4)]), (30001, O.box 24 [V.p (Value.int .i64 y_5), V.sl 6 (rowsOf encT44 y_6)]), (30002, O.box 44 [V.p (Value.int .i64 y_7), V.p (Value.int .i64 y_8), V.p (Value.int .i64 y_9), V.p (Value.int .i64 y_10), V.p (Value.int .i64 y_11), V.p (Value.int .i64 y_12)])] } : St))
  | .o1 y y_1 y_2 y_3 y_4 y_5 y_6 y_7 y_8 y_9 y_10 y_11 y_12 y_13 => (.exit 0, ({ n := 97, F := [(3, V.ptr 30000 0), (4, V.ptr 30001 0), (5, V.ptr 30002 0), (7, V.p (Value.bool y)), (28, V.p (Value.int .i64 y_1)), (29, V.p (Value.int .i64 y_2)), (30, V.p (Value.bool y_3))], M := [(30000, O.box 24 [V.p (Value.int .i64 y_4), V.sl 6 (rowsOf encT44 y_5)]), (30001, O.box 24 [V.p (Value.int .i64 y_6), V.sl 6 (rowsOf encT44 y_7)]), (30002, O.box 44 [V.p (Value.int .i64 y_8), V.p (Value.int .i64 y_9), V.p (Value.int .i64 y_10), V.p (Value.int .i64 y_11), V.p (Value.int .i64 y_12), V.p (Value.int .i64 y_13)])] } : St))
noncomputable def f6_airzairzai6z_l2_j2 (k : Nat) (x7 : Bool) (x28 x29 h0_ : Int) (h0__1 : List T44) (h1_ : Int) (h1__1 : List T44) (h2_ h2__1 h2__2 h2__3 h2__4 h2__5 : Int) : Option R6_airzairzai6z_l2 :=
  some (R6_airzairzai6z_l2.o0 x7 x28 (IntKind.i64.wrap (x29 + (1 : Int))) h0_ h0__1 h1_ h1__1 h2_ h2__1 h2__2 h2__3 h2__4 h2__5)
theorem f6_airzairzai6z_l2_j2_ok (k : Nat) (x7 : Bool) (x28 x29 h0_ : Int) (h0__1 : List T44) (h1_ : Int) (h1__1 : List T44) (h2_ h2__1 h2__2 h2__3 h2__4 h2__5 : Int) (r : R6_airzairzai6z_l2) (hF : f6_airzairzai6z_l2_j2 k x7 x28 x29 h0_ h0__1 h1_ h1__1 h2_ h2__1 h2__2 h2__3 h2__4 h2__5 = some r) : EX 6 k (nav B6 [2, 2, 2, 1, 2, 2, 1, 2, 2, 2]) ({ n := 97, F := [(3, V.ptr 30000 0), (4, V.ptr 30001 0), (5, V.ptr 30002 0), (7, V.p (Value.bool x7)), (28, V.p (Value.int .i64 x28)), (29, V.p (Value.int .i64 x29))], M := [(30000, O.box 24 [V.p (Value.int .i64 h0_), V.sl 6 (rowsOf encT44 h0__1)]), (30001, O.box 24 [V.p (Value.int .i64 h1_), V.sl 6 (rowsOf encT44 h1__1)]), (30002, O.box 44 [V.p (Value.int .i64 h2_), V.p (Value.int .i64 h2__1), V.p (Value.int .i64 h2__2), V.p (Value.int .i64 h2__3), V.p (Value.int .i64 h2__4), V.p (Value.int .i64 h2__5)])] } : St) = some r.st := by
  unfold f6_airzairzai6z_l2_j2 at hF
  cases hF
  simp (maxSteps := 999999) (disch := first | exact D (by decide) | exact K (by kernel_rfl)) only [E, EE, ↓reduceIte, simprocAttr, show (nav B6 [2, 2, 2, 1, 2, 2, 1, 2, 2, 2]) = Code.region 8 _ false from rfl, hk_6_8, hz_6_8, hs_6_8, R6_airzairzai6z_l2.st]
noncomputable def f6_airzairzai6z_l2_j1 (k : Nat) (x7 : Bool) (x28 x29 : Int) (x30 : Bool) (h0_ : Int) (h0__1 : List T44) (h1_ : Int) (h1__1 : List T44) (h2_ h2__1 h2__2 h2__3 h2__4 h2__5 : Int) : Option R6_airzairzai6z_l2 :=
  cond (x7)
    (
      ifE ((0 : Int) ≤ x29) (
        Option.bind (h0__1[(Int.toNat x29)]?) fun v3 =>
          Option.bind (h1__1[(Int.toNat x29)]?) fun v5 =>
            f6_airzairzai6z_l2_j2 k (((v3.From == v5.From) && ((v3.To == v5.To) && ((v3.Start == v5.Start) && ((v3.End == v5.End) && ((v3.Rate == v5.Rate) && (v3.Delay == v5.Delay))))))) x28 x29 h0_ h0__1 h1_ h1__1 h2_ h2__1 h2__2 h2__3 h2__4 h2__5))
    (f6_airzairzai6z_l2_j2 k false x28 x29 h0_ h0__1 h1_ h1__1 h2_ h2__1 h2__2 h2__3 h2__4 h2__5)
theorem f6_airzairzai6z_l2_j1_ok (k : Nat) (x7 : Bool) (x28 x29 : Int) (x30 : Bool) (h0_ : Int) (h0__1 : List T44) (h1_ : Int) (h1__1 : List T44) (h2_ h2__1 h2__2 h2__3 h2__4 h2__5 : Int) (r : R6_airzairzai6z_l2) (hF : f6_airzairzai6z_l2_j1 k x7 x28 x29 x30 h0_ h0__1 h1_ h1__1 h2_ h2__1 h2__2 h2__3 h2__4 h2__5 = some r) : EX 6 k (nav B6 [2, 2, 1, 2, 2, 1, 2, 2, 2]) ({ n := 97, F := [(3, V.ptr 30000 0), (4, V.ptr 30001 0), (5, V.ptr 30002 0), (7, V.p (Value.bool x7)), (28, V.p (Value.int .i64 x28)), (29, V.p (Value.int .i64 x29)), (30, V.p (Value.bool x30))], M := [(30000, O.box 24 [V.p (Value.int .i64 h0_), V.sl 6 (rowsOf encT44 h0__1)]), (30001, O.box 24 [V.p (Value.int .i64 h1_), V.sl 6 (rowsOf encT44 h1__1)]), (30002, O.box 44 [V.p (Value.int .i64 h2_), V.p (Value.int .i64 h2__1), V.p (Value.int .i64 h2__2), V.p (Value.int .i64 h2__3), V.p (Value.int .i64 h2__4), V.p (Value.int .i64 h2__5)])] } : St) = some r.st := by
  unfold f6_airzairzai6z_l2_j1 at hF
  simp (maxSteps := 999999) (disch := first | exact D (by decide) | exact K (by kernel_rfl)) only [E, EE, ↓reduceIte, simprocAttr, xk B6 [2, 2, 1, 2, 2, 1, 2, 2, 2] .sq rfl, xk B6 [1, 2, 2, 1, 2, 2, 1, 2, 2, 2] (.bk 1) rfl, xk B6 [2, 1, 2, 2, 1, 2, 2, 1, 2, 2, 2] .sq rfl, show (nav B6 [1, 2, 1, 2, 2, 1, 2, 2, 1, 2, 2, 2]) = Code.region 6 _ false from rfl, hk_6_6, hz_6_6, hs_6_6, show (nav B6 [2, 2, 1, 2, 2, 1, 2, 2, 1, 2, 2, 2]) = Code.region 7 _ true from rfl, hk_6_7, hz_6_7, hs_6_7]
  replace hF := cond_some hF
  rcases hF with ⟨h1, hF⟩ | ⟨h1, hF⟩
  · replace hF := ifE_some.1 hF
    obtain ⟨h2, hF⟩ := hF
    replace hF := Option.bind_eq_some_iff.1 hF
    obtain ⟨v3, h4, hF⟩ := hF
    replace hF := Option.bind_eq_some_iff.1 hF
    obtain ⟨v5, h6, hF⟩ := hF
    have hJ := f6_airzairzai6z_l2_j2_ok k (((v3.From == v5.From) && ((v3.To == v5.To) && ((v3.Start == v5.Start) && ((v3.End == v5.End) && ((v3.Rate == v5.Rate) && (v3.Delay == v5.Delay))))))) x28 x29 h0_ h0__1 h1_ h1__1 h2_ h2__1 h2__2 h2__3 h2__4 h2__5 _ hF
    simp (maxSteps := 999999) (disch := first | exact D (by decide) | exact K (by kernel_rfl)) only [E, EE, ↓reduceIte, simprocAttr, fieldAddrV, u_24, i_24, is_24, ib_24, iz_24, u_22, i_22, is_22, ib_22, iz_22, indexAddrV, u_44, i_44, is_44, ib_44, iz_44, encT44_eq, ag_44, u_3, i_3, is_3, ib_3, iz_3, h1, h2, h4, h6]
    try simp only [NM, EE] at hJ
    exact hJ
  · have hJ := f6_airzairzai6z_l2_j2_ok k false x28 x29 h0_ h0__1 h1_ h1__1 h2_ h2__1 h2__2 h2__3 h2__4 h2__5 _ hF
    simp (maxSteps := 999999) (disch := first | exact D (by decide) | exact K (by kernel_rfl)) only [E, EE, ↓reduceIte, simprocAttr, h1]
    try simp only [NM, EE] at hJ
    exact hJ
noncomputable def f6_airzairzai6z_l2_b (k : Nat) (x7 : Bool) (x28 x29 h0_ : Int) (h0__1 : List T44) (h1_ : Int) (h1__1 : List T44) (h2_ h2__1 h2__2 h2__3 h2__4 h2__5 : Int) : Option R6_airzairzai6z_l2 :=
  cond ((decide (x29 < x28)))
    (f6_airzairzai6z_l2_j1 k x7 x28 x29 true h0_ h0__1 h1_ h1__1 h2_ h2__1 h2__2 h2__3 h2__4 h2__5)
    (some (R6_airzairzai6z_l2.o1 x7 x28 x29 false h0_ h0__1 h1_ h1__1 h2_ h2__1 h2__2 h2__3 h2__4 h2__5))
theorem f6_airzairzai6z_l2_b_ok (k : Nat) (x7 : Bool) (x28 x29 h0_ : Int) (h0__1 : List T44) (h1_ : Int) (h1__1 : List T44) (h2_ h2__1 h2__2 h2__3 h2__4 h2__5 : Int) (r : R6_airzairzai6z_l2) (hF : f6_airzairzai6z_l2_b k x7 x28 x29 h0_ h0__1 h1_ h1__1 h2_ h2__1 h2__2 h2__3 h2__4 h2__5 = some r) : EX 6 k (nav B6 [1, 2, 2, 1, 2, 2, 2]) ({ n := 97, F := [(3, V.ptr 30000 0), (4, V.ptr 30001 0), (5, V.ptr 30002 0), (7, V.p (Value.bool x7)), (28, V.p (Value.int .i64 x28)), (29, V.p (Value.int .i64 x29))], M := [(30000, O.box 24 [V.p (Value.int .i64 h0_), V.sl 6 (rowsOf encT44 h0__1)]), (30001, O.box 24 [V.p (Value.int .i64 h1_), V.sl 6 (rowsOf encT44 h1__1)]), (30002, O.box 44 [V.p (Value.int .i64 h2_), V.p (Value.int .i64 h2__1), V.p (Value.int .i64 h2__2), V.p (Value.int .i64 h2__3), V.p (Value.int .i64 h2__4), V.p (Value.int .i64 h2__5)])] } : St) = some r.st := by
  unfold f6_airzairzai6z_l2_b at hF
  simp (maxSteps := 999999) (disch := first | exact D (by decide) | exact K (by kernel_rfl)) only [E, EE, ↓reduceIte, simprocAttr, xk B6 [1, 2, 2, 1, 2, 2, 2] .sq rfl, show (nav B6 [1, 1, 2, 2, 1, 2, 2, 2]) = Code.region 5 _ false from rfl, hk_6_5, hz_6_5, hs_6_5, xk B6 [2, 1, 2, 2, 1, 2, 2, 2] .sq rfl, xk B6 [1, 2, 1, 2, 2, 1, 2, 2, 2] (.cd 30) rfl]
  replace hF := cond_some hF
  rcases hF with ⟨h1, hF⟩ | ⟨h1, hF⟩
  · have hJ := f6_airzairzai6z_l2_j1_ok k x7 x28 x29 true h0_ h0__1 h1_ h1__1 h2_ h2__1 h2__2 h2__3 h2__4 h2__5 _ hF
    simp (maxSteps := 999999) (disch := first | exact D (by decide) | exact K (by kernel_rfl)) only [E, EE, ↓reduceIte, simprocAttr, xk B6 [2, 1, 2, 1, 2, 2, 1, 2, 2, 2] .sk rfl, h1]
    try simp only [NM, EE] at hJ
    exact hJ
  · cases hF
    simp (maxSteps := 999999) (disch := first | exact D (by decide) | exact K (by kernel_rfl)) only [E, EE, ↓reduceIte, simprocAttr, xk B6 [3, 1, 2, 1, 2, 2, 1, 2, 2, 2] (.ex 0) rfl, R6_airzairzai6z_l2.st, h1]
noncomputable def f6_airzairzai6z_l2 (k : Nat) : Nat → Bool → Int → Int → Int → (List T44) → Int → (List T44) → Int → Int → Int → Int → Int → Int → Option R6_airzairzai6z_l2
  | 0, _, _, _, _, _, _, _, _, _, _, _, _, _ => none
  | n + 1, x7, x28, x29, h0_, h0__1, h1_, h1__1, h2_, h2__1, h2__2, h2__3, h2__4, h2__5 => Option.bind (f6_airzairzai6z_l2_b k x7 x28 x29 h0_ h0__1 h1_ h1__1 h2_ h2__1 h2__2 h2__3 h2__4 h2__5) fun o =>
    match o with
    | .o0 y y_1 y_2 y_3 y_4 y_5 y_6 y_7 y_8 y_9 y_10 y_11 y_12 => f6_airzairzai6z_l2 k n y y_1 y_2 y_3 y_4 y_5 y_6 y_7 y_8 y_9 y_10 y_11 y_12
    | .o1 y y_1 y_2 y_3 y_4 y_5 y_6 y_7 y_8 y_9 y_10 y_11 y_12 y_13 => some (.o1 y y_1 y_2 y_3 y_4 y_5 y_6 y_7 y_8 y_9 y_10 y_11 y_12 y_13)
theorem f6_airzairzai6z_l2_ok (k n : Nat) : ∀ (x7 : Bool) (x28 x29 h0_ : Int) (h0__1 : List T44) (h1_ : Int) (h1__1 : List T44) (h2_ h2__1 h2__2 h2__3 h2__4 h2__5 : Int) (r : R6_airzairzai6z_l2) (hF : f6_airzairzai6z_l2 k n x7 x28 x29 h0_ h0__1 h1_ h1__1 h2_ h2__1 h2__2 h2__3 h2__4 h2__5 = some r) (σ : St) (hσ : headR (hints.head 6 5) (hints.canon 6 5) σ = some ({ n := 97, F := [(3, V.ptr 30000 0), (4, V.ptr 30001 0), (5, V.ptr 30002 0), (7, V.p (Value.bool x7)), (28, V.p (Value.int .i64 x28)), (29, V.p (Value.int .i64 x29))], M := [(30000, O.box 24 [V.p (Value.int .i64 h0_), V.sl 6 (rowsOf encT44 h0__1)]), (30001, O.box 24 [V.p (Value.int .i64 h1_), V.sl 6 (rowsOf encT44 h1__1)]), (30002, O.box 44 [V.p (Value.int .i64 h2_), V.p (Value.int .i64 h2__1), V.p (Value.int .i64 h2__2), V.p (Value.int .i64 h2__3), V.p (Value.int .i64 h2__4), V.p (Value.int .i64 h2__5)])] } : St)), LP 6 k (nav B6 [1, 2, 2, 1, 2, 2, 2]) n σ = some r.st := by
  induction n with
  | zero => intro x7 x28 x29 h0_ h0__1 h1_ h1__1 h2_ h2__1 h2__2 h2__3 h2__4 h2__5 r hF; cases hF
  | succ n ih =>
    intro x7 x28 x29 h0_ h0__1 h1_ h1__1 h2_ h2__1 h2__2 h2__3 h2__4 h2__5 r hF σ hσ
    rw [f6_airzairzai6z_l2] at hF
    obtain ⟨o, h, hF⟩ := Option.bind_eq_some_iff.1 hF
    have hB := f6_airzairzai6z_l2_b_ok k x7 x28 x29 h0_ h0__1 h1_ h1__1 h2_ h2__1 h2__2 h2__3 h2__4 h2__5 o h
    unfold LP at ih ⊢
    unfold EX at hB
    rw [loopK_succ, show firstReg (nav B6 [1, 2, 2, 1, 2, 2, 2]) = 5 from rfl, hσ, headK_some, hB]
    cases o with
    | o0 y y_1 y_2 y_3 y_4 y_5 y_6 y_7 y_8 y_9 y_10 y_11 y_12 =>
      refine ih y y_1 y_2 y_3 y_4 y_5 y_6 y_7 y_8 y_9 y_10 y_11 y_12 r hF _ ?_
      simp (maxSteps := 999999) (disch := first | exact D (by decide) | exact K (by kernel_rfl)) only [E, EE, ↓reduceIte, simprocAttr, hh_6_5, hc_6_5]
    | o1 y y_1 y_2 y_3 y_4 y_5 y_6 y_7 y_8 y_9 y_10 y_11 y_12 y_13 => cases hF; rfl
noncomputable def f6_airzairzai6z_j4 (k : Nat) (x7 : Bool) (x9 h0_ : Int) (h0__1 : List T44) (h1_ : Int) (h1__1 : List T44) (h2_ h2__1 h2__2 h2__3 h2__4 h2__5 : Int) : Option R6_airzairzai6z :=
  Option.bind (f17_airzairz k h0_ h0__1 h1_ h1__1) fun o1 =>
    match o1 with
    | .o0 v4 =>
      cond ((v4 == x7))
        (
          Option.bind (f9_airz k h0_ h0__1) fun o6 =>
            match o6 with
            | .o0 v9 v10 =>
              Option.bind (f17_airzairz k h0_ h0__1 v9 v10) fun o11 =>
                match o11 with
                | .o0 v14 =>
                  cond (v14)
                    (
                      Option.bind (f16_ai6z k h2_ h2__1 h2__2 h2__3 h2__4 h2__5) fun o16 =>
                        match o16 with
                        | .o0 v19 =>
                          some (R6_airzairzai6z.o0 (v19 == x9)))
                    (some (R6_airzairzai6z.o0 false)))
        (some (R6_airzairzai6z.o0 false))
theorem f6_airzairzai6z_j4_ok (k : Nat) (x7 : Bool) (x9 h0_ : Int) (h0__1 : List T44) (h1_ : Int) (h1__1 : List T44) (h2_ h2__1 h2__2 h2__3 h2__4 h2__5 : Int) (r : R6_airzairzai6z) (hF : f6_airzairzai6z_j4 k x7 x9 h0_ h0__1 h1_ h1__1 h2_ h2__1 h2__2 h2__3 h2__4 h2__5 = some r) : finK Try.prog Try.f6 0 (EX 6 k (nav B6 [2, 2, 2, 2, 2, 2]) ({ n := 97, F := [(3, V.ptr 30000 0), (4, V.ptr 30001 0), (5, V.ptr 30002 0), (7, V.p (Value.bool x7)), (9, V.p (Value.int .i64 x9))], M := [(30000, O.box 24 [V.p (Value.int .i64 h0_), V.sl 6 (rowsOf encT44 h0__1)]), (30001, O.box 24 [V.p (Value.int .i64 h1_), V.sl 6 (rowsOf encT44 h1__1)]), (30002, O.box 44 [V.p (Value.int .i64 h2_), V.p (Value.int .i64 h2__1), V.p (Value.int .i64 h2__2), V.p (Value.int .i64 h2__3), V.p (Value.int .i64 h2__4), V.p (Value.int .i64 h2__5)])] } : St)) = some r.st := by
  unfold f6_airzairzai6z_j4 at hF
  replace hF := Option.bind_eq_some_iff.1 hF
  obtain ⟨o1, h2, hF⟩ := hF
  have hc3 := f17_airzairz_ok k h0_ h0__1 h1_ h1__1 _ h2
  cases o1 with
  | o0 v4 =>
    (try dsimp only at hF)
    (try simp only [NM, EE, R17_airzairz.st] at hc3)
    simp (maxSteps := 999999) (disch := first | exact D (by decide) | exact K (by kernel_rfl)) only [E, EE, ↓reduceIte, simprocAttr, xk B6 [2, 2, 2, 2, 2, 2] .sq rfl, show (nav B6 [1, 2, 2, 2, 2, 2, 2]) = Code.region 12 _ true from rfl, hk_6_12, hz_6_12, hs_6_12, u_24, i_24, is_24, ib_24, iz_24, callStep, CL, gv, List.contains, u_4, i_4, is_4, ib_4, iz_4, hc3]
    replace hF := cond_some hF
    rcases hF with ⟨h5, hF⟩ | ⟨h5, hF⟩
    · replace hF := Option.bind_eq_some_iff.1 hF
      obtain ⟨o6, h7, hF⟩ := hF
      have hc8 := f9_airz_ok k h0_ h0__1 _ h7
      cases o6 with
      | o0 v9 v10 =>
        (try dsimp only at hF)
        (try simp only [NM, EE, R9_airz.st] at hc8)
        replace hF := Option.bind_eq_some_iff.1 hF
        obtain ⟨o11, h12, hF⟩ := hF
        have hc13 := f17_airzairz_ok k h0_ h0__1 v9 v10 _ h12
        cases o11 with
        | o0 v14 =>
          (try dsimp only at hF)
          (try simp only [NM, EE, R17_airzairz.st] at hc13)
          simp (maxSteps := 999999) (disch := first | exact D (by decide) | exact K (by kernel_rfl)) only [E, EE, ↓reduceIte, simprocAttr, u_24, i_24, is_24, ib_24, iz_24, callStep, CL, gv, List.contains, hc3, h5, hc8, hc13]
          replace hF := cond_some hF
          rcases hF with ⟨h15, hF⟩ | ⟨h15, hF⟩
          · replace hF := Option.bind_eq_some_iff.1 hF
            obtain ⟨o16, h17, hF⟩ := hF
            have hc18 := f16_ai6z_ok k h2_ h2__1 h2__2 h2__3 h2__4 h2__5 _ h17
            cases o16 with
            | o0 v19 =>
              (try dsimp only at hF)
              (try simp only [NM, EE, R16_ai6z.st] at hc18)
              cases hF
              simp (maxSteps := 999999) (disch := first | exact D (by decide) | exact K (by kernel_rfl)) only [E, EE, ↓reduceIte, simprocAttr, u_44, i_44, is_44, ib_44, iz_44, callStep, CL, gv, List.contains, xk B6 [2, 2, 2, 2, 2, 2, 2] .rt rfl, finK_norm, finK_ret, fin6, R6_airzairzai6z.st, hc3, h5, hc8, hc13, h15, hc18]
          · cases hF
            simp (maxSteps := 999999) (disch := first | exact D (by decide) | exact K (by kernel_rfl)) only [E, EE, ↓reduceIte, simprocAttr, xk B6 [2, 2, 2, 2, 2, 2, 2] .rt rfl, finK_norm, finK_ret, fin6, R6_airzairzai6z.st, hc3, h5, hc8, hc13, h15]
    · cases hF
      simp (maxSteps := 999999) (disch := first | exact D (by decide) | exact K (by kernel_rfl)) only [E, EE, ↓reduceIte, simprocAttr, xk B6 [2, 2, 2, 2, 2, 2, 2] .rt rfl, finK_norm, finK_ret, fin6, R6_airzairzai6z.st, hc3, h5]
noncomputable def f6_airzairzai6z_j5 (k : Nat) (x7 : Bool) (x9 : Int) (x71 : Bool) (h0_ : Int) (h0__1 : List T44) (h1_ : Int) (h1__1 : List T44) (h2_ h2__1 h2__2 h2__3 h2__4 h2__5 : Int) : Option R6_airzairzai6z :=
  Option.bind (f17_airzairz k h0_ h0__1 h1_ h1__1) fun o1 =>
    match o1 with
    | .o0 v4 =>
      cond ((v4 == x7))
        (
          Option.bind (f9_airz k h0_ h0__1) fun o6 =>
            match o6 with
            | .o0 v9 v10 =>
              Option.bind (f17_airzairz k h0_ h0__1 v9 v10) fun o11 =>
                match o11 with
                | .o0 v14 =>
                  cond (v14)
                    (
                      Option.bind (f16_ai6z k h2_ h2__1 h2__2 h2__3 h2__4 h2__5) fun o16 =>
                        match o16 with
                        | .o0 v19 =>
                          some (R6_airzairzai6z.o0 (v19 == x9)))
                    (some (R6_airzairzai6z.o0 false)))
        (some (R6_airzairzai6z.o0 false))
theorem f6_airzairzai6z_j5_ok (k : Nat) (x7 : Bool) (x9 : Int) (x71 : Bool) (h0_ : Int) (h0__1 : List T44) (h1_ : Int) (h1__1 : List T44) (h2_ h2__1 h2__2 h2__3 h2__4 h2__5 : Int) (r : R6_airzairzai6z) (hF : f6_airzairzai6z_j5 k x7 x9 x71 h0_ h0__1 h1_ h1__1 h2_ h2__1 h2__2 h2__3 h2__4 h2__5 = some r) : finK Try.prog Try.f6 0 (EX 6 k (nav B6 [2, 2, 2, 2, 2, 2]) ({ n := 97, F := [(3, V.ptr 30000 0), (4, V.ptr 30001 0), (5, V.ptr 30002 0), (7, V.p (Value.bool x7)), (9, V.p (Value.int .i64 x9)), (71, V.p (Value.bool x71))], M := [(30000, O.box 24 [V.p (Value.int .i64 h0_), V.sl 6 (rowsOf encT44 h0__1)]), (30001, O.box 24 [V.p (Value.int .i64 h1_), V.sl 6 (rowsOf encT44 h1__1)]), (30002, O.box 44 [V.p (Value.int .i64 h2_), V.p (Value.int .i64 h2__1), V.p (Value.int .i64 h2__2), V.p (Value.int .i64 h2__3), V.p (Value.int .i64 h2__4), V.p (Value.int .i64 h2__5)])] } : St)) = some r.st := by
  unfold f6_airzairzai6z_j5 at hF
  replace hF := Option.bind_eq_some_iff.1 hF
  obtain ⟨o1, h2, hF⟩ := hF
  have hc3 := f17_airzairz_ok k h0_ h0__1 h1_ h1__1 _ h2
  cases o1 with
  | o0 v4 =>
    (try dsimp only at hF)
    (try simp only [NM, EE, R17_airzairz.st] at hc3)
    simp (maxSteps := 999999) (disch := first | exact D (by decide) | exact K (by kernel_rfl)) only [E, EE, ↓reduceIte, simprocAttr, xk B6 [2, 2, 2, 2, 2, 2] .sq rfl, show (nav B6 [1, 2, 2, 2, 2, 2, 2]) = Code.region 12 _ true from rfl, hk_6_12, hz_6_12, hs_6_12, u_24, i_24, is_24, ib_24, iz_24, callStep, CL, gv, List.contains, u_4, i_4, is_4, ib_4, iz_4, hc3]
    replace hF := cond_some hF
    rcases hF with ⟨h5, hF⟩ | ⟨h5, hF⟩
    · replace hF := Option.bind_eq_some_iff.1 hF
      obtain ⟨o6, h7, hF⟩ := hF
      have hc8 := f9_airz_ok k h0_ h0__1 _ h7
      cases o6 with
      | o0 v9 v10 =>
        (try dsimp only at hF)
        (try simp only [NM, EE, R9_airz.st] at hc8)
        replace hF := Option.bind_eq_some_iff.1 hF
        obtain ⟨o11, h12, hF⟩ := hF
        have hc13 := f17_airzairz_ok k h0_ h0__1 v9 v10 _ h12
        cases o11 with
        | o0 v14 =>
          (try dsimp only at hF)
          (try simp only [NM, EE, R17_airzairz.st] at hc13)
          simp (maxSteps := 999999) (disch := first | exact D (by decide) | exact K (by kernel_rfl)) only [E, EE, ↓reduceIte, simprocAttr, u_24, i_24, is_24, ib_24, iz_24, callStep, CL, gv, List.contains, hc3, h5, hc8, hc13]
          replace hF := cond_some hF
          rcases hF with ⟨h15, hF⟩ | ⟨h15, hF⟩
          · replace hF := Option.bind_eq_some_iff.1 hF
            obtain ⟨o16, h17, hF⟩ := hF
            have hc18 := f16_ai6z_ok k h2_ h2__1 h2__2 h2__3 h2__4 h2__5 _ h17
            cases o16 with
            | o0 v19 =>
              (try dsimp only at hF)
              (try simp only [NM, EE, R16_ai6z.st] at hc18)
              cases hF
              simp (maxSteps := 999999) (disch := first | exact D (by decide) | exact K (by kernel_rfl)) only [E, EE, ↓reduceIte, simprocAttr, u_44, i_44, is_44, ib_44, iz_44, callStep, CL, gv, List.contains, xk B6 [2, 2, 2, 2, 2, 2, 2] .rt rfl, finK_norm, finK_ret, fin6, R6_airzairzai6z.st, hc3, h5, hc8, hc13, h15, hc18]
          · cases hF
            simp (maxSteps := 999999) (disch := first | exact D (by decide) | exact K (by kernel_rfl)) only [E, EE, ↓reduceIte, simprocAttr, xk B6 [2, 2, 2, 2, 2, 2, 2] .rt rfl, finK_norm, finK_ret, fin6, R6_airzairzai6z.st, hc3, h5, hc8, hc13, h15]
    · cases hF
      simp (maxSteps := 999999) (disch := first | exact D (by decide) | exact K (by kernel_rfl)) only [E, EE, ↓reduceIte, simprocAttr, xk B6 [2, 2, 2, 2, 2, 2, 2] .rt rfl, finK_norm, finK_ret, fin6, R6_airzairzai6z.st, hc3, h5]
noncomputable def f6_airzairzai6z_j3 (k : Nat) (x7 : Bool) (x28 x29 : Int) (x30 : Bool) (h0_ : Int) (h0__1 : List T44) (h1_ : Int) (h1__1 : List T44) (h2_ h2__1 h2__2 h2__3 h2__4 h2__5 : Int) : Option R6_airzairzai6z :=
  cond ((decide (h2__4 ≥ 0)))
    (
      cond ((decide (h2__2 ≥ 0)))
        (
          cond ((decide (h2__3 > h2__2)))
            (
              cond ((decide (h2__3 ≤ 1048576)))
                (
                  cond ((decide (h2__4 ≤ 1048576)))
                    (f6_airzairzai6z_j4 k x7 (IntKind.i64.wrap (h2__4 * (IntKind.i64.wrap (h2__3 - h2__2)))) h0_ h0__1 h1_ h1__1 h2_ h2__1 h2__2 h2__3 h2__4 h2__5)
                    (f6_airzairzai6z_j5 k x7 0 false h0_ h0__1 h1_ h1__1 h2_ h2__1 h2__2 h2__3 h2__4 h2__5))
                (f6_airzairzai6z_j5 k x7 0 false h0_ h0__1 h1_ h1__1 h2_ h2__1 h2__2 h2__3 h2__4 h2__5))
            (f6_airzairzai6z_j5 k x7 0 false h0_ h0__1 h1_ h1__1 h2_ h2__1 h2__2 h2__3 h2__4 h2__5))
        (f6_airzairzai6z_j5 k x7 0 false h0_ h0__1 h1_ h1__1 h2_ h2__1 h2__2 h2__3 h2__4 h2__5))
    (f6_airzairzai6z_j5 k x7 0 false h0_ h0__1 h1_ h1__1 h2_ h2__1 h2__2 h2__3 h2__4 h2__5)
theorem f6_airzairzai6z_j3_ok (k : Nat) (x7 : Bool) (x28 x29 : Int) (x30 : Bool) (h0_ : Int) (h0__1 : List T44) (h1_ : Int) (h1__1 : List T44) (h2_ h2__1 h2__2 h2__3 h2__4 h2__5 : Int) (r : R6_airzairzai6z) (hF : f6_airzairzai6z_j3 k x7 x28 x29 x30 h0_ h0__1 h1_ h1__1 h2_ h2__1 h2__2 h2__3 h2__4 h2__5 = some r) : finK Try.prog Try.f6 0 (EX 6 k (nav B6 [2, 2, 2, 2]) ({ n := 97, F := [(3, V.ptr 30000 0), (4, V.ptr 30001 0), (5, V.ptr 30002 0), (7, V.p (Value.bool x7)), (28, V.p (Value.int .i64 x28)), (29, V.p (Value.int .i64 x29)), (30, V.p (Value.bool x30))], M := [(30000, O.box 24 [V.p (Value.int .i64 h0_), V.sl 6 (rowsOf encT44 h0__1)]), (30001, O.box 24 [V.p (Value.int .i64 h1_), V.sl 6 (rowsOf encT44 h1__1)]), (30002, O.box 44 [V.p (Value.int .i64 h2_), V.p (Value.int .i64 h2__1), V.p (Value.int .i64 h2__2), V.p (Value.int .i64 h2__3), V.p (Value.int .i64 h2__4), V.p (Value.int .i64 h2__5)])] } : St)) = some r.st := by
  unfold f6_airzairzai6z_j3 at hF
  simp (maxSteps := 999999) (disch := first | exact D (by decide) | exact K (by kernel_rfl)) only [E, EE, ↓reduceIte, simprocAttr, xk B6 [2, 2, 2, 2] .sq rfl, show (nav B6 [1, 2, 2, 2, 2]) = Code.region 9 _ false from rfl, hk_6_9, hz_6_9, hs_6_9, xk B6 [2, 2, 2, 2, 2] .sq rfl, xk B6 [1, 2, 2, 2, 2, 2] .sq rfl, show (nav B6 [1, 1, 2, 2, 2, 2, 2]) = Code.region 10 _ false from rfl, hk_6_10, hz_6_10, hs_6_10, fieldAddrV, u_44, i_44, is_44, ib_44, iz_44, u_3, i_3, is_3, ib_3, iz_3]
  replace hF := cond_some hF
  rcases hF with ⟨h1, hF⟩ | ⟨h1, hF⟩
  · simp (maxSteps := 999999) (disch := first | exact D (by decide) | exact K (by kernel_rfl)) only [E, EE, ↓reduceIte, simprocAttr, fieldAddrV, u_44, i_44, is_44, ib_44, iz_44, u_3, i_3, is_3, ib_3, iz_3, h1]
    replace hF := cond_some hF
    rcases hF with ⟨h2, hF⟩ | ⟨h2, hF⟩
    · simp (maxSteps := 999999) (disch := first | exact D (by decide) | exact K (by kernel_rfl)) only [E, EE, ↓reduceIte, simprocAttr, fieldAddrV, u_44, i_44, is_44, ib_44, iz_44, u_3, i_3, is_3, ib_3, iz_3, h1, h2]
      replace hF := cond_some hF
      rcases hF with ⟨h3, hF⟩ | ⟨h3, hF⟩
      · simp (maxSteps := 999999) (disch := first | exact D (by decide) | exact K (by kernel_rfl)) only [E, EE, ↓reduceIte, simprocAttr, fieldAddrV, u_44, i_44, is_44, ib_44, iz_44, u_3, i_3, is_3, ib_3, iz_3, h1, h2, h3]
        replace hF := cond_some hF
        rcases hF with ⟨h4, hF⟩ | ⟨h4, hF⟩
        · simp (maxSteps := 999999) (disch := first | exact D (by decide) | exact K (by kernel_rfl)) only [E, EE, ↓reduceIte, simprocAttr, fieldAddrV, u_44, i_44, is_44, ib_44, iz_44, u_3, i_3, is_3, ib_3, iz_3, xk B6 [2, 1, 2, 2, 2, 2, 2] (.cd 71) rfl, h1, h2, h3, h4]
          replace hF := cond_some hF
          rcases hF with ⟨h5, hF⟩ | ⟨h5, hF⟩
          · have hJ := f6_airzairzai6z_j4_ok k x7 (IntKind.i64.wrap (h2__4 * (IntKind.i64.wrap (h2__3 - h2__2)))) h0_ h0__1 h1_ h1__1 h2_ h2__1 h2__2 h2__3 h2__4 h2__5 _ hF
            simp (maxSteps := 999999) (disch := first | exact D (by decide) | exact K (by kernel_rfl)) only [E, EE, ↓reduceIte, simprocAttr, show (nav B6 [2, 2, 1, 2, 2, 2, 2, 2]) = Code.region 11 _ false from rfl, hk_6_11, hz_6_11, hs_6_11, fieldAddrV, u_44, i_44, is_44, ib_44, iz_44, u_3, i_3, is_3, ib_3, iz_3, h1, h2, h3, h4, h5]
            try simp only [NM, EE] at hJ
            exact hJ
          · have hJ := f6_airzairzai6z_j5_ok k x7 0 false h0_ h0__1 h1_ h1__1 h2_ h2__1 h2__2 h2__3 h2__4 h2__5 _ hF
            simp (maxSteps := 999999) (disch := first | exact D (by decide) | exact K (by kernel_rfl)) only [E, EE, ↓reduceIte, simprocAttr, xk B6 [3, 2, 1, 2, 2, 2, 2, 2] .sk rfl, h1, h2, h3, h4, h5]
            try simp only [NM, EE] at hJ
            exact hJ
        · have hJ := f6_airzairzai6z_j5_ok k x7 0 false h0_ h0__1 h1_ h1__1 h2_ h2__1 h2__2 h2__3 h2__4 h2__5 _ hF
          simp (maxSteps := 999999) (disch := first | exact D (by decide) | exact K (by kernel_rfl)) only [E, EE, ↓reduceIte, simprocAttr, xk B6 [2, 1, 2, 2, 2, 2, 2] (.cd 71) rfl, xk B6 [3, 2, 1, 2, 2, 2, 2, 2] .sk rfl, h1, h2, h3, h4]
          try simp only [NM, EE] at hJ
          exact hJ
      · have hJ := f6_airzairzai6z_j5_ok k x7 0 false h0_ h0__1 h1_ h1__1 h2_ h2__1 h2__2 h2__3 h2__4 h2__5 _ hF
        simp (maxSteps := 999999) (disch := first | exact D (by decide) | exact K (by kernel_rfl)) only [E, EE, ↓reduceIte, simprocAttr, xk B6 [2, 1, 2, 2, 2, 2, 2] (.cd 71) rfl, xk B6 [3, 2, 1, 2, 2, 2, 2, 2] .sk rfl, h1, h2, h3]
        try simp only [NM, EE] at hJ
        exact hJ
    · have hJ := f6_airzairzai6z_j5_ok k x7 0 false h0_ h0__1 h1_ h1__1 h2_ h2__1 h2__2 h2__3 h2__4 h2__5 _ hF
      simp (maxSteps := 999999) (disch := first | exact D (by decide) | exact K (by kernel_rfl)) only [E, EE, ↓reduceIte, simprocAttr, xk B6 [2, 1, 2, 2, 2, 2, 2] (.cd 71) rfl, xk B6 [3, 2, 1, 2, 2, 2, 2, 2] .sk rfl, h1, h2]
      try simp only [NM, EE] at hJ
      exact hJ
  · have hJ := f6_airzairzai6z_j5_ok k x7 0 false h0_ h0__1 h1_ h1__1 h2_ h2__1 h2__2 h2__3 h2__4 h2__5 _ hF
    simp (maxSteps := 999999) (disch := first | exact D (by decide) | exact K (by kernel_rfl)) only [E, EE, ↓reduceIte, simprocAttr, xk B6 [2, 1, 2, 2, 2, 2, 2] (.cd 71) rfl, xk B6 [3, 2, 1, 2, 2, 2, 2, 2] .sk rfl, h1]
    try simp only [NM, EE] at hJ
    exact hJ
noncomputable def f6_airzairzai6z_j1 (k : Nat) (x11 : Bool) (m3 : Int) (m3_1 : List T44) (m4 : Int) (m4_1 : List T44) (m5 m5_1 m5_2 m5_3 m5_4 m5_5 : Int) : Option R6_airzairzai6z :=
  cond ((m3 == m4))
    (
      Option.bind (f6_airzairzai6z_l2 k k ((((List.length m3_1) : Int) == ((List.length m4_1) : Int))) ((List.length m3_1) : Int) 0 m3 m3_1 m4 m4_1 m5 m5_1 m5_2 m5_3 m5_4 m5_5) fun o2 =>
        match o2 with
        | .o0 _ _ _ _ _ _ _ _ _ _ _ _ _ =>
          none
        | .o1 v5 v6 v7 v8 v9 v10 v11 v12 v13 v14 v15 v16 v17 v18 =>
          f6_airzairzai6z_j3 k v5 v6 v7 v8 v9 v10 v11 v12 v13 v14 v15 v16 v17 v18)
    (
      Option.bind (f6_airzairzai6z_l2 k k false ((List.length m3_1) : Int) 0 m3 m3_1 m4 m4_1 m5 m5_1 m5_2 m5_3 m5_4 m5_5) fun o19 =>
        match o19 with
        | .o0 _ _ _ _ _ _ _ _ _ _ _ _ _ =>
          none
        | .o1 v22 v23 v24 v25 v26 v27 v28 v29 v30 v31 v32 v33 v34 v35 =>
          f6_airzairzai6z_j3 k v22 v23 v24 v25 v26 v27 v28 v29 v30 v31 v32 v33 v34 v35)
theorem f6_airzairzai6z_j1_ok (k : Nat) (x11 : Bool) (m3 : Int) (m3_1 : List T44) (m4 : Int) (m4_1 : List T44) (m5 m5_1 m5_2 m5_3 m5_4 m5_5 : Int) (r : R6_airzairzai6z) (hF : f6_airzairzai6z_j1 k x11 m3 m3_1 m4 m4_1 m5 m5_1 m5_2 m5_3 m5_4 m5_5 = some r) : finK Try.prog Try.f6 0 (EX 6 k (nav B6 [2, 2]) ({ n := 97, F := [(3, V.ptr 3 0), (4, V.ptr 4 0), (5, V.ptr 5 0), (11, V.p (Value.bool x11))], M := [(3, O.box 24 [V.p (Value.int .i64 m3), V.sl 6 (rowsOf encT44 m3_1)]), (4, O.box 24 [V.p (Value.int .i64 m4), V.sl 6 (rowsOf encT44 m4_1)]), (5, O.box 44 [V.p (Value.int .i64 m5), V.p (Value.int .i64 m5_1), V.p (Value.int .i64 m5_2), V.p (Value.int .i64 m5_3), V.p (Value.int .i64 m5_4), V.p (Value.int .i64 m5_5)])] } : St)) = some r.st := by
  unfold f6_airzairzai6z_j1 at hF
  simp (maxSteps := 999999) (disch := first | exact D (by decide) | exact K (by kernel_rfl)) only [E, EE, ↓reduceIte, simprocAttr, xk B6 [2, 2] .sq rfl, show (nav B6 [1, 2, 2]) = Code.region 3 _ false from rfl, hk_6_3, hz_6_3, hs_6_3, fieldAddrV, u_24, i_24, is_24, ib_24, iz_24, u_3, i_3, is_3, ib_3, iz_3]
  replace hF := cond_some hF
  rcases hF with ⟨h1, hF⟩ | ⟨h1, hF⟩
  · replace hF := Option.bind_eq_some_iff.1 hF
    obtain ⟨o2, h3, hF⟩ := hF
    have hc4 := f6_airzairzai6z_l2_ok k k ((((List.length m3_1) : Int) == ((List.length m4_1) : Int))) ((List.length m3_1) : Int) 0 m3 m3_1 m4 m4_1 m5 m5_1 m5_2 m5_3 m5_4 m5_5 _ h3
    simp (maxSteps := 999999) (disch := first | exact D (by decide) | exact K (by kernel_rfl)) only [E, EE, ↓reduceIte, simprocAttr, fieldAddrV, u_24, i_24, is_24, ib_24, iz_24, u_22, i_22, is_22, ib_22, iz_22, xk B6 [2, 2, 2] .sq rfl, xk B6 [1, 2, 2, 2] .sq rfl, show (nav B6 [1, 1, 2, 2, 2]) = Code.region 4 _ false from rfl, hk_6_4, hz_6_4, hs_6_4, xk B6 [2, 1, 2, 2, 2] (.bk 0) rfl, xk B6 [2, 2, 1, 2, 2, 2] .lp rfl, hh_6_5, hc_6_5, h1]
    (try simp only [NM, EE] at hc4)
    rw [hc4 _ (by simp (maxSteps := 999999) (disch := first | exact D (by decide) | exact K (by kernel_rfl)) only [E, EE, ↓reduceIte, simprocAttr, hh_6_5, hc_6_5, h1])]
    clear hc4
    cases o2 with
    | o0 _ _ _ _ _ _ _ _ _ _ _ _ _ =>
      (try dsimp only at hF)
      cases hF
    | o1 v5 v6 v7 v8 v9 v10 v11 v12 v13 v14 v15 v16 v17 v18 =>
      (try dsimp only at hF)
      have hJ := f6_airzairzai6z_j3_ok k v5 v6 v7 v8 v9 v10 v11 v12 v13 v14 v15 v16 v17 v18 _ hF
      simp (maxSteps := 999999) (disch := first | exact D (by decide) | exact K (by kernel_rfl)) only [E, EE, ↓reduceIte, simprocAttr, R6_airzairzai6z_l2.st, h1]
      try simp only [NM, EE] at hJ
      exact hJ
  · replace hF := Option.bind_eq_some_iff.1 hF
    obtain ⟨o19, h20, hF⟩ := hF
    have hc21 := f6_airzairzai6z_l2_ok k k false ((List.length m3_1) : Int) 0 m3 m3_1 m4 m4_1 m5 m5_1 m5_2 m5_3 m5_4 m5_5 _ h20
    simp (maxSteps := 999999) (disch := first | exact D (by decide) | exact K (by kernel_rfl)) only [E, EE, ↓reduceIte, simprocAttr, xk B6 [2, 2, 2] .sq rfl, xk B6 [1, 2, 2, 2] .sq rfl, show (nav B6 [1, 1, 2, 2, 2]) = Code.region 4 _ false from rfl, hk_6_4, hz_6_4, hs_6_4, fieldAddrV, u_24, i_24, is_24, ib_24, iz_24, u_22, i_22, is_22, ib_22, iz_22, xk B6 [2, 1, 2, 2, 2] (.bk 0) rfl, xk B6 [2, 2, 1, 2, 2, 2] .lp rfl, hh_6_5, hc_6_5, h1]
    (try simp only [NM, EE] at hc21)
    rw [hc21 _ (by simp (maxSteps := 999999) (disch := first | exact D (by decide) | exact K (by kernel_rfl)) only [E, EE, ↓reduceIte, simprocAttr, hh_6_5, hc_6_5, h1])]
    clear hc21
    cases o19 with
    | o0 _ _ _ _ _ _ _ _ _ _ _ _ _ =>
      (try dsimp only at hF)
      cases hF
    | o1 v22 v23 v24 v25 v26 v27 v28 v29 v30 v31 v32 v33 v34 v35 =>
      (try dsimp only at hF)
      have hJ := f6_airzairzai6z_j3_ok k v22 v23 v24 v25 v26 v27 v28 v29 v30 v31 v32 v33 v34 v35 _ hF
      simp (maxSteps := 999999) (disch := first | exact D (by decide) | exact K (by kernel_rfl)) only [E, EE, ↓reduceIte, simprocAttr, R6_airzairzai6z_l2.st, h1]
      try simp only [NM, EE] at hJ
      exact hJ
noncomputable def f6_airzairzai6z_e (k : Nat) (a0 : Int) (a0_1 : List T44) (a1 : Int) (a1_1 : List T44) (a2 a2_1 a2_2 a2_3 a2_4 a2_5 : Int) : Option R6_airzairzai6z :=
  Option.bind (f7_ k) fun o1 =>
    match o1 with
    | .o0 v4 =>
      cond ((!v4))
        (some (R6_airzairzai6z.o0 false))
        (f6_airzairzai6z_j1 k false a0 a0_1 a1 a1_1 a2 a2_1 a2_2 a2_3 a2_4 a2_5)
theorem f6_airzairzai6z_e_ok (k : Nat) (a0 : Int) (a0_1 : List T44) (a1 : Int) (a1_1 : List T44) (a2 a2_1 a2_2 a2_3 a2_4 a2_5 : Int) (r : R6_airzairzai6z) (hF : f6_airzairzai6z_e k a0 a0_1 a1 a1_1 a2 a2_1 a2_2 a2_3 a2_4 a2_5 = some r) : finK Try.prog Try.f6 0 (EX 6 k (nav B6 []) ({ n := 97, F := [(0, V.agg [V.p (Value.int .i64 a0), V.sl 6 (rowsOf encT44 a0_1)]), (1, V.agg [V.p (Value.int .i64 a1), V.sl 6 (rowsOf encT44 a1_1)]), (2, V.agg [V.p (Value.int .i64 a2), V.p (Value.int .i64 a2_1), V.p (Value.int .i64 a2_2), V.p (Value.int .i64 a2_3), V.p (Value.int .i64 a2_4), V.p (Value.int .i64 a2_5)])], M := [] } : St)) = some r.st := by
  unfold f6_airzairzai6z_e at hF
  replace hF := Option.bind_eq_some_iff.1 hF
  obtain ⟨o1, h2, hF⟩ := hF
  have hc3 := f7__ok k _ h2
  cases o1 with
  | o0 v4 =>
    (try dsimp only at hF)
    (try simp only [NM, EE, R7_.st] at hc3)
    simp (maxSteps := 999999) (disch := first | exact D (by decide) | exact K (by kernel_rfl)) only [E, EE, ↓reduceIte, simprocAttr, xk B6 [] .sq rfl, show (nav B6 [1]) = Code.region 0 _ false from rfl, hk_6_0, hz_6_0, hs_6_0, xk B6 [2] .sq rfl, xk B6 [1, 2] .sq rfl, show (nav B6 [1, 1, 2]) = Code.region 1 _ false from rfl, hk_6_1, hz_6_1, hs_6_1, callStep, CL, gv, List.contains, xk B6 [2, 1, 2] (.cd 11) rfl, hc3]
    replace hF := cond_some hF
    rcases hF with ⟨h5, hF⟩ | ⟨h5, hF⟩
    · cases hF
      simp (maxSteps := 999999) (disch := first | exact D (by decide) | exact K (by kernel_rfl)) only [E, EE, ↓reduceIte, simprocAttr, xk B6 [2, 2, 1, 2] .sq rfl, show (nav B6 [1, 2, 2, 1, 2]) = Code.region 2 _ false from rfl, hk_6_2, hz_6_2, hs_6_2, xk B6 [2, 2, 2, 1, 2] .rt rfl, finK_norm, finK_ret, fin6, R6_airzairzai6z.st, hc3, h5]
    · have hJ := f6_airzairzai6z_j1_ok k false a0 a0_1 a1 a1_1 a2 a2_1 a2_2 a2_3 a2_4 a2_5 _ hF
      simp (maxSteps := 999999) (disch := first | exact D (by decide) | exact K (by kernel_rfl)) only [E, EE, ↓reduceIte, simprocAttr, xk B6 [3, 2, 1, 2] .sk rfl, hc3, h5]
      try simp only [NM, EE] at hJ
      exact hJ
noncomputable def f6_airzairzai6z (k : Nat) (a0 : Int) (a0_1 : List T44) (a1 : Int) (a1_1 : List T44) (a2 a2_1 a2_2 a2_3 a2_4 a2_5 : Int) : Option R6_airzairzai6z := match k with | 0 => none | k + 1 => f6_airzairzai6z_e k a0 a0_1 a1 a1_1 a2 a2_1 a2_2 a2_3 a2_4 a2_5
theorem f6_airzairzai6z_ok (k : Nat) (a0 : Int) (a0_1 : List T44) (a1 : Int) (a1_1 : List T44) (a2 a2_1 a2_2 a2_3 a2_4 a2_5 : Int) (r : R6_airzairzai6z) (hF : f6_airzairzai6z k a0 a0_1 a1 a1_1 a2 a2_1 a2_2 a2_3 a2_4 a2_5 = some r) : CV k 6 [V.agg [V.p (Value.int .i64 a0), V.sl 6 (rowsOf encT44 a0_1)], V.agg [V.p (Value.int .i64 a1), V.sl 6 (rowsOf encT44 a1_1)], V.agg [V.p (Value.int .i64 a2), V.p (Value.int .i64 a2_1), V.p (Value.int .i64 a2_2), V.p (Value.int .i64 a2_3), V.p (Value.int .i64 a2_4), V.p (Value.int .i64 a2_5)]] [] = some r.st := by
  cases k with
  | zero => cases hF
  | succ k =>
    unfold CV
    rw [ev_call (F := Try.f6) (c := (nav B6 [])) rfl Try.func6 rfl rfl rfl rfl]
    exact f6_airzairzai6z_e_ok k a0 a0_1 a1 a1_1 a2 a2_1 a2_2 a2_3 a2_4 a2_5 r hF
end Go.Proofs.YtmogplhglcodjaaV
