/- What the program's functions answer: plain functions, and that the interpreter answers what they do. Written by a program of this session, out of the translation. -/
import Derived.Test.YtmogplhglcodjaaVP2
namespace Go.Proofs.YtmogplhglcodjaaV
open Go
set_option linter.unusedVariables false
set_option linter.unusedSimpArgs false
set_option maxRecDepth 8000
set_option maxHeartbeats 4000000
-- f15_airziii: f15 heliograph/heliographref13.Open
inductive R15_airziii where
  | o0 (y : Int)
noncomputable def R15_airziii.st : R15_airziii → V × List O × List O
  | .o0 y => (V.p (Value.int .i64 y), [], [])
inductive R15_airziii_l1 where
  | o0 (y : Int)
  | o1 (y y_1 y_2 y_3 y_4 : Int) (y_5 : List T44)
  | o2 (y y_1 y_2 y_3 : Int) (y_4 : Bool) (y_5 : Int) (y_6 : List T44)
noncomputable def R15_airziii_l1.st : R15_airziii_l1 → Out × St
  | .o0 y => (.ret, ({ n := 46, F := [(8, V.p (Value.int .i64 y))], M := [] } : St))
  | .o1 y y_1 y_2 y_3 y_4 y_5 => (.norm, ({ n := 46, F := [(1, V.p (Value.int .i64 y)), (2, V.p (Value.int .i64 y_1)), (3, V.p (Value.int .i64 y_2)), (4, V.ptr 30000 0), (9, V.p (Value.int .i64 y_3))], M := [(30000, O.box 24 [V.p (Value.int .i64 y_4), V.sl 6 (rowsOf encT44 y_5)])] } : St))
  | .o2 y y_1 y_2 y_3 y_4 y_5 y_6 => (.exit 0, ({ n := 46, F := [(1, V.p (Value.int .i64 y)), (2, V.p (Value.int .i64 y_1)), (3, V.p (Value.int .i64 y_2)), (4, V.ptr 30000 0), (9, V.p (Value.int .i64 y_3)), (15, V.p (Value.bool y_4))], M := [(30000, O.box 24 [V.p (Value.int .i64 y_5), V.sl 6 (rowsOf encT44 y_6)])] } : St))
noncomputable def f15_airziii_l1_j2 (k : Nat) (x1 x2 x3 x9 : Int) (x44 : Bool) (h0_ : Int) (h0__1 : List T44) : Option R15_airziii_l1 :=
  some (R15_airziii_l1.o1 x1 x2 x3 (IntKind.i64.wrap (x9 + (1 : Int))) h0_ h0__1)
theorem f15_airziii_l1_j2_ok (k : Nat) (x1 x2 x3 x9 : Int) (x44 : Bool) (h0_ : Int) (h0__1 : List T44) (r : R15_airziii_l1) (hF : f15_airziii_l1_j2 k x1 x2 x3 x9 x44 h0_ h0__1 = some r) : EX 15 k (nav B15 [2, 2, 1, 2, 2, 1, 2]) ({ n := 46, F := [(1, V.p (Value.int .i64 x1)), (2, V.p (Value.int .i64 x2)), (3, V.p (Value.int .i64 x3)), (4, V.ptr 30000 0), (9, V.p (Value.int .i64 x9)), (44, V.p (Value.bool x44))], M := [(30000, O.box 24 [V.p (Value.int .i64 h0_), V.sl 6 (rowsOf encT44 h0__1)])] } : St) = some r.st := by
  unfold f15_airziii_l1_j2 at hF
  cases hF
  simp (maxSteps := 999999) (disch := first | exact D (by decide) | exact K (by kernel_rfl)) only [E, EE, ↓reduceIte, simprocAttr, show (nav B15 [2, 2, 1, 2, 2, 1, 2]) = Code.region 3 _ false from rfl, hk_15_3, hz_15_3, hs_15_3, R15_airziii_l1.st]
noncomputable def f15_airziii_l1_j1 (k : Nat) (x1 x2 x3 x9 : Int) (x15 : Bool) (h0_ : Int) (h0__1 : List T44) : Option R15_airziii_l1 :=
  ifE ((0 : Int) ≤ x9) (
    Option.bind (h0__1[(Int.toNat x9)]?) fun v2 =>
      cond ((v2.From == x1))
        (
          cond ((v2.To == x2))
            (
              cond ((decide (x3 ≥ v2.Start)))
                (
                  cond ((decide (x3 < v2.End)))
                    (some (R15_airziii_l1.o0 x9))
                    (f15_airziii_l1_j2 k x1 x2 x3 x9 false h0_ h0__1))
                (f15_airziii_l1_j2 k x1 x2 x3 x9 false h0_ h0__1))
            (f15_airziii_l1_j2 k x1 x2 x3 x9 false h0_ h0__1))
        (f15_airziii_l1_j2 k x1 x2 x3 x9 false h0_ h0__1))
theorem f15_airziii_l1_j1_ok (k : Nat) (x1 x2 x3 x9 : Int) (x15 : Bool) (h0_ : Int) (h0__1 : List T44) (r : R15_airziii_l1) (hF : f15_airziii_l1_j1 k x1 x2 x3 x9 x15 h0_ h0__1 = some r) : EX 15 k (nav B15 [2, 1, 2, 2, 1, 2]) ({ n := 46, F := [(1, V.p (Value.int .i64 x1)), (2, V.p (Value.int .i64 x2)), (3, V.p (Value.int .i64 x3)), (4, V.ptr 30000 0), (9, V.p (Value.int .i64 x9)), (15, V.p (Value.bool x15))], M := [(30000, O.box 24 [V.p (Value.int .i64 h0_), V.sl 6 (rowsOf encT44 h0__1)])] } : St) = some r.st := by
  unfold f15_airziii_l1_j1 at hF
  replace hF := ifE_some.1 hF
  obtain ⟨h1, hF⟩ := hF
  replace hF := Option.bind_eq_some_iff.1 hF
  obtain ⟨v2, h3, hF⟩ := hF
  simp (maxSteps := 999999) (disch := first | exact D (by decide) | exact K (by kernel_rfl)) only [E, EE, ↓reduceIte, simprocAttr, xk B15 [2, 1, 2, 2, 1, 2] .sq rfl, xk B15 [1, 2, 1, 2, 2, 1, 2] (.bk 1) rfl, xk B15 [2, 1, 2, 1, 2, 2, 1, 2] .sq rfl, show (nav B15 [1, 2, 1, 2, 1, 2, 2, 1, 2]) = Code.region 4 _ false from rfl, hk_15_4, hz_15_4, hs_15_4, fieldAddrV, u_24, i_24, is_24, ib_24, iz_24, u_22, i_22, is_22, ib_22, iz_22, indexAddrV, u_44, i_44, is_44, ib_44, iz_44, encT44_eq, xk B15 [2, 2, 1, 2, 1, 2, 2, 1, 2] .sq rfl, show (nav B15 [1, 2, 2, 1, 2, 1, 2, 2, 1, 2]) = Code.region 5 _ false from rfl, hk_15_5, hz_15_5, hs_15_5, u_3, i_3, is_3, ib_3, iz_3, h1, h3]
  replace hF := cond_some hF
  rcases hF with ⟨h4, hF⟩ | ⟨h4, hF⟩
  · simp (maxSteps := 999999) (disch := first | exact D (by decide) | exact K (by kernel_rfl)) only [E, EE, ↓reduceIte, simprocAttr, fieldAddrV, u_44, i_44, is_44, ib_44, iz_44, u_3, i_3, is_3, ib_3, iz_3, h1, h3, h4]
    replace hF := cond_some hF
    rcases hF with ⟨h5, hF⟩ | ⟨h5, hF⟩
    · simp (maxSteps := 999999) (disch := first | exact D (by decide) | exact K (by kernel_rfl)) only [E, EE, ↓reduceIte, simprocAttr, fieldAddrV, u_44, i_44, is_44, ib_44, iz_44, u_3, i_3, is_3, ib_3, iz_3, h1, h3, h4, h5]
      replace hF := cond_some hF
      rcases hF with ⟨h6, hF⟩ | ⟨h6, hF⟩
      · simp (maxSteps := 999999) (disch := first | exact D (by decide) | exact K (by kernel_rfl)) only [E, EE, ↓reduceIte, simprocAttr, fieldAddrV, u_44, i_44, is_44, ib_44, iz_44, u_3, i_3, is_3, ib_3, iz_3, xk B15 [2, 2, 2, 1, 2, 1, 2, 2, 1, 2] (.cd 44) rfl, h1, h3, h4, h5, h6]
        replace hF := cond_some hF
        rcases hF with ⟨h7, hF⟩ | ⟨h7, hF⟩
        · cases hF
          simp (maxSteps := 999999) (disch := first | exact D (by decide) | exact K (by kernel_rfl)) only [E, EE, ↓reduceIte, simprocAttr, xk B15 [2, 2, 2, 2, 1, 2, 1, 2, 2, 1, 2] .sq rfl, show (nav B15 [1, 2, 2, 2, 2, 1, 2, 1, 2, 2, 1, 2]) = Code.region 6 _ false from rfl, hk_15_6, hz_15_6, hs_15_6, xk B15 [2, 2, 2, 2, 2, 1, 2, 1, 2, 2, 1, 2] .rt rfl, R15_airziii_l1.st, h1, h3, h4, h5, h6, h7]
        · have hJ := f15_airziii_l1_j2_ok k x1 x2 x3 x9 false h0_ h0__1 _ hF
          simp (maxSteps := 999999) (disch := first | exact D (by decide) | exact K (by kernel_rfl)) only [E, EE, ↓reduceIte, simprocAttr, xk B15 [3, 2, 2, 2, 1, 2, 1, 2, 2, 1, 2] .sk rfl, h1, h3, h4, h5, h6, h7]
          try simp only [NM, EE] at hJ
          exact hJ
      · have hJ := f15_airziii_l1_j2_ok k x1 x2 x3 x9 false h0_ h0__1 _ hF
        simp (maxSteps := 999999) (disch := first | exact D (by decide) | exact K (by kernel_rfl)) only [E, EE, ↓reduceIte, simprocAttr, xk B15 [2, 2, 2, 1, 2, 1, 2, 2, 1, 2] (.cd 44) rfl, xk B15 [3, 2, 2, 2, 1, 2, 1, 2, 2, 1, 2] .sk rfl, h1, h3, h4, h5, h6]
        try simp only [NM, EE] at hJ
        exact hJ
    · have hJ := f15_airziii_l1_j2_ok k x1 x2 x3 x9 false h0_ h0__1 _ hF
      simp (maxSteps := 999999) (disch := first | exact D (by decide) | exact K (by kernel_rfl)) only [E, EE, ↓reduceIte, simprocAttr, xk B15 [2, 2, 2, 1, 2, 1, 2, 2, 1, 2] (.cd 44) rfl, xk B15 [3, 2, 2, 2, 1, 2, 1, 2, 2, 1, 2] .sk rfl, h1, h3, h4, h5]
      try simp only [NM, EE] at hJ
      exact hJ
  · have hJ := f15_airziii_l1_j2_ok k x1 x2 x3 x9 false h0_ h0__1 _ hF
    simp (maxSteps := 999999) (disch := first | exact D (by decide) | exact K (by kernel_rfl)) only [E, EE, ↓reduceIte, simprocAttr, xk B15 [2, 2, 2, 1, 2, 1, 2, 2, 1, 2] (.cd 44) rfl, xk B15 [3, 2, 2, 2, 1, 2, 1, 2, 2, 1, 2] .sk rfl, h1, h3, h4]
    try simp only [NM, EE] at hJ
    exact hJ
noncomputable def f15_airziii_l1_b (k : Nat) (x1 x2 x3 x9 h0_ : Int) (h0__1 : List T44) : Option R15_airziii_l1 :=
  cond ((decide (x9 < ((List.length h0__1) : Int))))
    (f15_airziii_l1_j1 k x1 x2 x3 x9 true h0_ h0__1)
    (some (R15_airziii_l1.o2 x1 x2 x3 x9 false h0_ h0__1))
theorem f15_airziii_l1_b_ok (k : Nat) (x1 x2 x3 x9 h0_ : Int) (h0__1 : List T44) (r : R15_airziii_l1) (hF : f15_airziii_l1_b k x1 x2 x3 x9 h0_ h0__1 = some r) : EX 15 k (nav B15 [1, 2, 2, 1, 2]) ({ n := 46, F := [(1, V.p (Value.int .i64 x1)), (2, V.p (Value.int .i64 x2)), (3, V.p (Value.int .i64 x3)), (4, V.ptr 30000 0), (9, V.p (Value.int .i64 x9))], M := [(30000, O.box 24 [V.p (Value.int .i64 h0_), V.sl 6 (rowsOf encT44 h0__1)])] } : St) = some r.st := by
  unfold f15_airziii_l1_b at hF
  simp (maxSteps := 999999) (disch := first | exact D (by decide) | exact K (by kernel_rfl)) only [E, EE, ↓reduceIte, simprocAttr, xk B15 [1, 2, 2, 1, 2] .sq rfl, xk B15 [1, 1, 2, 2, 1, 2] .sq rfl, show (nav B15 [1, 1, 1, 2, 2, 1, 2]) = Code.region 2 _ false from rfl, hk_15_2, hz_15_2, hs_15_2, fieldAddrV, u_24, i_24, is_24, ib_24, iz_24, u_22, i_22, is_22, ib_22, iz_22, xk B15 [2, 1, 1, 2, 2, 1, 2] (.cd 15) rfl]
  replace hF := cond_some hF
  rcases hF with ⟨h1, hF⟩ | ⟨h1, hF⟩
  · have hJ := f15_airziii_l1_j1_ok k x1 x2 x3 x9 true h0_ h0__1 _ hF
    simp (maxSteps := 999999) (disch := first | exact D (by decide) | exact K (by kernel_rfl)) only [E, EE, ↓reduceIte, simprocAttr, xk B15 [2, 2, 1, 1, 2, 2, 1, 2] .sk rfl, h1]
    try simp only [NM, EE] at hJ
    exact hJ
  · cases hF
    simp (maxSteps := 999999) (disch := first | exact D (by decide) | exact K (by kernel_rfl)) only [E, EE, ↓reduceIte, simprocAttr, xk B15 [3, 2, 1, 1, 2, 2, 1, 2] (.ex 0) rfl, R15_airziii_l1.st, h1]
noncomputable def f15_airziii_l1 (k : Nat) : Nat → Int → Int → Int → Int → Int → (List T44) → Option R15_airziii_l1
  | 0, _, _, _, _, _, _ => none
  | n + 1, x1, x2, x3, x9, h0_, h0__1 => Option.bind (f15_airziii_l1_b k x1 x2 x3 x9 h0_ h0__1) fun o =>
    match o with
    | .o0 y => some (.o0 y)
    | .o1 y y_1 y_2 y_3 y_4 y_5 => f15_airziii_l1 k n y y_1 y_2 y_3 y_4 y_5
    | .o2 y y_1 y_2 y_3 y_4 y_5 y_6 => some (.o2 y y_1 y_2 y_3 y_4 y_5 y_6)
theorem f15_airziii_l1_ok (k n : Nat) : ∀ (x1 x2 x3 x9 h0_ : Int) (h0__1 : List T44) (r : R15_airziii_l1) (hF : f15_airziii_l1 k n x1 x2 x3 x9 h0_ h0__1 = some r) (σ : St) (hσ : headR (hints.head 15 2) (hints.canon 15 2) σ = some ({ n := 46, F := [(1, V.p (Value.int .i64 x1)), (2, V.p (Value.int .i64 x2)), (3, V.p (Value.int .i64 x3)), (4, V.ptr 30000 0), (9, V.p (Value.int .i64 x9))], M := [(30000, O.box 24 [V.p (Value.int .i64 h0_), V.sl 6 (rowsOf encT44 h0__1)])] } : St)), LP 15 k (nav B15 [1, 2, 2, 1, 2]) n σ = some r.st := by
  induction n with
  | zero => intro x1 x2 x3 x9 h0_ h0__1 r hF; cases hF
  | succ n ih =>
    intro x1 x2 x3 x9 h0_ h0__1 r hF σ hσ
    rw [f15_airziii_l1] at hF
    obtain ⟨o, h, hF⟩ := Option.bind_eq_some_iff.1 hF
    have hB := f15_airziii_l1_b_ok k x1 x2 x3 x9 h0_ h0__1 o h
    unfold LP at ih ⊢
    unfold EX at hB
    rw [loopK_succ, show firstReg (nav B15 [1, 2, 2, 1, 2]) = 2 from rfl, hσ, headK_some, hB]
    cases o with
    | o0 y => cases hF; rfl
    | o1 y y_1 y_2 y_3 y_4 y_5 =>
      refine ih y y_1 y_2 y_3 y_4 y_5 r hF _ ?_
      simp (maxSteps := 999999) (disch := first | exact D (by decide) | exact K (by kernel_rfl)) only [E, EE, ↓reduceIte, simprocAttr, hh_15_2, hc_15_2]
    | o2 y y_1 y_2 y_3 y_4 y_5 y_6 => cases hF; rfl
noncomputable def f15_airziii_j2 (k : Nat) (x1 x2 x3 x9 : Int) (x15 : Bool) (h0_ : Int) (h0__1 : List T44) : Option R15_airziii :=
  some (R15_airziii.o0 (-1))
theorem f15_airziii_j2_ok (k : Nat) (x1 x2 x3 x9 : Int) (x15 : Bool) (h0_ : Int) (h0__1 : List T44) (r : R15_airziii) (hF : f15_airziii_j2 k x1 x2 x3 x9 x15 h0_ h0__1 = some r) : finK Try.prog Try.f15 0 (EX 15 k (nav B15 [2, 2]) ({ n := 46, F := [(1, V.p (Value.int .i64 x1)), (2, V.p (Value.int .i64 x2)), (3, V.p (Value.int .i64 x3)), (4, V.ptr 30000 0), (9, V.p (Value.int .i64 x9)), (15, V.p (Value.bool x15))], M := [(30000, O.box 24 [V.p (Value.int .i64 h0_), V.sl 6 (rowsOf encT44 h0__1)])] } : St)) = some r.st := by
  unfold f15_airziii_j2 at hF
  cases hF
  simp (maxSteps := 999999) (disch := first | exact D (by decide) | exact K (by kernel_rfl)) only [E, EE, ↓reduceIte, simprocAttr, xk B15 [2, 2] .sq rfl, show (nav B15 [1, 2, 2]) = Code.region 7 _ false from rfl, hk_15_7, hz_15_7, hs_15_7, xk B15 [2, 2, 2] .rt rfl, finK_norm, finK_ret, fin15, R15_airziii.st]
noncomputable def f15_airziii_e (k : Nat) (a0 : Int) (a0_1 : List T44) (a1 a2 a3 : Int) : Option R15_airziii :=
  Option.bind (f15_airziii_l1 k k a1 a2 a3 0 a0 a0_1) fun o1 =>
    match o1 with
    | .o0 v4 =>
      some (R15_airziii.o0 v4)
    | .o1 _ _ _ _ _ _ =>
      none
    | .o2 v5 v6 v7 v8 v9 v10 v11 =>
      f15_airziii_j2 k v5 v6 v7 v8 v9 v10 v11
theorem f15_airziii_e_ok (k : Nat) (a0 : Int) (a0_1 : List T44) (a1 a2 a3 : Int) (r : R15_airziii) (hF : f15_airziii_e k a0 a0_1 a1 a2 a3 = some r) : finK Try.prog Try.f15 0 (EX 15 k (nav B15 []) ({ n := 46, F := [(0, V.agg [V.p (Value.int .i64 a0), V.sl 6 (rowsOf encT44 a0_1)]), (1, V.p (Value.int .i64 a1)), (2, V.p (Value.int .i64 a2)), (3, V.p (Value.int .i64 a3))], M := [] } : St)) = some r.st := by
  unfold f15_airziii_e at hF
  replace hF := Option.bind_eq_some_iff.1 hF
  obtain ⟨o1, h2, hF⟩ := hF
  have hc3 := f15_airziii_l1_ok k k a1 a2 a3 0 a0 a0_1 _ h2
  simp (maxSteps := 999999) (disch := first | exact D (by decide) | exact K (by kernel_rfl)) only [E, EE, ↓reduceIte, simprocAttr, xk B15 [] .sq rfl, show (nav B15 [1]) = Code.region 0 _ false from rfl, hk_15_0, hz_15_0, hs_15_0, xk B15 [2] .sq rfl, xk B15 [1, 2] .sq rfl, show (nav B15 [1, 1, 2]) = Code.region 1 _ false from rfl, hk_15_1, hz_15_1, hs_15_1, xk B15 [2, 1, 2] (.bk 0) rfl, xk B15 [2, 2, 1, 2] .lp rfl, hh_15_2, hc_15_2]
  (try simp only [NM, EE] at hc3)
  rw [hc3 _ (by simp (maxSteps := 999999) (disch := first | exact D (by decide) | exact K (by kernel_rfl)) only [E, EE, ↓reduceIte, simprocAttr, hh_15_2, hc_15_2])]
  clear hc3
  cases o1 with
  | o0 v4 =>
    (try dsimp only at hF)
    cases hF
    simp (maxSteps := 999999) (disch := first | exact D (by decide) | exact K (by kernel_rfl)) only [E, EE, ↓reduceIte, simprocAttr, R15_airziii_l1.st, finK_norm, finK_ret, fin15, R15_airziii.st]
  | o1 _ _ _ _ _ _ =>
    (try dsimp only at hF)
    cases hF
  | o2 v5 v6 v7 v8 v9 v10 v11 =>
    (try dsimp only at hF)
    have hJ := f15_airziii_j2_ok k v5 v6 v7 v8 v9 v10 v11 _ hF
    simp (maxSteps := 999999) (disch := first | exact D (by decide) | exact K (by kernel_rfl)) only [E, EE, ↓reduceIte, simprocAttr, R15_airziii_l1.st]
    try simp only [NM, EE] at hJ
    exact hJ
noncomputable def f15_airziii (k : Nat) (a0 : Int) (a0_1 : List T44) (a1 a2 a3 : Int) : Option R15_airziii := match k with | 0 => none | k + 1 => f15_airziii_e k a0 a0_1 a1 a2 a3
theorem f15_airziii_ok (k : Nat) (a0 : Int) (a0_1 : List T44) (a1 a2 a3 : Int) (r : R15_airziii) (hF : f15_airziii k a0 a0_1 a1 a2 a3 = some r) : CV k 15 [V.agg [V.p (Value.int .i64 a0), V.sl 6 (rowsOf encT44 a0_1)], V.p (Value.int .i64 a1), V.p (Value.int .i64 a2), V.p (Value.int .i64 a3)] [] = some r.st := by
  cases k with
  | zero => cases hF
  | succ k =>
    unfold CV
    rw [ev_call (F := Try.f15) (c := (nav B15 [])) rfl Try.func15 rfl rfl rfl rfl]
    exact f15_airziii_e_ok k a0 a0_1 a1 a2 a3 r hF
-- f5_airzai4z: f5 heliograph/heliographlaw13.PlanChecks
inductive R5_airzai4z where
  | o0 (y : Bool)
noncomputable def R5_airzai4z.st : R5_airzai4z → V × List O × List O
  | .o0 y => (V.p (Value.bool y), [], [])
inductive R5_airzai4z_l4 where
  | o0 (y : Bool)
  | o1 (y : List T44) (y_1 y_2 : Int) (y_3 : List Int)
  | o2 (y : List T44) (y_1 y_2 : Int) (y_3 : Bool) (y_4 : List Int)
noncomputable def R5_airzai4z_l4.st : R5_airzai4z_l4 → Out × St
  | .o0 y => (.ret, ({ n := 124, F := [(4, V.p (Value.bool y))], M := [] } : St))
  | .o1 y y_1 y_2 y_3 => (.norm, ({ n := 124, F := [(7, V.own 30000), (94, V.sl 6 (rowsOf encT44 y)), (95, V.p (Value.int .i64 y_1)), (96, V.p (Value.int .i64 y_2))], M := [(30000, O.row true 1 3 (rowsOf (encI .i64) y_3))] } : St))
  | .o2 y y_1 y_2 y_3 y_4 => (.exit 0, ({ n := 124, F := [(7, V.own 30000), (94, V.sl 6 (rowsOf encT44 y)), (95, V.p (Value.int .i64 y_1)), (96, V.p (Value.int .i64 y_2)), (97, V.p (Value.bool y_3))], M := [(30000, O.row true 1 3 (rowsOf (encI .i64) y_4))] } : St))
noncomputable def f5_airzai4z_l4_j2 (k : Nat) (x94 : List T44) (x95 x96 : Int) (x122 : Bool) (h0_ : List Int) : Option R5_airzai4z_l4 :=
  some (R5_airzai4z_l4.o1 x94 x95 (IntKind.i64.wrap (x96 + (1 : Int))) h0_)
theorem f5_airzai4z_l4_j2_ok (k : Nat) (x94 : List T44) (x95 x96 : Int) (x122 : Bool) (h0_ : List Int) (r : R5_airzai4z_l4) (hF : f5_airzai4z_l4_j2 k x94 x95 x96 x122 h0_ = some r) : EX 5 k (nav B5 [2, 2, 2, 1, 2, 2, 1, 2, 2, 2, 2, 2, 2, 2]) ({ n := 124, F := [(7, V.own 30000), (94, V.sl 6 (rowsOf encT44 x94)), (95, V.p (Value.int .i64 x95)), (96, V.p (Value.int .i64 x96)), (122, V.p (Value.bool x122))], M := [(30000, O.row true 1 3 (rowsOf (encI .i64) h0_))] } : St) = some r.st := by
  unfold f5_airzai4z_l4_j2 at hF
  cases hF
  simp (maxSteps := 999999) (disch := first | exact D (by decide) | exact K (by kernel_rfl)) only [E, EE, ↓reduceIte, simprocAttr, show (nav B5 [2, 2, 2, 1, 2, 2, 1, 2, 2, 2, 2, 2, 2, 2]) = Code.region 15 _ false from rfl, hk_5_15, hz_5_15, hs_5_15, R5_airzai4z_l4.st]
noncomputable def f5_airzai4z_l4_j1 (k : Nat) (x94 : List T44) (x95 x96 : Int) (x97 : Bool) (h0_ : List Int) : Option R5_airzai4z_l4 :=
  ifE ((0 : Int) ≤ x96) (
    Option.bind (x94[(Int.toNat x96)]?) fun v2 =>
      ifE (x96 < ((List.length h0_) : Int)) (
        Option.bind (h0_[(Int.toNat x96)]?) fun v5 =>
          cond ((v5 != (IntKind.i64.wrap (v2.Rate * (IntKind.i64.wrap (v2.End - v2.Start))))))
            (some (R5_airzai4z_l4.o0 false))
            (
              Option.bind (f16_ai6z k v2.From v2.To v2.Start v2.End v2.Rate v2.Delay) fun o8 =>
                match o8 with
                | .o0 v11 =>
                  cond ((v11 != v5))
                    (some (R5_airzai4z_l4.o0 false))
                    (f5_airzai4z_l4_j2 k x94 x95 x96 false h0_))))
theorem f5_airzai4z_l4_j1_ok (k : Nat) (x94 : List T44) (x95 x96 : Int) (x97 : Bool) (h0_ : List Int) (r : R5_airzai4z_l4) (hF : f5_airzai4z_l4_j1 k x94 x95 x96 x97 h0_ = some r) : EX 5 k (nav B5 [2, 2, 1, 2, 2, 1, 2, 2, 2, 2, 2, 2, 2]) ({ n := 124, F := [(7, V.own 30000), (94, V.sl 6 (rowsOf encT44 x94)), (95, V.p (Value.int .i64 x95)), (96, V.p (Value.int .i64 x96)), (97, V.p (Value.bool x97))], M := [(30000, O.row true 1 3 (rowsOf (encI .i64) h0_))] } : St) = some r.st := by
  unfold f5_airzai4z_l4_j1 at hF
  replace hF := ifE_some.1 hF
  obtain ⟨h1, hF⟩ := hF
  replace hF := Option.bind_eq_some_iff.1 hF
  obtain ⟨v2, h3, hF⟩ := hF
  replace hF := ifE_some.1 hF
  obtain ⟨h4, hF⟩ := hF
  replace hF := Option.bind_eq_some_iff.1 hF
  obtain ⟨v5, h6, hF⟩ := hF
  simp (maxSteps := 999999) (disch := first | exact D (by decide) | exact K (by kernel_rfl)) only [E, EE, ↓reduceIte, simprocAttr, xk B5 [2, 2, 1, 2, 2, 1, 2, 2, 2, 2, 2, 2, 2] .sq rfl, xk B5 [1, 2, 2, 1, 2, 2, 1, 2, 2, 2, 2, 2, 2, 2] (.bk 1) rfl, xk B5 [2, 1, 2, 2, 1, 2, 2, 1, 2, 2, 2, 2, 2, 2, 2] .sq rfl, show (nav B5 [1, 2, 1, 2, 2, 1, 2, 2, 1, 2, 2, 2, 2, 2, 2, 2]) = Code.region 12 _ false from rfl, hk_5_12, hz_5_12, hs_5_12, indexAddrV, u_22, i_22, is_22, ib_22, iz_22, u_44, i_44, is_44, ib_44, iz_44, encT44_eq, xk B5 [2, 2, 1, 2, 2, 1, 2, 2, 1, 2, 2, 2, 2, 2, 2, 2] .sq rfl, show (nav B5 [1, 2, 2, 1, 2, 2, 1, 2, 2, 1, 2, 2, 2, 2, 2, 2, 2]) = Code.region 13 _ true from rfl, hk_5_13, hz_5_13, hs_5_13, u_25, i_25, is_25, ib_25, iz_25, u_3, i_3, is_3, ib_3, iz_3, encI_eq, fieldAddrV, h1, h3, h4, h6]
  replace hF := cond_some hF
  rcases hF with ⟨h7, hF⟩ | ⟨h7, hF⟩
  · cases hF
    simp (maxSteps := 999999) (disch := first | exact D (by decide) | exact K (by kernel_rfl)) only [E, EE, ↓reduceIte, simprocAttr, xk B5 [2, 2, 2, 1, 2, 2, 1, 2, 2, 1, 2, 2, 2, 2, 2, 2, 2] (.cd 122) rfl, xk B5 [2, 2, 2, 2, 1, 2, 2, 1, 2, 2, 1, 2, 2, 2, 2, 2, 2, 2] .sq rfl, show (nav B5 [1, 2, 2, 2, 2, 1, 2, 2, 1, 2, 2, 1, 2, 2, 2, 2, 2, 2, 2]) = Code.region 14 _ false from rfl, hk_5_14, hz_5_14, hs_5_14, xk B5 [2, 2, 2, 2, 2, 1, 2, 2, 1, 2, 2, 1, 2, 2, 2, 2, 2, 2, 2] .rt rfl, R5_airzai4z_l4.st, h1, h3, h4, h6, h7]
  · replace hF := Option.bind_eq_some_iff.1 hF
    obtain ⟨o8, h9, hF⟩ := hF
    have hc10 := f16_ai6z_ok k v2.From v2.To v2.Start v2.End v2.Rate v2.Delay _ h9
    cases o8 with
    | o0 v11 =>
      (try dsimp only at hF)
      (try simp only [NM, EE, R16_ai6z.st] at hc10)
      simp (maxSteps := 999999) (disch := first | exact D (by decide) | exact K (by kernel_rfl)) only [E, EE, ↓reduceIte, simprocAttr, u_44, i_44, is_44, ib_44, iz_44, callStep, CL, gv, List.contains, indexAddrV, u_25, i_25, is_25, ib_25, iz_25, u_3, i_3, is_3, ib_3, iz_3, encI_eq, xk B5 [2, 2, 2, 1, 2, 2, 1, 2, 2, 1, 2, 2, 2, 2, 2, 2, 2] (.cd 122) rfl, h1, h3, h4, h6, h7, hc10]
      replace hF := cond_some hF
      rcases hF with ⟨h12, hF⟩ | ⟨h12, hF⟩
      · cases hF
        simp (maxSteps := 999999) (disch := first | exact D (by decide) | exact K (by kernel_rfl)) only [E, EE, ↓reduceIte, simprocAttr, xk B5 [2, 2, 2, 2, 1, 2, 2, 1, 2, 2, 1, 2, 2, 2, 2, 2, 2, 2] .sq rfl, show (nav B5 [1, 2, 2, 2, 2, 1, 2, 2, 1, 2, 2, 1, 2, 2, 2, 2, 2, 2, 2]) = Code.region 14 _ false from rfl, hk_5_14, hz_5_14, hs_5_14, xk B5 [2, 2, 2, 2, 2, 1, 2, 2, 1, 2, 2, 1, 2, 2, 2, 2, 2, 2, 2] .rt rfl, R5_airzai4z_l4.st, h1, h3, h4, h6, h7, hc10, h12]
      · have hJ := f5_airzai4z_l4_j2_ok k x94 x95 x96 false h0_ _ hF
        simp (maxSteps := 999999) (disch := first | exact D (by decide) | exact K (by kernel_rfl)) only [E, EE, ↓reduceIte, simprocAttr, xk B5 [3, 2, 2, 2, 1, 2, 2, 1, 2, 2, 1, 2, 2, 2, 2, 2, 2, 2] .sk rfl, h1, h3, h4, h6, h7, hc10, h12]
        try simp only [NM, EE] at hJ
        exact hJ
noncomputable def f5_airzai4z_l4_b (k : Nat) (x94 : List T44) (x95 x96 : Int) (h0_ : List Int) : Option R5_airzai4z_l4 :=
  cond ((decide (x96 < x95)))
    (f5_airzai4z_l4_j1 k x94 x95 x96 true h0_)
    (some (R5_airzai4z_l4.o2 x94 x95 x96 false h0_))
theorem f5_airzai4z_l4_b_ok (k : Nat) (x94 : List T44) (x95 x96 : Int) (h0_ : List Int) (r : R5_airzai4z_l4) (hF : f5_airzai4z_l4_b k x94 x95 x96 h0_ = some r) : EX 5 k (nav B5 [1, 2, 2, 1, 2, 2, 2, 2, 2, 2, 2]) ({ n := 124, F := [(7, V.own 30000), (94, V.sl 6 (rowsOf encT44 x94)), (95, V.p (Value.int .i64 x95)), (96, V.p (Value.int .i64 x96))], M := [(30000, O.row true 1 3 (rowsOf (encI .i64) h0_))] } : St) = some r.st := by
  unfold f5_airzai4z_l4_b at hF
  simp (maxSteps := 999999) (disch := first | exact D (by decide) | exact K (by kernel_rfl)) only [E, EE, ↓reduceIte, simprocAttr, xk B5 [1, 2, 2, 1, 2, 2, 2, 2, 2, 2, 2] .sq rfl, show (nav B5 [1, 1, 2, 2, 1, 2, 2, 2, 2, 2, 2, 2]) = Code.region 11 _ false from rfl, hk_5_11, hz_5_11, hs_5_11, xk B5 [2, 1, 2, 2, 1, 2, 2, 2, 2, 2, 2, 2] .sq rfl, xk B5 [1, 2, 1, 2, 2, 1, 2, 2, 2, 2, 2, 2, 2] (.cd 97) rfl]
  replace hF := cond_some hF
  rcases hF with ⟨h1, hF⟩ | ⟨h1, hF⟩
  · have hJ := f5_airzai4z_l4_j1_ok k x94 x95 x96 true h0_ _ hF
    simp (maxSteps := 999999) (disch := first | exact D (by decide) | exact K (by kernel_rfl)) only [E, EE, ↓reduceIte, simprocAttr, xk B5 [2, 1, 2, 1, 2, 2, 1, 2, 2, 2, 2, 2, 2, 2] .sk rfl, h1]
    try simp only [NM, EE] at hJ
    exact hJ
  · cases hF
    simp (maxSteps := 999999) (disch := first | exact D (by decide) | exact K (by kernel_rfl)) only [E, EE, ↓reduceIte, simprocAttr, xk B5 [3, 1, 2, 1, 2, 2, 1, 2, 2, 2, 2, 2, 2, 2] (.ex 0) rfl, R5_airzai4z_l4.st, h1]
noncomputable def f5_airzai4z_l4 (k : Nat) : Nat → (List T44) → Int → Int → (List Int) → Option R5_airzai4z_l4
  | 0, _, _, _, _ => none
  | n + 1, x94, x95, x96, h0_ => Option.bind (f5_airzai4z_l4_b k x94 x95 x96 h0_) fun o =>
    match o with
    | .o0 y => some (.o0 y)
    | .o1 y y_1 y_2 y_3 => f5_airzai4z_l4 k n y y_1 y_2 y_3
    | .o2 y y_1 y_2 y_3 y_4 => some (.o2 y y_1 y_2 y_3 y_4)
theorem f5_airzai4z_l4_ok (k n : Nat) : ∀ (x94 : List T44) (x95 x96 : Int) (h0_ : List Int) (r : R5_airzai4z_l4) (hF : f5_airzai4z_l4 k n x94 x95 x96 h0_ = some r) (σ : St) (hσ : headR (hints.head 5 11) (hints.canon 5 11) σ = some ({ n := 124, F := [(7, V.own 30000), (94, V.sl 6 (rowsOf encT44 x94)), (95, V.p (Value.int .i64 x95)), (96, V.p (Value.int .i64 x96))], M := [(30000, O.row true 1 3 (rowsOf (encI .i64) h0_))] } : St)), LP 5 k (nav B5 [1, 2, 2, 1, 2, 2, 2, 2, 2, 2, 2]) n σ = some r.st := by
  induction n with
  | zero => intro x94 x95 x96 h0_ r hF; cases hF
  | succ n ih =>
    intro x94 x95 x96 h0_ r hF σ hσ
    rw [f5_airzai4z_l4] at hF
    obtain ⟨o, h, hF⟩ := Option.bind_eq_some_iff.1 hF
    have hB := f5_airzai4z_l4_b_ok k x94 x95 x96 h0_ o h
    unfold LP at ih ⊢
    unfold EX at hB
    rw [loopK_succ, show firstReg (nav B5 [1, 2, 2, 1, 2, 2, 2, 2, 2, 2, 2]) = 11 from rfl, hσ, headK_some, hB]
    cases o with
    | o0 y => cases hF; rfl
    | o1 y y_1 y_2 y_3 =>
      refine ih y y_1 y_2 y_3 r hF _ ?_
      simp (maxSteps := 999999) (disch := first | exact D (by decide) | exact K (by kernel_rfl)) only [E, EE, ↓reduceIte, simprocAttr, hh_5_11, hc_5_11]
    | o2 y y_1 y_2 y_3 y_4 => cases hF; rfl
noncomputable def f5_airzai4z_j5 (k : Nat) (x94 : List T44) (x95 x96 : Int) (x97 : Bool) (h0_ : List Int) : Option R5_airzai4z :=
  some (R5_airzai4z.o0 true)
theorem f5_airzai4z_j5_ok (k : Nat) (x94 : List T44) (x95 x96 : Int) (x97 : Bool) (h0_ : List Int) (r : R5_airzai4z) (hF : f5_airzai4z_j5 k x94 x95 x96 x97 h0_ = some r) : finK Try.prog Try.f5 0 (EX 5 k (nav B5 [2, 2, 2, 2, 2, 2, 2, 2]) ({ n := 124, F := [(7, V.own 30000), (94, V.sl 6 (rowsOf encT44 x94)), (95, V.p (Value.int .i64 x95)), (96, V.p (Value.int .i64 x96)), (97, V.p (Value.bool x97))], M := [(30000, O.row true 1 3 (rowsOf (encI .i64) h0_))] } : St)) = some r.st := by
  unfold f5_airzai4z_j5 at hF
  cases hF
  simp (maxSteps := 999999) (disch := first | exact D (by decide) | exact K (by kernel_rfl)) only [E, EE, ↓reduceIte, simprocAttr, xk B5 [2, 2, 2, 2, 2, 2, 2, 2] .sq rfl, show (nav B5 [1, 2, 2, 2, 2, 2, 2, 2, 2]) = Code.region 16 _ false from rfl, hk_5_16, hz_5_16, hs_5_16, xk B5 [2, 2, 2, 2, 2, 2, 2, 2, 2] .rt rfl, finK_norm, finK_ret, fin5, R5_airzai4z.st]
noncomputable def f5_airzai4z_j3 (k : Nat) (x92 : Bool) (m2 : Int) (m2_1 : List T44) (m27 : List Int) : Option R5_airzai4z :=
  Option.bind (f5_airzai4z_l4 k k m2_1 ((List.length m2_1) : Int) 0 m27) fun o1 =>
    match o1 with
    | .o0 v4 =>
      some (R5_airzai4z.o0 v4)
    | .o1 _ _ _ _ =>
      none
    | .o2 v5 v6 v7 v8 v9 =>
      f5_airzai4z_j5 k v5 v6 v7 v8 v9
theorem f5_airzai4z_j3_ok (k : Nat) (x92 : Bool) (m2 : Int) (m2_1 : List T44) (m27 : List Int) (r : R5_airzai4z) (hF : f5_airzai4z_j3 k x92 m2 m2_1 m27 = some r) : finK Try.prog Try.f5 0 (EX 5 k (nav B5 [2, 2, 2, 2, 2, 2, 2]) ({ n := 124, F := [(2, V.ptr 2 0), (7, V.own 27), (92, V.p (Value.bool x92))], M := [(2, O.box 24 [V.p (Value.int .i64 m2), V.sl 6 (rowsOf encT44 m2_1)]), (27, O.row true 1 3 (rowsOf (encI .i64) m27))] } : St)) = some r.st := by
  unfold f5_airzai4z_j3 at hF
  replace hF := Option.bind_eq_some_iff.1 hF
  obtain ⟨o1, h2, hF⟩ := hF
  have hc3 := f5_airzai4z_l4_ok k k m2_1 ((List.length m2_1) : Int) 0 m27 _ h2
  simp (maxSteps := 999999) (disch := first | exact D (by decide) | exact K (by kernel_rfl)) only [E, EE, ↓reduceIte, simprocAttr, xk B5 [2, 2, 2, 2, 2, 2, 2] .sq rfl, xk B5 [1, 2, 2, 2, 2, 2, 2, 2] .sq rfl, show (nav B5 [1, 1, 2, 2, 2, 2, 2, 2, 2]) = Code.region 10 _ false from rfl, hk_5_10, hz_5_10, hs_5_10, fieldAddrV, u_24, i_24, is_24, ib_24, iz_24, u_22, i_22, is_22, ib_22, iz_22, xk B5 [2, 1, 2, 2, 2, 2, 2, 2, 2] (.bk 0) rfl, xk B5 [2, 2, 1, 2, 2, 2, 2, 2, 2, 2] .lp rfl, hh_5_11, hc_5_11]
  (try simp only [NM, EE] at hc3)
  rw [hc3 _ (by simp (maxSteps := 999999) (disch := first | exact D (by decide) | exact K (by kernel_rfl)) only [E, EE, ↓reduceIte, simprocAttr, hh_5_11, hc_5_11])]
  clear hc3
  cases o1 with
  | o0 v4 =>
    (try dsimp only at hF)
    cases hF
    simp (maxSteps := 999999) (disch := first | exact D (by decide) | exact K (by kernel_rfl)) only [E, EE, ↓reduceIte, simprocAttr, R5_airzai4z_l4.st, finK_norm, finK_ret, fin5, R5_airzai4z.st]
  | o1 _ _ _ _ =>
    (try dsimp only at hF)
    cases hF
  | o2 v5 v6 v7 v8 v9 =>
    (try dsimp only at hF)
    have hJ := f5_airzai4z_j5_ok k v5 v6 v7 v8 v9 _ hF
    simp (maxSteps := 999999) (disch := first | exact D (by decide) | exact K (by kernel_rfl)) only [E, EE, ↓reduceIte, simprocAttr, R5_airzai4z_l4.st]
    try simp only [NM, EE] at hJ
    exact hJ
noncomputable def f5_airzai4z_j2 (k : Nat) (x5 x6 : Int) (x30 : Bool) (m2 : Int) (m2_1 : List T44) (m3 m3_1 m3_2 m3_3 : Int) (m27 : List Int) : Option R5_airzai4z :=
  Option.bind (f15_airziii k m2 m2_1 m3 m3_1 m3_2) fun o1 =>
    match o1 with
    | .o0 v4 =>
      cond ((decide (v4 < 0)))
        (
          cond ((x5 != 0))
            (some (R5_airzai4z.o0 false))
            (
              cond ((x6 != 4))
                (some (R5_airzai4z.o0 false))
                (
                  cond ((decide (v4 ≥ 0)))
                    (
                      cond ((x5 != v4))
                        (some (R5_airzai4z.o0 false))
                        (
                          cond ((x6 != 0))
                            (some (R5_airzai4z.o0 false))
                            (
                              cond ((((List.length m27) : Int) != ((List.length m2_1) : Int)))
                                (some (R5_airzai4z.o0 false))
                                (
                                  Option.bind (f9_airz k m2 m2_1) fun o12 =>
                                    match o12 with
                                    | .o0 v15 v16 =>
                                      Option.bind (f14_airz k v15 v16) fun o17 =>
                                        match o17 with
                                        | .o0 v20 =>
                                          cond ((v20 != 0))
                                            (some (R5_airzai4z.o0 false))
                                            (f5_airzai4z_j3 k false m2 m2_1 m27)))))
                    (
                      cond ((((List.length m27) : Int) != ((List.length m2_1) : Int)))
                        (some (R5_airzai4z.o0 false))
                        (
                          Option.bind (f9_airz k m2 m2_1) fun o23 =>
                            match o23 with
                            | .o0 v26 v27 =>
                              Option.bind (f14_airz k v26 v27) fun o28 =>
                                match o28 with
                                | .o0 v31 =>
                                  cond ((v31 != 0))
                                    (some (R5_airzai4z.o0 false))
                                    (f5_airzai4z_j3 k false m2 m2_1 m27))))))
        (
          cond ((decide (v4 ≥ 0)))
            (
              cond ((x5 != v4))
                (some (R5_airzai4z.o0 false))
                (
                  cond ((x6 != 0))
                    (some (R5_airzai4z.o0 false))
                    (
                      cond ((((List.length m27) : Int) != ((List.length m2_1) : Int)))
                        (some (R5_airzai4z.o0 false))
                        (
                          Option.bind (f9_airz k m2 m2_1) fun o37 =>
                            match o37 with
                            | .o0 v40 v41 =>
                              Option.bind (f14_airz k v40 v41) fun o42 =>
                                match o42 with
                                | .o0 v45 =>
                                  cond ((v45 != 0))
                                    (some (R5_airzai4z.o0 false))
                                    (f5_airzai4z_j3 k false m2 m2_1 m27)))))
            (
              cond ((((List.length m27) : Int) != ((List.length m2_1) : Int)))
                (some (R5_airzai4z.o0 false))
                (
                  Option.bind (f9_airz k m2 m2_1) fun o48 =>
                    match o48 with
                    | .o0 v51 v52 =>
                      Option.bind (f14_airz k v51 v52) fun o53 =>
                        match o53 with
                        | .o0 v56 =>
                          cond ((v56 != 0))
                            (some (R5_airzai4z.o0 false))
                            (f5_airzai4z_j3 k false m2 m2_1 m27))))
theorem f5_airzai4z_j2_ok (k : Nat) (x5 x6 : Int) (x30 : Bool) (m2 : Int) (m2_1 : List T44) (m3 m3_1 m3_2 m3_3 : Int) (m27 : List Int) (r : R5_airzai4z) (hF : f5_airzai4z_j2 k x5 x6 x30 m2 m2_1 m3 m3_1 m3_2 m3_3 m27 = some r) : finK Try.prog Try.f5 0 (EX 5 k (nav B5 [2, 2, 2, 2, 2]) ({ n := 124, F := [(2, V.ptr 2 0), (3, V.ptr 3 0), (5, V.p (Value.int .i64 x5)), (6, V.p (Value.int .i64 x6)), (7, V.own 27), (30, V.p (Value.bool x30))], M := [(2, O.box 24 [V.p (Value.int .i64 m2), V.sl 6 (rowsOf encT44 m2_1)]), (3, O.box 27 [V.p (Value.int .i64 m3), V.p (Value.int .i64 m3_1), V.p (Value.int .i64 m3_2), V.p (Value.int .i64 m3_3)]), (27, O.row true 1 3 (rowsOf (encI .i64) m27))] } : St)) = some r.st := by
  unfold f5_airzai4z_j2 at hF
  replace hF := Option.bind_eq_some_iff.1 hF
  obtain ⟨o1, h2, hF⟩ := hF
  have hc3 := f15_airziii_ok k m2 m2_1 m3 m3_1 m3_2 _ h2
  cases o1 with
  | o0 v4 =>
    (try dsimp only at hF)
    (try simp only [NM, EE, R15_airziii.st] at hc3)
    simp (maxSteps := 999999) (disch := first | exact D (by decide) | exact K (by kernel_rfl)) only [E, EE, ↓reduceIte, simprocAttr, xk B5 [2, 2, 2, 2, 2] .sq rfl, show (nav B5 [1, 2, 2, 2, 2, 2]) = Code.region 7 _ false from rfl, hk_5_7, hz_5_7, hs_5_7, u_24, i_24, is_24, ib_24, iz_24, fieldAddrV, u_27, i_27, is_27, ib_27, iz_27, u_3, i_3, is_3, ib_3, iz_3, callStep, CL, gv, List.contains, xk B5 [2, 2, 2, 2, 2, 2] .sq rfl, xk B5 [1, 2, 2, 2, 2, 2, 2] .sq rfl, show (nav B5 [1, 1, 2, 2, 2, 2, 2, 2]) = Code.region 8 _ false from rfl, hk_5_8, hz_5_8, hs_5_8, hc3]
    replace hF := cond_some hF
    rcases hF with ⟨h5, hF⟩ | ⟨h5, hF⟩
    · replace hF := cond_some hF
      rcases hF with ⟨h6, hF⟩ | ⟨h6, hF⟩
      · cases hF
        simp (maxSteps := 999999) (disch := first | exact D (by decide) | exact K (by kernel_rfl)) only [E, EE, ↓reduceIte, simprocAttr, xk B5 [2, 1, 2, 2, 2, 2, 2, 2] (.cd 92) rfl, xk B5 [2, 2, 1, 2, 2, 2, 2, 2, 2] .sq rfl, show (nav B5 [1, 2, 2, 1, 2, 2, 2, 2, 2, 2]) = Code.region 9 _ false from rfl, hk_5_9, hz_5_9, hs_5_9, xk B5 [2, 2, 2, 1, 2, 2, 2, 2, 2, 2] .rt rfl, finK_norm, finK_ret, fin5, R5_airzai4z.st, hc3, h5, h6]
      · replace hF := cond_some hF
        rcases hF with ⟨h7, hF⟩ | ⟨h7, hF⟩
        · cases hF
          simp (maxSteps := 999999) (disch := first | exact D (by decide) | exact K (by kernel_rfl)) only [E, EE, ↓reduceIte, simprocAttr, xk B5 [2, 1, 2, 2, 2, 2, 2, 2] (.cd 92) rfl, xk B5 [2, 2, 1, 2, 2, 2, 2, 2, 2] .sq rfl, show (nav B5 [1, 2, 2, 1, 2, 2, 2, 2, 2, 2]) = Code.region 9 _ false from rfl, hk_5_9, hz_5_9, hs_5_9, xk B5 [2, 2, 2, 1, 2, 2, 2, 2, 2, 2] .rt rfl, finK_norm, finK_ret, fin5, R5_airzai4z.st, hc3, h5, h6, h7]
        · replace hF := cond_some hF
          rcases hF with ⟨h8, hF⟩ | ⟨h8, hF⟩
          · replace hF := cond_some hF
            rcases hF with ⟨h9, hF⟩ | ⟨h9, hF⟩
            · cases hF
              simp (maxSteps := 999999) (disch := first | exact D (by decide) | exact K (by kernel_rfl)) only [E, EE, ↓reduceIte, simprocAttr, xk B5 [2, 1, 2, 2, 2, 2, 2, 2] (.cd 92) rfl, xk B5 [2, 2, 1, 2, 2, 2, 2, 2, 2] .sq rfl, show (nav B5 [1, 2, 2, 1, 2, 2, 2, 2, 2, 2]) = Code.region 9 _ false from rfl, hk_5_9, hz_5_9, hs_5_9, xk B5 [2, 2, 2, 1, 2, 2, 2, 2, 2, 2] .rt rfl, finK_norm, finK_ret, fin5, R5_airzai4z.st, hc3, h5, h6, h7, h8, h9]
            · replace hF := cond_some hF
              rcases hF with ⟨h10, hF⟩ | ⟨h10, hF⟩
              · cases hF
                simp (maxSteps := 999999) (disch := first | exact D (by decide) | exact K (by kernel_rfl)) only [E, EE, ↓reduceIte, simprocAttr, xk B5 [2, 1, 2, 2, 2, 2, 2, 2] (.cd 92) rfl, xk B5 [2, 2, 1, 2, 2, 2, 2, 2, 2] .sq rfl, show (nav B5 [1, 2, 2, 1, 2, 2, 2, 2, 2, 2]) = Code.region 9 _ false from rfl, hk_5_9, hz_5_9, hs_5_9, xk B5 [2, 2, 2, 1, 2, 2, 2, 2, 2, 2] .rt rfl, finK_norm, finK_ret, fin5, R5_airzai4z.st, hc3, h5, h6, h7, h8, h9, h10]
              · simp (maxSteps := 999999) (disch := first | exact D (by decide) | exact K (by kernel_rfl)) only [E, EE, ↓reduceIte, simprocAttr, u_25, i_25, is_25, ib_25, iz_25, fieldAddrV, u_24, i_24, is_24, ib_24, iz_24, u_22, i_22, is_22, ib_22, iz_22, hc3, h5, h6, h7, h8, h9, h10]
                replace hF := cond_some hF
                rcases hF with ⟨h11, hF⟩ | ⟨h11, hF⟩
                · cases hF
                  simp (maxSteps := 999999) (disch := first | exact D (by decide) | exact K (by kernel_rfl)) only [E, EE, ↓reduceIte, simprocAttr, xk B5 [2, 1, 2, 2, 2, 2, 2, 2] (.cd 92) rfl, xk B5 [2, 2, 1, 2, 2, 2, 2, 2, 2] .sq rfl, show (nav B5 [1, 2, 2, 1, 2, 2, 2, 2, 2, 2]) = Code.region 9 _ false from rfl, hk_5_9, hz_5_9, hs_5_9, xk B5 [2, 2, 2, 1, 2, 2, 2, 2, 2, 2] .rt rfl, finK_norm, finK_ret, fin5, R5_airzai4z.st, hc3, h5, h6, h7, h8, h9, h10, h11]
                · replace hF := Option.bind_eq_some_iff.1 hF
                  obtain ⟨o12, h13, hF⟩ := hF
                  have hc14 := f9_airz_ok k m2 m2_1 _ h13
                  cases o12 with
                  | o0 v15 v16 =>
                    (try dsimp only at hF)
                    (try simp only [NM, EE, R9_airz.st] at hc14)
                    replace hF := Option.bind_eq_some_iff.1 hF
                    obtain ⟨o17, h18, hF⟩ := hF
                    have hc19 := f14_airz_ok k v15 v16 _ h18
                    cases o17 with
                    | o0 v20 =>
                      (try dsimp only at hF)
                      (try simp only [NM, EE, R14_airz.st] at hc19)
                      simp (maxSteps := 999999) (disch := first | exact D (by decide) | exact K (by kernel_rfl)) only [E, EE, ↓reduceIte, simprocAttr, u_24, i_24, is_24, ib_24, iz_24, callStep, CL, gv, List.contains, xk B5 [2, 1, 2, 2, 2, 2, 2, 2] (.cd 92) rfl, hc3, h5, h6, h7, h8, h9, h10, h11, hc14, hc19]
                      replace hF := cond_some hF
                      rcases hF with ⟨h21, hF⟩ | ⟨h21, hF⟩
                      · cases hF
                        simp (maxSteps := 999999) (disch := first | exact D (by decide) | exact K (by kernel_rfl)) only [E, EE, ↓reduceIte, simprocAttr, xk B5 [2, 2, 1, 2, 2, 2, 2, 2, 2] .sq rfl, show (nav B5 [1, 2, 2, 1, 2, 2, 2, 2, 2, 2]) = Code.region 9 _ false from rfl, hk_5_9, hz_5_9, hs_5_9, xk B5 [2, 2, 2, 1, 2, 2, 2, 2, 2, 2] .rt rfl, finK_norm, finK_ret, fin5, R5_airzai4z.st, hc3, h5, h6, h7, h8, h9, h10, h11, hc14, hc19, h21]
                      · have hJ := f5_airzai4z_j3_ok k false m2 m2_1 m27 _ hF
                        simp (maxSteps := 999999) (disch := first | exact D (by decide) | exact K (by kernel_rfl)) only [E, EE, ↓reduceIte, simprocAttr, xk B5 [3, 2, 1, 2, 2, 2, 2, 2, 2] .sk rfl, hc3, h5, h6, h7, h8, h9, h10, h11, hc14, hc19, h21]
                        try simp only [NM, EE] at hJ
                        exact hJ
          · simp (maxSteps := 999999) (disch := first | exact D (by decide) | exact K (by kernel_rfl)) only [E, EE, ↓reduceIte, simprocAttr, u_25, i_25, is_25, ib_25, iz_25, fieldAddrV, u_24, i_24, is_24, ib_24, iz_24, u_22, i_22, is_22, ib_22, iz_22, hc3, h5, h6, h7, h8]
            replace hF := cond_some hF
            rcases hF with ⟨h22, hF⟩ | ⟨h22, hF⟩
            · cases hF
              simp (maxSteps := 999999) (disch := first | exact D (by decide) | exact K (by kernel_rfl)) only [E, EE, ↓reduceIte, simprocAttr, xk B5 [2, 1, 2, 2, 2, 2, 2, 2] (.cd 92) rfl, xk B5 [2, 2, 1, 2, 2, 2, 2, 2, 2] .sq rfl, show (nav B5 [1, 2, 2, 1, 2, 2, 2, 2, 2, 2]) = Code.region 9 _ false from rfl, hk_5_9, hz_5_9, hs_5_9, xk B5 [2, 2, 2, 1, 2, 2, 2, 2, 2, 2] .rt rfl, finK_norm, finK_ret, fin5, R5_airzai4z.st, hc3, h5, h6, h7, h8, h22]
            · replace hF := Option.bind_eq_some_iff.1 hF
              obtain ⟨o23, h24, hF⟩ := hF
              have hc25 := f9_airz_ok k m2 m2_1 _ h24
              cases o23 with
              | o0 v26 v27 =>
                (try dsimp only at hF)
                (try simp only [NM, EE, R9_airz.st] at hc25)
                replace hF := Option.bind_eq_some_iff.1 hF
                obtain ⟨o28, h29, hF⟩ := hF
                have hc30 := f14_airz_ok k v26 v27 _ h29
                cases o28 with
                | o0 v31 =>
                  (try dsimp only at hF)
                  (try simp only [NM, EE, R14_airz.st] at hc30)
                  simp (maxSteps := 999999) (disch := first | exact D (by decide) | exact K (by kernel_rfl)) only [E, EE, ↓reduceIte, simprocAttr, u_24, i_24, is_24, ib_24, iz_24, callStep, CL, gv, List.contains, xk B5 [2, 1, 2, 2, 2, 2, 2, 2] (.cd 92) rfl, hc3, h5, h6, h7, h8, h22, hc25, hc30]
                  replace hF := cond_some hF
                  rcases hF with ⟨h32, hF⟩ | ⟨h32, hF⟩
                  · cases hF
                    simp (maxSteps := 999999) (disch := first | exact D (by decide) | exact K (by kernel_rfl)) only [E, EE, ↓reduceIte, simprocAttr, xk B5 [2, 2, 1, 2, 2, 2, 2, 2, 2] .sq rfl, show (nav B5 [1, 2, 2, 1, 2, 2, 2, 2, 2, 2]) = Code.region 9 _ false from rfl, hk_5_9, hz_5_9, hs_5_9, xk B5 [2, 2, 2, 1, 2, 2, 2, 2, 2, 2] .rt rfl, finK_norm, finK_ret, fin5, R5_airzai4z.st, hc3, h5, h6, h7, h8, h22, hc25, hc30, h32]
                  · have hJ := f5_airzai4z_j3_ok k false m2 m2_1 m27 _ hF
                    simp (maxSteps := 999999) (disch := first | exact D (by decide) | exact K (by kernel_rfl)) only [E, EE, ↓reduceIte, simprocAttr, xk B5 [3, 2, 1, 2, 2, 2, 2, 2, 2] .sk rfl, hc3, h5, h6, h7, h8, h22, hc25, hc30, h32]
                    try simp only [NM, EE] at hJ
                    exact hJ
    · replace hF := cond_some hF
      rcases hF with ⟨h33, hF⟩ | ⟨h33, hF⟩
      · replace hF := cond_some hF
        rcases hF with ⟨h34, hF⟩ | ⟨h34, hF⟩
        · cases hF
          simp (maxSteps := 999999) (disch := first | exact D (by decide) | exact K (by kernel_rfl)) only [E, EE, ↓reduceIte, simprocAttr, xk B5 [2, 1, 2, 2, 2, 2, 2, 2] (.cd 92) rfl, xk B5 [2, 2, 1, 2, 2, 2, 2, 2, 2] .sq rfl, show (nav B5 [1, 2, 2, 1, 2, 2, 2, 2, 2, 2]) = Code.region 9 _ false from rfl, hk_5_9, hz_5_9, hs_5_9, xk B5 [2, 2, 2, 1, 2, 2, 2, 2, 2, 2] .rt rfl, finK_norm, finK_ret, fin5, R5_airzai4z.st, hc3, h5, h33, h34]
        · replace hF := cond_some hF
          rcases hF with ⟨h35, hF⟩ | ⟨h35, hF⟩
          · cases hF
            simp (maxSteps := 999999) (disch := first | exact D (by decide) | exact K (by kernel_rfl)) only [E, EE, ↓reduceIte, simprocAttr, xk B5 [2, 1, 2, 2, 2, 2, 2, 2] (.cd 92) rfl, xk B5 [2, 2, 1, 2, 2, 2, 2, 2, 2] .sq rfl, show (nav B5 [1, 2, 2, 1, 2, 2, 2, 2, 2, 2]) = Code.region 9 _ false from rfl, hk_5_9, hz_5_9, hs_5_9, xk B5 [2, 2, 2, 1, 2, 2, 2, 2, 2, 2] .rt rfl, finK_norm, finK_ret, fin5, R5_airzai4z.st, hc3, h5, h33, h34, h35]
          · simp (maxSteps := 999999) (disch := first | exact D (by decide) | exact K (by kernel_rfl)) only [E, EE, ↓reduceIte, simprocAttr, u_25, i_25, is_25, ib_25, iz_25, fieldAddrV, u_24, i_24, is_24, ib_24, iz_24, u_22, i_22, is_22, ib_22, iz_22, hc3, h5, h33, h34, h35]
            replace hF := cond_some hF
            rcases hF with ⟨h36, hF⟩ | ⟨h36, hF⟩
            · cases hF
              simp (maxSteps := 999999) (disch := first | exact D (by decide) | exact K (by kernel_rfl)) only [E, EE, ↓reduceIte, simprocAttr, xk B5 [2, 1, 2, 2, 2, 2, 2, 2] (.cd 92) rfl, xk B5 [2, 2, 1, 2, 2, 2, 2, 2, 2] .sq rfl, show (nav B5 [1, 2, 2, 1, 2, 2, 2, 2, 2, 2]) = Code.region 9 _ false from rfl, hk_5_9, hz_5_9, hs_5_9, xk B5 [2, 2, 2, 1, 2, 2, 2, 2, 2, 2] .rt rfl, finK_norm, finK_ret, fin5, R5_airzai4z.st, hc3, h5, h33, h34, h35, h36]
            · replace hF := Option.bind_eq_some_iff.1 hF
              obtain ⟨o37, h38, hF⟩ := hF
              have hc39 := f9_airz_ok k m2 m2_1 _ h38
              cases o37 with
              | o0 v40 v41 =>
                (try dsimp only at hF)
                (try simp only [NM, EE, R9_airz.st] at hc39)
                replace hF := Option.bind_eq_some_iff.1 hF
                obtain ⟨o42, h43, hF⟩ := hF
                have hc44 := f14_airz_ok k v40 v41 _ h43
                cases o42 with
                | o0 v45 =>
                  (try dsimp only at hF)
                  (try simp only [NM, EE, R14_airz.st] at hc44)
                  simp (maxSteps := 999999) (disch := first | exact D (by decide) | exact K (by kernel_rfl)) only [E, EE, ↓reduceIte, simprocAttr, u_24, i_24, is_24, ib_24, iz_24, callStep, CL, gv, List.contains, xk B5 [2, 1, 2, 2, 2, 2, 2, 2] (.cd 92) rfl, hc3, h5, h33, h34, h35, h36, hc39, hc44]
                  replace hF := cond_some hF
                  rcases hF with ⟨h46, hF⟩ | ⟨h46, hF⟩
                  · cases hF
                    simp (maxSteps := 999999) (disch := first | exact D (by decide) | exact K (by kernel_rfl)) only [E, EE, ↓reduceIte, simprocAttr, xk B5 [2, 2, 1, 2, 2, 2, 2, 2, 2] .sq rfl, show (nav B5 [1, 2, 2, 1, 2, 2, 2, 2, 2, 2]) = Code.region 9 _ false from rfl, hk_5_9, hz_5_9, hs_5_9, xk B5 [2, 2, 2, 1, 2, 2, 2, 2, 2, 2] .rt rfl, finK_norm, finK_ret, fin5, R5_airzai4z.st, hc3, h5, h33, h34, h35, h36, hc39, hc44, h46]
                  · have hJ := f5_airzai4z_j3_ok k false m2 m2_1 m27 _ hF
                    simp (maxSteps := 999999) (disch := first | exact D (by decide) | exact K (by kernel_rfl)) only [E, EE, ↓reduceIte, simprocAttr, xk B5 [3, 2, 1, 2, 2, 2, 2, 2, 2] .sk rfl, hc3, h5, h33, h34, h35, h36, hc39, hc44, h46]
                    try simp only [NM, EE] at hJ
                    exact hJ
      · simp (maxSteps := 999999) (disch := first | exact D (by decide) | exact K (by kernel_rfl)) only [E, EE, ↓reduceIte, simprocAttr, u_25, i_25, is_25, ib_25, iz_25, fieldAddrV, u_24, i_24, is_24, ib_24, iz_24, u_22, i_22, is_22, ib_22, iz_22, hc3, h5, h33]
        replace hF := cond_some hF
        rcases hF with ⟨h47, hF⟩ | ⟨h47, hF⟩
        · cases hF
          simp (maxSteps := 999999) (disch := first | exact D (by decide) | exact K (by kernel_rfl)) only [E, EE, ↓reduceIte, simprocAttr, xk B5 [2, 1, 2, 2, 2, 2, 2, 2] (.cd 92) rfl, xk B5 [2, 2, 1, 2, 2, 2, 2, 2, 2] .sq rfl, show (nav B5 [1, 2, 2, 1, 2, 2, 2, 2, 2, 2]) = Code.region 9 _ false from rfl, hk_5_9, hz_5_9, hs_5_9, xk B5 [2, 2, 2, 1, 2, 2, 2, 2, 2, 2] .rt rfl, finK_norm, finK_ret, fin5, R5_airzai4z.st, hc3, h5, h33, h47]
        · replace hF := Option.bind_eq_some_iff.1 hF
          obtain ⟨o48, h49, hF⟩ := hF
          have hc50 := f9_airz_ok k m2 m2_1 _ h49
          cases o48 with
          | o0 v51 v52 =>
            (try dsimp only at hF)
            (try simp only [NM, EE, R9_airz.st] at hc50)
            replace hF := Option.bind_eq_some_iff.1 hF
            obtain ⟨o53, h54, hF⟩ := hF
            have hc55 := f14_airz_ok k v51 v52 _ h54
            cases o53 with
            | o0 v56 =>
              (try dsimp only at hF)
              (try simp only [NM, EE, R14_airz.st] at hc55)
              simp (maxSteps := 999999) (disch := first | exact D (by decide) | exact K (by kernel_rfl)) only [E, EE, ↓reduceIte, simprocAttr, u_24, i_24, is_24, ib_24, iz_24, callStep, CL, gv, List.contains, xk B5 [2, 1, 2, 2, 2, 2, 2, 2] (.cd 92) rfl, hc3, h5, h33, h47, hc50, hc55]
              replace hF := cond_some hF
              rcases hF with ⟨h57, hF⟩ | ⟨h57, hF⟩
              · cases hF
                simp (maxSteps := 999999) (disch := first | exact D (by decide) | exact K (by kernel_rfl)) only [E, EE, ↓reduceIte, simprocAttr, xk B5 [2, 2, 1, 2, 2, 2, 2, 2, 2] .sq rfl, show (nav B5 [1, 2, 2, 1, 2, 2, 2, 2, 2, 2]) = Code.region 9 _ false from rfl, hk_5_9, hz_5_9, hs_5_9, xk B5 [2, 2, 2, 1, 2, 2, 2, 2, 2, 2] .rt rfl, finK_norm, finK_ret, fin5, R5_airzai4z.st, hc3, h5, h33, h47, hc50, hc55, h57]
              · have hJ := f5_airzai4z_j3_ok k false m2 m2_1 m27 _ hF
                simp (maxSteps := 999999) (disch := first | exact D (by decide) | exact K (by kernel_rfl)) only [E, EE, ↓reduceIte, simprocAttr, xk B5 [3, 2, 1, 2, 2, 2, 2, 2, 2] .sk rfl, hc3, h5, h33, h47, hc50, hc55, h57]
                try simp only [NM, EE] at hJ
                exact hJ
noncomputable def f5_airzai4z_j1 (k : Nat) (x12 : Bool) (m2 : Int) (m2_1 : List T44) (m3 m3_1 m3_2 m3_3 : Int) : Option R5_airzai4z :=
  Option.bind (f9_airz k m2 m2_1) fun o1 =>
    match o1 with
    | .o0 v4 v5 =>
      Option.bind (f13_airziii k v4 v5 m3 m3_1 m3_2) fun o6 =>
        match o6 with
        | .o0 v9 v10 =>
          Option.bind (f12_airz k v4 v5) fun o14 =>
            match o14 with
            | .o0 v17 =>
              Option.bind (f10_airz k m2 m2_1) fun o18 =>
                match o18 with
                | .o0 v21 =>
                  cond ((!v21))
                    (
                      cond ((v9 == 0))
                        (
                          cond ((v10 == 230))
                            (
                              cond ((((List.length v17) : Int) == 0))
                                (
                                  Option.bind (f14_airz k v4 v5) fun o29 =>
                                    match o29 with
                                    | .o0 v32 =>
                                      some (R5_airzai4z.o0 (v32 == 230)))
                                (some (R5_airzai4z.o0 false)))
                            (some (R5_airzai4z.o0 false)))
                        (some (R5_airzai4z.o0 false)))
                    (f5_airzai4z_j2 k v9 v10 false m2 m2_1 m3 m3_1 m3_2 m3_3 v17)
theorem f5_airzai4z_j1_ok (k : Nat) (x12 : Bool) (m2 : Int) (m2_1 : List T44) (m3 m3_1 m3_2 m3_3 : Int) (r : R5_airzai4z) (hF : f5_airzai4z_j1 k x12 m2 m2_1 m3 m3_1 m3_2 m3_3 = some r) : finK Try.prog Try.f5 0 (EX 5 k (nav B5 [2, 2]) ({ n := 124, F := [(2, V.ptr 2 0), (3, V.ptr 3 0), (12, V.p (Value.bool x12))], M := [(2, O.box 24 [V.p (Value.int .i64 m2), V.sl 6 (rowsOf encT44 m2_1)]), (3, O.box 27 [V.p (Value.int .i64 m3), V.p (Value.int .i64 m3_1), V.p (Value.int .i64 m3_2), V.p (Value.int .i64 m3_3)])] } : St)) = some r.st := by
  unfold f5_airzai4z_j1 at hF
  replace hF := Option.bind_eq_some_iff.1 hF
  obtain ⟨o1, h2, hF⟩ := hF
  have hc3 := f9_airz_ok k m2 m2_1 _ h2
  cases o1 with
  | o0 v4 v5 =>
    (try dsimp only at hF)
    (try simp only [NM, EE, R9_airz.st] at hc3)
    replace hF := Option.bind_eq_some_iff.1 hF
    obtain ⟨o6, h7, hF⟩ := hF
    have hc8 := f13_airziii_ok k v4 v5 m3 m3_1 m3_2 _ h7
    cases o6 with
    | o0 v9 v10 =>
      (try dsimp only at hF)
      (try simp only [NM, EE, R13_airziii.st] at hc8)
      replace hF := Option.bind_eq_some_iff.1 hF
      obtain ⟨o14, h15, hF⟩ := hF
      have hc16 := f12_airz_ok k v4 v5 _ h15
      cases o14 with
      | o0 v17 =>
        (try dsimp only at hF)
        (try simp only [NM, EE, R12_airz.st] at hc16)
        replace hF := Option.bind_eq_some_iff.1 hF
        obtain ⟨o18, h19, hF⟩ := hF
        have hc20 := f10_airz_ok k m2 m2_1 _ h19
        cases o18 with
        | o0 v21 =>
          (try dsimp only at hF)
          (try simp only [NM, EE, R10_airz.st] at hc20)
          simp (maxSteps := 999999) (disch := first | exact D (by decide) | exact K (by kernel_rfl)) only [E, EE, ↓reduceIte, simprocAttr, xk B5 [2, 2] .sq rfl, show (nav B5 [1, 2, 2]) = Code.region 3 _ true from rfl, hk_5_3, hz_5_3, hs_5_3, u_24, i_24, is_24, ib_24, iz_24, callStep, CL, gv, List.contains, fieldAddrV, u_27, i_27, is_27, ib_27, iz_27, u_3, i_3, is_3, ib_3, iz_3, xk B5 [2, 2, 2] .sq rfl, show (nav B5 [1, 2, 2, 2]) = Code.region 4 _ false from rfl, hk_5_4, hz_5_4, hs_5_4, xk B5 [2, 2, 2, 2] .sq rfl, xk B5 [1, 2, 2, 2, 2] .sq rfl, show (nav B5 [1, 1, 2, 2, 2, 2]) = Code.region 5 _ false from rfl, hk_5_5, hz_5_5, hs_5_5, xk B5 [2, 1, 2, 2, 2, 2] (.cd 30) rfl, hc3, hc8, hc16, hc20]
          replace hF := cond_some hF
          rcases hF with ⟨h22, hF⟩ | ⟨h22, hF⟩
          · simp (maxSteps := 999999) (disch := first | exact D (by decide) | exact K (by kernel_rfl)) only [E, EE, ↓reduceIte, simprocAttr, xk B5 [2, 2, 1, 2, 2, 2, 2] .sq rfl, show (nav B5 [1, 2, 2, 1, 2, 2, 2, 2]) = Code.region 6 _ false from rfl, hk_5_6, hz_5_6, hs_5_6, hc3, hc8, hc16, hc20, h22]
            replace hF := cond_some hF
            rcases hF with ⟨h23, hF⟩ | ⟨h23, hF⟩
            · replace hF := cond_some hF
              rcases hF with ⟨h24, hF⟩ | ⟨h24, hF⟩
              · simp (maxSteps := 999999) (disch := first | exact D (by decide) | exact K (by kernel_rfl)) only [E, EE, ↓reduceIte, simprocAttr, u_25, i_25, is_25, ib_25, iz_25, hc3, hc8, hc16, hc20, h22, h23, h24]
                replace hF := cond_some hF
                rcases hF with ⟨h25, hF⟩ | ⟨h25, hF⟩
                · replace hF := Option.bind_eq_some_iff.1 hF
                  obtain ⟨o29, h30, hF⟩ := hF
                  have hc31 := f14_airz_ok k v4 v5 _ h30
                  cases o29 with
                  | o0 v32 =>
                    (try dsimp only at hF)
                    (try simp only [NM, EE, R14_airz.st] at hc31)
                    cases hF
                    simp (maxSteps := 999999) (disch := first | exact D (by decide) | exact K (by kernel_rfl)) only [E, EE, ↓reduceIte, simprocAttr, u_24, i_24, is_24, ib_24, iz_24, callStep, CL, gv, List.contains, xk B5 [2, 2, 2, 1, 2, 2, 2, 2] .rt rfl, finK_norm, finK_ret, fin5, R5_airzai4z.st, hc3, hc8, hc16, hc20, h22, h23, h24, h25, hc31]
                · cases hF
                  simp (maxSteps := 999999) (disch := first | exact D (by decide) | exact K (by kernel_rfl)) only [E, EE, ↓reduceIte, simprocAttr, xk B5 [2, 2, 2, 1, 2, 2, 2, 2] .rt rfl, finK_norm, finK_ret, fin5, R5_airzai4z.st, hc3, hc8, hc16, hc20, h22, h23, h24, h25]
              · cases hF
                simp (maxSteps := 999999) (disch := first | exact D (by decide) | exact K (by kernel_rfl)) only [E, EE, ↓reduceIte, simprocAttr, xk B5 [2, 2, 2, 1, 2, 2, 2, 2] .rt rfl, finK_norm, finK_ret, fin5, R5_airzai4z.st, hc3, hc8, hc16, hc20, h22, h23, h24]
            · cases hF
              simp (maxSteps := 999999) (disch := first | exact D (by decide) | exact K (by kernel_rfl)) only [E, EE, ↓reduceIte, simprocAttr, xk B5 [2, 2, 2, 1, 2, 2, 2, 2] .rt rfl, finK_norm, finK_ret, fin5, R5_airzai4z.st, hc3, hc8, hc16, hc20, h22, h23]
          · have hJ := f5_airzai4z_j2_ok k v9 v10 false m2 m2_1 m3 m3_1 m3_2 m3_3 v17 _ hF
            simp (maxSteps := 999999) (disch := first | exact D (by decide) | exact K (by kernel_rfl)) only [E, EE, ↓reduceIte, simprocAttr, xk B5 [3, 2, 1, 2, 2, 2, 2] .sk rfl, hc3, hc8, hc16, hc20, h22]
            try simp only [NM, EE] at hJ
            exact hJ
noncomputable def f5_airzai4z_e (k : Nat) (a0 : Int) (a0_1 : List T44) (a1 a1_1 a1_2 a1_3 : Int) : Option R5_airzai4z :=
  Option.bind (f7_ k) fun o1 =>
    match o1 with
    | .o0 v4 =>
      cond ((!v4))
        (some (R5_airzai4z.o0 false))
        (f5_airzai4z_j1 k false a0 a0_1 a1 a1_1 a1_2 a1_3)
theorem f5_airzai4z_e_ok (k : Nat) (a0 : Int) (a0_1 : List T44) (a1 a1_1 a1_2 a1_3 : Int) (r : R5_airzai4z) (hF : f5_airzai4z_e k a0 a0_1 a1 a1_1 a1_2 a1_3 = some r) : finK Try.prog Try.f5 0 (EX 5 k (nav B5 []) ({ n := 124, F := [(0, V.agg [V.p (Value.int .i64 a0), V.sl 6 (rowsOf encT44 a0_1)]), (1, V.agg [V.p (Value.int .i64 a1), V.p (Value.int .i64 a1_1), V.p (Value.int .i64 a1_2), V.p (Value.int .i64 a1_3)])], M := [] } : St)) = some r.st := by
  unfold f5_airzai4z_e at hF
  replace hF := Option.bind_eq_some_iff.1 hF
  obtain ⟨o1, h2, hF⟩ := hF
  have hc3 := f7__ok k _ h2
  cases o1 with
  | o0 v4 =>
    (try dsimp only at hF)
    (try simp only [NM, EE, R7_.st] at hc3)
    simp (maxSteps := 999999) (disch := first | exact D (by decide) | exact K (by kernel_rfl)) only [E, EE, ↓reduceIte, simprocAttr, xk B5 [] .sq rfl, show (nav B5 [1]) = Code.region 0 _ false from rfl, hk_5_0, hz_5_0, hs_5_0, xk B5 [2] .sq rfl, xk B5 [1, 2] .sq rfl, show (nav B5 [1, 1, 2]) = Code.region 1 _ false from rfl, hk_5_1, hz_5_1, hs_5_1, callStep, CL, gv, List.contains, xk B5 [2, 1, 2] (.cd 12) rfl, hc3]
    replace hF := cond_some hF
    rcases hF with ⟨h5, hF⟩ | ⟨h5, hF⟩
    · cases hF
      simp (maxSteps := 999999) (disch := first | exact D (by decide) | exact K (by kernel_rfl)) only [E, EE, ↓reduceIte, simprocAttr, xk B5 [2, 2, 1, 2] .sq rfl, show (nav B5 [1, 2, 2, 1, 2]) = Code.region 2 _ false from rfl, hk_5_2, hz_5_2, hs_5_2, xk B5 [2, 2, 2, 1, 2] .rt rfl, finK_norm, finK_ret, fin5, R5_airzai4z.st, hc3, h5]
    · have hJ := f5_airzai4z_j1_ok k false a0 a0_1 a1 a1_1 a1_2 a1_3 _ hF
      simp (maxSteps := 999999) (disch := first | exact D (by decide) | exact K (by kernel_rfl)) only [E, EE, ↓reduceIte, simprocAttr, xk B5 [3, 2, 1, 2] .sk rfl, hc3, h5]
      try simp only [NM, EE] at hJ
      exact hJ
noncomputable def f5_airzai4z (k : Nat) (a0 : Int) (a0_1 : List T44) (a1 a1_1 a1_2 a1_3 : Int) : Option R5_airzai4z := match k with | 0 => none | k + 1 => f5_airzai4z_e k a0 a0_1 a1 a1_1 a1_2 a1_3
theorem f5_airzai4z_ok (k : Nat) (a0 : Int) (a0_1 : List T44) (a1 a1_1 a1_2 a1_3 : Int) (r : R5_airzai4z) (hF : f5_airzai4z k a0 a0_1 a1 a1_1 a1_2 a1_3 = some r) : CV k 5 [V.agg [V.p (Value.int .i64 a0), V.sl 6 (rowsOf encT44 a0_1)], V.agg [V.p (Value.int .i64 a1), V.p (Value.int .i64 a1_1), V.p (Value.int .i64 a1_2), V.p (Value.int .i64 a1_3)]] [] = some r.st := by
  cases k with
  | zero => cases hF
  | succ k =>
    unfold CV
    rw [ev_call (F := Try.f5) (c := (nav B5 [])) rfl Try.func5 rfl rfl rfl rfl]
    exact f5_airzai4z_e_ok k a0 a0_1 a1 a1_1 a1_2 a1_3 r hF
end Go.Proofs.YtmogplhglcodjaaV
