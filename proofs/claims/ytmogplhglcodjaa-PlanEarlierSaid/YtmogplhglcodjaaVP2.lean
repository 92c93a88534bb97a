/- What the program's functions answer: plain functions, and that the interpreter answers what they do. Written by a program of this session, out of the translation. -/
import Derived.Test.YtmogplhglcodjaaVP1
namespace Go.Proofs.YtmogplhglcodjaaV
open Go
set_option linter.unusedVariables false
set_option linter.unusedSimpArgs false
set_option maxRecDepth 8000
set_option maxHeartbeats 4000000
-- f28_rf20: f28 slices.IndexFunc[[]int,int]
inductive R28_rf20 where
  | o0 (y : Int)
noncomputable def R28_rf20.st : R28_rf20 → V × List O × List O
  | .o0 y => (V.p (Value.int .i64 y), [], [])
inductive R28_rf20_l1 where
  | o0 (y : Int)
  | o1 (y : List Int) (y_1 y_2 : Int)
  | o2 (y : List Int) (y_1 y_2 : Int) (y_3 : Bool)
noncomputable def R28_rf20_l1.st : R28_rf20_l1 → Out × St
  | .o0 y => (.ret, ({ n := 19, F := [(4, V.p (Value.int .i64 y))], M := [] } : St))
  | .o1 y y_1 y_2 => (.norm, ({ n := 19, F := [(0, V.sl 1 (rowsOf (encI .i64) y)), (1, V.p (Value.func (Fn.func 20) #[] #[])), (7, V.p (Value.int .i64 y_1)), (8, V.p (Value.int .i64 y_2))], M := [] } : St))
  | .o2 y y_1 y_2 y_3 => (.exit 0, ({ n := 19, F := [(0, V.sl 1 (rowsOf (encI .i64) y)), (1, V.p (Value.func (Fn.func 20) #[] #[])), (7, V.p (Value.int .i64 y_1)), (8, V.p (Value.int .i64 y_2)), (9, V.p (Value.bool y_3))], M := [] } : St))
noncomputable def f28_rf20_l1_j2 (k : Nat) (x0 : List Int) (x5 x7 x8 : Int) (x16 : Bool) : Option R28_rf20_l1 :=
  some (R28_rf20_l1.o1 x0 x7 (IntKind.i64.wrap (x8 + (1 : Int))))
theorem f28_rf20_l1_j2_ok (k : Nat) (x0 : List Int) (x5 x7 x8 : Int) (x16 : Bool) (r : R28_rf20_l1) (hF : f28_rf20_l1_j2 k x0 x5 x7 x8 x16 = some r) : EX 28 k (nav B28 [2, 2, 2, 1, 2, 2, 1, 2]) ({ n := 19, F := [(0, V.sl 1 (rowsOf (encI .i64) x0)), (1, V.p (Value.func (Fn.func 20) #[] #[])), (5, V.p (Value.int .i64 x5)), (7, V.p (Value.int .i64 x7)), (8, V.p (Value.int .i64 x8)), (16, V.p (Value.bool x16))], M := [] } : St) = some r.st := by
  unfold f28_rf20_l1_j2 at hF
  cases hF
  simp (maxSteps := 999999) (disch := first | exact D (by decide) | exact K (by kernel_rfl)) only [E, EE, ↓reduceIte, simprocAttr, show (nav B28 [2, 2, 2, 1, 2, 2, 1, 2]) = Code.region 6 _ false from rfl, hk_28_6, hz_28_6, hs_28_6, R28_rf20_l1.st]
noncomputable def f28_rf20_l1_j1 (k : Nat) (x0 : List Int) (x7 x8 : Int) (x9 : Bool) : Option R28_rf20_l1 :=
  ifE ((0 : Int) ≤ x8) (
    Option.bind (x0[(Int.toNat x8)]?) fun v2 =>
      Option.bind (f20_i k v2) fun o4 =>
        match o4 with
        | .o0 v7 =>
          cond (v7)
            (some (R28_rf20_l1.o0 x8))
            (f28_rf20_l1_j2 k x0 x8 x7 x8 false))
theorem f28_rf20_l1_j1_ok (k : Nat) (x0 : List Int) (x7 x8 : Int) (x9 : Bool) (r : R28_rf20_l1) (hF : f28_rf20_l1_j1 k x0 x7 x8 x9 = some r) : EX 28 k (nav B28 [2, 2, 1, 2, 2, 1, 2]) ({ n := 19, F := [(0, V.sl 1 (rowsOf (encI .i64) x0)), (1, V.p (Value.func (Fn.func 20) #[] #[])), (7, V.p (Value.int .i64 x7)), (8, V.p (Value.int .i64 x8)), (9, V.p (Value.bool x9))], M := [] } : St) = some r.st := by
  unfold f28_rf20_l1_j1 at hF
  replace hF := ifE_some.1 hF
  obtain ⟨h1, hF⟩ := hF
  replace hF := Option.bind_eq_some_iff.1 hF
  obtain ⟨v2, h3, hF⟩ := hF
  replace hF := Option.bind_eq_some_iff.1 hF
  obtain ⟨o4, h5, hF⟩ := hF
  have hc6 := f20_i_ok k v2 _ h5
  cases o4 with
  | o0 v7 =>
    (try dsimp only at hF)
    (try simp only [NM, EE, R20_i.st] at hc6)
    simp (maxSteps := 999999) (disch := first | exact D (by decide) | exact K (by kernel_rfl)) only [E, EE, ↓reduceIte, simprocAttr, xk B28 [2, 2, 1, 2, 2, 1, 2] .sq rfl, xk B28 [1, 2, 2, 1, 2, 2, 1, 2] (.bk 1) rfl, xk B28 [2, 1, 2, 2, 1, 2, 2, 1, 2] .sq rfl, show (nav B28 [1, 2, 1, 2, 2, 1, 2, 2, 1, 2]) = Code.region 3 _ false from rfl, hk_28_3, hz_28_3, hs_28_3, xk B28 [2, 2, 1, 2, 2, 1, 2, 2, 1, 2] .sq rfl, show (nav B28 [1, 2, 2, 1, 2, 2, 1, 2, 2, 1, 2]) = Code.region 4 _ false from rfl, hk_28_4, hz_28_4, hs_28_4, indexAddrV, u_25, i_25, is_25, ib_25, iz_25, u_3, i_3, is_3, ib_3, iz_3, encI_eq, callStep, CL, gv, List.contains, xk B28 [2, 2, 2, 1, 2, 2, 1, 2, 2, 1, 2] (.cd 16) rfl, h1, h3, hc6]
    replace hF := cond_some hF
    rcases hF with ⟨h8, hF⟩ | ⟨h8, hF⟩
    · cases hF
      simp (maxSteps := 999999) (disch := first | exact D (by decide) | exact K (by kernel_rfl)) only [E, EE, ↓reduceIte, simprocAttr, xk B28 [2, 2, 2, 2, 1, 2, 2, 1, 2, 2, 1, 2] .sq rfl, show (nav B28 [1, 2, 2, 2, 2, 1, 2, 2, 1, 2, 2, 1, 2]) = Code.region 5 _ false from rfl, hk_28_5, hz_28_5, hs_28_5, xk B28 [2, 2, 2, 2, 2, 1, 2, 2, 1, 2, 2, 1, 2] .rt rfl, R28_rf20_l1.st, h1, h3, hc6, h8]
    · have hJ := f28_rf20_l1_j2_ok k x0 x8 x7 x8 false _ hF
      simp (maxSteps := 999999) (disch := first | exact D (by decide) | exact K (by kernel_rfl)) only [E, EE, ↓reduceIte, simprocAttr, xk B28 [3, 2, 2, 2, 1, 2, 2, 1, 2, 2, 1, 2] .sk rfl, h1, h3, hc6, h8]
      try simp only [NM, EE] at hJ
      exact hJ
noncomputable def f28_rf20_l1_b (k : Nat) (x0 : List Int) (x7 x8 : Int) : Option R28_rf20_l1 :=
  cond ((decide (x8 < x7)))
    (f28_rf20_l1_j1 k x0 x7 x8 true)
    (some (R28_rf20_l1.o2 x0 x7 x8 false))
theorem f28_rf20_l1_b_ok (k : Nat) (x0 : List Int) (x7 x8 : Int) (r : R28_rf20_l1) (hF : f28_rf20_l1_b k x0 x7 x8 = some r) : EX 28 k (nav B28 [1, 2, 2, 1, 2]) ({ n := 19, F := [(0, V.sl 1 (rowsOf (encI .i64) x0)), (1, V.p (Value.func (Fn.func 20) #[] #[])), (7, V.p (Value.int .i64 x7)), (8, V.p (Value.int .i64 x8))], M := [] } : St) = some r.st := by
  unfold f28_rf20_l1_b at hF
  simp (maxSteps := 999999) (disch := first | exact D (by decide) | exact K (by kernel_rfl)) only [E, EE, ↓reduceIte, simprocAttr, xk B28 [1, 2, 2, 1, 2] .sq rfl, show (nav B28 [1, 1, 2, 2, 1, 2]) = Code.region 2 _ false from rfl, hk_28_2, hz_28_2, hs_28_2, xk B28 [2, 1, 2, 2, 1, 2] .sq rfl, xk B28 [1, 2, 1, 2, 2, 1, 2] (.cd 9) rfl]
  replace hF := cond_some hF
  rcases hF with ⟨h1, hF⟩ | ⟨h1, hF⟩
  · have hJ := f28_rf20_l1_j1_ok k x0 x7 x8 true _ hF
    simp (maxSteps := 999999) (disch := first | exact D (by decide) | exact K (by kernel_rfl)) only [E, EE, ↓reduceIte, simprocAttr, xk B28 [2, 1, 2, 1, 2, 2, 1, 2] .sk rfl, h1]
    try simp only [NM, EE] at hJ
    exact hJ
  · cases hF
    simp (maxSteps := 999999) (disch := first | exact D (by decide) | exact K (by kernel_rfl)) only [E, EE, ↓reduceIte, simprocAttr, xk B28 [3, 1, 2, 1, 2, 2, 1, 2] (.ex 0) rfl, R28_rf20_l1.st, h1]
noncomputable def f28_rf20_l1 (k : Nat) : Nat → (List Int) → Int → Int → Option R28_rf20_l1
  | 0, _, _, _ => none
  | n + 1, x0, x7, x8 => Option.bind (f28_rf20_l1_b k x0 x7 x8) fun o =>
    match o with
    | .o0 y => some (.o0 y)
    | .o1 y y_1 y_2 => f28_rf20_l1 k n y y_1 y_2
    | .o2 y y_1 y_2 y_3 => some (.o2 y y_1 y_2 y_3)
theorem f28_rf20_l1_ok (k n : Nat) : ∀ (x0 : List Int) (x7 x8 : Int) (r : R28_rf20_l1) (hF : f28_rf20_l1 k n x0 x7 x8 = some r) (σ : St) (hσ : headR (hints.head 28 2) (hints.canon 28 2) σ = some ({ n := 19, F := [(0, V.sl 1 (rowsOf (encI .i64) x0)), (1, V.p (Value.func (Fn.func 20) #[] #[])), (7, V.p (Value.int .i64 x7)), (8, V.p (Value.int .i64 x8))], M := [] } : St)), LP 28 k (nav B28 [1, 2, 2, 1, 2]) n σ = some r.st := by
  induction n with
  | zero => intro x0 x7 x8 r hF; cases hF
  | succ n ih =>
    intro x0 x7 x8 r hF σ hσ
    rw [f28_rf20_l1] at hF
    obtain ⟨o, h, hF⟩ := Option.bind_eq_some_iff.1 hF
    have hB := f28_rf20_l1_b_ok k x0 x7 x8 o h
    unfold LP at ih ⊢
    unfold EX at hB
    rw [loopK_succ, show firstReg (nav B28 [1, 2, 2, 1, 2]) = 2 from rfl, hσ, headK_some, hB]
    cases o with
    | o0 y => cases hF; rfl
    | o1 y y_1 y_2 =>
      refine ih y y_1 y_2 r hF _ ?_
      simp (maxSteps := 999999) (disch := first | exact D (by decide) | exact K (by kernel_rfl)) only [E, EE, ↓reduceIte, simprocAttr, hh_28_2, hc_28_2]
    | o2 y y_1 y_2 y_3 => cases hF; rfl
noncomputable def f28_rf20_j2 (k : Nat) (x0 : List Int) (x7 x8 : Int) (x9 : Bool) : Option R28_rf20 :=
  some (R28_rf20.o0 (-1))
theorem f28_rf20_j2_ok (k : Nat) (x0 : List Int) (x7 x8 : Int) (x9 : Bool) (r : R28_rf20) (hF : f28_rf20_j2 k x0 x7 x8 x9 = some r) : finK Try.prog Try.f28 0 (EX 28 k (nav B28 [2, 2]) ({ n := 19, F := [(0, V.sl 1 (rowsOf (encI .i64) x0)), (1, V.p (Value.func (Fn.func 20) #[] #[])), (7, V.p (Value.int .i64 x7)), (8, V.p (Value.int .i64 x8)), (9, V.p (Value.bool x9))], M := [] } : St)) = some r.st := by
  unfold f28_rf20_j2 at hF
  cases hF
  simp (maxSteps := 999999) (disch := first | exact D (by decide) | exact K (by kernel_rfl)) only [E, EE, ↓reduceIte, simprocAttr, xk B28 [2, 2] .sq rfl, show (nav B28 [1, 2, 2]) = Code.region 7 _ false from rfl, hk_28_7, hz_28_7, hs_28_7, xk B28 [2, 2, 2] .rt rfl, finK_norm, finK_ret, fin28, R28_rf20.st]
noncomputable def f28_rf20_e (k : Nat) (a0 : List Int) : Option R28_rf20 :=
  Option.bind (f28_rf20_l1 k k a0 ((List.length a0) : Int) 0) fun o1 =>
    match o1 with
    | .o0 v4 =>
      some (R28_rf20.o0 v4)
    | .o1 _ _ _ =>
      none
    | .o2 v5 v6 v7 v8 =>
      f28_rf20_j2 k v5 v6 v7 v8
theorem f28_rf20_e_ok (k : Nat) (a0 : List Int) (r : R28_rf20) (hF : f28_rf20_e k a0 = some r) : finK Try.prog Try.f28 0 (EX 28 k (nav B28 []) ({ n := 19, F := [(0, V.sl 1 (rowsOf (encI .i64) a0)), (1, V.p (Value.func (Fn.func 20) #[] #[]))], M := [] } : St)) = some r.st := by
  unfold f28_rf20_e at hF
  replace hF := Option.bind_eq_some_iff.1 hF
  obtain ⟨o1, h2, hF⟩ := hF
  have hc3 := f28_rf20_l1_ok k k a0 ((List.length a0) : Int) 0 _ h2
  simp (maxSteps := 999999) (disch := first | exact D (by decide) | exact K (by kernel_rfl)) only [E, EE, ↓reduceIte, simprocAttr, xk B28 [] .sq rfl, show (nav B28 [1]) = Code.region 0 _ false from rfl, hk_28_0, hz_28_0, hs_28_0, xk B28 [2] .sq rfl, xk B28 [1, 2] .sq rfl, show (nav B28 [1, 1, 2]) = Code.region 1 _ false from rfl, hk_28_1, hz_28_1, hs_28_1, u_25, i_25, is_25, ib_25, iz_25, xk B28 [2, 1, 2] (.bk 0) rfl, xk B28 [2, 2, 1, 2] .lp rfl, hh_28_2, hc_28_2]
  (try simp only [NM, EE] at hc3)
  rw [hc3 _ (by simp (maxSteps := 999999) (disch := first | exact D (by decide) | exact K (by kernel_rfl)) only [E, EE, ↓reduceIte, simprocAttr, hh_28_2, hc_28_2])]
  clear hc3
  cases o1 with
  | o0 v4 =>
    (try dsimp only at hF)
    cases hF
    simp (maxSteps := 999999) (disch := first | exact D (by decide) | exact K (by kernel_rfl)) only [E, EE, ↓reduceIte, simprocAttr, R28_rf20_l1.st, finK_norm, finK_ret, fin28, R28_rf20.st]
  | o1 _ _ _ =>
    (try dsimp only at hF)
    cases hF
  | o2 v5 v6 v7 v8 =>
    (try dsimp only at hF)
    have hJ := f28_rf20_j2_ok k v5 v6 v7 v8 _ hF
    simp (maxSteps := 999999) (disch := first | exact D (by decide) | exact K (by kernel_rfl)) only [E, EE, ↓reduceIte, simprocAttr, R28_rf20_l1.st]
    try simp only [NM, EE] at hJ
    exact hJ
noncomputable def f28_rf20 (k : Nat) (a0 : List Int) : Option R28_rf20 := match k with | 0 => none | k + 1 => f28_rf20_e k a0
theorem f28_rf20_ok (k : Nat) (a0 : List Int) (r : R28_rf20) (hF : f28_rf20 k a0 = some r) : CV k 28 [V.sl 1 (rowsOf (encI .i64) a0), V.p (Value.func (Fn.func 20) #[] #[])] [] = some r.st := by
  cases k with
  | zero => cases hF
  | succ k =>
    unfold CV
    rw [ev_call (F := Try.f28) (c := (nav B28 [])) rfl Try.func28 rfl rfl rfl rfl]
    exact f28_rf20_e_ok k a0 r hF
-- f19_rf20: f19 slices.ContainsFunc[[]int,int]
inductive R19_rf20 where
  | o0 (y : Bool)
noncomputable def R19_rf20.st : R19_rf20 → V × List O × List O
  | .o0 y => (V.p (Value.bool y), [], [])
noncomputable def f19_rf20_e (k : Nat) (a0 : List Int) : Option R19_rf20 :=
  Option.bind (f28_rf20 k a0) fun o1 =>
    match o1 with
    | .o0 v4 =>
      some (R19_rf20.o0 (decide (v4 ≥ 0)))
theorem f19_rf20_e_ok (k : Nat) (a0 : List Int) (r : R19_rf20) (hF : f19_rf20_e k a0 = some r) : finK Try.prog Try.f19 0 (EX 19 k (nav B19 []) ({ n := 9, F := [(0, V.sl 1 (rowsOf (encI .i64) a0)), (1, V.p (Value.func (Fn.func 20) #[] #[]))], M := [] } : St)) = some r.st := by
  unfold f19_rf20_e at hF
  replace hF := Option.bind_eq_some_iff.1 hF
  obtain ⟨o1, h2, hF⟩ := hF
  have hc3 := f28_rf20_ok k a0 _ h2
  cases o1 with
  | o0 v4 =>
    (try dsimp only at hF)
    (try simp only [NM, EE, R28_rf20.st] at hc3)
    cases hF
    simp (maxSteps := 999999) (disch := first | exact D (by decide) | exact K (by kernel_rfl)) only [E, EE, ↓reduceIte, simprocAttr, xk B19 [] .sq rfl, show (nav B19 [1]) = Code.region 0 _ false from rfl, hk_19_0, hz_19_0, hs_19_0, xk B19 [2] .sq rfl, show (nav B19 [1, 2]) = Code.region 1 _ false from rfl, hk_19_1, hz_19_1, hs_19_1, callStep, CL, gv, List.contains, xk B19 [2, 2] .rt rfl, finK_norm, finK_ret, fin19, R19_rf20.st, hc3]
noncomputable def f19_rf20 (k : Nat) (a0 : List Int) : Option R19_rf20 := match k with | 0 => none | k + 1 => f19_rf20_e k a0
theorem f19_rf20_ok (k : Nat) (a0 : List Int) (r : R19_rf20) (hF : f19_rf20 k a0 = some r) : CV k 19 [V.sl 1 (rowsOf (encI .i64) a0), V.p (Value.func (Fn.func 20) #[] #[])] [] = some r.st := by
  cases k with
  | zero => cases hF
  | succ k =>
    unfold CV
    rw [ev_call (F := Try.f19) (c := (nav B19 [])) rfl Try.func19 rfl rfl rfl rfl]
    exact f19_rf20_e_ok k a0 r hF
-- f22_airrizii: f22 (heliograph/plan.search).from
inductive R22_airrizii where
  | o0 (y : Int) (y_1 : List T44) (y_2 : List Int) (y_3 y_4 y_5 : Int)
noncomputable def R22_airrizii.st : R22_airrizii → V × List O × List O
  | .o0 y y_1 y_2 y_3 y_4 y_5 => (V.fn 29 [V.ptr 2000000 0, V.ptr 2000001 0, V.ptr 2000002 0], [], [O.box 54 [V.p (Value.int .i64 y), V.sl 6 (rowsOf encT44 y_1), V.sl 1 (rowsOf (encI .i64) y_2), V.p (Value.int .i64 y_3)], O.box 3 [V.p (Value.int .i64 y_4)], O.box 3 [V.p (Value.int .i64 y_5)]])
noncomputable def f22_airrizii_e (k : Nat) (a0 : Int) (a0_1 : List T44) (a0_2 : List Int) (a0_3 a1 a2 : Int) : Option R22_airrizii :=
  some (R22_airrizii.o0 a0 a0_1 a0_2 a0_3 a1 a2)
theorem f22_airrizii_e_ok (k : Nat) (a0 : Int) (a0_1 : List T44) (a0_2 : List Int) (a0_3 a1 a2 : Int) (r : R22_airrizii) (hF : f22_airrizii_e k a0 a0_1 a0_2 a0_3 a1 a2 = some r) : finK Try.prog Try.f22 0 (EX 22 k (nav B22 []) ({ n := 8, F := [(0, V.agg [V.p (Value.int .i64 a0), V.sl 6 (rowsOf encT44 a0_1), V.sl 1 (rowsOf (encI .i64) a0_2), V.p (Value.int .i64 a0_3)]), (1, V.p (Value.int .i64 a1)), (2, V.p (Value.int .i64 a2))], M := [] } : St)) = some r.st := by
  unfold f22_airrizii_e at hF
  cases hF
  simp (maxSteps := 999999) (disch := first | exact D (by decide) | exact K (by kernel_rfl)) only [E, EE, ↓reduceIte, simprocAttr, xk B22 [] .sq rfl, show (nav B22 [1]) = Code.region 0 _ false from rfl, hk_22_0, hz_22_0, hs_22_0, xk B22 [2] .sq rfl, show (nav B22 [1, 2]) = Code.region 1 _ false from rfl, hk_22_1, hz_22_1, hs_22_1, xk B22 [2, 2] .rt rfl, finK_norm, finK_ret, fin22, R22_airrizii.st]
noncomputable def f22_airrizii (k : Nat) (a0 : Int) (a0_1 : List T44) (a0_2 : List Int) (a0_3 a1 a2 : Int) : Option R22_airrizii := match k with | 0 => none | k + 1 => f22_airrizii_e k a0 a0_1 a0_2 a0_3 a1 a2
theorem f22_airrizii_ok (k : Nat) (a0 : Int) (a0_1 : List T44) (a0_2 : List Int) (a0_3 a1 a2 : Int) (r : R22_airrizii) (hF : f22_airrizii k a0 a0_1 a0_2 a0_3 a1 a2 = some r) : CV k 22 [V.agg [V.p (Value.int .i64 a0), V.sl 6 (rowsOf encT44 a0_1), V.sl 1 (rowsOf (encI .i64) a0_2), V.p (Value.int .i64 a0_3)], V.p (Value.int .i64 a1), V.p (Value.int .i64 a2)] [] = some r.st := by
  cases k with
  | zero => cases hF
  | succ k =>
    unfold CV
    rw [ev_call (F := Try.f22) (c := (nav B22 [])) rfl Try.func22 rfl rfl rfl rfl]
    exact f22_airrizii_e_ok k a0 a0_1 a0_2 a0_3 a1 a2 r hF
-- f999999999_iiy_lpppbirribLbL: f23 (heliograph/plan.search).arrives
inductive R999999999_iiy_lpppbirribLbL where
  | o0 (y : Int) (y_1 : List T44) (y_2 : List Int) (y_3 : Int) (y_4 : List Int) (y_5 : List Bool)
noncomputable def R999999999_iiy_lpppbirribLbL.st : R999999999_iiy_lpppbirribLbL → V × List O × List O
  | .o0 y y_1 y_2 y_3 y_4 y_5 => (V.p (Value.bool true), [O.lp 23 99 [(4, V.ptr 1000001 0), (10, V.ptr 1000002 0), (11, V.ptr 1000003 0)] [68, 69] (nav B23 [3, 2, 2, 2, 2, 2, 2, 2, 1, 2, 1, 2, 2, 2, 2, 1, 2]) (nav B23 [4, 2, 2, 2, 2, 2, 2, 2, 1, 2, 1, 2, 2, 2, 2, 1, 2]) 0 .norm, O.box 54 [V.p (Value.int .i64 y), V.sl 6 (rowsOf encT44 y_1), V.sl 1 (rowsOf (encI .i64) y_2), V.p (Value.int .i64 y_3)], O.box 60 (arrC (cI .i64) y_4), O.box 67 (arrC cB y_5)], [])
noncomputable def f999999999_iiy_lpppbirribLbL_e (k : Nat) (a0 a1 e1 : Int) (e1_1 : List T44) (e1_2 : List Int) (e1_3 : Int) (e2 : List Int) (e3 : List Bool) : Option R999999999_iiy_lpppbirribLbL :=
  ifE ((0 : Int) ≤ a0) (
    Option.bind (e1_1[(Int.toNat a0)]?) fun v2 =>
      ifE ((0 : Int) ≤ v2.To) (
        ifE (v2.To < 7) (
          Option.bind (List.head? (List.drop (Int.toNat v2.To) e3)) fun v6 =>
            cond ((!v6))
              (
                ifE (((Int.toNat v2.To) + 1) ≤ (List.length e2)) (
                  ifE (((Int.toNat v2.To) + 1) ≤ (List.length e3)) (
                    some (R999999999_iiy_lpppbirribLbL.o0 e1 e1_1 e1_2 e1_3 (((List.take (Int.toNat v2.To) e2) ++ (a1 :: (List.drop ((Int.toNat v2.To) + 1) e2)))) (((List.take (Int.toNat v2.To) e3) ++ (true :: (List.drop ((Int.toNat v2.To) + 1) e3))))))))
              (
                Option.bind (List.head? (List.drop (Int.toNat v2.To) e2)) fun v11 =>
                  cond ((decide (a1 < v11)))
                    (
                      ifE (((Int.toNat v2.To) + 1) ≤ (List.length e2)) (
                        ifE (((Int.toNat v2.To) + 1) ≤ (List.length e3)) (
                          some (R999999999_iiy_lpppbirribLbL.o0 e1 e1_1 e1_2 e1_3 (((List.take (Int.toNat v2.To) e2) ++ (a1 :: (List.drop ((Int.toNat v2.To) + 1) e2)))) (((List.take (Int.toNat v2.To) e3) ++ (true :: (List.drop ((Int.toNat v2.To) + 1) e3))))))))
                    (some (R999999999_iiy_lpppbirribLbL.o0 e1 e1_1 e1_2 e1_3 e2 e3))))))
theorem f999999999_iiy_lpppbirribLbL_e_ok (k : Nat) (a0 a1 e1 : Int) (e1_1 : List T44) (e1_2 : List Int) (e1_3 : Int) (e2 : List Int) (e3 : List Bool) (r : R999999999_iiy_lpppbirribLbL) (hF : f999999999_iiy_lpppbirribLbL_e k a0 a1 e1 e1_1 e1_2 e1_3 e2 e3 = some r) : roundB 1000000 4 (roundA Try.prog (callV Try.prog ctx hints k) hints 23 k 1000000 (nav B23 [4, 2, 2, 2, 2, 2, 2, 2, 1, 2, 1, 2, 2, 2, 2, 1, 2]) (EX 23 k (nav B23 [3, 2, 2, 2, 2, 2, 2, 2, 1, 2, 1, 2, 2, 2, 2, 1, 2]) ({ n := 99, F := [(69, V.p (Value.int .i64 a1)), (68, V.p (Value.int .i64 a0)), (4, V.ptr 1000001 0), (10, V.ptr 1000002 0), (11, V.ptr 1000003 0)], M := [(1000000, O.lp 23 99 [(4, V.ptr 1000001 0), (10, V.ptr 1000002 0), (11, V.ptr 1000003 0)] [68, 69] (nav B23 [3, 2, 2, 2, 2, 2, 2, 2, 1, 2, 1, 2, 2, 2, 2, 1, 2]) (nav B23 [4, 2, 2, 2, 2, 2, 2, 2, 1, 2, 1, 2, 2, 2, 2, 1, 2]) 0 .norm), (1000001, O.box 54 [V.p (Value.int .i64 e1), V.sl 6 (rowsOf encT44 e1_1), V.sl 1 (rowsOf (encI .i64) e1_2), V.p (Value.int .i64 e1_3)]), (1000002, O.box 60 (arrC (cI .i64) e2)), (1000003, O.box 67 (arrC cB e3))] } : St))) = some r.st := by
  unfold f999999999_iiy_lpppbirribLbL_e at hF
  replace hF := ifE_some.1 hF
  obtain ⟨h1, hF⟩ := hF
  replace hF := Option.bind_eq_some_iff.1 hF
  obtain ⟨v2, h3, hF⟩ := hF
  replace hF := ifE_some.1 hF
  obtain ⟨h4, hF⟩ := hF
  replace hF := ifE_some.1 hF
  obtain ⟨h5, hF⟩ := hF
  replace hF := Option.bind_eq_some_iff.1 hF
  obtain ⟨v6, h7, hF⟩ := hF
  simp (maxSteps := 999999) (disch := first | exact D (by decide) | exact K (by kernel_rfl)) only [E, EE, ↓reduceIte, simprocAttr, xk B23 [3, 2, 2, 2, 2, 2, 2, 2, 1, 2, 1, 2, 2, 2, 2, 1, 2] .sq rfl, show (nav B23 [1, 3, 2, 2, 2, 2, 2, 2, 2, 1, 2, 1, 2, 2, 2, 2, 1, 2]) = Code.region 13 _ false from rfl, hk_23_13, hz_23_13, hs_23_13, show (nav B23 [2, 3, 2, 2, 2, 2, 2, 2, 2, 1, 2, 1, 2, 2, 2, 2, 1, 2]) = Code.region 14 _ false from rfl, hk_23_14, hz_23_14, hs_23_14, xk B23 [4, 2, 2, 2, 2, 2, 2, 2, 1, 2, 1, 2, 2, 2, 2, 1, 2] (.bk 5) rfl, xk B23 [2, 4, 2, 2, 2, 2, 2, 2, 2, 1, 2, 1, 2, 2, 2, 2, 1, 2] .sq rfl, show (nav B23 [1, 2, 4, 2, 2, 2, 2, 2, 2, 2, 1, 2, 1, 2, 2, 2, 2, 1, 2]) = Code.region 15 _ false from rfl, hk_23_15, hz_23_15, hs_23_15, fieldAddrV, u_54, i_54, is_54, ib_54, iz_54, u_24, i_24, is_24, ib_24, iz_24, u_22, i_22, is_22, ib_22, iz_22, indexAddrV, u_44, i_44, is_44, ib_44, iz_44, encT44_eq, u_3, i_3, is_3, ib_3, iz_3, xk B23 [2, 2, 4, 2, 2, 2, 2, 2, 2, 2, 1, 2, 1, 2, 2, 2, 2, 1, 2] .sq rfl, show (nav B23 [1, 2, 2, 4, 2, 2, 2, 2, 2, 2, 2, 1, 2, 1, 2, 2, 2, 2, 1, 2]) = Code.region 16 _ false from rfl, hk_23_16, hz_23_16, hs_23_16, u_67, i_67, is_67, ib_67, iz_67, u_4, i_4, is_4, ib_4, iz_4, h1, h3, h4, h5, h7]
  replace hF := cond_some hF
  rcases hF with ⟨h8, hF⟩ | ⟨h8, hF⟩
  · replace hF := ifE_some.1 hF
    obtain ⟨h9, hF⟩ := hF
    replace hF := ifE_some.1 hF
    obtain ⟨h10, hF⟩ := hF
    cases hF
    simp (maxSteps := 999999) (disch := first | exact D (by decide) | exact K (by kernel_rfl)) only [E, EE, ↓reduceIte, simprocAttr, xk B23 [2, 2, 2, 4, 2, 2, 2, 2, 2, 2, 2, 1, 2, 1, 2, 2, 2, 2, 1, 2] (.cd 87) rfl, show (nav B23 [2, 2, 2, 2, 4, 2, 2, 2, 2, 2, 2, 2, 1, 2, 1, 2, 2, 2, 2, 1, 2]) = Code.region 17 _ false from rfl, hk_23_17, hz_23_17, hs_23_17, indexAddrV, u_60, i_60, is_60, ib_60, iz_60, u_3, i_3, is_3, ib_3, iz_3, u_67, i_67, is_67, ib_67, iz_67, u_4, i_4, is_4, ib_4, iz_4, R999999999_iiy_lpppbirribLbL.st, h1, h3, h4, h5, h7, h8, h9, h10]
  · replace hF := Option.bind_eq_some_iff.1 hF
    obtain ⟨v11, h12, hF⟩ := hF
    simp (maxSteps := 999999) (disch := first | exact D (by decide) | exact K (by kernel_rfl)) only [E, EE, ↓reduceIte, simprocAttr, indexAddrV, u_60, i_60, is_60, ib_60, iz_60, u_3, i_3, is_3, ib_3, iz_3, xk B23 [2, 2, 2, 4, 2, 2, 2, 2, 2, 2, 2, 1, 2, 1, 2, 2, 2, 2, 1, 2] (.cd 87) rfl, h1, h3, h4, h5, h7, h8, h12]
    replace hF := cond_some hF
    rcases hF with ⟨h13, hF⟩ | ⟨h13, hF⟩
    · replace hF := ifE_some.1 hF
      obtain ⟨h14, hF⟩ := hF
      replace hF := ifE_some.1 hF
      obtain ⟨h15, hF⟩ := hF
      cases hF
      simp (maxSteps := 999999) (disch := first | exact D (by decide) | exact K (by kernel_rfl)) only [E, EE, ↓reduceIte, simprocAttr, show (nav B23 [2, 2, 2, 2, 4, 2, 2, 2, 2, 2, 2, 2, 1, 2, 1, 2, 2, 2, 2, 1, 2]) = Code.region 17 _ false from rfl, hk_23_17, hz_23_17, hs_23_17, indexAddrV, u_60, i_60, is_60, ib_60, iz_60, u_3, i_3, is_3, ib_3, iz_3, u_67, i_67, is_67, ib_67, iz_67, u_4, i_4, is_4, ib_4, iz_4, R999999999_iiy_lpppbirribLbL.st, h1, h3, h4, h5, h7, h8, h12, h13, h14, h15]
    · cases hF
      simp (maxSteps := 999999) (disch := first | exact D (by decide) | exact K (by kernel_rfl)) only [E, EE, ↓reduceIte, simprocAttr, xk B23 [3, 2, 2, 2, 4, 2, 2, 2, 2, 2, 2, 2, 1, 2, 1, 2, 2, 2, 2, 1, 2] .sk rfl, R999999999_iiy_lpppbirribLbL.st, h1, h3, h4, h5, h7, h8, h12, h13]
noncomputable def f999999999_iiy_lpppbirribLbL (k : Nat) (a0 a1 e1 : Int) (e1_1 : List T44) (e1_2 : List Int) (e1_3 : Int) (e2 : List Int) (e3 : List Bool) : Option R999999999_iiy_lpppbirribLbL := match k with | 0 => none | k + 1 => f999999999_iiy_lpppbirribLbL_e k a0 a1 e1 e1_1 e1_2 e1_3 e2 e3
theorem f999999999_iiy_lpppbirribLbL_ok (k : Nat) (a0 a1 e1 : Int) (e1_1 : List T44) (e1_2 : List Int) (e1_3 : Int) (e2 : List Int) (e3 : List Bool) (r : R999999999_iiy_lpppbirribLbL) (hF : f999999999_iiy_lpppbirribLbL k a0 a1 e1 e1_1 e1_2 e1_3 e2 e3 = some r) : CV k 999999999 [V.p (Value.int .i64 a0), V.p (Value.int .i64 a1), V.yld 1000000] [O.lp 23 99 [(4, V.ptr 1000001 0), (10, V.ptr 1000002 0), (11, V.ptr 1000003 0)] [68, 69] (nav B23 [3, 2, 2, 2, 2, 2, 2, 2, 1, 2, 1, 2, 2, 2, 2, 1, 2]) (nav B23 [4, 2, 2, 2, 2, 2, 2, 2, 1, 2, 1, 2, 2, 2, 2, 1, 2]) 0 .norm, O.box 54 [V.p (Value.int .i64 e1), V.sl 6 (rowsOf encT44 e1_1), V.sl 1 (rowsOf (encI .i64) e1_2), V.p (Value.int .i64 e1_3)], O.box 60 (arrC (cI .i64) e2), O.box 67 (arrC cB e3)] = some r.st := by
  cases k with
  | zero => cases hF
  | succ k =>
    unfold CV
    rw [ev_round (id := 1000000) (fn := 23) (n := 99) (ps := [68, 69]) (a := (nav B23 [3, 2, 2, 2, 2, 2, 2, 2, 1, 2, 1, 2, 2, 2, 2, 1, 2])) (b := (nav B23 [4, 2, 2, 2, 2, 2, 2, 2, 1, 2, 1, 2, 2, 2, 2, 1, 2])) rfl rfl rfl rfl rfl (by kernel_rfl) (by kernel_rfl)]
    exact f999999999_iiy_lpppbirribLbL_e_ok k a0 a1 e1 e1_1 e1_2 e1_3 e2 e3 r hF
-- f29_yppp_lpppbirribLbLbirribibi: f29 (heliograph/plan.search).from$1
inductive R29_yppp_lpppbirribLbLbirribibi where
  | o0 (y : Int) (y_1 : List T44) (y_2 : List Int) (y_3 : Int) (y_4 : List Int) (y_5 : List Bool) (y_6 : Int) (y_7 : List T44) (y_8 : List Int) (y_9 y_10 y_11 : Int)
noncomputable def R29_yppp_lpppbirribLbLbirribibi.st : R29_yppp_lpppbirribLbLbirribibi → V × List O × List O
  | .o0 y y_1 y_2 y_3 y_4 y_5 y_6 y_7 y_8 y_9 y_10 y_11 => (V.tup [], [O.lp 23 99 [(4, V.ptr 1000001 0), (10, V.ptr 1000002 0), (11, V.ptr 1000003 0)] [68, 69] (nav B23 [3, 2, 2, 2, 2, 2, 2, 2, 1, 2, 1, 2, 2, 2, 2, 1, 2]) (nav B23 [4, 2, 2, 2, 2, 2, 2, 2, 1, 2, 1, 2, 2, 2, 2, 1, 2]) 0 .norm, O.box 54 [V.p (Value.int .i64 y), V.sl 6 (rowsOf encT44 y_1), V.sl 1 (rowsOf (encI .i64) y_2), V.p (Value.int .i64 y_3)], O.box 60 (arrC (cI .i64) y_4), O.box 67 (arrC cB y_5), O.box 54 [V.p (Value.int .i64 y_6), V.sl 6 (rowsOf encT44 y_7), V.sl 1 (rowsOf (encI .i64) y_8), V.p (Value.int .i64 y_9)], O.box 3 [V.p (Value.int .i64 y_10)], O.box 3 [V.p (Value.int .i64 y_11)]], [])
inductive R29_yppp_lpppbirribLbLbirribibi_l1 where
  | o0 (y : List T44) (y_1 y_2 y_3 : Int) (y_4 : List T44) (y_5 : List Int) (y_6 : Int) (y_7 : List Int) (y_8 : List Bool) (y_9 : Int) (y_10 : List T44) (y_11 : List Int) (y_12 y_13 y_14 : Int)
  | o1 (y : List T44) (y_1 y_2 : Int) (y_3 : Bool) (y_4 : Int) (y_5 : List T44) (y_6 : List Int) (y_7 : Int) (y_8 : List Int) (y_9 : List Bool) (y_10 : Int) (y_11 : List T44) (y_12 : List Int) (y_13 y_14 y_15 : Int)
noncomputable def R29_yppp_lpppbirribLbLbirribibi_l1.st : R29_yppp_lpppbirribLbLbirribibi_l1 → Out × St
  | .o0 y y_1 y_2 y_3 y_4 y_5 y_6 y_7 y_8 y_9 y_10 y_11 y_12 y_13 y_14 => (.norm, ({ n := 51, F := [(0, V.yld 1000000), (1, V.ptr 1000004 0), (2, V.ptr 1000005 0), (3, V.ptr 1000006 0), (9, V.sl 6 (rowsOf encT44 y)), (10, V.p (Value.int .i64 y_1)), (11, V.p (Value.int .i64 y_2))], M := [(1000000, O.lp 23 99 [(4, V.ptr 1000001 0), (10, V.ptr 1000002 0), (11, V.ptr 1000003 0)] [68, 69] (nav B23 [3, 2, 2, 2, 2, 2, 2, 2, 1, 2, 1, 2, 2, 2, 2, 1, 2]) (nav B23 [4, 2, 2, 2, 2, 2, 2, 2, 1, 2, 1, 2, 2, 2, 2, 1, 2]) 0 .norm), (1000001, O.box 54 [V.p (Value.int .i64 y_3), V.sl 6 (rowsOf encT44 y_4), V.sl 1 (rowsOf (encI .i64) y_5), V.p (Value.int .i64 y_6)]), (1000002, O.box 60 (arrC (cI .i64) y_7)), (1000003, O.box 67 (arrC cB y_8)), (1000004, O.box 54 [V.p (Value.int .i64 y_9), V.sl 6 (rowsOf encT44 y_10), V.sl 1 (rowsOf (encI .i64) y_11), V.p (Value.int .i64 y_12)]), (1000005, O.box 3 [V.p (Value.int .i64 y_13)]), (1000006, O.box 3 [V.p (Value.int .i64 y_14)])] } : St))
  | .o1 y y_1 y_2 y_3 y_4 y_5 y_6 y_7 y_8 y_9 y_10 y_11 y_12 y_13 y_14 y_15 => (.exit 0, ({ n := 51, F := [(0, V.yld 1000000), (1, V.ptr 1000004 0), (2, V.ptr 1000005 0), (3, V.ptr 1000006 0), (9, V.sl 6 (rowsOf encT44 y)), (10, V.p (Value.int .i64 y_1)), (11, V.p (Value.int .i64 y_2)), (12, V.p (Value.bool y_3))], M := [(1000000, O.lp 23 99 [(4, V.ptr 1000001 0), (10, V.ptr 1000002 0), (11, V.ptr 1000003 0)] [68, 69] (nav B23 [3, 2, 2, 2, 2, 2, 2, 2, 1, 2, 1, 2, 2, 2, 2, 1, 2]) (nav B23 [4, 2, 2, 2, 2, 2, 2, 2, 1, 2, 1, 2, 2, 2, 2, 1, 2]) 0 .norm), (1000001, O.box 54 [V.p (Value.int .i64 y_4), V.sl 6 (rowsOf encT44 y_5), V.sl 1 (rowsOf (encI .i64) y_6), V.p (Value.int .i64 y_7)]), (1000002, O.box 60 (arrC (cI .i64) y_8)), (1000003, O.box 67 (arrC cB y_9)), (1000004, O.box 54 [V.p (Value.int .i64 y_10), V.sl 6 (rowsOf encT44 y_11), V.sl 1 (rowsOf (encI .i64) y_12), V.p (Value.int .i64 y_13)]), (1000005, O.box 3 [V.p (Value.int .i64 y_14)]), (1000006, O.box 3 [V.p (Value.int .i64 y_15)])] } : St))
noncomputable def f29_yppp_lpppbirribLbLbirribibi_l1_j2 (k : Nat) (x9 : List T44) (x10 x11 : Int) (x49 : Bool) (e1 : Int) (e1_1 : List T44) (e1_2 : List Int) (e1_3 : Int) (e2 : List Int) (e3 : List Bool) (e4 : Int) (e4_1 : List T44) (e4_2 : List Int) (e4_3 e5 e6 : Int) : Option R29_yppp_lpppbirribLbLbirribibi_l1 :=
  some (R29_yppp_lpppbirribLbLbirribibi_l1.o0 x9 x10 (IntKind.i64.wrap (x11 + (1 : Int))) e1 e1_1 e1_2 e1_3 e2 e3 e4 e4_1 e4_2 e4_3 e5 e6)
theorem f29_yppp_lpppbirribLbLbirribibi_l1_j2_ok (k : Nat) (x9 : List T44) (x10 x11 : Int) (x49 : Bool) (e1 : Int) (e1_1 : List T44) (e1_2 : List Int) (e1_3 : Int) (e2 : List Int) (e3 : List Bool) (e4 : Int) (e4_1 : List T44) (e4_2 : List Int) (e4_3 e5 e6 : Int) (r : R29_yppp_lpppbirribLbLbirribibi_l1) (hF : f29_yppp_lpppbirribLbLbirribibi_l1_j2 k x9 x10 x11 x49 e1 e1_1 e1_2 e1_3 e2 e3 e4 e4_1 e4_2 e4_3 e5 e6 = some r) : EX 29 k (nav B29 [2, 2, 2, 1, 2, 2]) ({ n := 51, F := [(0, V.yld 1000000), (1, V.ptr 1000004 0), (2, V.ptr 1000005 0), (3, V.ptr 1000006 0), (9, V.sl 6 (rowsOf encT44 x9)), (10, V.p (Value.int .i64 x10)), (11, V.p (Value.int .i64 x11)), (49, V.p (Value.bool x49))], M := [(1000000, O.lp 23 99 [(4, V.ptr 1000001 0), (10, V.ptr 1000002 0), (11, V.ptr 1000003 0)] [68, 69] (nav B23 [3, 2, 2, 2, 2, 2, 2, 2, 1, 2, 1, 2, 2, 2, 2, 1, 2]) (nav B23 [4, 2, 2, 2, 2, 2, 2, 2, 1, 2, 1, 2, 2, 2, 2, 1, 2]) 0 .norm), (1000001, O.box 54 [V.p (Value.int .i64 e1), V.sl 6 (rowsOf encT44 e1_1), V.sl 1 (rowsOf (encI .i64) e1_2), V.p (Value.int .i64 e1_3)]), (1000002, O.box 60 (arrC (cI .i64) e2)), (1000003, O.box 67 (arrC cB e3)), (1000004, O.box 54 [V.p (Value.int .i64 e4), V.sl 6 (rowsOf encT44 e4_1), V.sl 1 (rowsOf (encI .i64) e4_2), V.p (Value.int .i64 e4_3)]), (1000005, O.box 3 [V.p (Value.int .i64 e5)]), (1000006, O.box 3 [V.p (Value.int .i64 e6)])] } : St) = some r.st := by
  unfold f29_yppp_lpppbirribLbLbirribibi_l1_j2 at hF
  cases hF
  simp (maxSteps := 999999) (disch := first | exact D (by decide) | exact K (by kernel_rfl)) only [E, EE, ↓reduceIte, simprocAttr, show (nav B29 [2, 2, 2, 1, 2, 2]) = Code.region 4 _ false from rfl, hk_29_4, hz_29_4, hs_29_4, R29_yppp_lpppbirribLbLbirribibi_l1.st]
noncomputable def f29_yppp_lpppbirribLbLbirribibi_l1_j1 (k : Nat) (x9 : List T44) (x10 x11 : Int) (x12 : Bool) (e1 : Int) (e1_1 : List T44) (e1_2 : List Int) (e1_3 : Int) (e2 : List Int) (e3 : List Bool) (e4 : Int) (e4_1 : List T44) (e4_2 : List Int) (e4_3 e5 e6 : Int) : Option R29_yppp_lpppbirribLbLbirribibi_l1 :=
  ifE ((0 : Int) ≤ x11) (
    Option.bind (x9[(Int.toNat x11)]?) fun v2 =>
      cond ((v2.From == e5))
        (
          Option.bind (e4_2[(Int.toNat x11)]?) fun v5 =>
            cond ((decide (e4_3 ≤ v5)))
              (
                cond ((decide (e6 < v2.End)))
                  (
                    Option.bind (f999999999_iiy_lpppbirribLbL k x11 ((IntKind.i64.wrap ((IntKind.i64.wrap ((if v2.Start > e6 then v2.Start else e6) + v2.Delay)) + (1 : Int)))) e1 e1_1 e1_2 e1_3 e2 e3) fun o9 =>
                      match o9 with
                      | .o0 v12 v13 v14 v15 v16 v17 =>
                        f29_yppp_lpppbirribLbLbirribibi_l1_j2 k x9 x10 x11 false v12 v13 v14 v15 v16 v17 e4 e4_1 e4_2 e4_3 e5 e6)
                  (f29_yppp_lpppbirribLbLbirribibi_l1_j2 k x9 x10 x11 false e1 e1_1 e1_2 e1_3 e2 e3 e4 e4_1 e4_2 e4_3 e5 e6))
              (f29_yppp_lpppbirribLbLbirribibi_l1_j2 k x9 x10 x11 false e1 e1_1 e1_2 e1_3 e2 e3 e4 e4_1 e4_2 e4_3 e5 e6))
        (f29_yppp_lpppbirribLbLbirribibi_l1_j2 k x9 x10 x11 false e1 e1_1 e1_2 e1_3 e2 e3 e4 e4_1 e4_2 e4_3 e5 e6))
theorem f29_yppp_lpppbirribLbLbirribibi_l1_j1_ok (k : Nat) (x9 : List T44) (x10 x11 : Int) (x12 : Bool) (e1 : Int) (e1_1 : List T44) (e1_2 : List Int) (e1_3 : Int) (e2 : List Int) (e3 : List Bool) (e4 : Int) (e4_1 : List T44) (e4_2 : List Int) (e4_3 e5 e6 : Int) (r : R29_yppp_lpppbirribLbLbirribibi_l1) (hF : f29_yppp_lpppbirribLbLbirribibi_l1_j1 k x9 x10 x11 x12 e1 e1_1 e1_2 e1_3 e2 e3 e4 e4_1 e4_2 e4_3 e5 e6 = some r) : EX 29 k (nav B29 [2, 2, 1, 2, 2]) ({ n := 51, F := [(0, V.yld 1000000), (1, V.ptr 1000004 0), (2, V.ptr 1000005 0), (3, V.ptr 1000006 0), (9, V.sl 6 (rowsOf encT44 x9)), (10, V.p (Value.int .i64 x10)), (11, V.p (Value.int .i64 x11)), (12, V.p (Value.bool x12))], M := [(1000000, O.lp 23 99 [(4, V.ptr 1000001 0), (10, V.ptr 1000002 0), (11, V.ptr 1000003 0)] [68, 69] (nav B23 [3, 2, 2, 2, 2, 2, 2, 2, 1, 2, 1, 2, 2, 2, 2, 1, 2]) (nav B23 [4, 2, 2, 2, 2, 2, 2, 2, 1, 2, 1, 2, 2, 2, 2, 1, 2]) 0 .norm), (1000001, O.box 54 [V.p (Value.int .i64 e1), V.sl 6 (rowsOf encT44 e1_1), V.sl 1 (rowsOf (encI .i64) e1_2), V.p (Value.int .i64 e1_3)]), (1000002, O.box 60 (arrC (cI .i64) e2)), (1000003, O.box 67 (arrC cB e3)), (1000004, O.box 54 [V.p (Value.int .i64 e4), V.sl 6 (rowsOf encT44 e4_1), V.sl 1 (rowsOf (encI .i64) e4_2), V.p (Value.int .i64 e4_3)]), (1000005, O.box 3 [V.p (Value.int .i64 e5)]), (1000006, O.box 3 [V.p (Value.int .i64 e6)])] } : St) = some r.st := by
  unfold f29_yppp_lpppbirribLbLbirribibi_l1_j1 at hF
  replace hF := ifE_some.1 hF
  obtain ⟨h1, hF⟩ := hF
  replace hF := Option.bind_eq_some_iff.1 hF
  obtain ⟨v2, h3, hF⟩ := hF
  simp (maxSteps := 999999) (disch := first | exact D (by decide) | exact K (by kernel_rfl)) only [E, EE, ↓reduceIte, simprocAttr, xk B29 [2, 2, 1, 2, 2] .sq rfl, xk B29 [1, 2, 2, 1, 2, 2] (.bk 1) rfl, xk B29 [2, 1, 2, 2, 1, 2, 2] .sq rfl, show (nav B29 [1, 2, 1, 2, 2, 1, 2, 2]) = Code.region 2 _ false from rfl, hk_29_2, hz_29_2, hs_29_2, indexAddrV, u_22, i_22, is_22, ib_22, iz_22, u_44, i_44, is_44, ib_44, iz_44, encT44_eq, xk B29 [2, 2, 1, 2, 2, 1, 2, 2] .sq rfl, show (nav B29 [1, 2, 2, 1, 2, 2, 1, 2, 2]) = Code.region 3 _ true from rfl, hk_29_3, hz_29_3, hs_29_3, fieldAddrV, u_3, i_3, is_3, ib_3, iz_3, h1, h3]
  replace hF := cond_some hF
  rcases hF with ⟨h4, hF⟩ | ⟨h4, hF⟩
  · replace hF := Option.bind_eq_some_iff.1 hF
    obtain ⟨v5, h6, hF⟩ := hF
    simp (maxSteps := 999999) (disch := first | exact D (by decide) | exact K (by kernel_rfl)) only [E, EE, ↓reduceIte, simprocAttr, fieldAddrV, u_54, i_54, is_54, ib_54, iz_54, u_3, i_3, is_3, ib_3, iz_3, u_25, i_25, is_25, ib_25, iz_25, indexAddrV, encI_eq, h1, h3, h4, h6]
    replace hF := cond_some hF
    rcases hF with ⟨h7, hF⟩ | ⟨h7, hF⟩
    · simp (maxSteps := 999999) (disch := first | exact D (by decide) | exact K (by kernel_rfl)) only [E, EE, ↓reduceIte, simprocAttr, u_3, i_3, is_3, ib_3, iz_3, fieldAddrV, u_44, i_44, is_44, ib_44, iz_44, h1, h3, h4, h6, h7]
      replace hF := cond_some hF
      rcases hF with ⟨h8, hF⟩ | ⟨h8, hF⟩
      · replace hF := Option.bind_eq_some_iff.1 hF
        obtain ⟨o9, h10, hF⟩ := hF
        have hc11 := f999999999_iiy_lpppbirribLbL_ok k x11 ((IntKind.i64.wrap ((IntKind.i64.wrap ((if v2.Start > e6 then v2.Start else e6) + v2.Delay)) + (1 : Int)))) e1 e1_1 e1_2 e1_3 e2 e3 _ h10
        cases o9 with
        | o0 v12 v13 v14 v15 v16 v17 =>
          (try dsimp only at hF)
          (try simp only [NM, EE, R999999999_iiy_lpppbirribLbL.st] at hc11)
          have hJ := f29_yppp_lpppbirribLbLbirribibi_l1_j2_ok k x9 x10 x11 false v12 v13 v14 v15 v16 v17 e4 e4_1 e4_2 e4_3 e5 e6 _ hF
          simp (maxSteps := 999999) (disch := first | exact D (by decide) | exact K (by kernel_rfl)) only [E, EE, ↓reduceIte, simprocAttr, u_3, i_3, is_3, ib_3, iz_3, fieldAddrV, u_44, i_44, is_44, ib_44, iz_44, minmaxV, minmaxGo, callStep, CL, gv, List.contains, xk B29 [2, 2, 2, 1, 2, 2, 1, 2, 2] (.cd 49) rfl, xk B29 [3, 2, 2, 2, 1, 2, 2, 1, 2, 2] .sk rfl, h1, h3, h4, h6, h7, h8, hc11]
          try simp only [NM, EE] at hJ
          exact hJ
      · have hJ := f29_yppp_lpppbirribLbLbirribibi_l1_j2_ok k x9 x10 x11 false e1 e1_1 e1_2 e1_3 e2 e3 e4 e4_1 e4_2 e4_3 e5 e6 _ hF
        simp (maxSteps := 999999) (disch := first | exact D (by decide) | exact K (by kernel_rfl)) only [E, EE, ↓reduceIte, simprocAttr, xk B29 [2, 2, 2, 1, 2, 2, 1, 2, 2] (.cd 49) rfl, xk B29 [3, 2, 2, 2, 1, 2, 2, 1, 2, 2] .sk rfl, h1, h3, h4, h6, h7, h8]
        try simp only [NM, EE] at hJ
        exact hJ
    · have hJ := f29_yppp_lpppbirribLbLbirribibi_l1_j2_ok k x9 x10 x11 false e1 e1_1 e1_2 e1_3 e2 e3 e4 e4_1 e4_2 e4_3 e5 e6 _ hF
      simp (maxSteps := 999999) (disch := first | exact D (by decide) | exact K (by kernel_rfl)) only [E, EE, ↓reduceIte, simprocAttr, xk B29 [2, 2, 2, 1, 2, 2, 1, 2, 2] (.cd 49) rfl, xk B29 [3, 2, 2, 2, 1, 2, 2, 1, 2, 2] .sk rfl, h1, h3, h4, h6, h7]
      try simp only [NM, EE] at hJ
      exact hJ
  · have hJ := f29_yppp_lpppbirribLbLbirribibi_l1_j2_ok k x9 x10 x11 false e1 e1_1 e1_2 e1_3 e2 e3 e4 e4_1 e4_2 e4_3 e5 e6 _ hF
    simp (maxSteps := 999999) (disch := first | exact D (by decide) | exact K (by kernel_rfl)) only [E, EE, ↓reduceIte, simprocAttr, xk B29 [2, 2, 2, 1, 2, 2, 1, 2, 2] (.cd 49) rfl, xk B29 [3, 2, 2, 2, 1, 2, 2, 1, 2, 2] .sk rfl, h1, h3, h4]
    try simp only [NM, EE] at hJ
    exact hJ
noncomputable def f29_yppp_lpppbirribLbLbirribibi_l1_b (k : Nat) (x9 : List T44) (x10 x11 e1 : Int) (e1_1 : List T44) (e1_2 : List Int) (e1_3 : Int) (e2 : List Int) (e3 : List Bool) (e4 : Int) (e4_1 : List T44) (e4_2 : List Int) (e4_3 e5 e6 : Int) : Option R29_yppp_lpppbirribLbLbirribibi_l1 :=
  cond ((decide (x11 < x10)))
    (f29_yppp_lpppbirribLbLbirribibi_l1_j1 k x9 x10 x11 true e1 e1_1 e1_2 e1_3 e2 e3 e4 e4_1 e4_2 e4_3 e5 e6)
    (some (R29_yppp_lpppbirribLbLbirribibi_l1.o1 x9 x10 x11 false e1 e1_1 e1_2 e1_3 e2 e3 e4 e4_1 e4_2 e4_3 e5 e6))
theorem f29_yppp_lpppbirribLbLbirribibi_l1_b_ok (k : Nat) (x9 : List T44) (x10 x11 e1 : Int) (e1_1 : List T44) (e1_2 : List Int) (e1_3 : Int) (e2 : List Int) (e3 : List Bool) (e4 : Int) (e4_1 : List T44) (e4_2 : List Int) (e4_3 e5 e6 : Int) (r : R29_yppp_lpppbirribLbLbirribibi_l1) (hF : f29_yppp_lpppbirribLbLbirribibi_l1_b k x9 x10 x11 e1 e1_1 e1_2 e1_3 e2 e3 e4 e4_1 e4_2 e4_3 e5 e6 = some r) : EX 29 k (nav B29 [1, 2, 2]) ({ n := 51, F := [(0, V.yld 1000000), (1, V.ptr 1000004 0), (2, V.ptr 1000005 0), (3, V.ptr 1000006 0), (9, V.sl 6 (rowsOf encT44 x9)), (10, V.p (Value.int .i64 x10)), (11, V.p (Value.int .i64 x11))], M := [(1000000, O.lp 23 99 [(4, V.ptr 1000001 0), (10, V.ptr 1000002 0), (11, V.ptr 1000003 0)] [68, 69] (nav B23 [3, 2, 2, 2, 2, 2, 2, 2, 1, 2, 1, 2, 2, 2, 2, 1, 2]) (nav B23 [4, 2, 2, 2, 2, 2, 2, 2, 1, 2, 1, 2, 2, 2, 2, 1, 2]) 0 .norm), (1000001, O.box 54 [V.p (Value.int .i64 e1), V.sl 6 (rowsOf encT44 e1_1), V.sl 1 (rowsOf (encI .i64) e1_2), V.p (Value.int .i64 e1_3)]), (1000002, O.box 60 (arrC (cI .i64) e2)), (1000003, O.box 67 (arrC cB e3)), (1000004, O.box 54 [V.p (Value.int .i64 e4), V.sl 6 (rowsOf encT44 e4_1), V.sl 1 (rowsOf (encI .i64) e4_2), V.p (Value.int .i64 e4_3)]), (1000005, O.box 3 [V.p (Value.int .i64 e5)]), (1000006, O.box 3 [V.p (Value.int .i64 e6)])] } : St) = some r.st := by
  unfold f29_yppp_lpppbirribLbLbirribibi_l1_b at hF
  simp (maxSteps := 999999) (disch := first | exact D (by decide) | exact K (by kernel_rfl)) only [E, EE, ↓reduceIte, simprocAttr, xk B29 [1, 2, 2] .sq rfl, show (nav B29 [1, 1, 2, 2]) = Code.region 1 _ false from rfl, hk_29_1, hz_29_1, hs_29_1, xk B29 [2, 1, 2, 2] .sq rfl, xk B29 [1, 2, 1, 2, 2] (.cd 12) rfl]
  replace hF := cond_some hF
  rcases hF with ⟨h1, hF⟩ | ⟨h1, hF⟩
  · have hJ := f29_yppp_lpppbirribLbLbirribibi_l1_j1_ok k x9 x10 x11 true e1 e1_1 e1_2 e1_3 e2 e3 e4 e4_1 e4_2 e4_3 e5 e6 _ hF
    simp (maxSteps := 999999) (disch := first | exact D (by decide) | exact K (by kernel_rfl)) only [E, EE, ↓reduceIte, simprocAttr, xk B29 [2, 1, 2, 1, 2, 2] .sk rfl, h1]
    try simp only [NM, EE] at hJ
    exact hJ
  · cases hF
    simp (maxSteps := 999999) (disch := first | exact D (by decide) | exact K (by kernel_rfl)) only [E, EE, ↓reduceIte, simprocAttr, xk B29 [3, 1, 2, 1, 2, 2] (.ex 0) rfl, R29_yppp_lpppbirribLbLbirribibi_l1.st, h1]
noncomputable def f29_yppp_lpppbirribLbLbirribibi_l1 (k : Nat) : Nat → (List T44) → Int → Int → Int → (List T44) → (List Int) → Int → (List Int) → (List Bool) → Int → (List T44) → (List Int) → Int → Int → Int → Option R29_yppp_lpppbirribLbLbirribibi_l1
  | 0, _, _, _, _, _, _, _, _, _, _, _, _, _, _, _ => none
  | n + 1, x9, x10, x11, e1, e1_1, e1_2, e1_3, e2, e3, e4, e4_1, e4_2, e4_3, e5, e6 => Option.bind (f29_yppp_lpppbirribLbLbirribibi_l1_b k x9 x10 x11 e1 e1_1 e1_2 e1_3 e2 e3 e4 e4_1 e4_2 e4_3 e5 e6) fun o =>
    match o with
    | .o0 y y_1 y_2 y_3 y_4 y_5 y_6 y_7 y_8 y_9 y_10 y_11 y_12 y_13 y_14 => f29_yppp_lpppbirribLbLbirribibi_l1 k n y y_1 y_2 y_3 y_4 y_5 y_6 y_7 y_8 y_9 y_10 y_11 y_12 y_13 y_14
    | .o1 y y_1 y_2 y_3 y_4 y_5 y_6 y_7 y_8 y_9 y_10 y_11 y_12 y_13 y_14 y_15 => some (.o1 y y_1 y_2 y_3 y_4 y_5 y_6 y_7 y_8 y_9 y_10 y_11 y_12 y_13 y_14 y_15)
theorem f29_yppp_lpppbirribLbLbirribibi_l1_ok (k n : Nat) : ∀ (x9 : List T44) (x10 x11 e1 : Int) (e1_1 : List T44) (e1_2 : List Int) (e1_3 : Int) (e2 : List Int) (e3 : List Bool) (e4 : Int) (e4_1 : List T44) (e4_2 : List Int) (e4_3 e5 e6 : Int) (r : R29_yppp_lpppbirribLbLbirribibi_l1) (hF : f29_yppp_lpppbirribLbLbirribibi_l1 k n x9 x10 x11 e1 e1_1 e1_2 e1_3 e2 e3 e4 e4_1 e4_2 e4_3 e5 e6 = some r) (σ : St) (hσ : headR (hints.head 29 1) (hints.canon 29 1) σ = some ({ n := 51, F := [(0, V.yld 1000000), (1, V.ptr 1000004 0), (2, V.ptr 1000005 0), (3, V.ptr 1000006 0), (9, V.sl 6 (rowsOf encT44 x9)), (10, V.p (Value.int .i64 x10)), (11, V.p (Value.int .i64 x11))], M := [(1000000, O.lp 23 99 [(4, V.ptr 1000001 0), (10, V.ptr 1000002 0), (11, V.ptr 1000003 0)] [68, 69] (nav B23 [3, 2, 2, 2, 2, 2, 2, 2, 1, 2, 1, 2, 2, 2, 2, 1, 2]) (nav B23 [4, 2, 2, 2, 2, 2, 2, 2, 1, 2, 1, 2, 2, 2, 2, 1, 2]) 0 .norm), (1000001, O.box 54 [V.p (Value.int .i64 e1), V.sl 6 (rowsOf encT44 e1_1), V.sl 1 (rowsOf (encI .i64) e1_2), V.p (Value.int .i64 e1_3)]), (1000002, O.box 60 (arrC (cI .i64) e2)), (1000003, O.box 67 (arrC cB e3)), (1000004, O.box 54 [V.p (Value.int .i64 e4), V.sl 6 (rowsOf encT44 e4_1), V.sl 1 (rowsOf (encI .i64) e4_2), V.p (Value.int .i64 e4_3)]), (1000005, O.box 3 [V.p (Value.int .i64 e5)]), (1000006, O.box 3 [V.p (Value.int .i64 e6)])] } : St)), LP 29 k (nav B29 [1, 2, 2]) n σ = some r.st := by
  induction n with
  | zero => intro x9 x10 x11 e1 e1_1 e1_2 e1_3 e2 e3 e4 e4_1 e4_2 e4_3 e5 e6 r hF; cases hF
  | succ n ih =>
    intro x9 x10 x11 e1 e1_1 e1_2 e1_3 e2 e3 e4 e4_1 e4_2 e4_3 e5 e6 r hF σ hσ
    rw [f29_yppp_lpppbirribLbLbirribibi_l1] at hF
    obtain ⟨o, h, hF⟩ := Option.bind_eq_some_iff.1 hF
    have hB := f29_yppp_lpppbirribLbLbirribibi_l1_b_ok k x9 x10 x11 e1 e1_1 e1_2 e1_3 e2 e3 e4 e4_1 e4_2 e4_3 e5 e6 o h
    unfold LP at ih ⊢
    unfold EX at hB
    rw [loopK_succ, show firstReg (nav B29 [1, 2, 2]) = 1 from rfl, hσ, headK_some, hB]
    cases o with
    | o0 y y_1 y_2 y_3 y_4 y_5 y_6 y_7 y_8 y_9 y_10 y_11 y_12 y_13 y_14 =>
      refine ih y y_1 y_2 y_3 y_4 y_5 y_6 y_7 y_8 y_9 y_10 y_11 y_12 y_13 y_14 r hF _ ?_
      simp (maxSteps := 999999) (disch := first | exact D (by decide) | exact K (by kernel_rfl)) only [E, EE, ↓reduceIte, simprocAttr, hh_29_1, hc_29_1]
    | o1 y y_1 y_2 y_3 y_4 y_5 y_6 y_7 y_8 y_9 y_10 y_11 y_12 y_13 y_14 y_15 => cases hF; rfl
noncomputable def f29_yppp_lpppbirribLbLbirribibi_e (k : Nat) (e1 : Int) (e1_1 : List T44) (e1_2 : List Int) (e1_3 : Int) (e2 : List Int) (e3 : List Bool) (e4 : Int) (e4_1 : List T44) (e4_2 : List Int) (e4_3 e5 e6 : Int) : Option R29_yppp_lpppbirribLbLbirribibi :=
  Option.bind (f29_yppp_lpppbirribLbLbirribibi_l1 k k e4_1 ((List.length e4_1) : Int) 0 e1 e1_1 e1_2 e1_3 e2 e3 e4 e4_1 e4_2 e4_3 e5 e6) fun o1 =>
    match o1 with
    | .o0 _ _ _ _ _ _ _ _ _ _ _ _ _ _ _ =>
      none
    | .o1 v4 v5 v6 v7 v8 v9 v10 v11 v12 v13 v14 v15 v16 v17 v18 v19 =>
      some (R29_yppp_lpppbirribLbLbirribibi.o0 v8 v9 v10 v11 v12 v13 v14 v15 v16 v17 v18 v19)
theorem f29_yppp_lpppbirribLbLbirribibi_e_ok (k : Nat) (e1 : Int) (e1_1 : List T44) (e1_2 : List Int) (e1_3 : Int) (e2 : List Int) (e3 : List Bool) (e4 : Int) (e4_1 : List T44) (e4_2 : List Int) (e4_3 e5 e6 : Int) (r : R29_yppp_lpppbirribLbLbirribibi) (hF : f29_yppp_lpppbirribLbLbirribibi_e k e1 e1_1 e1_2 e1_3 e2 e3 e4 e4_1 e4_2 e4_3 e5 e6 = some r) : finK Try.prog Try.f29 7 (EX 29 k (nav B29 []) ({ n := 51, F := [(0, V.yld 1000000), (1, V.ptr 1000004 0), (2, V.ptr 1000005 0), (3, V.ptr 1000006 0)], M := [(1000000, O.lp 23 99 [(4, V.ptr 1000001 0), (10, V.ptr 1000002 0), (11, V.ptr 1000003 0)] [68, 69] (nav B23 [3, 2, 2, 2, 2, 2, 2, 2, 1, 2, 1, 2, 2, 2, 2, 1, 2]) (nav B23 [4, 2, 2, 2, 2, 2, 2, 2, 1, 2, 1, 2, 2, 2, 2, 1, 2]) 0 .norm), (1000001, O.box 54 [V.p (Value.int .i64 e1), V.sl 6 (rowsOf encT44 e1_1), V.sl 1 (rowsOf (encI .i64) e1_2), V.p (Value.int .i64 e1_3)]), (1000002, O.box 60 (arrC (cI .i64) e2)), (1000003, O.box 67 (arrC cB e3)), (1000004, O.box 54 [V.p (Value.int .i64 e4), V.sl 6 (rowsOf encT44 e4_1), V.sl 1 (rowsOf (encI .i64) e4_2), V.p (Value.int .i64 e4_3)]), (1000005, O.box 3 [V.p (Value.int .i64 e5)]), (1000006, O.box 3 [V.p (Value.int .i64 e6)])] } : St)) = some r.st := by
  unfold f29_yppp_lpppbirribLbLbirribibi_e at hF
  replace hF := Option.bind_eq_some_iff.1 hF
  obtain ⟨o1, h2, hF⟩ := hF
  have hc3 := f29_yppp_lpppbirribLbLbirribibi_l1_ok k k e4_1 ((List.length e4_1) : Int) 0 e1 e1_1 e1_2 e1_3 e2 e3 e4 e4_1 e4_2 e4_3 e5 e6 _ h2
  simp (maxSteps := 999999) (disch := first | exact D (by decide) | exact K (by kernel_rfl)) only [E, EE, ↓reduceIte, simprocAttr, xk B29 [] .sq rfl, show (nav B29 [1]) = Code.region 0 _ false from rfl, hk_29_0, hz_29_0, hs_29_0, fieldAddrV, u_54, i_54, is_54, ib_54, iz_54, u_24, i_24, is_24, ib_24, iz_24, u_22, i_22, is_22, ib_22, iz_22, xk B29 [2] (.bk 0) rfl, xk B29 [2, 2] .lp rfl, hh_29_1, hc_29_1]
  (try simp only [NM, EE] at hc3)
  rw [hc3 _ (by simp (maxSteps := 999999) (disch := first | exact D (by decide) | exact K (by kernel_rfl)) only [E, EE, ↓reduceIte, simprocAttr, hh_29_1, hc_29_1])]
  clear hc3
  cases o1 with
  | o0 _ _ _ _ _ _ _ _ _ _ _ _ _ _ _ =>
    (try dsimp only at hF)
    cases hF
  | o1 v4 v5 v6 v7 v8 v9 v10 v11 v12 v13 v14 v15 v16 v17 v18 v19 =>
    (try dsimp only at hF)
    cases hF
    simp (maxSteps := 999999) (disch := first | exact D (by decide) | exact K (by kernel_rfl)) only [E, EE, ↓reduceIte, simprocAttr, R29_yppp_lpppbirribLbLbirribibi_l1.st, finK_norm, finK_ret, fin29, R29_yppp_lpppbirribLbLbirribibi.st]
noncomputable def f29_yppp_lpppbirribLbLbirribibi (k : Nat) (e1 : Int) (e1_1 : List T44) (e1_2 : List Int) (e1_3 : Int) (e2 : List Int) (e3 : List Bool) (e4 : Int) (e4_1 : List T44) (e4_2 : List Int) (e4_3 e5 e6 : Int) : Option R29_yppp_lpppbirribLbLbirribibi := match k with | 0 => none | k + 1 => f29_yppp_lpppbirribLbLbirribibi_e k e1 e1_1 e1_2 e1_3 e2 e3 e4 e4_1 e4_2 e4_3 e5 e6
theorem f29_yppp_lpppbirribLbLbirribibi_ok (k : Nat) (e1 : Int) (e1_1 : List T44) (e1_2 : List Int) (e1_3 : Int) (e2 : List Int) (e3 : List Bool) (e4 : Int) (e4_1 : List T44) (e4_2 : List Int) (e4_3 e5 e6 : Int) (r : R29_yppp_lpppbirribLbLbirribibi) (hF : f29_yppp_lpppbirribLbLbirribibi k e1 e1_1 e1_2 e1_3 e2 e3 e4 e4_1 e4_2 e4_3 e5 e6 = some r) : CV k 29 [V.yld 1000000, V.ptr 1000004 0, V.ptr 1000005 0, V.ptr 1000006 0] [O.lp 23 99 [(4, V.ptr 1000001 0), (10, V.ptr 1000002 0), (11, V.ptr 1000003 0)] [68, 69] (nav B23 [3, 2, 2, 2, 2, 2, 2, 2, 1, 2, 1, 2, 2, 2, 2, 1, 2]) (nav B23 [4, 2, 2, 2, 2, 2, 2, 2, 1, 2, 1, 2, 2, 2, 2, 1, 2]) 0 .norm, O.box 54 [V.p (Value.int .i64 e1), V.sl 6 (rowsOf encT44 e1_1), V.sl 1 (rowsOf (encI .i64) e1_2), V.p (Value.int .i64 e1_3)], O.box 60 (arrC (cI .i64) e2), O.box 67 (arrC cB e3), O.box 54 [V.p (Value.int .i64 e4), V.sl 6 (rowsOf encT44 e4_1), V.sl 1 (rowsOf (encI .i64) e4_2), V.p (Value.int .i64 e4_3)], O.box 3 [V.p (Value.int .i64 e5)], O.box 3 [V.p (Value.int .i64 e6)]] = some r.st := by
  cases k with
  | zero => cases hF
  | succ k =>
    unfold CV
    rw [ev_call (F := Try.f29) (c := (nav B29 [])) rfl Try.func29 rfl rfl rfl rfl]
    exact f29_yppp_lpppbirribLbLbirribibi_e_ok k e1 e1_1 e1_2 e1_3 e2 e3 e4 e4_1 e4_2 e4_3 e5 e6 r hF
end Go.Proofs.YtmogplhglcodjaaV
