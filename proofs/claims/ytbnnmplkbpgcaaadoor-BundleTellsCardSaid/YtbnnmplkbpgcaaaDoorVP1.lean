/- What the program's functions answer: plain functions, and that the interpreter answers what they do. Written by a program of this session, out of the translation. -/
import Derived.Test.YtbnnmplkbpgcaaaDoorVPC
namespace Go.Proofs.YtbnnmplkbpgcaaaDoorV
open Go
set_option linter.unusedVariables false
set_option linter.unusedSimpArgs false
set_option maxRecDepth 8000
set_option maxHeartbeats 4000000
-- f9_: f9 heliograph/heliographlaw09.wakes
inductive R9_ where
  | o0 (y : Bool)
noncomputable def R9_.st : R9_ → V × List O × List O
  | .o0 y => (V.p (Value.bool y), [], [])
noncomputable def f9_ (k : Nat) : Option R9_ := ifE (200 ≤ k) (some (.o0 true))
theorem f9__ok (k : Nat) (r : R9_) (hF : f9_ k = some r) : CV k 9 [] [] = some r.st := by
  obtain ⟨h, hF⟩ := ifE_some.1 hF
  cases hF
  exact callV_le h wakes
-- f43_rr: f43 slices.Equal[[]byte,byte]
inductive R43_rr where
  | o0 (y : Bool)
noncomputable def R43_rr.st : R43_rr → V × List O × List O
  | .o0 y => (V.p (Value.bool y), [], [])
inductive R43_rr_l2 where
  | o0 (y : Bool)
  | o1 (y y_1 : List Int) (y_2 y_3 : Int)
  | o2 (y y_1 : List Int) (y_2 y_3 : Int) (y_4 : Bool)
noncomputable def R43_rr_l2.st : R43_rr_l2 → Out × St
  | .o0 y => (.ret, ({ n := 26, F := [(4, V.p (Value.bool y))], M := [] } : St))
  | .o1 y y_1 y_2 y_3 => (.norm, ({ n := 26, F := [(0, V.sl 1 (rowsOf (encI .u8) y)), (1, V.sl 1 (rowsOf (encI .u8) y_1)), (12, V.p (Value.int .i64 y_2)), (13, V.p (Value.int .i64 y_3))], M := [] } : St))
  | .o2 y y_1 y_2 y_3 y_4 => (.exit 0, ({ n := 26, F := [(0, V.sl 1 (rowsOf (encI .u8) y)), (1, V.sl 1 (rowsOf (encI .u8) y_1)), (12, V.p (Value.int .i64 y_2)), (13, V.p (Value.int .i64 y_3)), (14, V.p (Value.bool y_4))], M := [] } : St))
noncomputable def f43_rr_l2_j2 (k : Nat) (x0 x1 : List Int) (x12 x13 : Int) (x24 : Bool) : Option R43_rr_l2 :=
  some (R43_rr_l2.o1 x0 x1 x12 (IntKind.i64.wrap (x13 + (1 : Int))))
theorem f43_rr_l2_j2_ok (k : Nat) (x0 x1 : List Int) (x12 x13 : Int) (x24 : Bool) (r : R43_rr_l2) (hF : f43_rr_l2_j2 k x0 x1 x12 x13 x24 = some r) : EX 43 k (nav B43 [2, 2, 2, 1, 2, 2, 1, 2, 2]) ({ n := 26, F := [(0, V.sl 1 (rowsOf (encI .u8) x0)), (1, V.sl 1 (rowsOf (encI .u8) x1)), (12, V.p (Value.int .i64 x12)), (13, V.p (Value.int .i64 x13)), (24, V.p (Value.bool x24))], M := [] } : St) = some r.st := by
  unfold f43_rr_l2_j2 at hF
  cases hF
  simp (maxSteps := 999999) (disch := first | exact D (by decide) | exact K (by kernel_rfl)) only [E, EE, ↓reduceIte, simprocAttr, show (nav B43 [2, 2, 2, 1, 2, 2, 1, 2, 2]) = Code.region 8 _ false from rfl, hk_43_8, hz_43_8, hs_43_8, R43_rr_l2.st]
noncomputable def f43_rr_l2_j1 (k : Nat) (x0 x1 : List Int) (x12 x13 : Int) (x14 : Bool) : Option R43_rr_l2 :=
  ifE ((0 : Int) ≤ x13) (
    Option.bind (x0[(Int.toNat x13)]?) fun v2 =>
      Option.bind (x1[(Int.toNat x13)]?) fun v4 =>
        cond ((v2 != v4))
          (some (R43_rr_l2.o0 false))
          (f43_rr_l2_j2 k x0 x1 x12 x13 false))
theorem f43_rr_l2_j1_ok (k : Nat) (x0 x1 : List Int) (x12 x13 : Int) (x14 : Bool) (r : R43_rr_l2) (hF : f43_rr_l2_j1 k x0 x1 x12 x13 x14 = some r) : EX 43 k (nav B43 [2, 2, 1, 2, 2, 1, 2, 2]) ({ n := 26, F := [(0, V.sl 1 (rowsOf (encI .u8) x0)), (1, V.sl 1 (rowsOf (encI .u8) x1)), (12, V.p (Value.int .i64 x12)), (13, V.p (Value.int .i64 x13)), (14, V.p (Value.bool x14))], M := [] } : St) = some r.st := by
  unfold f43_rr_l2_j1 at hF
  replace hF := ifE_some.1 hF
  obtain ⟨h1, hF⟩ := hF
  replace hF := Option.bind_eq_some_iff.1 hF
  obtain ⟨v2, h3, hF⟩ := hF
  replace hF := Option.bind_eq_some_iff.1 hF
  obtain ⟨v4, h5, hF⟩ := hF
  simp (maxSteps := 999999) (disch := first | exact D (by decide) | exact K (by kernel_rfl)) only [E, EE, ↓reduceIte, simprocAttr, xk B43 [2, 2, 1, 2, 2, 1, 2, 2] .sq rfl, xk B43 [1, 2, 2, 1, 2, 2, 1, 2, 2] (.bk 1) rfl, xk B43 [2, 1, 2, 2, 1, 2, 2, 1, 2, 2] .sq rfl, show (nav B43 [1, 2, 1, 2, 2, 1, 2, 2, 1, 2, 2]) = Code.region 5 _ false from rfl, hk_43_5, hz_43_5, hs_43_5, xk B43 [2, 2, 1, 2, 2, 1, 2, 2, 1, 2, 2] .sq rfl, show (nav B43 [1, 2, 2, 1, 2, 2, 1, 2, 2, 1, 2, 2]) = Code.region 6 _ true from rfl, hk_43_6, hz_43_6, hs_43_6, indexAddrV, u_22, i_22, is_22, ib_22, iz_22, u_5, i_5, is_5, ib_5, iz_5, encI_eq, xk B43 [2, 2, 2, 1, 2, 2, 1, 2, 2, 1, 2, 2] (.cd 24) rfl, h1, h3, h5]
  replace hF := cond_some hF
  rcases hF with ⟨h6, hF⟩ | ⟨h6, hF⟩
  · cases hF
    simp (maxSteps := 999999) (disch := first | exact D (by decide) | exact K (by kernel_rfl)) only [E, EE, ↓reduceIte, simprocAttr, xk B43 [2, 2, 2, 2, 1, 2, 2, 1, 2, 2, 1, 2, 2] .sq rfl, show (nav B43 [1, 2, 2, 2, 2, 1, 2, 2, 1, 2, 2, 1, 2, 2]) = Code.region 7 _ false from rfl, hk_43_7, hz_43_7, hs_43_7, xk B43 [2, 2, 2, 2, 2, 1, 2, 2, 1, 2, 2, 1, 2, 2] .rt rfl, R43_rr_l2.st, h1, h3, h5, h6]
  · have hJ := f43_rr_l2_j2_ok k x0 x1 x12 x13 false _ hF
    simp (maxSteps := 999999) (disch := first | exact D (by decide) | exact K (by kernel_rfl)) only [E, EE, ↓reduceIte, simprocAttr, xk B43 [3, 2, 2, 2, 1, 2, 2, 1, 2, 2, 1, 2, 2] .sk rfl, h1, h3, h5, h6]
    try simp only [NM, EE] at hJ
    exact hJ
noncomputable def f43_rr_l2_b (k : Nat) (x0 x1 : List Int) (x12 x13 : Int) : Option R43_rr_l2 :=
  cond ((decide (x13 < x12)))
    (f43_rr_l2_j1 k x0 x1 x12 x13 true)
    (some (R43_rr_l2.o2 x0 x1 x12 x13 false))
theorem f43_rr_l2_b_ok (k : Nat) (x0 x1 : List Int) (x12 x13 : Int) (r : R43_rr_l2) (hF : f43_rr_l2_b k x0 x1 x12 x13 = some r) : EX 43 k (nav B43 [1, 2, 2, 1, 2, 2]) ({ n := 26, F := [(0, V.sl 1 (rowsOf (encI .u8) x0)), (1, V.sl 1 (rowsOf (encI .u8) x1)), (12, V.p (Value.int .i64 x12)), (13, V.p (Value.int .i64 x13))], M := [] } : St) = some r.st := by
  unfold f43_rr_l2_b at hF
  simp (maxSteps := 999999) (disch := first | exact D (by decide) | exact K (by kernel_rfl)) only [E, EE, ↓reduceIte, simprocAttr, xk B43 [1, 2, 2, 1, 2, 2] .sq rfl, show (nav B43 [1, 1, 2, 2, 1, 2, 2]) = Code.region 4 _ false from rfl, hk_43_4, hz_43_4, hs_43_4, xk B43 [2, 1, 2, 2, 1, 2, 2] .sq rfl, xk B43 [1, 2, 1, 2, 2, 1, 2, 2] (.cd 14) rfl]
  replace hF := cond_some hF
  rcases hF with ⟨h1, hF⟩ | ⟨h1, hF⟩
  · have hJ := f43_rr_l2_j1_ok k x0 x1 x12 x13 true _ hF
    simp (maxSteps := 999999) (disch := first | exact D (by decide) | exact K (by kernel_rfl)) only [E, EE, ↓reduceIte, simprocAttr, xk B43 [2, 1, 2, 1, 2, 2, 1, 2, 2] .sk rfl, h1]
    try simp only [NM, EE] at hJ
    exact hJ
  · cases hF
    simp (maxSteps := 999999) (disch := first | exact D (by decide) | exact K (by kernel_rfl)) only [E, EE, ↓reduceIte, simprocAttr, xk B43 [3, 1, 2, 1, 2, 2, 1, 2, 2] (.ex 0) rfl, R43_rr_l2.st, h1]
noncomputable def f43_rr_l2 (k : Nat) : Nat → (List Int) → (List Int) → Int → Int → Option R43_rr_l2
  | 0, _, _, _, _ => none
  | n + 1, x0, x1, x12, x13 => Option.bind (f43_rr_l2_b k x0 x1 x12 x13) fun o =>
    match o with
    | .o0 y => some (.o0 y)
    | .o1 y y_1 y_2 y_3 => f43_rr_l2 k n y y_1 y_2 y_3
    | .o2 y y_1 y_2 y_3 y_4 => some (.o2 y y_1 y_2 y_3 y_4)
theorem f43_rr_l2_ok (k n : Nat) : ∀ (x0 x1 : List Int) (x12 x13 : Int) (r : R43_rr_l2) (hF : f43_rr_l2 k n x0 x1 x12 x13 = some r) (σ : St) (hσ : headR (hints.head 43 4) (hints.canon 43 4) σ = some ({ n := 26, F := [(0, V.sl 1 (rowsOf (encI .u8) x0)), (1, V.sl 1 (rowsOf (encI .u8) x1)), (12, V.p (Value.int .i64 x12)), (13, V.p (Value.int .i64 x13))], M := [] } : St)), LP 43 k (nav B43 [1, 2, 2, 1, 2, 2]) n σ = some r.st := by
  induction n with
  | zero => intro x0 x1 x12 x13 r hF; cases hF
  | succ n ih =>
    intro x0 x1 x12 x13 r hF σ hσ
    rw [f43_rr_l2] at hF
    obtain ⟨o, h, hF⟩ := Option.bind_eq_some_iff.1 hF
    have hB := f43_rr_l2_b_ok k x0 x1 x12 x13 o h
    unfold LP at ih ⊢
    unfold EX at hB
    rw [loopK_succ, show firstReg (nav B43 [1, 2, 2, 1, 2, 2]) = 4 from rfl, hσ, headK_some, hB]
    cases o with
    | o0 y => cases hF; rfl
    | o1 y y_1 y_2 y_3 =>
      refine ih y y_1 y_2 y_3 r hF _ ?_
      simp (maxSteps := 999999) (disch := first | exact D (by decide) | exact K (by kernel_rfl)) only [E, EE, ↓reduceIte, simprocAttr, hh_43_4, hc_43_4]
    | o2 y y_1 y_2 y_3 y_4 => cases hF; rfl
noncomputable def f43_rr_j3 (k : Nat) (x0 x1 : List Int) (x12 x13 : Int) (x14 : Bool) : Option R43_rr :=
  some (R43_rr.o0 true)
theorem f43_rr_j3_ok (k : Nat) (x0 x1 : List Int) (x12 x13 : Int) (x14 : Bool) (r : R43_rr) (hF : f43_rr_j3 k x0 x1 x12 x13 x14 = some r) : finK Tryd.prog Tryd.f43 0 (EX 43 k (nav B43 [2, 2, 2]) ({ n := 26, F := [(0, V.sl 1 (rowsOf (encI .u8) x0)), (1, V.sl 1 (rowsOf (encI .u8) x1)), (12, V.p (Value.int .i64 x12)), (13, V.p (Value.int .i64 x13)), (14, V.p (Value.bool x14))], M := [] } : St)) = some r.st := by
  unfold f43_rr_j3 at hF
  cases hF
  simp (maxSteps := 999999) (disch := first | exact D (by decide) | exact K (by kernel_rfl)) only [E, EE, ↓reduceIte, simprocAttr, xk B43 [2, 2, 2] .sq rfl, show (nav B43 [1, 2, 2, 2]) = Code.region 9 _ false from rfl, hk_43_9, hz_43_9, hs_43_9, xk B43 [2, 2, 2, 2] .rt rfl, finK_norm, finK_ret, fin43, R43_rr.st]
noncomputable def f43_rr_j1 (k : Nat) (x0 x1 : List Int) (x10 : Bool) : Option R43_rr :=
  Option.bind (f43_rr_l2 k k x0 x1 ((List.length x0) : Int) 0) fun o1 =>
    match o1 with
    | .o0 v4 =>
      some (R43_rr.o0 v4)
    | .o1 _ _ _ _ =>
      none
    | .o2 v5 v6 v7 v8 v9 =>
      f43_rr_j3 k v5 v6 v7 v8 v9
theorem f43_rr_j1_ok (k : Nat) (x0 x1 : List Int) (x10 : Bool) (r : R43_rr) (hF : f43_rr_j1 k x0 x1 x10 = some r) : finK Tryd.prog Tryd.f43 0 (EX 43 k (nav B43 [2, 2]) ({ n := 26, F := [(0, V.sl 1 (rowsOf (encI .u8) x0)), (1, V.sl 1 (rowsOf (encI .u8) x1)), (10, V.p (Value.bool x10))], M := [] } : St)) = some r.st := by
  unfold f43_rr_j1 at hF
  replace hF := Option.bind_eq_some_iff.1 hF
  obtain ⟨o1, h2, hF⟩ := hF
  have hc3 := f43_rr_l2_ok k k x0 x1 ((List.length x0) : Int) 0 _ h2
  simp (maxSteps := 999999) (disch := first | exact D (by decide) | exact K (by kernel_rfl)) only [E, EE, ↓reduceIte, simprocAttr, xk B43 [2, 2] .sq rfl, xk B43 [1, 2, 2] .sq rfl, show (nav B43 [1, 1, 2, 2]) = Code.region 3 _ false from rfl, hk_43_3, hz_43_3, hs_43_3, u_22, i_22, is_22, ib_22, iz_22, xk B43 [2, 1, 2, 2] (.bk 0) rfl, xk B43 [2, 2, 1, 2, 2] .lp rfl, hh_43_4, hc_43_4]
  (try simp only [NM, EE] at hc3)
  rw [hc3 _ (by simp (maxSteps := 999999) (disch := first | exact D (by decide) | exact K (by kernel_rfl)) only [E, EE, ↓reduceIte, simprocAttr, hh_43_4, hc_43_4])]
  clear hc3
  cases o1 with
  | o0 v4 =>
    (try dsimp only at hF)
    cases hF
    simp (maxSteps := 999999) (disch := first | exact D (by decide) | exact K (by kernel_rfl)) only [E, EE, ↓reduceIte, simprocAttr, R43_rr_l2.st, finK_norm, finK_ret, fin43, R43_rr.st]
  | o1 _ _ _ _ =>
    (try dsimp only at hF)
    cases hF
  | o2 v5 v6 v7 v8 v9 =>
    (try dsimp only at hF)
    have hJ := f43_rr_j3_ok k v5 v6 v7 v8 v9 _ hF
    simp (maxSteps := 999999) (disch := first | exact D (by decide) | exact K (by kernel_rfl)) only [E, EE, ↓reduceIte, simprocAttr, R43_rr_l2.st]
    try simp only [NM, EE] at hJ
    exact hJ
noncomputable def f43_rr_e (k : Nat) (a0 a1 : List Int) : Option R43_rr :=
  cond ((((List.length a0) : Int) != ((List.length a1) : Int)))
    (some (R43_rr.o0 false))
    (f43_rr_j1 k a0 a1 false)
theorem f43_rr_e_ok (k : Nat) (a0 a1 : List Int) (r : R43_rr) (hF : f43_rr_e k a0 a1 = some r) : finK Tryd.prog Tryd.f43 0 (EX 43 k (nav B43 []) ({ n := 26, F := [(0, V.sl 1 (rowsOf (encI .u8) a0)), (1, V.sl 1 (rowsOf (encI .u8) a1))], M := [] } : St)) = some r.st := by
  unfold f43_rr_e at hF
  simp (maxSteps := 999999) (disch := first | exact D (by decide) | exact K (by kernel_rfl)) only [E, EE, ↓reduceIte, simprocAttr, xk B43 [] .sq rfl, show (nav B43 [1]) = Code.region 0 _ false from rfl, hk_43_0, hz_43_0, hs_43_0, xk B43 [2] .sq rfl, xk B43 [1, 2] .sq rfl, show (nav B43 [1, 1, 2]) = Code.region 1 _ false from rfl, hk_43_1, hz_43_1, hs_43_1, u_22, i_22, is_22, ib_22, iz_22, xk B43 [2, 1, 2] (.cd 10) rfl]
  replace hF := cond_some hF
  rcases hF with ⟨h1, hF⟩ | ⟨h1, hF⟩
  · cases hF
    simp (maxSteps := 999999) (disch := first | exact D (by decide) | exact K (by kernel_rfl)) only [E, EE, ↓reduceIte, simprocAttr, xk B43 [2, 2, 1, 2] .sq rfl, show (nav B43 [1, 2, 2, 1, 2]) = Code.region 2 _ false from rfl, hk_43_2, hz_43_2, hs_43_2, xk B43 [2, 2, 2, 1, 2] .rt rfl, finK_norm, finK_ret, fin43, R43_rr.st, h1]
  · have hJ := f43_rr_j1_ok k a0 a1 false _ hF
    simp (maxSteps := 999999) (disch := first | exact D (by decide) | exact K (by kernel_rfl)) only [E, EE, ↓reduceIte, simprocAttr, xk B43 [3, 2, 1, 2] .sk rfl, h1]
    try simp only [NM, EE] at hJ
    exact hJ
noncomputable def f43_rr (k : Nat) (a0 a1 : List Int) : Option R43_rr := match k with | 0 => none | k + 1 => f43_rr_e k a0 a1
theorem f43_rr_ok (k : Nat) (a0 a1 : List Int) (r : R43_rr) (hF : f43_rr k a0 a1 = some r) : CV k 43 [V.sl 1 (rowsOf (encI .u8) a0), V.sl 1 (rowsOf (encI .u8) a1)] [] = some r.st := by
  cases k with
  | zero => cases hF
  | succ k =>
    unfold CV
    rw [ev_call (F := Tryd.f43) (c := (nav B43 [])) rfl Tryd.func43 rfl rfl rfl rfl]
    exact f43_rr_e_ok k a0 a1 r hF
-- f21_rr: f21 heliograph/octet.Equal
inductive R21_rr where
  | o0 (y : Bool)
noncomputable def R21_rr.st : R21_rr → V × List O × List O
  | .o0 y => (V.p (Value.bool y), [], [])
noncomputable def f21_rr_e (k : Nat) (a0 a1 : List Int) : Option R21_rr :=
  Option.bind (f43_rr k a0 a1) fun o1 =>
    match o1 with
    | .o0 v4 =>
      some (R21_rr.o0 v4)
theorem f21_rr_e_ok (k : Nat) (a0 a1 : List Int) (r : R21_rr) (hF : f21_rr_e k a0 a1 = some r) : finK Tryd.prog Tryd.f21 0 (EX 21 k (nav B21 []) ({ n := 8, F := [(0, V.sl 1 (rowsOf (encI .u8) a0)), (1, V.sl 1 (rowsOf (encI .u8) a1))], M := [] } : St)) = some r.st := by
  unfold f21_rr_e at hF
  replace hF := Option.bind_eq_some_iff.1 hF
  obtain ⟨o1, h2, hF⟩ := hF
  have hc3 := f43_rr_ok k a0 a1 _ h2
  cases o1 with
  | o0 v4 =>
    (try dsimp only at hF)
    (try simp only [NM, EE, R43_rr.st] at hc3)
    cases hF
    simp (maxSteps := 999999) (disch := first | exact D (by decide) | exact K (by kernel_rfl)) only [E, EE, ↓reduceIte, simprocAttr, xk B21 [] .sq rfl, show (nav B21 [1]) = Code.region 0 _ false from rfl, hk_21_0, hz_21_0, hs_21_0, xk B21 [2] .sq rfl, show (nav B21 [1, 2]) = Code.region 1 _ false from rfl, hk_21_1, hz_21_1, hs_21_1, callStep, CL, gv, List.contains, xk B21 [2, 2] .rt rfl, finK_norm, finK_ret, fin21, R21_rr.st, hc3]
noncomputable def f21_rr (k : Nat) (a0 a1 : List Int) : Option R21_rr := match k with | 0 => none | k + 1 => f21_rr_e k a0 a1
theorem f21_rr_ok (k : Nat) (a0 a1 : List Int) (r : R21_rr) (hF : f21_rr k a0 a1 = some r) : CV k 21 [V.sl 1 (rowsOf (encI .u8) a0), V.sl 1 (rowsOf (encI .u8) a1)] [] = some r.st := by
  cases k with
  | zero => cases hF
  | succ k =>
    unfold CV
    rw [ev_call (F := Tryd.f21) (c := (nav B21 [])) rfl Tryd.func21 rfl rfl rfl rfl]
    exact f21_rr_e_ok k a0 a1 r hF
-- f59_ai10rz: f59 heliograph/bundle.same$1
inductive R59_ai10rz where
  | o0 (y y_1 y_2 y_3 y_4 y_5 y_6 y_7 y_8 y_9 : Int)
noncomputable def R59_ai10rz.st : R59_ai10rz → V × List O × List O
  | .o0 y y_1 y_2 y_3 y_4 y_5 y_6 y_7 y_8 y_9 => (V.agg [V.p (Value.int .i64 y), V.p (Value.int .i64 y_1), V.p (Value.int .i64 y_2), V.p (Value.int .i64 y_3), V.p (Value.int .i64 y_4), V.p (Value.int .i64 y_5), V.p (Value.int .i64 y_6), V.p (Value.int .i64 y_7), V.p (Value.int .i64 y_8), V.p (Value.int .u32 y_9)], [], [])
noncomputable def f59_ai10rz_e (k : Nat) (a0 a0_1 a0_2 a0_3 a0_4 a0_5 a0_6 a0_7 a0_8 a0_9 : Int) (a0_10 : List Int) : Option R59_ai10rz :=
  some (R59_ai10rz.o0 a0 a0_1 a0_3 a0_4 a0_5 a0_6 a0_7 a0_8 a0_9 a0_2)
theorem f59_ai10rz_e_ok (k : Nat) (a0 a0_1 a0_2 a0_3 a0_4 a0_5 a0_6 a0_7 a0_8 a0_9 : Int) (a0_10 : List Int) (r : R59_ai10rz) (hF : f59_ai10rz_e k a0 a0_1 a0_2 a0_3 a0_4 a0_5 a0_6 a0_7 a0_8 a0_9 a0_10 = some r) : finK Tryd.prog Tryd.f59 0 (EX 59 k (nav B59 []) ({ n := 24, F := [(0, V.agg [V.p (Value.int .i64 a0), V.p (Value.int .i64 a0_1), V.p (Value.int .u32 a0_2), V.p (Value.int .i64 a0_3), V.p (Value.int .i64 a0_4), V.p (Value.int .i64 a0_5), V.p (Value.int .i64 a0_6), V.p (Value.int .i64 a0_7), V.p (Value.int .i64 a0_8), V.p (Value.int .i64 a0_9), V.sl 1 (rowsOf (encI .u8) a0_10)])], M := [] } : St)) = some r.st := by
  unfold f59_ai10rz_e at hF
  cases hF
  simp (maxSteps := 999999) (disch := first | exact D (by decide) | exact K (by kernel_rfl)) only [E, EE, ↓reduceIte, simprocAttr, xk B59 [] .sq rfl, show (nav B59 [1]) = Code.region 0 _ false from rfl, hk_59_0, hz_59_0, hs_59_0, u_86, i_86, is_86, ib_86, iz_86, xk B59 [2] .sq rfl, show (nav B59 [1, 2]) = Code.region 1 _ false from rfl, hk_59_1, hz_59_1, hs_59_1, fieldAddrV, u_26, i_26, is_26, ib_26, iz_26, u_3, i_3, is_3, ib_3, iz_3, u_24, i_24, is_24, ib_24, iz_24, bl_86, xk B59 [2, 2] .rt rfl, finK_norm, finK_ret, fin59, R59_ai10rz.st]
noncomputable def f59_ai10rz (k : Nat) (a0 a0_1 a0_2 a0_3 a0_4 a0_5 a0_6 a0_7 a0_8 a0_9 : Int) (a0_10 : List Int) : Option R59_ai10rz := match k with | 0 => none | k + 1 => f59_ai10rz_e k a0 a0_1 a0_2 a0_3 a0_4 a0_5 a0_6 a0_7 a0_8 a0_9 a0_10
theorem f59_ai10rz_ok (k : Nat) (a0 a0_1 a0_2 a0_3 a0_4 a0_5 a0_6 a0_7 a0_8 a0_9 : Int) (a0_10 : List Int) (r : R59_ai10rz) (hF : f59_ai10rz k a0 a0_1 a0_2 a0_3 a0_4 a0_5 a0_6 a0_7 a0_8 a0_9 a0_10 = some r) : CV k 59 [V.agg [V.p (Value.int .i64 a0), V.p (Value.int .i64 a0_1), V.p (Value.int .u32 a0_2), V.p (Value.int .i64 a0_3), V.p (Value.int .i64 a0_4), V.p (Value.int .i64 a0_5), V.p (Value.int .i64 a0_6), V.p (Value.int .i64 a0_7), V.p (Value.int .i64 a0_8), V.p (Value.int .i64 a0_9), V.sl 1 (rowsOf (encI .u8) a0_10)]] [] = some r.st := by
  cases k with
  | zero => cases hF
  | succ k =>
    unfold CV
    rw [ev_call (F := Tryd.f59) (c := (nav B59 [])) rfl Tryd.func59 rfl rfl rfl rfl]
    exact f59_ai10rz_e_ok k a0 a0_1 a0_2 a0_3 a0_4 a0_5 a0_6 a0_7 a0_8 a0_9 a0_10 r hF
-- f42_ai10rzai10rz: f42 heliograph/bundle.same
inductive R42_ai10rzai10rz where
  | o0 (y : Bool)
noncomputable def R42_ai10rzai10rz.st : R42_ai10rzai10rz → V × List O × List O
  | .o0 y => (V.p (Value.bool y), [], [])
noncomputable def f42_ai10rzai10rz_e (k : Nat) (a0 a0_1 a0_2 a0_3 a0_4 a0_5 a0_6 a0_7 a0_8 a0_9 : Int) (a0_10 : List Int) (a1 a1_1 a1_2 a1_3 a1_4 a1_5 a1_6 a1_7 a1_8 a1_9 : Int) (a1_10 : List Int) : Option R42_ai10rzai10rz :=
  Option.bind (f59_ai10rz k a0 a0_1 a0_2 a0_3 a0_4 a0_5 a0_6 a0_7 a0_8 a0_9 a0_10) fun o1 =>
    match o1 with
    | .o0 v4 v5 v6 v7 v8 v9 v10 v11 v12 v13 =>
      Option.bind (f59_ai10rz k a1 a1_1 a1_2 a1_3 a1_4 a1_5 a1_6 a1_7 a1_8 a1_9 a1_10) fun o14 =>
        match o14 with
        | .o0 v17 v18 v19 v20 v21 v22 v23 v24 v25 v26 =>
          some (R42_ai10rzai10rz.o0 (((v4 == v17) && ((v5 == v18) && ((v6 == v19) && ((v7 == v20) && ((v8 == v21) && ((v9 == v22) && ((v10 == v23) && ((v11 == v24) && ((v12 == v25) && (v13 == v26))))))))))))
theorem f42_ai10rzai10rz_e_ok (k : Nat) (a0 a0_1 a0_2 a0_3 a0_4 a0_5 a0_6 a0_7 a0_8 a0_9 : Int) (a0_10 : List Int) (a1 a1_1 a1_2 a1_3 a1_4 a1_5 a1_6 a1_7 a1_8 a1_9 : Int) (a1_10 : List Int) (r : R42_ai10rzai10rz) (hF : f42_ai10rzai10rz_e k a0 a0_1 a0_2 a0_3 a0_4 a0_5 a0_6 a0_7 a0_8 a0_9 a0_10 a1 a1_1 a1_2 a1_3 a1_4 a1_5 a1_6 a1_7 a1_8 a1_9 a1_10 = some r) : finK Tryd.prog Tryd.f42 0 (EX 42 k (nav B42 []) ({ n := 13, F := [(0, V.agg [V.p (Value.int .i64 a0), V.p (Value.int .i64 a0_1), V.p (Value.int .u32 a0_2), V.p (Value.int .i64 a0_3), V.p (Value.int .i64 a0_4), V.p (Value.int .i64 a0_5), V.p (Value.int .i64 a0_6), V.p (Value.int .i64 a0_7), V.p (Value.int .i64 a0_8), V.p (Value.int .i64 a0_9), V.sl 1 (rowsOf (encI .u8) a0_10)]), (1, V.agg [V.p (Value.int .i64 a1), V.p (Value.int .i64 a1_1), V.p (Value.int .u32 a1_2), V.p (Value.int .i64 a1_3), V.p (Value.int .i64 a1_4), V.p (Value.int .i64 a1_5), V.p (Value.int .i64 a1_6), V.p (Value.int .i64 a1_7), V.p (Value.int .i64 a1_8), V.p (Value.int .i64 a1_9), V.sl 1 (rowsOf (encI .u8) a1_10)])], M := [] } : St)) = some r.st := by
  unfold f42_ai10rzai10rz_e at hF
  replace hF := Option.bind_eq_some_iff.1 hF
  obtain ⟨o1, h2, hF⟩ := hF
  have hc3 := f59_ai10rz_ok k a0 a0_1 a0_2 a0_3 a0_4 a0_5 a0_6 a0_7 a0_8 a0_9 a0_10 _ h2
  cases o1 with
  | o0 v4 v5 v6 v7 v8 v9 v10 v11 v12 v13 =>
    (try dsimp only at hF)
    (try simp only [NM, EE, R59_ai10rz.st] at hc3)
    replace hF := Option.bind_eq_some_iff.1 hF
    obtain ⟨o14, h15, hF⟩ := hF
    have hc16 := f59_ai10rz_ok k a1 a1_1 a1_2 a1_3 a1_4 a1_5 a1_6 a1_7 a1_8 a1_9 a1_10 _ h15
    cases o14 with
    | o0 v17 v18 v19 v20 v21 v22 v23 v24 v25 v26 =>
      (try dsimp only at hF)
      (try simp only [NM, EE, R59_ai10rz.st] at hc16)
      cases hF
      simp (maxSteps := 999999) (disch := first | exact D (by decide) | exact K (by kernel_rfl)) only [E, EE, ↓reduceIte, simprocAttr, xk B42 [] .sq rfl, show (nav B42 [1]) = Code.region 0 _ false from rfl, hk_42_0, hz_42_0, hs_42_0, xk B42 [2] .sq rfl, show (nav B42 [1, 2]) = Code.region 1 _ false from rfl, hk_42_1, hz_42_1, hs_42_1, xk B42 [2, 2] .sq rfl, show (nav B42 [1, 2, 2]) = Code.region 2 _ true from rfl, hk_42_2, hz_42_2, hs_42_2, u_26, i_26, is_26, ib_26, iz_26, callStep, CL, gv, List.contains, u_86, i_86, is_86, ib_86, iz_86, ag_86, u_3, i_3, is_3, ib_3, iz_3, u_24, i_24, is_24, ib_24, iz_24, xk B42 [2, 2, 2] .rt rfl, finK_norm, finK_ret, fin42, R42_ai10rzai10rz.st, hc3, hc16]
noncomputable def f42_ai10rzai10rz (k : Nat) (a0 a0_1 a0_2 a0_3 a0_4 a0_5 a0_6 a0_7 a0_8 a0_9 : Int) (a0_10 : List Int) (a1 a1_1 a1_2 a1_3 a1_4 a1_5 a1_6 a1_7 a1_8 a1_9 : Int) (a1_10 : List Int) : Option R42_ai10rzai10rz := match k with | 0 => none | k + 1 => f42_ai10rzai10rz_e k a0 a0_1 a0_2 a0_3 a0_4 a0_5 a0_6 a0_7 a0_8 a0_9 a0_10 a1 a1_1 a1_2 a1_3 a1_4 a1_5 a1_6 a1_7 a1_8 a1_9 a1_10
theorem f42_ai10rzai10rz_ok (k : Nat) (a0 a0_1 a0_2 a0_3 a0_4 a0_5 a0_6 a0_7 a0_8 a0_9 : Int) (a0_10 : List Int) (a1 a1_1 a1_2 a1_3 a1_4 a1_5 a1_6 a1_7 a1_8 a1_9 : Int) (a1_10 : List Int) (r : R42_ai10rzai10rz) (hF : f42_ai10rzai10rz k a0 a0_1 a0_2 a0_3 a0_4 a0_5 a0_6 a0_7 a0_8 a0_9 a0_10 a1 a1_1 a1_2 a1_3 a1_4 a1_5 a1_6 a1_7 a1_8 a1_9 a1_10 = some r) : CV k 42 [V.agg [V.p (Value.int .i64 a0), V.p (Value.int .i64 a0_1), V.p (Value.int .u32 a0_2), V.p (Value.int .i64 a0_3), V.p (Value.int .i64 a0_4), V.p (Value.int .i64 a0_5), V.p (Value.int .i64 a0_6), V.p (Value.int .i64 a0_7), V.p (Value.int .i64 a0_8), V.p (Value.int .i64 a0_9), V.sl 1 (rowsOf (encI .u8) a0_10)], V.agg [V.p (Value.int .i64 a1), V.p (Value.int .i64 a1_1), V.p (Value.int .u32 a1_2), V.p (Value.int .i64 a1_3), V.p (Value.int .i64 a1_4), V.p (Value.int .i64 a1_5), V.p (Value.int .i64 a1_6), V.p (Value.int .i64 a1_7), V.p (Value.int .i64 a1_8), V.p (Value.int .i64 a1_9), V.sl 1 (rowsOf (encI .u8) a1_10)]] [] = some r.st := by
  cases k with
  | zero => cases hF
  | succ k =>
    unfold CV
    rw [ev_call (F := Tryd.f42) (c := (nav B42 [])) rfl Tryd.func42 rfl rfl rfl rfl]
    exact f42_ai10rzai10rz_e_ok k a0 a0_1 a0_2 a0_3 a0_4 a0_5 a0_6 a0_7 a0_8 a0_9 a0_10 a1 a1_1 a1_2 a1_3 a1_4 a1_5 a1_6 a1_7 a1_8 a1_9 a1_10 r hF
-- f20_ai10rzai10rz: f20 heliograph/bundle.Same
inductive R20_ai10rzai10rz where
  | o0 (y : Bool)
noncomputable def R20_ai10rzai10rz.st : R20_ai10rzai10rz → V × List O × List O
  | .o0 y => (V.p (Value.bool y), [], [])
noncomputable def f20_ai10rzai10rz_e (k : Nat) (a0 a0_1 a0_2 a0_3 a0_4 a0_5 a0_6 a0_7 a0_8 a0_9 : Int) (a0_10 : List Int) (a1 a1_1 a1_2 a1_3 a1_4 a1_5 a1_6 a1_7 a1_8 a1_9 : Int) (a1_10 : List Int) : Option R20_ai10rzai10rz :=
  Option.bind (f21_rr k a0_10 a1_10) fun o1 =>
    match o1 with
    | .o0 v4 =>
      cond (v4)
        (
          Option.bind (f42_ai10rzai10rz k a0 a0_1 a0_2 a0_3 a0_4 a0_5 a0_6 a0_7 a0_8 a0_9 [] a1 a1_1 a1_2 a1_3 a1_4 a1_5 a1_6 a1_7 a1_8 a1_9 []) fun o6 =>
            match o6 with
            | .o0 v9 =>
              some (R20_ai10rzai10rz.o0 v9))
        (some (R20_ai10rzai10rz.o0 false))
theorem f20_ai10rzai10rz_e_ok (k : Nat) (a0 a0_1 a0_2 a0_3 a0_4 a0_5 a0_6 a0_7 a0_8 a0_9 : Int) (a0_10 : List Int) (a1 a1_1 a1_2 a1_3 a1_4 a1_5 a1_6 a1_7 a1_8 a1_9 : Int) (a1_10 : List Int) (r : R20_ai10rzai10rz) (hF : f20_ai10rzai10rz_e k a0 a0_1 a0_2 a0_3 a0_4 a0_5 a0_6 a0_7 a0_8 a0_9 a0_10 a1 a1_1 a1_2 a1_3 a1_4 a1_5 a1_6 a1_7 a1_8 a1_9 a1_10 = some r) : finK Tryd.prog Tryd.f20 0 (EX 20 k (nav B20 []) ({ n := 21, F := [(0, V.agg [V.p (Value.int .i64 a0), V.p (Value.int .i64 a0_1), V.p (Value.int .u32 a0_2), V.p (Value.int .i64 a0_3), V.p (Value.int .i64 a0_4), V.p (Value.int .i64 a0_5), V.p (Value.int .i64 a0_6), V.p (Value.int .i64 a0_7), V.p (Value.int .i64 a0_8), V.p (Value.int .i64 a0_9), V.sl 1 (rowsOf (encI .u8) a0_10)]), (1, V.agg [V.p (Value.int .i64 a1), V.p (Value.int .i64 a1_1), V.p (Value.int .u32 a1_2), V.p (Value.int .i64 a1_3), V.p (Value.int .i64 a1_4), V.p (Value.int .i64 a1_5), V.p (Value.int .i64 a1_6), V.p (Value.int .i64 a1_7), V.p (Value.int .i64 a1_8), V.p (Value.int .i64 a1_9), V.sl 1 (rowsOf (encI .u8) a1_10)])], M := [] } : St)) = some r.st := by
  unfold f20_ai10rzai10rz_e at hF
  replace hF := Option.bind_eq_some_iff.1 hF
  obtain ⟨o1, h2, hF⟩ := hF
  have hc3 := f21_rr_ok k a0_10 a1_10 _ h2
  cases o1 with
  | o0 v4 =>
    (try dsimp only at hF)
    (try simp only [NM, EE, R21_rr.st] at hc3)
    simp (maxSteps := 999999) (disch := first | exact D (by decide) | exact K (by kernel_rfl)) only [E, EE, ↓reduceIte, simprocAttr, xk B20 [] .sq rfl, show (nav B20 [1]) = Code.region 0 _ false from rfl, hk_20_0, hz_20_0, hs_20_0, xk B20 [2] .sq rfl, show (nav B20 [1, 2]) = Code.region 1 _ true from rfl, hk_20_1, hz_20_1, hs_20_1, u_26, i_26, is_26, ib_26, iz_26, xk B20 [2, 2] .sq rfl, show (nav B20 [1, 2, 2]) = Code.region 2 _ false from rfl, hk_20_2, hz_20_2, hs_20_2, fieldAddrV, u_22, i_22, is_22, ib_22, iz_22, xk B20 [2, 2, 2] .sq rfl, show (nav B20 [1, 2, 2, 2]) = Code.region 3 _ false from rfl, hk_20_3, hz_20_3, hs_20_3, callStep, CL, gv, List.contains, hc3]
    replace hF := cond_some hF
    rcases hF with ⟨h5, hF⟩ | ⟨h5, hF⟩
    · replace hF := Option.bind_eq_some_iff.1 hF
      obtain ⟨o6, h7, hF⟩ := hF
      have hc8 := f42_ai10rzai10rz_ok k a0 a0_1 a0_2 a0_3 a0_4 a0_5 a0_6 a0_7 a0_8 a0_9 [] a1 a1_1 a1_2 a1_3 a1_4 a1_5 a1_6 a1_7 a1_8 a1_9 [] _ h7
      cases o6 with
      | o0 v9 =>
        (try dsimp only at hF)
        (try simp only [NM, EE, R42_ai10rzai10rz.st] at hc8)
        cases hF
        simp (maxSteps := 999999) (disch := first | exact D (by decide) | exact K (by kernel_rfl)) only [E, EE, ↓reduceIte, simprocAttr, u_26, i_26, is_26, ib_26, iz_26, callStep, CL, gv, List.contains, xk B20 [2, 2, 2, 2] .rt rfl, finK_norm, finK_ret, fin20, R20_ai10rzai10rz.st, hc3, h5, hc8]
    · cases hF
      simp (maxSteps := 999999) (disch := first | exact D (by decide) | exact K (by kernel_rfl)) only [E, EE, ↓reduceIte, simprocAttr, xk B20 [2, 2, 2, 2] .rt rfl, finK_norm, finK_ret, fin20, R20_ai10rzai10rz.st, hc3, h5]
noncomputable def f20_ai10rzai10rz (k : Nat) (a0 a0_1 a0_2 a0_3 a0_4 a0_5 a0_6 a0_7 a0_8 a0_9 : Int) (a0_10 : List Int) (a1 a1_1 a1_2 a1_3 a1_4 a1_5 a1_6 a1_7 a1_8 a1_9 : Int) (a1_10 : List Int) : Option R20_ai10rzai10rz := match k with | 0 => none | k + 1 => f20_ai10rzai10rz_e k a0 a0_1 a0_2 a0_3 a0_4 a0_5 a0_6 a0_7 a0_8 a0_9 a0_10 a1 a1_1 a1_2 a1_3 a1_4 a1_5 a1_6 a1_7 a1_8 a1_9 a1_10
theorem f20_ai10rzai10rz_ok (k : Nat) (a0 a0_1 a0_2 a0_3 a0_4 a0_5 a0_6 a0_7 a0_8 a0_9 : Int) (a0_10 : List Int) (a1 a1_1 a1_2 a1_3 a1_4 a1_5 a1_6 a1_7 a1_8 a1_9 : Int) (a1_10 : List Int) (r : R20_ai10rzai10rz) (hF : f20_ai10rzai10rz k a0 a0_1 a0_2 a0_3 a0_4 a0_5 a0_6 a0_7 a0_8 a0_9 a0_10 a1 a1_1 a1_2 a1_3 a1_4 a1_5 a1_6 a1_7 a1_8 a1_9 a1_10 = some r) : CV k 20 [V.agg [V.p (Value.int .i64 a0), V.p (Value.int .i64 a0_1), V.p (Value.int .u32 a0_2), V.p (Value.int .i64 a0_3), V.p (Value.int .i64 a0_4), V.p (Value.int .i64 a0_5), V.p (Value.int .i64 a0_6), V.p (Value.int .i64 a0_7), V.p (Value.int .i64 a0_8), V.p (Value.int .i64 a0_9), V.sl 1 (rowsOf (encI .u8) a0_10)], V.agg [V.p (Value.int .i64 a1), V.p (Value.int .i64 a1_1), V.p (Value.int .u32 a1_2), V.p (Value.int .i64 a1_3), V.p (Value.int .i64 a1_4), V.p (Value.int .i64 a1_5), V.p (Value.int .i64 a1_6), V.p (Value.int .i64 a1_7), V.p (Value.int .i64 a1_8), V.p (Value.int .i64 a1_9), V.sl 1 (rowsOf (encI .u8) a1_10)]] [] = some r.st := by
  cases k with
  | zero => cases hF
  | succ k =>
    unfold CV
    rw [ev_call (F := Tryd.f20) (c := (nav B20 [])) rfl Tryd.func20 rfl rfl rfl rfl]
    exact f20_ai10rzai10rz_e_ok k a0 a0_1 a0_2 a0_3 a0_4 a0_5 a0_6 a0_7 a0_8 a0_9 a0_10 a1 a1_1 a1_2 a1_3 a1_4 a1_5 a1_6 a1_7 a1_8 a1_9 a1_10 r hF
-- f19_rr: f19 heliograph/heliographref01.Same
inductive R19_rr where
  | o0 (y : Bool)
noncomputable def R19_rr.st : R19_rr → V × List O × List O
  | .o0 y => (V.p (Value.bool y), [], [])
inductive R19_rr_l2 where
  | o0 (y : Bool)
  | o1 (y y_1 : List Int) (y_2 : Int)
  | o2 (y y_1 : List Int) (y_2 : Int) (y_3 : Bool)
noncomputable def R19_rr_l2.st : R19_rr_l2 → Out × St
  | .o0 y => (.ret, ({ n := 26, F := [(4, V.p (Value.bool y))], M := [] } : St))
  | .o1 y y_1 y_2 => (.norm, ({ n := 26, F := [(0, V.sl 1 (rowsOf (encI .u8) y)), (1, V.sl 1 (rowsOf (encI .u8) y_1)), (5, V.p (Value.int .i64 y_2))], M := [] } : St))
  | .o2 y y_1 y_2 y_3 => (.exit 0, ({ n := 26, F := [(0, V.sl 1 (rowsOf (encI .u8) y)), (1, V.sl 1 (rowsOf (encI .u8) y_1)), (5, V.p (Value.int .i64 y_2)), (14, V.p (Value.bool y_3))], M := [] } : St))
noncomputable def f19_rr_l2_j2 (k : Nat) (x0 x1 : List Int) (x5 : Int) (x25 : Bool) : Option R19_rr_l2 :=
  some (R19_rr_l2.o1 x0 x1 (IntKind.i64.wrap (x5 + (1 : Int))))
theorem f19_rr_l2_j2_ok (k : Nat) (x0 x1 : List Int) (x5 : Int) (x25 : Bool) (r : R19_rr_l2) (hF : f19_rr_l2_j2 k x0 x1 x5 x25 = some r) : EX 19 k (nav B19 [2, 2, 1, 2, 2, 1, 2, 2]) ({ n := 26, F := [(0, V.sl 1 (rowsOf (encI .u8) x0)), (1, V.sl 1 (rowsOf (encI .u8) x1)), (5, V.p (Value.int .i64 x5)), (25, V.p (Value.bool x25))], M := [] } : St) = some r.st := by
  unfold f19_rr_l2_j2 at hF
  cases hF
  simp (maxSteps := 999999) (disch := first | exact D (by decide) | exact K (by kernel_rfl)) only [E, EE, ↓reduceIte, simprocAttr, show (nav B19 [2, 2, 1, 2, 2, 1, 2, 2]) = Code.region 5 _ false from rfl, hk_19_5, hz_19_5, hs_19_5, R19_rr_l2.st]
noncomputable def f19_rr_l2_j1 (k : Nat) (x0 x1 : List Int) (x5 : Int) (x14 : Bool) : Option R19_rr_l2 :=
  ifE ((0 : Int) ≤ x5) (
    Option.bind (x0[(Int.toNat x5)]?) fun v2 =>
      Option.bind (x1[(Int.toNat x5)]?) fun v4 =>
        cond ((v2 != v4))
          (some (R19_rr_l2.o0 false))
          (f19_rr_l2_j2 k x0 x1 x5 false))
theorem f19_rr_l2_j1_ok (k : Nat) (x0 x1 : List Int) (x5 : Int) (x14 : Bool) (r : R19_rr_l2) (hF : f19_rr_l2_j1 k x0 x1 x5 x14 = some r) : EX 19 k (nav B19 [2, 1, 2, 2, 1, 2, 2]) ({ n := 26, F := [(0, V.sl 1 (rowsOf (encI .u8) x0)), (1, V.sl 1 (rowsOf (encI .u8) x1)), (5, V.p (Value.int .i64 x5)), (14, V.p (Value.bool x14))], M := [] } : St) = some r.st := by
  unfold f19_rr_l2_j1 at hF
  replace hF := ifE_some.1 hF
  obtain ⟨h1, hF⟩ := hF
  replace hF := Option.bind_eq_some_iff.1 hF
  obtain ⟨v2, h3, hF⟩ := hF
  replace hF := Option.bind_eq_some_iff.1 hF
  obtain ⟨v4, h5, hF⟩ := hF
  simp (maxSteps := 999999) (disch := first | exact D (by decide) | exact K (by kernel_rfl)) only [E, EE, ↓reduceIte, simprocAttr, xk B19 [2, 1, 2, 2, 1, 2, 2] .sq rfl, xk B19 [1, 2, 1, 2, 2, 1, 2, 2] (.bk 1) rfl, xk B19 [2, 1, 2, 1, 2, 2, 1, 2, 2] .sq rfl, show (nav B19 [1, 2, 1, 2, 1, 2, 2, 1, 2, 2]) = Code.region 6 _ true from rfl, hk_19_6, hz_19_6, hs_19_6, indexAddrV, u_22, i_22, is_22, ib_22, iz_22, u_5, i_5, is_5, ib_5, iz_5, encI_eq, xk B19 [2, 2, 1, 2, 1, 2, 2, 1, 2, 2] (.cd 25) rfl, h1, h3, h5]
  replace hF := cond_some hF
  rcases hF with ⟨h6, hF⟩ | ⟨h6, hF⟩
  · cases hF
    simp (maxSteps := 999999) (disch := first | exact D (by decide) | exact K (by kernel_rfl)) only [E, EE, ↓reduceIte, simprocAttr, xk B19 [2, 2, 2, 1, 2, 1, 2, 2, 1, 2, 2] .sq rfl, show (nav B19 [1, 2, 2, 2, 1, 2, 1, 2, 2, 1, 2, 2]) = Code.region 7 _ false from rfl, hk_19_7, hz_19_7, hs_19_7, xk B19 [2, 2, 2, 2, 1, 2, 1, 2, 2, 1, 2, 2] .rt rfl, R19_rr_l2.st, h1, h3, h5, h6]
  · have hJ := f19_rr_l2_j2_ok k x0 x1 x5 false _ hF
    simp (maxSteps := 999999) (disch := first | exact D (by decide) | exact K (by kernel_rfl)) only [E, EE, ↓reduceIte, simprocAttr, xk B19 [3, 2, 2, 1, 2, 1, 2, 2, 1, 2, 2] .sk rfl, h1, h3, h5, h6]
    try simp only [NM, EE] at hJ
    exact hJ
noncomputable def f19_rr_l2_b (k : Nat) (x0 x1 : List Int) (x5 : Int) : Option R19_rr_l2 :=
  cond ((decide (x5 < ((List.length x0) : Int))))
    (f19_rr_l2_j1 k x0 x1 x5 true)
    (some (R19_rr_l2.o2 x0 x1 x5 false))
theorem f19_rr_l2_b_ok (k : Nat) (x0 x1 : List Int) (x5 : Int) (r : R19_rr_l2) (hF : f19_rr_l2_b k x0 x1 x5 = some r) : EX 19 k (nav B19 [1, 2, 2, 1, 2, 2]) ({ n := 26, F := [(0, V.sl 1 (rowsOf (encI .u8) x0)), (1, V.sl 1 (rowsOf (encI .u8) x1)), (5, V.p (Value.int .i64 x5))], M := [] } : St) = some r.st := by
  unfold f19_rr_l2_b at hF
  simp (maxSteps := 999999) (disch := first | exact D (by decide) | exact K (by kernel_rfl)) only [E, EE, ↓reduceIte, simprocAttr, xk B19 [1, 2, 2, 1, 2, 2] .sq rfl, xk B19 [1, 1, 2, 2, 1, 2, 2] .sq rfl, show (nav B19 [1, 1, 1, 2, 2, 1, 2, 2]) = Code.region 4 _ false from rfl, hk_19_4, hz_19_4, hs_19_4, u_22, i_22, is_22, ib_22, iz_22, xk B19 [2, 1, 1, 2, 2, 1, 2, 2] (.cd 14) rfl]
  replace hF := cond_some hF
  rcases hF with ⟨h1, hF⟩ | ⟨h1, hF⟩
  · have hJ := f19_rr_l2_j1_ok k x0 x1 x5 true _ hF
    simp (maxSteps := 999999) (disch := first | exact D (by decide) | exact K (by kernel_rfl)) only [E, EE, ↓reduceIte, simprocAttr, xk B19 [2, 2, 1, 1, 2, 2, 1, 2, 2] .sk rfl, h1]
    try simp only [NM, EE] at hJ
    exact hJ
  · cases hF
    simp (maxSteps := 999999) (disch := first | exact D (by decide) | exact K (by kernel_rfl)) only [E, EE, ↓reduceIte, simprocAttr, xk B19 [3, 2, 1, 1, 2, 2, 1, 2, 2] (.ex 0) rfl, R19_rr_l2.st, h1]
noncomputable def f19_rr_l2 (k : Nat) : Nat → (List Int) → (List Int) → Int → Option R19_rr_l2
  | 0, _, _, _ => none
  | n + 1, x0, x1, x5 => Option.bind (f19_rr_l2_b k x0 x1 x5) fun o =>
    match o with
    | .o0 y => some (.o0 y)
    | .o1 y y_1 y_2 => f19_rr_l2 k n y y_1 y_2
    | .o2 y y_1 y_2 y_3 => some (.o2 y y_1 y_2 y_3)
theorem f19_rr_l2_ok (k n : Nat) : ∀ (x0 x1 : List Int) (x5 : Int) (r : R19_rr_l2) (hF : f19_rr_l2 k n x0 x1 x5 = some r) (σ : St) (hσ : headR (hints.head 19 4) (hints.canon 19 4) σ = some ({ n := 26, F := [(0, V.sl 1 (rowsOf (encI .u8) x0)), (1, V.sl 1 (rowsOf (encI .u8) x1)), (5, V.p (Value.int .i64 x5))], M := [] } : St)), LP 19 k (nav B19 [1, 2, 2, 1, 2, 2]) n σ = some r.st := by
  induction n with
  | zero => intro x0 x1 x5 r hF; cases hF
  | succ n ih =>
    intro x0 x1 x5 r hF σ hσ
    rw [f19_rr_l2] at hF
    obtain ⟨o, h, hF⟩ := Option.bind_eq_some_iff.1 hF
    have hB := f19_rr_l2_b_ok k x0 x1 x5 o h
    unfold LP at ih ⊢
    unfold EX at hB
    rw [loopK_succ, show firstReg (nav B19 [1, 2, 2, 1, 2, 2]) = 4 from rfl, hσ, headK_some, hB]
    cases o with
    | o0 y => cases hF; rfl
    | o1 y y_1 y_2 =>
      refine ih y y_1 y_2 r hF _ ?_
      simp (maxSteps := 999999) (disch := first | exact D (by decide) | exact K (by kernel_rfl)) only [E, EE, ↓reduceIte, simprocAttr, hh_19_4, hc_19_4]
    | o2 y y_1 y_2 y_3 => cases hF; rfl
noncomputable def f19_rr_j3 (k : Nat) (x0 x1 : List Int) (x5 : Int) (x14 : Bool) : Option R19_rr :=
  some (R19_rr.o0 true)
theorem f19_rr_j3_ok (k : Nat) (x0 x1 : List Int) (x5 : Int) (x14 : Bool) (r : R19_rr) (hF : f19_rr_j3 k x0 x1 x5 x14 = some r) : finK Tryd.prog Tryd.f19 0 (EX 19 k (nav B19 [2, 2, 2]) ({ n := 26, F := [(0, V.sl 1 (rowsOf (encI .u8) x0)), (1, V.sl 1 (rowsOf (encI .u8) x1)), (5, V.p (Value.int .i64 x5)), (14, V.p (Value.bool x14))], M := [] } : St)) = some r.st := by
  unfold f19_rr_j3 at hF
  cases hF
  simp (maxSteps := 999999) (disch := first | exact D (by decide) | exact K (by kernel_rfl)) only [E, EE, ↓reduceIte, simprocAttr, xk B19 [2, 2, 2] .sq rfl, show (nav B19 [1, 2, 2, 2]) = Code.region 8 _ false from rfl, hk_19_8, hz_19_8, hs_19_8, xk B19 [2, 2, 2, 2] .rt rfl, finK_norm, finK_ret, fin19, R19_rr.st]
noncomputable def f19_rr_j1 (k : Nat) (x0 x1 : List Int) (x10 : Bool) : Option R19_rr :=
  Option.bind (f19_rr_l2 k k x0 x1 0) fun o1 =>
    match o1 with
    | .o0 v4 =>
      some (R19_rr.o0 v4)
    | .o1 _ _ _ =>
      none
    | .o2 v5 v6 v7 v8 =>
      f19_rr_j3 k v5 v6 v7 v8
theorem f19_rr_j1_ok (k : Nat) (x0 x1 : List Int) (x10 : Bool) (r : R19_rr) (hF : f19_rr_j1 k x0 x1 x10 = some r) : finK Tryd.prog Tryd.f19 0 (EX 19 k (nav B19 [2, 2]) ({ n := 26, F := [(0, V.sl 1 (rowsOf (encI .u8) x0)), (1, V.sl 1 (rowsOf (encI .u8) x1)), (10, V.p (Value.bool x10))], M := [] } : St)) = some r.st := by
  unfold f19_rr_j1 at hF
  replace hF := Option.bind_eq_some_iff.1 hF
  obtain ⟨o1, h2, hF⟩ := hF
  have hc3 := f19_rr_l2_ok k k x0 x1 0 _ h2
  simp (maxSteps := 999999) (disch := first | exact D (by decide) | exact K (by kernel_rfl)) only [E, EE, ↓reduceIte, simprocAttr, xk B19 [2, 2] .sq rfl, xk B19 [1, 2, 2] .sq rfl, show (nav B19 [1, 1, 2, 2]) = Code.region 3 _ false from rfl, hk_19_3, hz_19_3, hs_19_3, xk B19 [2, 1, 2, 2] (.bk 0) rfl, xk B19 [2, 2, 1, 2, 2] .lp rfl, hh_19_4, hc_19_4]
  (try simp only [NM, EE] at hc3)
  rw [hc3 _ (by simp (maxSteps := 999999) (disch := first | exact D (by decide) | exact K (by kernel_rfl)) only [E, EE, ↓reduceIte, simprocAttr, hh_19_4, hc_19_4])]
  clear hc3
  cases o1 with
  | o0 v4 =>
    (try dsimp only at hF)
    cases hF
    simp (maxSteps := 999999) (disch := first | exact D (by decide) | exact K (by kernel_rfl)) only [E, EE, ↓reduceIte, simprocAttr, R19_rr_l2.st, finK_norm, finK_ret, fin19, R19_rr.st]
  | o1 _ _ _ =>
    (try dsimp only at hF)
    cases hF
  | o2 v5 v6 v7 v8 =>
    (try dsimp only at hF)
    have hJ := f19_rr_j3_ok k v5 v6 v7 v8 _ hF
    simp (maxSteps := 999999) (disch := first | exact D (by decide) | exact K (by kernel_rfl)) only [E, EE, ↓reduceIte, simprocAttr, R19_rr_l2.st]
    try simp only [NM, EE] at hJ
    exact hJ
noncomputable def f19_rr_e (k : Nat) (a0 a1 : List Int) : Option R19_rr :=
  cond ((((List.length a0) : Int) != ((List.length a1) : Int)))
    (some (R19_rr.o0 false))
    (f19_rr_j1 k a0 a1 false)
theorem f19_rr_e_ok (k : Nat) (a0 a1 : List Int) (r : R19_rr) (hF : f19_rr_e k a0 a1 = some r) : finK Tryd.prog Tryd.f19 0 (EX 19 k (nav B19 []) ({ n := 26, F := [(0, V.sl 1 (rowsOf (encI .u8) a0)), (1, V.sl 1 (rowsOf (encI .u8) a1))], M := [] } : St)) = some r.st := by
  unfold f19_rr_e at hF
  simp (maxSteps := 999999) (disch := first | exact D (by decide) | exact K (by kernel_rfl)) only [E, EE, ↓reduceIte, simprocAttr, xk B19 [] .sq rfl, show (nav B19 [1]) = Code.region 0 _ false from rfl, hk_19_0, hz_19_0, hs_19_0, xk B19 [2] .sq rfl, xk B19 [1, 2] .sq rfl, show (nav B19 [1, 1, 2]) = Code.region 1 _ false from rfl, hk_19_1, hz_19_1, hs_19_1, u_22, i_22, is_22, ib_22, iz_22, xk B19 [2, 1, 2] (.cd 10) rfl]
  replace hF := cond_some hF
  rcases hF with ⟨h1, hF⟩ | ⟨h1, hF⟩
  · cases hF
    simp (maxSteps := 999999) (disch := first | exact D (by decide) | exact K (by kernel_rfl)) only [E, EE, ↓reduceIte, simprocAttr, xk B19 [2, 2, 1, 2] .sq rfl, show (nav B19 [1, 2, 2, 1, 2]) = Code.region 2 _ false from rfl, hk_19_2, hz_19_2, hs_19_2, xk B19 [2, 2, 2, 1, 2] .rt rfl, finK_norm, finK_ret, fin19, R19_rr.st, h1]
  · have hJ := f19_rr_j1_ok k a0 a1 false _ hF
    simp (maxSteps := 999999) (disch := first | exact D (by decide) | exact K (by kernel_rfl)) only [E, EE, ↓reduceIte, simprocAttr, xk B19 [3, 2, 1, 2] .sk rfl, h1]
    try simp only [NM, EE] at hJ
    exact hJ
noncomputable def f19_rr (k : Nat) (a0 a1 : List Int) : Option R19_rr := match k with | 0 => none | k + 1 => f19_rr_e k a0 a1
theorem f19_rr_ok (k : Nat) (a0 a1 : List Int) (r : R19_rr) (hF : f19_rr k a0 a1 = some r) : CV k 19 [V.sl 1 (rowsOf (encI .u8) a0), V.sl 1 (rowsOf (encI .u8) a1)] [] = some r.st := by
  cases k with
  | zero => cases hF
  | succ k =>
    unfold CV
    rw [ev_call (F := Tryd.f19) (c := (nav B19 [])) rfl Tryd.func19 rfl rfl rfl rfl]
    exact f19_rr_e_ok k a0 a1 r hF
-- f12_ai10rzai10rz: f12 heliograph/heliographref09.Same
inductive R12_ai10rzai10rz where
  | o0 (y : Bool)
noncomputable def R12_ai10rzai10rz.st : R12_ai10rzai10rz → V × List O × List O
  | .o0 y => (V.p (Value.bool y), [], [])
noncomputable def f12_ai10rzai10rz_e (k : Nat) (a0 a0_1 a0_2 a0_3 a0_4 a0_5 a0_6 a0_7 a0_8 a0_9 : Int) (a0_10 : List Int) (a1 a1_1 a1_2 a1_3 a1_4 a1_5 a1_6 a1_7 a1_8 a1_9 : Int) (a1_10 : List Int) : Option R12_ai10rzai10rz :=
  cond ((a0 == a1))
    (
      cond ((a0_1 == a1_1))
        (
          cond ((a0_2 == a1_2))
            (
              cond ((a0_3 == a1_3))
                (
                  cond ((a0_4 == a1_4))
                    (
                      cond ((a0_5 == a1_5))
                        (
                          cond ((a0_6 == a1_6))
                            (
                              cond ((a0_7 == a1_7))
                                (
                                  cond ((a0_8 == a1_8))
                                    (
                                      cond ((a0_9 == a1_9))
                                        (
                                          Option.bind (f19_rr k a0_10 a1_10) fun o11 =>
                                            match o11 with
                                            | .o0 v14 =>
                                              some (R12_ai10rzai10rz.o0 v14))
                                        (some (R12_ai10rzai10rz.o0 false)))
                                    (some (R12_ai10rzai10rz.o0 false)))
                                (some (R12_ai10rzai10rz.o0 false)))
                            (some (R12_ai10rzai10rz.o0 false)))
                        (some (R12_ai10rzai10rz.o0 false)))
                    (some (R12_ai10rzai10rz.o0 false)))
                (some (R12_ai10rzai10rz.o0 false)))
            (some (R12_ai10rzai10rz.o0 false)))
        (some (R12_ai10rzai10rz.o0 false)))
    (some (R12_ai10rzai10rz.o0 false))
theorem f12_ai10rzai10rz_e_ok (k : Nat) (a0 a0_1 a0_2 a0_3 a0_4 a0_5 a0_6 a0_7 a0_8 a0_9 : Int) (a0_10 : List Int) (a1 a1_1 a1_2 a1_3 a1_4 a1_5 a1_6 a1_7 a1_8 a1_9 : Int) (a1_10 : List Int) (r : R12_ai10rzai10rz) (hF : f12_ai10rzai10rz_e k a0 a0_1 a0_2 a0_3 a0_4 a0_5 a0_6 a0_7 a0_8 a0_9 a0_10 a1 a1_1 a1_2 a1_3 a1_4 a1_5 a1_6 a1_7 a1_8 a1_9 a1_10 = some r) : finK Tryd.prog Tryd.f12 0 (EX 12 k (nav B12 []) ({ n := 80, F := [(0, V.agg [V.p (Value.int .i64 a0), V.p (Value.int .i64 a0_1), V.p (Value.int .u32 a0_2), V.p (Value.int .i64 a0_3), V.p (Value.int .i64 a0_4), V.p (Value.int .i64 a0_5), V.p (Value.int .i64 a0_6), V.p (Value.int .i64 a0_7), V.p (Value.int .i64 a0_8), V.p (Value.int .i64 a0_9), V.sl 1 (rowsOf (encI .u8) a0_10)]), (1, V.agg [V.p (Value.int .i64 a1), V.p (Value.int .i64 a1_1), V.p (Value.int .u32 a1_2), V.p (Value.int .i64 a1_3), V.p (Value.int .i64 a1_4), V.p (Value.int .i64 a1_5), V.p (Value.int .i64 a1_6), V.p (Value.int .i64 a1_7), V.p (Value.int .i64 a1_8), V.p (Value.int .i64 a1_9), V.sl 1 (rowsOf (encI .u8) a1_10)])], M := [] } : St)) = some r.st := by
  unfold f12_ai10rzai10rz_e at hF
  simp (maxSteps := 999999) (disch := first | exact D (by decide) | exact K (by kernel_rfl)) only [E, EE, ↓reduceIte, simprocAttr, xk B12 [] .sq rfl, show (nav B12 [1]) = Code.region 0 _ false from rfl, hk_12_0, hz_12_0, hs_12_0, xk B12 [2] .sq rfl, show (nav B12 [1, 2]) = Code.region 1 _ false from rfl, hk_12_1, hz_12_1, hs_12_1, fieldAddrV, u_26, i_26, is_26, ib_26, iz_26, u_3, i_3, is_3, ib_3, iz_3]
  replace hF := cond_some hF
  rcases hF with ⟨h1, hF⟩ | ⟨h1, hF⟩
  · simp (maxSteps := 999999) (disch := first | exact D (by decide) | exact K (by kernel_rfl)) only [E, EE, ↓reduceIte, simprocAttr, fieldAddrV, u_26, i_26, is_26, ib_26, iz_26, u_3, i_3, is_3, ib_3, iz_3, h1]
    replace hF := cond_some hF
    rcases hF with ⟨h2, hF⟩ | ⟨h2, hF⟩
    · simp (maxSteps := 999999) (disch := first | exact D (by decide) | exact K (by kernel_rfl)) only [E, EE, ↓reduceIte, simprocAttr, fieldAddrV, u_26, i_26, is_26, ib_26, iz_26, u_24, i_24, is_24, ib_24, iz_24, h1, h2]
      replace hF := cond_some hF
      rcases hF with ⟨h3, hF⟩ | ⟨h3, hF⟩
      · simp (maxSteps := 999999) (disch := first | exact D (by decide) | exact K (by kernel_rfl)) only [E, EE, ↓reduceIte, simprocAttr, fieldAddrV, u_26, i_26, is_26, ib_26, iz_26, u_3, i_3, is_3, ib_3, iz_3, h1, h2, h3]
        replace hF := cond_some hF
        rcases hF with ⟨h4, hF⟩ | ⟨h4, hF⟩
        · simp (maxSteps := 999999) (disch := first | exact D (by decide) | exact K (by kernel_rfl)) only [E, EE, ↓reduceIte, simprocAttr, fieldAddrV, u_26, i_26, is_26, ib_26, iz_26, u_3, i_3, is_3, ib_3, iz_3, h1, h2, h3, h4]
          replace hF := cond_some hF
          rcases hF with ⟨h5, hF⟩ | ⟨h5, hF⟩
          · simp (maxSteps := 999999) (disch := first | exact D (by decide) | exact K (by kernel_rfl)) only [E, EE, ↓reduceIte, simprocAttr, fieldAddrV, u_26, i_26, is_26, ib_26, iz_26, u_3, i_3, is_3, ib_3, iz_3, h1, h2, h3, h4, h5]
            replace hF := cond_some hF
            rcases hF with ⟨h6, hF⟩ | ⟨h6, hF⟩
            · simp (maxSteps := 999999) (disch := first | exact D (by decide) | exact K (by kernel_rfl)) only [E, EE, ↓reduceIte, simprocAttr, fieldAddrV, u_26, i_26, is_26, ib_26, iz_26, u_3, i_3, is_3, ib_3, iz_3, h1, h2, h3, h4, h5, h6]
              replace hF := cond_some hF
              rcases hF with ⟨h7, hF⟩ | ⟨h7, hF⟩
              · simp (maxSteps := 999999) (disch := first | exact D (by decide) | exact K (by kernel_rfl)) only [E, EE, ↓reduceIte, simprocAttr, fieldAddrV, u_26, i_26, is_26, ib_26, iz_26, u_3, i_3, is_3, ib_3, iz_3, h1, h2, h3, h4, h5, h6, h7]
                replace hF := cond_some hF
                rcases hF with ⟨h8, hF⟩ | ⟨h8, hF⟩
                · simp (maxSteps := 999999) (disch := first | exact D (by decide) | exact K (by kernel_rfl)) only [E, EE, ↓reduceIte, simprocAttr, fieldAddrV, u_26, i_26, is_26, ib_26, iz_26, u_3, i_3, is_3, ib_3, iz_3, h1, h2, h3, h4, h5, h6, h7, h8]
                  replace hF := cond_some hF
                  rcases hF with ⟨h9, hF⟩ | ⟨h9, hF⟩
                  · simp (maxSteps := 999999) (disch := first | exact D (by decide) | exact K (by kernel_rfl)) only [E, EE, ↓reduceIte, simprocAttr, fieldAddrV, u_26, i_26, is_26, ib_26, iz_26, u_3, i_3, is_3, ib_3, iz_3, h1, h2, h3, h4, h5, h6, h7, h8, h9]
                    replace hF := cond_some hF
                    rcases hF with ⟨h10, hF⟩ | ⟨h10, hF⟩
                    · replace hF := Option.bind_eq_some_iff.1 hF
                      obtain ⟨o11, h12, hF⟩ := hF
                      have hc13 := f19_rr_ok k a0_10 a1_10 _ h12
                      cases o11 with
                      | o0 v14 =>
                        (try dsimp only at hF)
                        (try simp only [NM, EE, R19_rr.st] at hc13)
                        cases hF
                        simp (maxSteps := 999999) (disch := first | exact D (by decide) | exact K (by kernel_rfl)) only [E, EE, ↓reduceIte, simprocAttr, fieldAddrV, u_26, i_26, is_26, ib_26, iz_26, u_22, i_22, is_22, ib_22, iz_22, callStep, CL, gv, List.contains, xk B12 [2, 2] .rt rfl, finK_norm, finK_ret, fin12, R12_ai10rzai10rz.st, h1, h2, h3, h4, h5, h6, h7, h8, h9, h10, hc13]
                    · cases hF
                      simp (maxSteps := 999999) (disch := first | exact D (by decide) | exact K (by kernel_rfl)) only [E, EE, ↓reduceIte, simprocAttr, xk B12 [2, 2] .rt rfl, finK_norm, finK_ret, fin12, R12_ai10rzai10rz.st, h1, h2, h3, h4, h5, h6, h7, h8, h9, h10]
                  · cases hF
                    simp (maxSteps := 999999) (disch := first | exact D (by decide) | exact K (by kernel_rfl)) only [E, EE, ↓reduceIte, simprocAttr, xk B12 [2, 2] .rt rfl, finK_norm, finK_ret, fin12, R12_ai10rzai10rz.st, h1, h2, h3, h4, h5, h6, h7, h8, h9]
                · cases hF
                  simp (maxSteps := 999999) (disch := first | exact D (by decide) | exact K (by kernel_rfl)) only [E, EE, ↓reduceIte, simprocAttr, xk B12 [2, 2] .rt rfl, finK_norm, finK_ret, fin12, R12_ai10rzai10rz.st, h1, h2, h3, h4, h5, h6, h7, h8]
              · cases hF
                simp (maxSteps := 999999) (disch := first | exact D (by decide) | exact K (by kernel_rfl)) only [E, EE, ↓reduceIte, simprocAttr, xk B12 [2, 2] .rt rfl, finK_norm, finK_ret, fin12, R12_ai10rzai10rz.st, h1, h2, h3, h4, h5, h6, h7]
            · cases hF
              simp (maxSteps := 999999) (disch := first | exact D (by decide) | exact K (by kernel_rfl)) only [E, EE, ↓reduceIte, simprocAttr, xk B12 [2, 2] .rt rfl, finK_norm, finK_ret, fin12, R12_ai10rzai10rz.st, h1, h2, h3, h4, h5, h6]
          · cases hF
            simp (maxSteps := 999999) (disch := first | exact D (by decide) | exact K (by kernel_rfl)) only [E, EE, ↓reduceIte, simprocAttr, xk B12 [2, 2] .rt rfl, finK_norm, finK_ret, fin12, R12_ai10rzai10rz.st, h1, h2, h3, h4, h5]
        · cases hF
          simp (maxSteps := 999999) (disch := first | exact D (by decide) | exact K (by kernel_rfl)) only [E, EE, ↓reduceIte, simprocAttr, xk B12 [2, 2] .rt rfl, finK_norm, finK_ret, fin12, R12_ai10rzai10rz.st, h1, h2, h3, h4]
      · cases hF
        simp (maxSteps := 999999) (disch := first | exact D (by decide) | exact K (by kernel_rfl)) only [E, EE, ↓reduceIte, simprocAttr, xk B12 [2, 2] .rt rfl, finK_norm, finK_ret, fin12, R12_ai10rzai10rz.st, h1, h2, h3]
    · cases hF
      simp (maxSteps := 999999) (disch := first | exact D (by decide) | exact K (by kernel_rfl)) only [E, EE, ↓reduceIte, simprocAttr, xk B12 [2, 2] .rt rfl, finK_norm, finK_ret, fin12, R12_ai10rzai10rz.st, h1, h2]
  · cases hF
    simp (maxSteps := 999999) (disch := first | exact D (by decide) | exact K (by kernel_rfl)) only [E, EE, ↓reduceIte, simprocAttr, xk B12 [2, 2] .rt rfl, finK_norm, finK_ret, fin12, R12_ai10rzai10rz.st, h1]
noncomputable def f12_ai10rzai10rz (k : Nat) (a0 a0_1 a0_2 a0_3 a0_4 a0_5 a0_6 a0_7 a0_8 a0_9 : Int) (a0_10 : List Int) (a1 a1_1 a1_2 a1_3 a1_4 a1_5 a1_6 a1_7 a1_8 a1_9 : Int) (a1_10 : List Int) : Option R12_ai10rzai10rz := match k with | 0 => none | k + 1 => f12_ai10rzai10rz_e k a0 a0_1 a0_2 a0_3 a0_4 a0_5 a0_6 a0_7 a0_8 a0_9 a0_10 a1 a1_1 a1_2 a1_3 a1_4 a1_5 a1_6 a1_7 a1_8 a1_9 a1_10
theorem f12_ai10rzai10rz_ok (k : Nat) (a0 a0_1 a0_2 a0_3 a0_4 a0_5 a0_6 a0_7 a0_8 a0_9 : Int) (a0_10 : List Int) (a1 a1_1 a1_2 a1_3 a1_4 a1_5 a1_6 a1_7 a1_8 a1_9 : Int) (a1_10 : List Int) (r : R12_ai10rzai10rz) (hF : f12_ai10rzai10rz k a0 a0_1 a0_2 a0_3 a0_4 a0_5 a0_6 a0_7 a0_8 a0_9 a0_10 a1 a1_1 a1_2 a1_3 a1_4 a1_5 a1_6 a1_7 a1_8 a1_9 a1_10 = some r) : CV k 12 [V.agg [V.p (Value.int .i64 a0), V.p (Value.int .i64 a0_1), V.p (Value.int .u32 a0_2), V.p (Value.int .i64 a0_3), V.p (Value.int .i64 a0_4), V.p (Value.int .i64 a0_5), V.p (Value.int .i64 a0_6), V.p (Value.int .i64 a0_7), V.p (Value.int .i64 a0_8), V.p (Value.int .i64 a0_9), V.sl 1 (rowsOf (encI .u8) a0_10)], V.agg [V.p (Value.int .i64 a1), V.p (Value.int .i64 a1_1), V.p (Value.int .u32 a1_2), V.p (Value.int .i64 a1_3), V.p (Value.int .i64 a1_4), V.p (Value.int .i64 a1_5), V.p (Value.int .i64 a1_6), V.p (Value.int .i64 a1_7), V.p (Value.int .i64 a1_8), V.p (Value.int .i64 a1_9), V.sl 1 (rowsOf (encI .u8) a1_10)]] [] = some r.st := by
  cases k with
  | zero => cases hF
  | succ k =>
    unfold CV
    rw [ev_call (F := Tryd.f12) (c := (nav B12 [])) rfl Tryd.func12 rfl rfl rfl rfl]
    exact f12_ai10rzai10rz_e_ok k a0 a0_1 a0_2 a0_3 a0_4 a0_5 a0_6 a0_7 a0_8 a0_9 a0_10 a1 a1_1 a1_2 a1_3 a1_4 a1_5 a1_6 a1_7 a1_8 a1_9 a1_10 r hF
-- f13_ai10rz: f13 heliograph/heliographlaw09.copied
inductive R13_ai10rz where
  | o0 (y y_1 y_2 y_3 y_4 y_5 y_6 y_7 y_8 y_9 : Int) (y_10 : List Int)
noncomputable def R13_ai10rz.st : R13_ai10rz → V × List O × List O
  | .o0 y y_1 y_2 y_3 y_4 y_5 y_6 y_7 y_8 y_9 y_10 => (V.agg [V.p (Value.int .i64 y), V.p (Value.int .i64 y_1), V.p (Value.int .u32 y_2), V.p (Value.int .i64 y_3), V.p (Value.int .i64 y_4), V.p (Value.int .i64 y_5), V.p (Value.int .i64 y_6), V.p (Value.int .i64 y_7), V.p (Value.int .i64 y_8), V.p (Value.int .i64 y_9), V.own 2000000], [], [O.row true 1 5 (rowsOf (encI .u8) y_10)])
noncomputable def f13_ai10rz_e (k : Nat) (a0 a0_1 a0_2 a0_3 a0_4 a0_5 a0_6 a0_7 a0_8 a0_9 : Int) (a0_10 : List Int) : Option R13_ai10rz :=
  ifE ((List.length a0_10) ≤ roomy) (
    some (R13_ai10rz.o0 a0 a0_1 a0_2 a0_3 a0_4 a0_5 a0_6 a0_7 a0_8 a0_9 a0_10))
theorem f13_ai10rz_e_ok (k : Nat) (a0 a0_1 a0_2 a0_3 a0_4 a0_5 a0_6 a0_7 a0_8 a0_9 : Int) (a0_10 : List Int) (r : R13_ai10rz) (hF : f13_ai10rz_e k a0 a0_1 a0_2 a0_3 a0_4 a0_5 a0_6 a0_7 a0_8 a0_9 a0_10 = some r) : finK Tryd.prog Tryd.f13 0 (EX 13 k (nav B13 []) ({ n := 9, F := [(0, V.agg [V.p (Value.int .i64 a0), V.p (Value.int .i64 a0_1), V.p (Value.int .u32 a0_2), V.p (Value.int .i64 a0_3), V.p (Value.int .i64 a0_4), V.p (Value.int .i64 a0_5), V.p (Value.int .i64 a0_6), V.p (Value.int .i64 a0_7), V.p (Value.int .i64 a0_8), V.p (Value.int .i64 a0_9), V.sl 1 (rowsOf (encI .u8) a0_10)])], M := [] } : St)) = some r.st := by
  unfold f13_ai10rz_e at hF
  replace hF := ifE_some.1 hF
  obtain ⟨h1, hF⟩ := hF
  cases hF
  simp (maxSteps := 999999) (disch := first | exact D (by decide) | exact K (by kernel_rfl)) only [E, EE, ↓reduceIte, simprocAttr, xk B13 [] .sq rfl, show (nav B13 [1]) = Code.region 0 _ false from rfl, hk_13_0, hz_13_0, hs_13_0, u_26, i_26, is_26, ib_26, iz_26, xk B13 [2] .sq rfl, show (nav B13 [1, 2]) = Code.region 1 _ false from rfl, hk_13_1, hz_13_1, hs_13_1, buildSliceV, fillRows, sm_5, u_22, i_22, is_22, ib_22, iz_22, u_5, i_5, is_5, ib_5, iz_5, fieldAddrV, appendV, content, xk B13 [2, 2] .sq rfl, show (nav B13 [1, 2, 2]) = Code.region 2 _ false from rfl, hk_13_2, hz_13_2, hs_13_2, xk B13 [2, 2, 2] .rt rfl, finK_norm, finK_ret, fin13, R13_ai10rz.st, h1]
noncomputable def f13_ai10rz (k : Nat) (a0 a0_1 a0_2 a0_3 a0_4 a0_5 a0_6 a0_7 a0_8 a0_9 : Int) (a0_10 : List Int) : Option R13_ai10rz := match k with | 0 => none | k + 1 => f13_ai10rz_e k a0 a0_1 a0_2 a0_3 a0_4 a0_5 a0_6 a0_7 a0_8 a0_9 a0_10
theorem f13_ai10rz_ok (k : Nat) (a0 a0_1 a0_2 a0_3 a0_4 a0_5 a0_6 a0_7 a0_8 a0_9 : Int) (a0_10 : List Int) (r : R13_ai10rz) (hF : f13_ai10rz k a0 a0_1 a0_2 a0_3 a0_4 a0_5 a0_6 a0_7 a0_8 a0_9 a0_10 = some r) : CV k 13 [V.agg [V.p (Value.int .i64 a0), V.p (Value.int .i64 a0_1), V.p (Value.int .u32 a0_2), V.p (Value.int .i64 a0_3), V.p (Value.int .i64 a0_4), V.p (Value.int .i64 a0_5), V.p (Value.int .i64 a0_6), V.p (Value.int .i64 a0_7), V.p (Value.int .i64 a0_8), V.p (Value.int .i64 a0_9), V.sl 1 (rowsOf (encI .u8) a0_10)]] [] = some r.st := by
  cases k with
  | zero => cases hF
  | succ k =>
    unfold CV
    rw [ev_call (F := Tryd.f13) (c := (nav B13 [])) rfl Tryd.func13 rfl rfl rfl rfl]
    exact f13_ai10rz_e_ok k a0 a0_1 a0_2 a0_3 a0_4 a0_5 a0_6 a0_7 a0_8 a0_9 a0_10 r hF
-- f22_ai10rz: f22 heliograph/bundle.Id
inductive R22_ai10rz where
  | o0 (y y_1 : Int)
noncomputable def R22_ai10rz.st : R22_ai10rz → V × List O × List O
  | .o0 y y_1 => (V.agg [V.p (Value.int .i64 y), V.p (Value.int .u32 y_1)], [], [])
noncomputable def f22_ai10rz_e (k : Nat) (a0 a0_1 a0_2 a0_3 a0_4 a0_5 a0_6 a0_7 a0_8 a0_9 : Int) (a0_10 : List Int) : Option R22_ai10rz :=
  some (R22_ai10rz.o0 a0 a0_2)
theorem f22_ai10rz_e_ok (k : Nat) (a0 a0_1 a0_2 a0_3 a0_4 a0_5 a0_6 a0_7 a0_8 a0_9 : Int) (a0_10 : List Int) (r : R22_ai10rz) (hF : f22_ai10rz_e k a0 a0_1 a0_2 a0_3 a0_4 a0_5 a0_6 a0_7 a0_8 a0_9 a0_10 = some r) : finK Tryd.prog Tryd.f22 0 (EX 22 k (nav B22 []) ({ n := 8, F := [(0, V.agg [V.p (Value.int .i64 a0), V.p (Value.int .i64 a0_1), V.p (Value.int .u32 a0_2), V.p (Value.int .i64 a0_3), V.p (Value.int .i64 a0_4), V.p (Value.int .i64 a0_5), V.p (Value.int .i64 a0_6), V.p (Value.int .i64 a0_7), V.p (Value.int .i64 a0_8), V.p (Value.int .i64 a0_9), V.sl 1 (rowsOf (encI .u8) a0_10)])], M := [] } : St)) = some r.st := by
  unfold f22_ai10rz_e at hF
  cases hF
  simp (maxSteps := 999999) (disch := first | exact D (by decide) | exact K (by kernel_rfl)) only [E, EE, ↓reduceIte, simprocAttr, xk B22 [] .sq rfl, show (nav B22 [1]) = Code.region 0 _ false from rfl, hk_22_0, hz_22_0, hs_22_0, u_43, i_43, is_43, ib_43, iz_43, xk B22 [2] .sq rfl, show (nav B22 [1, 2]) = Code.region 1 _ false from rfl, hk_22_1, hz_22_1, hs_22_1, fieldAddrV, u_26, i_26, is_26, ib_26, iz_26, u_3, i_3, is_3, ib_3, iz_3, u_24, i_24, is_24, ib_24, iz_24, bl_43, xk B22 [2, 2] .rt rfl, finK_norm, finK_ret, fin22, R22_ai10rz.st]
noncomputable def f22_ai10rz (k : Nat) (a0 a0_1 a0_2 a0_3 a0_4 a0_5 a0_6 a0_7 a0_8 a0_9 : Int) (a0_10 : List Int) : Option R22_ai10rz := match k with | 0 => none | k + 1 => f22_ai10rz_e k a0 a0_1 a0_2 a0_3 a0_4 a0_5 a0_6 a0_7 a0_8 a0_9 a0_10
theorem f22_ai10rz_ok (k : Nat) (a0 a0_1 a0_2 a0_3 a0_4 a0_5 a0_6 a0_7 a0_8 a0_9 : Int) (a0_10 : List Int) (r : R22_ai10rz) (hF : f22_ai10rz k a0 a0_1 a0_2 a0_3 a0_4 a0_5 a0_6 a0_7 a0_8 a0_9 a0_10 = some r) : CV k 22 [V.agg [V.p (Value.int .i64 a0), V.p (Value.int .i64 a0_1), V.p (Value.int .u32 a0_2), V.p (Value.int .i64 a0_3), V.p (Value.int .i64 a0_4), V.p (Value.int .i64 a0_5), V.p (Value.int .i64 a0_6), V.p (Value.int .i64 a0_7), V.p (Value.int .i64 a0_8), V.p (Value.int .i64 a0_9), V.sl 1 (rowsOf (encI .u8) a0_10)]] [] = some r.st := by
  cases k with
  | zero => cases hF
  | succ k =>
    unfold CV
    rw [ev_call (F := Tryd.f22) (c := (nav B22 [])) rfl Tryd.func22 rfl rfl rfl rfl]
    exact f22_ai10rz_e_ok k a0 a0_1 a0_2 a0_3 a0_4 a0_5 a0_6 a0_7 a0_8 a0_9 a0_10 r hF
-- f23_ai10rz: f23 heliograph/bundle.Whole
inductive R23_ai10rz where
  | o0 (y : Bool)
noncomputable def R23_ai10rz.st : R23_ai10rz → V × List O × List O
  | .o0 y => (V.p (Value.bool y), [], [])
noncomputable def f23_ai10rz_e (k : Nat) (a0 a0_1 a0_2 a0_3 a0_4 a0_5 a0_6 a0_7 a0_8 a0_9 : Int) (a0_10 : List Int) : Option R23_ai10rz :=
  some (R23_ai10rz.o0 (((List.length a0_10) : Int) == a0_9))
theorem f23_ai10rz_e_ok (k : Nat) (a0 a0_1 a0_2 a0_3 a0_4 a0_5 a0_6 a0_7 a0_8 a0_9 : Int) (a0_10 : List Int) (r : R23_ai10rz) (hF : f23_ai10rz_e k a0 a0_1 a0_2 a0_3 a0_4 a0_5 a0_6 a0_7 a0_8 a0_9 a0_10 = some r) : finK Tryd.prog Tryd.f23 0 (EX 23 k (nav B23 []) ({ n := 9, F := [(0, V.agg [V.p (Value.int .i64 a0), V.p (Value.int .i64 a0_1), V.p (Value.int .u32 a0_2), V.p (Value.int .i64 a0_3), V.p (Value.int .i64 a0_4), V.p (Value.int .i64 a0_5), V.p (Value.int .i64 a0_6), V.p (Value.int .i64 a0_7), V.p (Value.int .i64 a0_8), V.p (Value.int .i64 a0_9), V.sl 1 (rowsOf (encI .u8) a0_10)])], M := [] } : St)) = some r.st := by
  unfold f23_ai10rz_e at hF
  cases hF
  simp (maxSteps := 999999) (disch := first | exact D (by decide) | exact K (by kernel_rfl)) only [E, EE, ↓reduceIte, simprocAttr, xk B23 [] .sq rfl, show (nav B23 [1]) = Code.region 0 _ false from rfl, hk_23_0, hz_23_0, hs_23_0, xk B23 [2] .sq rfl, show (nav B23 [1, 2]) = Code.region 1 _ false from rfl, hk_23_1, hz_23_1, hs_23_1, fieldAddrV, u_26, i_26, is_26, ib_26, iz_26, u_22, i_22, is_22, ib_22, iz_22, u_3, i_3, is_3, ib_3, iz_3, xk B23 [2, 2] .rt rfl, finK_norm, finK_ret, fin23, R23_ai10rz.st]
noncomputable def f23_ai10rz (k : Nat) (a0 a0_1 a0_2 a0_3 a0_4 a0_5 a0_6 a0_7 a0_8 a0_9 : Int) (a0_10 : List Int) : Option R23_ai10rz := match k with | 0 => none | k + 1 => f23_ai10rz_e k a0 a0_1 a0_2 a0_3 a0_4 a0_5 a0_6 a0_7 a0_8 a0_9 a0_10
theorem f23_ai10rz_ok (k : Nat) (a0 a0_1 a0_2 a0_3 a0_4 a0_5 a0_6 a0_7 a0_8 a0_9 : Int) (a0_10 : List Int) (r : R23_ai10rz) (hF : f23_ai10rz k a0 a0_1 a0_2 a0_3 a0_4 a0_5 a0_6 a0_7 a0_8 a0_9 a0_10 = some r) : CV k 23 [V.agg [V.p (Value.int .i64 a0), V.p (Value.int .i64 a0_1), V.p (Value.int .u32 a0_2), V.p (Value.int .i64 a0_3), V.p (Value.int .i64 a0_4), V.p (Value.int .i64 a0_5), V.p (Value.int .i64 a0_6), V.p (Value.int .i64 a0_7), V.p (Value.int .i64 a0_8), V.p (Value.int .i64 a0_9), V.sl 1 (rowsOf (encI .u8) a0_10)]] [] = some r.st := by
  cases k with
  | zero => cases hF
  | succ k =>
    unfold CV
    rw [ev_call (F := Tryd.f23) (c := (nav B23 [])) rfl Tryd.func23 rfl rfl rfl rfl]
    exact f23_ai10rz_e_ok k a0 a0_1 a0_2 a0_3 a0_4 a0_5 a0_6 a0_7 a0_8 a0_9 a0_10 r hF
-- f38_iii: f38 heliograph/bundle.within
inductive R38_iii where
  | o0 (y : Bool)
noncomputable def R38_iii.st : R38_iii → V × List O × List O
  | .o0 y => (V.p (Value.bool y), [], [])
noncomputable def f38_iii_e (k : Nat) (a0 a1 a2 : Int) : Option R38_iii :=
  cond ((decide (a0 ≥ a1)))
    (some (R38_iii.o0 (decide (a0 ≤ a2))))
    (some (R38_iii.o0 false))
theorem f38_iii_e_ok (k : Nat) (a0 a1 a2 : Int) (r : R38_iii) (hF : f38_iii_e k a0 a1 a2 = some r) : finK Tryd.prog Tryd.f38 0 (EX 38 k (nav B38 []) ({ n := 15, F := [(0, V.p (Value.int .i64 a0)), (1, V.p (Value.int .i64 a1)), (2, V.p (Value.int .i64 a2))], M := [] } : St)) = some r.st := by
  unfold f38_iii_e at hF
  simp (maxSteps := 999999) (disch := first | exact D (by decide) | exact K (by kernel_rfl)) only [E, EE, ↓reduceIte, simprocAttr, xk B38 [] .sq rfl, show (nav B38 [1]) = Code.region 0 _ false from rfl, hk_38_0, hz_38_0, hs_38_0, xk B38 [2] .sq rfl, show (nav B38 [1, 2]) = Code.region 1 _ false from rfl, hk_38_1, hz_38_1, hs_38_1]
  replace hF := cond_some hF
  rcases hF with ⟨h1, hF⟩ | ⟨h1, hF⟩
  · cases hF
    simp (maxSteps := 999999) (disch := first | exact D (by decide) | exact K (by kernel_rfl)) only [E, EE, ↓reduceIte, simprocAttr, xk B38 [2, 2] .rt rfl, finK_norm, finK_ret, fin38, R38_iii.st, h1]
  · cases hF
    simp (maxSteps := 999999) (disch := first | exact D (by decide) | exact K (by kernel_rfl)) only [E, EE, ↓reduceIte, simprocAttr, xk B38 [2, 2] .rt rfl, finK_norm, finK_ret, fin38, R38_iii.st, h1]
noncomputable def f38_iii (k : Nat) (a0 a1 a2 : Int) : Option R38_iii := match k with | 0 => none | k + 1 => f38_iii_e k a0 a1 a2
theorem f38_iii_ok (k : Nat) (a0 a1 a2 : Int) (r : R38_iii) (hF : f38_iii k a0 a1 a2 = some r) : CV k 38 [V.p (Value.int .i64 a0), V.p (Value.int .i64 a1), V.p (Value.int .i64 a2)] [] = some r.st := by
  cases k with
  | zero => cases hF
  | succ k =>
    unfold CV
    rw [ev_call (F := Tryd.f38) (c := (nav B38 [])) rfl Tryd.func38 rfl rfl rfl rfl]
    exact f38_iii_e_ok k a0 a1 a2 r hF
end Go.Proofs.YtbnnmplkbpgcaaaDoorV
