/- What the program's functions answer: plain functions, and that the interpreter answers what they do. Written by a program of this session, out of the translation. -/
import Derived.Test.YteggcokgkcfliaaVP4
namespace Go.Proofs.YteggcokgkcfliaaV
open Go
set_option linter.unusedVariables false
set_option linter.unusedSimpArgs false
set_option maxRecDepth 8000
set_option maxHeartbeats 4000000
-- f32_r: f32 heliograph/pieces.gaps
inductive R32_r where
  | o0 (y : List T47)
noncomputable def R32_r.st : R32_r → V × List O × List O
  | .o0 y => (V.own 2000000, [], [O.row true 2 47 (rowsOf encT47 y)])
inductive R32_r_s1_l1_l1 where
  | o0 (y : List Bool) (y_1 : Int) (y_2 : List T47)
  | o1 (y : List Bool) (y_1 : Int) (y_2 : Bool) (y_3 : List T47)
noncomputable def R32_r_s1_l1_l1.st : R32_r_s1_l1_l1 → Out × St
  | .o0 y y_1 y_2 => (.norm, ({ n := 47, F := [(0, V.sl 1 (rowsOf encB y)), (3, V.own 30000), (4, V.p (Value.int .i64 y_1))], M := [(30000, O.row true 2 47 (rowsOf encT47 y_2))] } : St))
  | .o1 y y_1 y_2 y_3 => (.exit 2, ({ n := 47, F := [(0, V.sl 1 (rowsOf encB y)), (3, V.own 30000), (4, V.p (Value.int .i64 y_1)), (15, V.p (Value.bool y_2))], M := [(30000, O.row true 2 47 (rowsOf encT47 y_3))] } : St))
noncomputable def f32_r_s1_l1_l1_j1 (k : Nat) (x0 : List Bool) (x4 : Int) (x15 : Bool) (h0_ : List T47) : Option R32_r_s1_l1_l1 :=
  some (R32_r_s1_l1_l1.o0 x0 (IntKind.i64.wrap (x4 + (1 : Int))) h0_)
theorem f32_r_s1_l1_l1_j1_ok (k : Nat) (x0 : List Bool) (x4 : Int) (x15 : Bool) (h0_ : List T47) (r : R32_r_s1_l1_l1) (hF : f32_r_s1_l1_l1_j1 k x0 x4 x15 h0_ = some r) : EX 32 k (nav B32 [2, 1, 2, 1, 2, 1, 2, 1, 2, 2, 2, 1, 2]) ({ n := 47, F := [(0, V.sl 1 (rowsOf encB x0)), (3, V.own 30000), (4, V.p (Value.int .i64 x4)), (15, V.p (Value.bool x15))], M := [(30000, O.row true 2 47 (rowsOf encT47 h0_))] } : St) = some r.st := by
  unfold f32_r_s1_l1_l1_j1 at hF
  cases hF
  simp (maxSteps := 999999) (disch := first | exact D (by decide) | exact K (by kernel_rfl)) only [E, EE, ↓reduceIte, simprocAttr, xk B32 [2, 1, 2, 1, 2, 1, 2, 1, 2, 2, 2, 1, 2] (.bk 3) rfl, show (nav B32 [2, 2, 1, 2, 1, 2, 1, 2, 1, 2, 2, 2, 1, 2]) = Code.region 4 _ false from rfl, hk_32_4, hz_32_4, hs_32_4, R32_r_s1_l1_l1.st]
noncomputable def f32_r_s1_l1_l1_b (k : Nat) (x0 : List Bool) (x4 : Int) (h0_ : List T47) : Option R32_r_s1_l1_l1 :=
  cond ((decide (x4 < ((List.length x0) : Int))))
    (
      ifE ((0 : Int) ≤ x4) (
        Option.bind (x0[(Int.toNat x4)]?) fun v3 =>
          cond (v3)
            (f32_r_s1_l1_l1_j1 k x0 x4 true h0_)
            (some (R32_r_s1_l1_l1.o1 x0 x4 false h0_))))
    (some (R32_r_s1_l1_l1.o1 x0 x4 false h0_))
theorem f32_r_s1_l1_l1_b_ok (k : Nat) (x0 : List Bool) (x4 : Int) (h0_ : List T47) (r : R32_r_s1_l1_l1) (hF : f32_r_s1_l1_l1_b k x0 x4 h0_ = some r) : EX 32 k (nav B32 [1, 2, 1, 2, 1, 2, 1, 2, 2, 2, 1, 2]) ({ n := 47, F := [(0, V.sl 1 (rowsOf encB x0)), (3, V.own 30000), (4, V.p (Value.int .i64 x4))], M := [(30000, O.row true 2 47 (rowsOf encT47 h0_))] } : St) = some r.st := by
  unfold f32_r_s1_l1_l1_b at hF
  simp (maxSteps := 999999) (disch := first | exact D (by decide) | exact K (by kernel_rfl)) only [E, EE, ↓reduceIte, simprocAttr, xk B32 [1, 2, 1, 2, 1, 2, 1, 2, 2, 2, 1, 2] .sq rfl, xk B32 [1, 1, 2, 1, 2, 1, 2, 1, 2, 2, 2, 1, 2] .sq rfl, show (nav B32 [1, 1, 1, 2, 1, 2, 1, 2, 1, 2, 2, 2, 1, 2]) = Code.region 3 _ false from rfl, hk_32_3, hz_32_3, hs_32_3, u_60, i_60, is_60, ib_60, iz_60]
  replace hF := cond_some hF
  rcases hF with ⟨h1, hF⟩ | ⟨h1, hF⟩
  · replace hF := ifE_some.1 hF
    obtain ⟨h2, hF⟩ := hF
    replace hF := Option.bind_eq_some_iff.1 hF
    obtain ⟨v3, h4, hF⟩ := hF
    simp (maxSteps := 999999) (disch := first | exact D (by decide) | exact K (by kernel_rfl)) only [E, EE, ↓reduceIte, simprocAttr, indexAddrV, u_60, i_60, is_60, ib_60, iz_60, u_4, i_4, is_4, ib_4, iz_4, encB_eq, xk B32 [2, 1, 1, 2, 1, 2, 1, 2, 1, 2, 2, 2, 1, 2] (.cd 15) rfl, h1, h2, h4]
    replace hF := cond_some hF
    rcases hF with ⟨h5, hF⟩ | ⟨h5, hF⟩
    · have hJ := f32_r_s1_l1_l1_j1_ok k x0 x4 true h0_ _ hF
      simp (maxSteps := 999999) (disch := first | exact D (by decide) | exact K (by kernel_rfl)) only [E, EE, ↓reduceIte, simprocAttr, xk B32 [2, 2, 1, 1, 2, 1, 2, 1, 2, 1, 2, 2, 2, 1, 2] .sk rfl, h1, h2, h4, h5]
      try simp only [NM, EE] at hJ
      exact hJ
    · cases hF
      simp (maxSteps := 999999) (disch := first | exact D (by decide) | exact K (by kernel_rfl)) only [E, EE, ↓reduceIte, simprocAttr, xk B32 [3, 2, 1, 1, 2, 1, 2, 1, 2, 1, 2, 2, 2, 1, 2] (.ex 2) rfl, R32_r_s1_l1_l1.st, h1, h2, h4, h5]
  · cases hF
    simp (maxSteps := 999999) (disch := first | exact D (by decide) | exact K (by kernel_rfl)) only [E, EE, ↓reduceIte, simprocAttr, xk B32 [2, 1, 1, 2, 1, 2, 1, 2, 1, 2, 2, 2, 1, 2] (.cd 15) rfl, xk B32 [3, 2, 1, 1, 2, 1, 2, 1, 2, 1, 2, 2, 2, 1, 2] (.ex 2) rfl, R32_r_s1_l1_l1.st, h1]
noncomputable def f32_r_s1_l1_l1 (k : Nat) : Nat → (List Bool) → Int → (List T47) → Option R32_r_s1_l1_l1
  | 0, _, _, _ => none
  | n + 1, x0, x4, h0_ => Option.bind (f32_r_s1_l1_l1_b k x0 x4 h0_) fun o =>
    match o with
    | .o0 y y_1 y_2 => f32_r_s1_l1_l1 k n y y_1 y_2
    | .o1 y y_1 y_2 y_3 => some (.o1 y y_1 y_2 y_3)
theorem f32_r_s1_l1_l1_ok (k n : Nat) : ∀ (x0 : List Bool) (x4 : Int) (h0_ : List T47) (r : R32_r_s1_l1_l1) (hF : f32_r_s1_l1_l1 k n x0 x4 h0_ = some r) (σ : St) (hσ : headR (hints.head 32 3) (hints.canon 32 3) σ = some ({ n := 47, F := [(0, V.sl 1 (rowsOf encB x0)), (3, V.own 30000), (4, V.p (Value.int .i64 x4))], M := [(30000, O.row true 2 47 (rowsOf encT47 h0_))] } : St)), LP 32 k (nav B32 [1, 2, 1, 2, 1, 2, 1, 2, 2, 2, 1, 2]) n σ = some r.st := by
  induction n with
  | zero => intro x0 x4 h0_ r hF; cases hF
  | succ n ih =>
    intro x0 x4 h0_ r hF σ hσ
    rw [f32_r_s1_l1_l1] at hF
    obtain ⟨o, h, hF⟩ := Option.bind_eq_some_iff.1 hF
    have hB := f32_r_s1_l1_l1_b_ok k x0 x4 h0_ o h
    unfold LP at ih ⊢
    unfold EX at hB
    rw [loopK_succ, show firstReg (nav B32 [1, 2, 1, 2, 1, 2, 1, 2, 2, 2, 1, 2]) = 3 from rfl, hσ, headK_some, hB]
    cases o with
    | o0 y y_1 y_2 =>
      refine ih y y_1 y_2 r hF _ ?_
      simp (maxSteps := 999999) (disch := first | exact D (by decide) | exact K (by kernel_rfl)) only [E, EE, ↓reduceIte, simprocAttr, hh_32_3, hc_32_3]
    | o1 y y_1 y_2 y_3 => cases hF; rfl
inductive R32_r_s1_l1_l4 where
  | o0 (y : List Bool) (y_1 : Int) (y_2 : List T47) (y_3 y_4 : Int)
  | o1 (y : List Bool) (y_1 : Int) (y_2 : Bool) (y_3 : List T47) (y_4 y_5 : Int)
noncomputable def R32_r_s1_l1_l4.st : R32_r_s1_l1_l4 → Out × St
  | .o0 y y_1 y_2 y_3 y_4 => (.norm, ({ n := 47, F := [(0, V.sl 1 (rowsOf encB y)), (3, V.own 30000), (4, V.p (Value.int .i64 y_1)), (5, V.ptr 30001 0)], M := [(30000, O.row true 2 47 (rowsOf encT47 y_2)), (30001, O.box 47 [V.p (Value.int .i64 y_3), V.p (Value.int .i64 y_4)])] } : St))
  | .o1 y y_1 y_2 y_3 y_4 y_5 => (.exit 4, ({ n := 47, F := [(0, V.sl 1 (rowsOf encB y)), (3, V.own 30000), (4, V.p (Value.int .i64 y_1)), (5, V.ptr 30001 0), (34, V.p (Value.bool y_2))], M := [(30000, O.row true 2 47 (rowsOf encT47 y_3)), (30001, O.box 47 [V.p (Value.int .i64 y_4), V.p (Value.int .i64 y_5)])] } : St))
noncomputable def f32_r_s1_l1_l4_j1 (k : Nat) (x0 : List Bool) (x4 : Int) (x34 : Bool) (h0_ : List T47) (h1_ h1__1 : Int) : Option R32_r_s1_l1_l4 :=
  some (R32_r_s1_l1_l4.o0 x0 (IntKind.i64.wrap (x4 + (1 : Int))) h0_ h1_ h1__1)
theorem f32_r_s1_l1_l4_j1_ok (k : Nat) (x0 : List Bool) (x4 : Int) (x34 : Bool) (h0_ : List T47) (h1_ h1__1 : Int) (r : R32_r_s1_l1_l4) (hF : f32_r_s1_l1_l4_j1 k x0 x4 x34 h0_ h1_ h1__1 = some r) : EX 32 k (nav B32 [2, 1, 2, 1, 2, 2, 2, 2, 1, 2, 1, 2, 2, 2, 1, 2]) ({ n := 47, F := [(0, V.sl 1 (rowsOf encB x0)), (3, V.own 30000), (4, V.p (Value.int .i64 x4)), (5, V.ptr 30001 0), (34, V.p (Value.bool x34))], M := [(30000, O.row true 2 47 (rowsOf encT47 h0_)), (30001, O.box 47 [V.p (Value.int .i64 h1_), V.p (Value.int .i64 h1__1)])] } : St) = some r.st := by
  unfold f32_r_s1_l1_l4_j1 at hF
  cases hF
  simp (maxSteps := 999999) (disch := first | exact D (by decide) | exact K (by kernel_rfl)) only [E, EE, ↓reduceIte, simprocAttr, xk B32 [2, 1, 2, 1, 2, 2, 2, 2, 1, 2, 1, 2, 2, 2, 1, 2] (.bk 5) rfl, show (nav B32 [2, 2, 1, 2, 1, 2, 2, 2, 2, 1, 2, 1, 2, 2, 2, 1, 2]) = Code.region 8 _ false from rfl, hk_32_8, hz_32_8, hs_32_8, R32_r_s1_l1_l4.st]
noncomputable def f32_r_s1_l1_l4_b (k : Nat) (x0 : List Bool) (x4 : Int) (h0_ : List T47) (h1_ h1__1 : Int) : Option R32_r_s1_l1_l4 :=
  cond ((decide (x4 < ((List.length x0) : Int))))
    (
      ifE ((0 : Int) ≤ x4) (
        Option.bind (x0[(Int.toNat x4)]?) fun v3 =>
          cond ((!v3))
            (f32_r_s1_l1_l4_j1 k x0 x4 true h0_ h1_ h1__1)
            (some (R32_r_s1_l1_l4.o1 x0 x4 false h0_ h1_ h1__1))))
    (some (R32_r_s1_l1_l4.o1 x0 x4 false h0_ h1_ h1__1))
theorem f32_r_s1_l1_l4_b_ok (k : Nat) (x0 : List Bool) (x4 : Int) (h0_ : List T47) (h1_ h1__1 : Int) (r : R32_r_s1_l1_l4) (hF : f32_r_s1_l1_l4_b k x0 x4 h0_ h1_ h1__1 = some r) : EX 32 k (nav B32 [1, 2, 1, 2, 2, 2, 2, 1, 2, 1, 2, 2, 2, 1, 2]) ({ n := 47, F := [(0, V.sl 1 (rowsOf encB x0)), (3, V.own 30000), (4, V.p (Value.int .i64 x4)), (5, V.ptr 30001 0)], M := [(30000, O.row true 2 47 (rowsOf encT47 h0_)), (30001, O.box 47 [V.p (Value.int .i64 h1_), V.p (Value.int .i64 h1__1)])] } : St) = some r.st := by
  unfold f32_r_s1_l1_l4_b at hF
  simp (maxSteps := 999999) (disch := first | exact D (by decide) | exact K (by kernel_rfl)) only [E, EE, ↓reduceIte, simprocAttr, xk B32 [1, 2, 1, 2, 2, 2, 2, 1, 2, 1, 2, 2, 2, 1, 2] .sq rfl, xk B32 [1, 1, 2, 1, 2, 2, 2, 2, 1, 2, 1, 2, 2, 2, 1, 2] .sq rfl, show (nav B32 [1, 1, 1, 2, 1, 2, 2, 2, 2, 1, 2, 1, 2, 2, 2, 1, 2]) = Code.region 7 _ false from rfl, hk_32_7, hz_32_7, hs_32_7, u_60, i_60, is_60, ib_60, iz_60]
  replace hF := cond_some hF
  rcases hF with ⟨h1, hF⟩ | ⟨h1, hF⟩
  · replace hF := ifE_some.1 hF
    obtain ⟨h2, hF⟩ := hF
    replace hF := Option.bind_eq_some_iff.1 hF
    obtain ⟨v3, h4, hF⟩ := hF
    simp (maxSteps := 999999) (disch := first | exact D (by decide) | exact K (by kernel_rfl)) only [E, EE, ↓reduceIte, simprocAttr, indexAddrV, u_60, i_60, is_60, ib_60, iz_60, u_4, i_4, is_4, ib_4, iz_4, encB_eq, xk B32 [2, 1, 1, 2, 1, 2, 2, 2, 2, 1, 2, 1, 2, 2, 2, 1, 2] (.cd 34) rfl, h1, h2, h4]
    replace hF := cond_some hF
    rcases hF with ⟨h5, hF⟩ | ⟨h5, hF⟩
    · have hJ := f32_r_s1_l1_l4_j1_ok k x0 x4 true h0_ h1_ h1__1 _ hF
      simp (maxSteps := 999999) (disch := first | exact D (by decide) | exact K (by kernel_rfl)) only [E, EE, ↓reduceIte, simprocAttr, xk B32 [2, 2, 1, 1, 2, 1, 2, 2, 2, 2, 1, 2, 1, 2, 2, 2, 1, 2] .sk rfl, h1, h2, h4, h5]
      try simp only [NM, EE] at hJ
      exact hJ
    · cases hF
      simp (maxSteps := 999999) (disch := first | exact D (by decide) | exact K (by kernel_rfl)) only [E, EE, ↓reduceIte, simprocAttr, xk B32 [3, 2, 1, 1, 2, 1, 2, 2, 2, 2, 1, 2, 1, 2, 2, 2, 1, 2] (.ex 4) rfl, R32_r_s1_l1_l4.st, h1, h2, h4, h5]
  · cases hF
    simp (maxSteps := 999999) (disch := first | exact D (by decide) | exact K (by kernel_rfl)) only [E, EE, ↓reduceIte, simprocAttr, xk B32 [2, 1, 1, 2, 1, 2, 2, 2, 2, 1, 2, 1, 2, 2, 2, 1, 2] (.cd 34) rfl, xk B32 [3, 2, 1, 1, 2, 1, 2, 2, 2, 2, 1, 2, 1, 2, 2, 2, 1, 2] (.ex 4) rfl, R32_r_s1_l1_l4.st, h1]
noncomputable def f32_r_s1_l1_l4 (k : Nat) : Nat → (List Bool) → Int → (List T47) → Int → Int → Option R32_r_s1_l1_l4
  | 0, _, _, _, _, _ => none
  | n + 1, x0, x4, h0_, h1_, h1__1 => Option.bind (f32_r_s1_l1_l4_b k x0 x4 h0_ h1_ h1__1) fun o =>
    match o with
    | .o0 y y_1 y_2 y_3 y_4 => f32_r_s1_l1_l4 k n y y_1 y_2 y_3 y_4
    | .o1 y y_1 y_2 y_3 y_4 y_5 => some (.o1 y y_1 y_2 y_3 y_4 y_5)
theorem f32_r_s1_l1_l4_ok (k n : Nat) : ∀ (x0 : List Bool) (x4 : Int) (h0_ : List T47) (h1_ h1__1 : Int) (r : R32_r_s1_l1_l4) (hF : f32_r_s1_l1_l4 k n x0 x4 h0_ h1_ h1__1 = some r) (σ : St) (hσ : headR (hints.head 32 7) (hints.canon 32 7) σ = some ({ n := 47, F := [(0, V.sl 1 (rowsOf encB x0)), (3, V.own 30000), (4, V.p (Value.int .i64 x4)), (5, V.ptr 30001 0)], M := [(30000, O.row true 2 47 (rowsOf encT47 h0_)), (30001, O.box 47 [V.p (Value.int .i64 h1_), V.p (Value.int .i64 h1__1)])] } : St)), LP 32 k (nav B32 [1, 2, 1, 2, 2, 2, 2, 1, 2, 1, 2, 2, 2, 1, 2]) n σ = some r.st := by
  induction n with
  | zero => intro x0 x4 h0_ h1_ h1__1 r hF; cases hF
  | succ n ih =>
    intro x0 x4 h0_ h1_ h1__1 r hF σ hσ
    rw [f32_r_s1_l1_l4] at hF
    obtain ⟨o, h, hF⟩ := Option.bind_eq_some_iff.1 hF
    have hB := f32_r_s1_l1_l4_b_ok k x0 x4 h0_ h1_ h1__1 o h
    unfold LP at ih ⊢
    unfold EX at hB
    rw [loopK_succ, show firstReg (nav B32 [1, 2, 1, 2, 2, 2, 2, 1, 2, 1, 2, 2, 2, 1, 2]) = 7 from rfl, hσ, headK_some, hB]
    cases o with
    | o0 y y_1 y_2 y_3 y_4 =>
      refine ih y y_1 y_2 y_3 y_4 r hF _ ?_
      simp (maxSteps := 999999) (disch := first | exact D (by decide) | exact K (by kernel_rfl)) only [E, EE, ↓reduceIte, simprocAttr, hh_32_7, hc_32_7]
    | o1 y y_1 y_2 y_3 y_4 y_5 => cases hF; rfl
inductive R32_r_s1_l1 where
  | o0 (y : List Bool) (y_1 : Int) (y_2 : Bool) (y_3 : List T47)
  | o1 (y : List Bool) (y_1 : Int) (y_2 : List T47)
noncomputable def R32_r_s1_l1.st : R32_r_s1_l1 → Out × St
  | .o0 y y_1 y_2 y_3 => (.exit 0, ({ n := 47, F := [(0, V.sl 1 (rowsOf encB y)), (3, V.own 30000), (4, V.p (Value.int .i64 y_1)), (21, V.p (Value.bool y_2))], M := [(30000, O.row true 2 47 (rowsOf encT47 y_3))] } : St))
  | .o1 y y_1 y_2 => (.norm, ({ n := 47, F := [(0, V.sl 1 (rowsOf encB y)), (3, V.own 45), (4, V.p (Value.int .i64 y_1))], M := [(45, O.row true 2 47 (rowsOf encT47 y_2))] } : St))
noncomputable def f32_r_s1_l1_j5 (k : Nat) (x0 : List Bool) (x4 : Int) (x34 : Bool) (h0_ : List T47) (h1_ h1__1 : Int) : Option R32_r_s1_l1 :=
  ifE (((List.length h0_) + 1) * 16 ≤ roomy) (
    some (R32_r_s1_l1.o1 x0 x4 (h0_ ++ ([(T47.mk h1_ (IntKind.i64.wrap (x4 - h1_)))] : List T47))))
theorem f32_r_s1_l1_j5_ok (k : Nat) (x0 : List Bool) (x4 : Int) (x34 : Bool) (h0_ : List T47) (h1_ h1__1 : Int) (r : R32_r_s1_l1) (hF : f32_r_s1_l1_j5 k x0 x4 x34 h0_ h1_ h1__1 = some r) : blockK 1 (EX 32 k (nav B32 [2, 2, 2, 2, 2, 1, 2, 1, 2, 2, 2, 1, 2]) ({ n := 47, F := [(0, V.sl 1 (rowsOf encB x0)), (3, V.own 30000), (4, V.p (Value.int .i64 x4)), (5, V.ptr 30001 0), (34, V.p (Value.bool x34))], M := [(30000, O.row true 2 47 (rowsOf encT47 h0_)), (30001, O.box 47 [V.p (Value.int .i64 h1_), V.p (Value.int .i64 h1__1)])] } : St)) = some r.st := by
  unfold f32_r_s1_l1_j5 at hF
  have q1 : [[V.p (Value.int .i64 h1_), V.p (Value.int .i64 (IntKind.i64.wrap (x4 - h1_)))]] = rowsOf encT47 ([(T47.mk h1_ (IntKind.i64.wrap (x4 - h1_)))] : List T47) := rfl
  have q2 : List.map (tell [0, 0]) (rowsOf encT47 ([(T47.mk h1_ (IntKind.i64.wrap (x4 - h1_)))] : List T47)) = rowsOf encT47 ([(T47.mk h1_ (IntKind.i64.wrap (x4 - h1_)))] : List T47) := rfl
  replace hF := ifE_some.1 hF
  obtain ⟨h3, hF⟩ := hF
  cases hF
  simp (maxSteps := 999999) (disch := first | exact D (by decide) | exact K (by kernel_rfl)) only [E, EE, ↓reduceIte, simprocAttr, xk B32 [2, 2, 2, 2, 2, 1, 2, 1, 2, 2, 2, 1, 2] .sq rfl, show (nav B32 [1, 2, 2, 2, 2, 2, 1, 2, 1, 2, 2, 2, 1, 2]) = Code.region 9 _ false from rfl, hk_32_9, hz_32_9, hs_32_9, fieldAddrV, u_47, i_47, is_47, ib_47, iz_47, u_3, i_3, is_3, ib_3, iz_3, show (nav B32 [2, 2, 2, 2, 2, 2, 1, 2, 1, 2, 2, 2, 1, 2]) = Code.region 10 _ false from rfl, hk_32_10, hz_32_10, hs_32_10, buildSliceV, fillRows, sm_47, u_41, i_41, is_41, ib_41, iz_41, appendV, content, R32_r_s1_l1.st, q1, q2, h3]
noncomputable def f32_r_s1_l1_j3 (k : Nat) (x0 : List Bool) (x4 : Int) (x21 : Bool) (h0_ : List T47) : Option R32_r_s1_l1 :=
  Option.bind (f32_r_s1_l1_l4 k k x0 x4 h0_ x4 0) fun o1 =>
    match o1 with
    | .o0 _ _ _ _ _ =>
      none
    | .o1 v4 v5 v6 v7 v8 v9 =>
      f32_r_s1_l1_j5 k v4 v5 v6 v7 v8 v9
theorem f32_r_s1_l1_j3_ok (k : Nat) (x0 : List Bool) (x4 : Int) (x21 : Bool) (h0_ : List T47) (r : R32_r_s1_l1) (hF : f32_r_s1_l1_j3 k x0 x4 x21 h0_ = some r) : blockK 1 (EX 32 k (nav B32 [2, 2, 2, 1, 2, 1, 2, 2, 2, 1, 2]) ({ n := 47, F := [(0, V.sl 1 (rowsOf encB x0)), (3, V.own 30000), (4, V.p (Value.int .i64 x4)), (21, V.p (Value.bool x21))], M := [(30000, O.row true 2 47 (rowsOf encT47 h0_))] } : St)) = some r.st := by
  unfold f32_r_s1_l1_j3 at hF
  replace hF := Option.bind_eq_some_iff.1 hF
  obtain ⟨o1, h2, hF⟩ := hF
  have hc3 := f32_r_s1_l1_l4_ok k k x0 x4 h0_ x4 0 _ h2
  simp (maxSteps := 999999) (disch := first | exact D (by decide) | exact K (by kernel_rfl)) only [E, EE, ↓reduceIte, simprocAttr, xk B32 [2, 2, 2, 1, 2, 1, 2, 2, 2, 1, 2] .sq rfl, show (nav B32 [1, 2, 2, 2, 1, 2, 1, 2, 2, 2, 1, 2]) = Code.region 6 _ false from rfl, hk_32_6, hz_32_6, hs_32_6, bl_47, u_47, i_47, is_47, ib_47, iz_47, xk B32 [2, 2, 2, 2, 1, 2, 1, 2, 2, 2, 1, 2] .sq rfl, xk B32 [1, 2, 2, 2, 2, 1, 2, 1, 2, 2, 2, 1, 2] (.bk 4) rfl, xk B32 [2, 1, 2, 2, 2, 2, 1, 2, 1, 2, 2, 2, 1, 2] .lp rfl, hh_32_7, hc_32_7]
  (try simp only [NM, EE] at hc3)
  rw [hc3 _ (by simp (maxSteps := 999999) (disch := first | exact D (by decide) | exact K (by kernel_rfl)) only [E, EE, ↓reduceIte, simprocAttr, hh_32_7, hc_32_7])]
  clear hc3
  cases o1 with
  | o0 _ _ _ _ _ =>
    (try dsimp only at hF)
    cases hF
  | o1 v4 v5 v6 v7 v8 v9 =>
    (try dsimp only at hF)
    have hJ := f32_r_s1_l1_j5_ok k v4 v5 v6 v7 v8 v9 _ hF
    simp (maxSteps := 999999) (disch := first | exact D (by decide) | exact K (by kernel_rfl)) only [E, EE, ↓reduceIte, simprocAttr, R32_r_s1_l1_l4.st]
    try simp only [NM, EE] at hJ
    exact hJ
noncomputable def f32_r_s1_l1_j2 (k : Nat) (x0 : List Bool) (x4 : Int) (x15 : Bool) (h0_ : List T47) : Option R32_r_s1_l1 :=
  cond ((x4 == ((List.length x0) : Int)))
    (some (R32_r_s1_l1.o0 x0 x4 true h0_))
    (f32_r_s1_l1_j3 k x0 x4 false h0_)
theorem f32_r_s1_l1_j2_ok (k : Nat) (x0 : List Bool) (x4 : Int) (x15 : Bool) (h0_ : List T47) (r : R32_r_s1_l1) (hF : f32_r_s1_l1_j2 k x0 x4 x15 h0_ = some r) : blockK 1 (EX 32 k (nav B32 [2, 2, 1, 2, 1, 2, 2, 2, 1, 2]) ({ n := 47, F := [(0, V.sl 1 (rowsOf encB x0)), (3, V.own 30000), (4, V.p (Value.int .i64 x4)), (15, V.p (Value.bool x15))], M := [(30000, O.row true 2 47 (rowsOf encT47 h0_))] } : St)) = some r.st := by
  unfold f32_r_s1_l1_j2 at hF
  simp (maxSteps := 999999) (disch := first | exact D (by decide) | exact K (by kernel_rfl)) only [E, EE, ↓reduceIte, simprocAttr, xk B32 [2, 2, 1, 2, 1, 2, 2, 2, 1, 2] .sq rfl, xk B32 [1, 2, 2, 1, 2, 1, 2, 2, 2, 1, 2] .sq rfl, show (nav B32 [1, 1, 2, 2, 1, 2, 1, 2, 2, 2, 1, 2]) = Code.region 5 _ false from rfl, hk_32_5, hz_32_5, hs_32_5, u_60, i_60, is_60, ib_60, iz_60, xk B32 [2, 1, 2, 2, 1, 2, 1, 2, 2, 2, 1, 2] (.cd 21) rfl]
  replace hF := cond_some hF
  rcases hF with ⟨h1, hF⟩ | ⟨h1, hF⟩
  · cases hF
    simp (maxSteps := 999999) (disch := first | exact D (by decide) | exact K (by kernel_rfl)) only [E, EE, ↓reduceIte, simprocAttr, xk B32 [2, 2, 1, 2, 2, 1, 2, 1, 2, 2, 2, 1, 2] (.ex 0) rfl, R32_r_s1_l1.st, h1]
  · have hJ := f32_r_s1_l1_j3_ok k x0 x4 false h0_ _ hF
    simp (maxSteps := 999999) (disch := first | exact D (by decide) | exact K (by kernel_rfl)) only [E, EE, ↓reduceIte, simprocAttr, xk B32 [3, 2, 1, 2, 2, 1, 2, 1, 2, 2, 2, 1, 2] .sk rfl, h1]
    try simp only [NM, EE] at hJ
    exact hJ
noncomputable def f32_r_s1_l1_b (k : Nat) (x0 : List Bool) (x4 : Int) (h0_ : List T47) : Option R32_r_s1_l1 :=
  Option.bind (f32_r_s1_l1_l1 k k x0 x4 h0_) fun o1 =>
    match o1 with
    | .o0 _ _ _ =>
      none
    | .o1 v4 v5 v6 v7 =>
      f32_r_s1_l1_j2 k v4 v5 v6 v7
theorem f32_r_s1_l1_b_ok (k : Nat) (x0 : List Bool) (x4 : Int) (h0_ : List T47) (r : R32_r_s1_l1) (hF : f32_r_s1_l1_b k x0 x4 h0_ = some r) : EX 32 k (nav B32 [1, 2, 1, 2, 2, 2, 1, 2]) ({ n := 47, F := [(0, V.sl 1 (rowsOf encB x0)), (3, V.own 30000), (4, V.p (Value.int .i64 x4))], M := [(30000, O.row true 2 47 (rowsOf encT47 h0_))] } : St) = some r.st := by
  unfold f32_r_s1_l1_b at hF
  replace hF := Option.bind_eq_some_iff.1 hF
  obtain ⟨o1, h2, hF⟩ := hF
  have hc3 := f32_r_s1_l1_l1_ok k k x0 x4 h0_ _ h2
  simp (maxSteps := 999999) (disch := first | exact D (by decide) | exact K (by kernel_rfl)) only [E, EE, ↓reduceIte, simprocAttr, xk B32 [1, 2, 1, 2, 2, 2, 1, 2] (.bk 1) rfl, xk B32 [2, 1, 2, 1, 2, 2, 2, 1, 2] .sq rfl, xk B32 [1, 2, 1, 2, 1, 2, 2, 2, 1, 2] (.bk 2) rfl, xk B32 [2, 1, 2, 1, 2, 1, 2, 2, 2, 1, 2] .lp rfl, hh_32_3, hc_32_3]
  (try simp only [NM, EE] at hc3)
  rw [hc3 _ (by simp (maxSteps := 999999) (disch := first | exact D (by decide) | exact K (by kernel_rfl)) only [E, EE, ↓reduceIte, simprocAttr, hh_32_3, hc_32_3])]
  clear hc3
  cases o1 with
  | o0 _ _ _ =>
    (try dsimp only at hF)
    cases hF
  | o1 v4 v5 v6 v7 =>
    (try dsimp only at hF)
    have hJ := f32_r_s1_l1_j2_ok k v4 v5 v6 v7 _ hF
    simp (maxSteps := 999999) (disch := first | exact D (by decide) | exact K (by kernel_rfl)) only [E, EE, ↓reduceIte, simprocAttr, R32_r_s1_l1_l1.st]
    try simp only [NM, EE] at hJ
    exact hJ
noncomputable def f32_r_s1_l1 (k : Nat) : Nat → (List Bool) → Int → (List T47) → Option R32_r_s1_l1
  | 0, _, _, _ => none
  | n + 1, x0, x4, h0_ => Option.bind (f32_r_s1_l1_b k x0 x4 h0_) fun o =>
    match o with
    | .o0 y y_1 y_2 y_3 => some (.o0 y y_1 y_2 y_3)
    | .o1 y y_1 y_2 => f32_r_s1_l1 k n y y_1 y_2
theorem f32_r_s1_l1_ok (k n : Nat) : ∀ (x0 : List Bool) (x4 : Int) (h0_ : List T47) (r : R32_r_s1_l1) (hF : f32_r_s1_l1 k n x0 x4 h0_ = some r) (σ : St) (hσ : headR (hints.head 32 3) (hints.canon 32 3) σ = some ({ n := 47, F := [(0, V.sl 1 (rowsOf encB x0)), (3, V.own 30000), (4, V.p (Value.int .i64 x4))], M := [(30000, O.row true 2 47 (rowsOf encT47 h0_))] } : St)), LP 32 k (nav B32 [1, 2, 1, 2, 2, 2, 1, 2]) n σ = some r.st := by
  induction n with
  | zero => intro x0 x4 h0_ r hF; cases hF
  | succ n ih =>
    intro x0 x4 h0_ r hF σ hσ
    rw [f32_r_s1_l1] at hF
    obtain ⟨o, h, hF⟩ := Option.bind_eq_some_iff.1 hF
    have hB := f32_r_s1_l1_b_ok k x0 x4 h0_ o h
    unfold LP at ih ⊢
    unfold EX at hB
    rw [loopK_succ, show firstReg (nav B32 [1, 2, 1, 2, 2, 2, 1, 2]) = 3 from rfl, hσ, headK_some, hB]
    cases o with
    | o0 y y_1 y_2 y_3 => cases hF; rfl
    | o1 y y_1 y_2 =>
      refine ih y y_1 y_2 r hF _ ?_
      simp (maxSteps := 999999) (disch := first | exact D (by decide) | exact K (by kernel_rfl)) only [E, EE, ↓reduceIte, simprocAttr, hh_32_3, hc_32_3]
inductive R32_r_s1 where
  | o0 (y : List T47)
noncomputable def R32_r_s1.st : R32_r_s1 → Out × St
  | .o0 y => (.ret, ({ n := 47, F := [(2, V.own 30000)], M := [(30000, O.row true 2 47 (rowsOf encT47 y))] } : St))
noncomputable def f32_r_s1_j2 (k : Nat) (x0 : List Bool) (x4 : Int) (x21 : Bool) (h0_ : List T47) : Option R32_r_s1 :=
  some (R32_r_s1.o0 h0_)
theorem f32_r_s1_j2_ok (k : Nat) (x0 : List Bool) (x4 : Int) (x21 : Bool) (h0_ : List T47) (r : R32_r_s1) (hF : f32_r_s1_j2 k x0 x4 x21 h0_ = some r) : EX 32 k (nav B32 [2, 2, 2, 2, 1, 2]) ({ n := 47, F := [(0, V.sl 1 (rowsOf encB x0)), (3, V.own 30000), (4, V.p (Value.int .i64 x4)), (21, V.p (Value.bool x21))], M := [(30000, O.row true 2 47 (rowsOf encT47 h0_))] } : St) = some r.st := by
  unfold f32_r_s1_j2 at hF
  cases hF
  simp (maxSteps := 999999) (disch := first | exact D (by decide) | exact K (by kernel_rfl)) only [E, EE, ↓reduceIte, simprocAttr, xk B32 [2, 2, 2, 2, 1, 2] .sq rfl, show (nav B32 [1, 2, 2, 2, 2, 1, 2]) = Code.region 11 _ false from rfl, hk_32_11, hz_32_11, hs_32_11, xk B32 [2, 2, 2, 2, 2, 1, 2] .rt rfl, R32_r_s1.st]
noncomputable def f32_r_s1_b (k : Nat) (x0 : List Bool) : Option R32_r_s1 :=
  Option.bind (f32_r_s1_l1 k k x0 0 []) fun o1 =>
    match o1 with
    | .o0 v4 v5 v6 v7 =>
      f32_r_s1_j2 k v4 v5 v6 v7
    | .o1 _ _ _ =>
      none
theorem f32_r_s1_b_ok (k : Nat) (x0 : List Bool) (r : R32_r_s1) (hF : f32_r_s1_b k x0 = some r) : EX 32 k (nav B32 [1, 2]) ({ n := 47, F := [(0, V.sl 1 (rowsOf encB x0))], M := [] } : St) = some r.st := by
  unfold f32_r_s1_b at hF
  replace hF := Option.bind_eq_some_iff.1 hF
  obtain ⟨o1, h2, hF⟩ := hF
  have hc3 := f32_r_s1_l1_ok k k x0 0 [] _ h2
  simp (maxSteps := 999999) (disch := first | exact D (by decide) | exact K (by kernel_rfl)) only [E, EE, ↓reduceIte, simprocAttr, xk B32 [1, 2] .sq rfl, show (nav B32 [1, 1, 2]) = Code.region 1 _ false from rfl, hk_32_1, hz_32_1, hs_32_1, xk B32 [2, 1, 2] .sq rfl, show (nav B32 [1, 2, 1, 2]) = Code.region 2 _ false from rfl, hk_32_2, hz_32_2, hs_32_2, xk B32 [2, 2, 1, 2] .sq rfl, xk B32 [1, 2, 2, 1, 2] (.lb 0) rfl, xk B32 [2, 2, 2, 1, 2] .sq rfl, xk B32 [1, 2, 2, 2, 1, 2] (.bk 0) rfl, xk B32 [2, 1, 2, 2, 2, 1, 2] .lp rfl, hh_32_3, hc_32_3]
  (try simp only [NM, EE] at hc3)
  rw [hc3 _ (by simp (maxSteps := 999999) (disch := first | exact D (by decide) | exact K (by kernel_rfl)) only [E, EE, ↓reduceIte, simprocAttr, hh_32_3, hc_32_3])]
  clear hc3
  cases o1 with
  | o0 v4 v5 v6 v7 =>
    (try dsimp only at hF)
    have hJ := f32_r_s1_j2_ok k v4 v5 v6 v7 _ hF
    simp (maxSteps := 999999) (disch := first | exact D (by decide) | exact K (by kernel_rfl)) only [E, EE, ↓reduceIte, simprocAttr, R32_r_s1_l1.st]
    try simp only [NM, EE] at hJ
    exact hJ
  | o1 _ _ _ =>
    (try dsimp only at hF)
    cases hF
noncomputable def f32_r_s1 (k : Nat) (x0 : List Bool) : Option R32_r_s1 := Option.bind (f32_r_s1_b k x0) fun o =>
  match o with
  | .o0 y => some (.o0 y)
theorem f32_r_s1_ok (k : Nat) (x0 : List Bool) (r : R32_r_s1) (hF : f32_r_s1 k x0 = some r) : EX 32 k (nav B32 [2]) ({ n := 47, F := [(0, V.sl 1 (rowsOf encB x0))], M := [] } : St) = some r.st := by
  unfold f32_r_s1 at hF
  obtain ⟨o, h, hF⟩ := Option.bind_eq_some_iff.1 hF
  unfold EX
  rw [show (nav B32 [2]) = Code.scope (nav B32 [1, 2]) from rfl, ev_scope, (show exec _ _ _ _ _ _ _ _ = _ from f32_r_s1_b_ok k x0 o h)]
  cases o with
  | o0 y => cases hF; simp only [R32_r_s1.st, jumpsK_norm, jumpsK_ret, jumpsK_exit]
noncomputable def f32_r_e (k : Nat) (a0 : List Bool) : Option R32_r :=
  Option.bind (f32_r_s1 k a0) fun o1 =>
    match o1 with
    | .o0 v4 =>
      some (R32_r.o0 v4)
theorem f32_r_e_ok (k : Nat) (a0 : List Bool) (r : R32_r) (hF : f32_r_e k a0 = some r) : finK Try.prog Try.f32 0 (EX 32 k (nav B32 []) ({ n := 47, F := [(0, V.sl 1 (rowsOf encB a0))], M := [] } : St)) = some r.st := by
  unfold f32_r_e at hF
  simp (maxSteps := 999999) (disch := first | exact D (by decide) | exact K (by kernel_rfl)) only [E, EE, ↓reduceIte, simprocAttr, xk B32 [] .sq rfl, show (nav B32 [1]) = Code.region 0 _ false from rfl, hk_32_0, hz_32_0, hs_32_0]
  replace hF := Option.bind_eq_some_iff.1 hF
  obtain ⟨o1, h2, hF⟩ := hF
  have hc3 := f32_r_s1_ok k a0 _ h2
  cases o1 with
  | o0 v4 =>
    (try dsimp only at hF)
    (try simp only [NM, EE, R32_r_s1.st] at hc3)
    cases hF
    simp (maxSteps := 999999) (disch := first | exact D (by decide) | exact K (by kernel_rfl)) only [E, EE, ↓reduceIte, simprocAttr, R32_r_s1.st, finK_norm, finK_ret, fin32, R32_r.st, hc3]
noncomputable def f32_r (k : Nat) (a0 : List Bool) : Option R32_r := match k with | 0 => none | k + 1 => f32_r_e k a0
theorem f32_r_ok (k : Nat) (a0 : List Bool) (r : R32_r) (hF : f32_r k a0 = some r) : CV k 32 [V.sl 1 (rowsOf encB a0)] [] = some r.st := by
  cases k with
  | zero => cases hF
  | succ k =>
    unfold CV
    rw [ev_call (F := Try.f32) (c := (nav B32 [])) rfl Try.func32 rfl rfl rfl rfl]
    exact f32_r_e_ok k a0 r hF
end Go.Proofs.YteggcokgkcfliaaV
