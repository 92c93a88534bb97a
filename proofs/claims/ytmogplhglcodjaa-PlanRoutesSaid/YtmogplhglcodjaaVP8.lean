/- What the program's functions answer: plain functions, and that the interpreter answers what they do. Written by a program of this session, out of the translation. -/
import Derived.Test.YtmogplhglcodjaaVP7
namespace Go.Proofs.YtmogplhglcodjaaV
open Go
set_option linter.unusedVariables false
set_option linter.unusedSimpArgs false
set_option maxRecDepth 8000
set_option maxHeartbeats 4000000
-- f3_airzrai4z: f3 heliograph/heliographlaw13.PlanRoutes
inductive R3_airzrai4z where
  | o0 (y : Bool)
noncomputable def R3_airzrai4z.st : R3_airzrai4z → V × List O × List O
  | .o0 y => (V.p (Value.bool y), [], [])
inductive R3_airzrai4z_l3 where
  | o0 (y : List Int) (y_1 y_2 y_3 : Int) (y_4 : Bool) (y_5 : List Int) (y_6 y_7 y_8 : Int) (y_9 : List T44) (y_10 y_11 y_12 y_13 : Int)
  | o1 (y : List Int) (y_1 y_2 y_3 : Int) (y_4 : Bool) (y_5 : List Int) (y_6 y_7 : Int) (y_8 : Bool) (y_9 : Int) (y_10 : List T44) (y_11 y_12 y_13 y_14 : Int)
noncomputable def R3_airzrai4z_l3.st : R3_airzrai4z_l3 → Out × St
  | .o0 y y_1 y_2 y_3 y_4 y_5 y_6 y_7 y_8 y_9 y_10 y_11 y_12 y_13 => (.norm, ({ n := 161, F := [(1, V.sl 1 (rowsOf (encI .i64) y)), (3, V.ptr 30000 0), (5, V.ptr 30001 0), (7, V.p (Value.int .i64 y_1)), (8, V.p (Value.int .i64 y_2)), (9, V.p (Value.int .i64 y_3)), (10, V.p (Value.bool y_4)), (100, V.sl 1 (rowsOf (encI .i64) y_5)), (101, V.p (Value.int .i64 y_6)), (102, V.p (Value.int .i64 y_7))], M := [(30000, O.box 24 [V.p (Value.int .i64 y_8), V.sl 6 (rowsOf encT44 y_9)]), (30001, O.box 27 [V.p (Value.int .i64 y_10), V.p (Value.int .i64 y_11), V.p (Value.int .i64 y_12), V.p (Value.int .i64 y_13)])] } : St))
  | .o1 y y_1 y_2 y_3 y_4 y_5 y_6 y_7 y_8 y_9 y_10 y_11 y_12 y_13 y_14 => (.exit 0, ({ n := 161, F := [(1, V.sl 1 (rowsOf (encI .i64) y)), (3, V.ptr 30000 0), (5, V.ptr 30001 0), (7, V.p (Value.int .i64 y_1)), (8, V.p (Value.int .i64 y_2)), (9, V.p (Value.int .i64 y_3)), (10, V.p (Value.bool y_4)), (100, V.sl 1 (rowsOf (encI .i64) y_5)), (101, V.p (Value.int .i64 y_6)), (102, V.p (Value.int .i64 y_7)), (103, V.p (Value.bool y_8))], M := [(30000, O.box 24 [V.p (Value.int .i64 y_9), V.sl 6 (rowsOf encT44 y_10)]), (30001, O.box 27 [V.p (Value.int .i64 y_11), V.p (Value.int .i64 y_12), V.p (Value.int .i64 y_13), V.p (Value.int .i64 y_14)])] } : St))
noncomputable def f3_airzrai4z_l3_j2 (k : Nat) (x1 : List Int) (x7 x8 x9 : Int) (x10 : Bool) (x100 : List Int) (x101 x102 h0_ : Int) (h0__1 : List T44) (h1_ h1__1 h1__2 h1__3 : Int) : Option R3_airzrai4z_l3 :=
  some (R3_airzrai4z_l3.o0 x1 x7 x8 x9 x10 x100 x101 (IntKind.i64.wrap (x102 + (1 : Int))) h0_ h0__1 h1_ h1__1 h1__2 h1__3)
theorem f3_airzrai4z_l3_j2_ok (k : Nat) (x1 : List Int) (x7 x8 x9 : Int) (x10 : Bool) (x100 : List Int) (x101 x102 h0_ : Int) (h0__1 : List T44) (h1_ h1__1 h1__2 h1__3 : Int) (r : R3_airzrai4z_l3) (hF : f3_airzrai4z_l3_j2 k x1 x7 x8 x9 x10 x100 x101 x102 h0_ h0__1 h1_ h1__1 h1__2 h1__3 = some r) : EX 3 k (nav B3 [2, 2, 2, 1, 2, 2, 1, 2, 2, 2, 2, 2]) ({ n := 161, F := [(1, V.sl 1 (rowsOf (encI .i64) x1)), (3, V.ptr 30000 0), (5, V.ptr 30001 0), (7, V.p (Value.int .i64 x7)), (8, V.p (Value.int .i64 x8)), (9, V.p (Value.int .i64 x9)), (10, V.p (Value.bool x10)), (100, V.sl 1 (rowsOf (encI .i64) x100)), (101, V.p (Value.int .i64 x101)), (102, V.p (Value.int .i64 x102))], M := [(30000, O.box 24 [V.p (Value.int .i64 h0_), V.sl 6 (rowsOf encT44 h0__1)]), (30001, O.box 27 [V.p (Value.int .i64 h1_), V.p (Value.int .i64 h1__1), V.p (Value.int .i64 h1__2), V.p (Value.int .i64 h1__3)])] } : St) = some r.st := by
  unfold f3_airzrai4z_l3_j2 at hF
  cases hF
  simp (maxSteps := 999999) (disch := first | exact D (by decide) | exact K (by kernel_rfl)) only [E, EE, ↓reduceIte, simprocAttr, show (nav B3 [2, 2, 2, 1, 2, 2, 1, 2, 2, 2, 2, 2]) = Code.region 11 _ false from rfl, hk_3_11, hz_3_11, hs_3_11, R3_airzrai4z_l3.st]
noncomputable def f3_airzrai4z_l3_j1 (k : Nat) (x1 : List Int) (x7 x8 x9 : Int) (x10 : Bool) (x100 : List Int) (x101 x102 : Int) (x103 : Bool) (h0_ : Int) (h0__1 : List T44) (h1_ h1__1 h1__2 h1__3 : Int) : Option R3_airzrai4z_l3 :=
  ifE ((0 : Int) ≤ x102) (
    Option.bind (x100[(Int.toNat x102)]?) fun v2 =>
      cond (x10)
        (f3_airzrai4z_l3_j2 k x1 x7 x8 x9 true x100 x101 x102 h0_ h0__1 h1_ h1__1 h1__2 h1__3)
        (f3_airzrai4z_l3_j2 k x1 x7 x8 x9 (decide (v2 < 0)) x100 x101 x102 h0_ h0__1 h1_ h1__1 h1__2 h1__3))
theorem f3_airzrai4z_l3_j1_ok (k : Nat) (x1 : List Int) (x7 x8 x9 : Int) (x10 : Bool) (x100 : List Int) (x101 x102 : Int) (x103 : Bool) (h0_ : Int) (h0__1 : List T44) (h1_ h1__1 h1__2 h1__3 : Int) (r : R3_airzrai4z_l3) (hF : f3_airzrai4z_l3_j1 k x1 x7 x8 x9 x10 x100 x101 x102 x103 h0_ h0__1 h1_ h1__1 h1__2 h1__3 = some r) : EX 3 k (nav B3 [2, 2, 1, 2, 2, 1, 2, 2, 2, 2, 2]) ({ n := 161, F := [(1, V.sl 1 (rowsOf (encI .i64) x1)), (3, V.ptr 30000 0), (5, V.ptr 30001 0), (7, V.p (Value.int .i64 x7)), (8, V.p (Value.int .i64 x8)), (9, V.p (Value.int .i64 x9)), (10, V.p (Value.bool x10)), (100, V.sl 1 (rowsOf (encI .i64) x100)), (101, V.p (Value.int .i64 x101)), (102, V.p (Value.int .i64 x102)), (103, V.p (Value.bool x103))], M := [(30000, O.box 24 [V.p (Value.int .i64 h0_), V.sl 6 (rowsOf encT44 h0__1)]), (30001, O.box 27 [V.p (Value.int .i64 h1_), V.p (Value.int .i64 h1__1), V.p (Value.int .i64 h1__2), V.p (Value.int .i64 h1__3)])] } : St) = some r.st := by
  unfold f3_airzrai4z_l3_j1 at hF
  replace hF := ifE_some.1 hF
  obtain ⟨h1, hF⟩ := hF
  replace hF := Option.bind_eq_some_iff.1 hF
  obtain ⟨v2, h3, hF⟩ := hF
  simp (maxSteps := 999999) (disch := first | exact D (by decide) | exact K (by kernel_rfl)) only [E, EE, ↓reduceIte, simprocAttr, xk B3 [2, 2, 1, 2, 2, 1, 2, 2, 2, 2, 2] .sq rfl, xk B3 [1, 2, 2, 1, 2, 2, 1, 2, 2, 2, 2, 2] (.bk 1) rfl, xk B3 [2, 1, 2, 2, 1, 2, 2, 1, 2, 2, 2, 2, 2] .sq rfl, show (nav B3 [1, 2, 1, 2, 2, 1, 2, 2, 1, 2, 2, 2, 2, 2]) = Code.region 9 _ false from rfl, hk_3_9, hz_3_9, hs_3_9, indexAddrV, u_25, i_25, is_25, ib_25, iz_25, u_3, i_3, is_3, ib_3, iz_3, encI_eq, show (nav B3 [2, 2, 1, 2, 2, 1, 2, 2, 1, 2, 2, 2, 2, 2]) = Code.region 10 _ false from rfl, hk_3_10, hz_3_10, hs_3_10, h1, h3]
  replace hF := cond_some hF
  rcases hF with ⟨h4, hF⟩ | ⟨h4, hF⟩
  · have hJ := f3_airzrai4z_l3_j2_ok k x1 x7 x8 x9 true x100 x101 x102 h0_ h0__1 h1_ h1__1 h1__2 h1__3 _ hF
    simp (maxSteps := 999999) (disch := first | exact D (by decide) | exact K (by kernel_rfl)) only [E, EE, ↓reduceIte, simprocAttr, h1, h3, h4]
    try simp only [NM, EE] at hJ
    exact hJ
  · have hJ := f3_airzrai4z_l3_j2_ok k x1 x7 x8 x9 (decide (v2 < 0)) x100 x101 x102 h0_ h0__1 h1_ h1__1 h1__2 h1__3 _ hF
    simp (maxSteps := 999999) (disch := first | exact D (by decide) | exact K (by kernel_rfl)) only [E, EE, ↓reduceIte, simprocAttr, h1, h3, h4]
    try simp only [NM, EE] at hJ
    exact hJ
noncomputable def f3_airzrai4z_l3_b (k : Nat) (x1 : List Int) (x7 x8 x9 : Int) (x10 : Bool) (x100 : List Int) (x101 x102 h0_ : Int) (h0__1 : List T44) (h1_ h1__1 h1__2 h1__3 : Int) : Option R3_airzrai4z_l3 :=
  cond ((decide (x102 < x101)))
    (f3_airzrai4z_l3_j1 k x1 x7 x8 x9 x10 x100 x101 x102 true h0_ h0__1 h1_ h1__1 h1__2 h1__3)
    (some (R3_airzrai4z_l3.o1 x1 x7 x8 x9 x10 x100 x101 x102 false h0_ h0__1 h1_ h1__1 h1__2 h1__3))
theorem f3_airzrai4z_l3_b_ok (k : Nat) (x1 : List Int) (x7 x8 x9 : Int) (x10 : Bool) (x100 : List Int) (x101 x102 h0_ : Int) (h0__1 : List T44) (h1_ h1__1 h1__2 h1__3 : Int) (r : R3_airzrai4z_l3) (hF : f3_airzrai4z_l3_b k x1 x7 x8 x9 x10 x100 x101 x102 h0_ h0__1 h1_ h1__1 h1__2 h1__3 = some r) : EX 3 k (nav B3 [1, 2, 2, 1, 2, 2, 2, 2, 2]) ({ n := 161, F := [(1, V.sl 1 (rowsOf (encI .i64) x1)), (3, V.ptr 30000 0), (5, V.ptr 30001 0), (7, V.p (Value.int .i64 x7)), (8, V.p (Value.int .i64 x8)), (9, V.p (Value.int .i64 x9)), (10, V.p (Value.bool x10)), (100, V.sl 1 (rowsOf (encI .i64) x100)), (101, V.p (Value.int .i64 x101)), (102, V.p (Value.int .i64 x102))], M := [(30000, O.box 24 [V.p (Value.int .i64 h0_), V.sl 6 (rowsOf encT44 h0__1)]), (30001, O.box 27 [V.p (Value.int .i64 h1_), V.p (Value.int .i64 h1__1), V.p (Value.int .i64 h1__2), V.p (Value.int .i64 h1__3)])] } : St) = some r.st := by
  unfold f3_airzrai4z_l3_b at hF
  simp (maxSteps := 999999) (disch := first | exact D (by decide) | exact K (by kernel_rfl)) only [E, EE, ↓reduceIte, simprocAttr, xk B3 [1, 2, 2, 1, 2, 2, 2, 2, 2] .sq rfl, show (nav B3 [1, 1, 2, 2, 1, 2, 2, 2, 2, 2]) = Code.region 8 _ false from rfl, hk_3_8, hz_3_8, hs_3_8, xk B3 [2, 1, 2, 2, 1, 2, 2, 2, 2, 2] .sq rfl, xk B3 [1, 2, 1, 2, 2, 1, 2, 2, 2, 2, 2] (.cd 103) rfl]
  replace hF := cond_some hF
  rcases hF with ⟨h1, hF⟩ | ⟨h1, hF⟩
  · have hJ := f3_airzrai4z_l3_j1_ok k x1 x7 x8 x9 x10 x100 x101 x102 true h0_ h0__1 h1_ h1__1 h1__2 h1__3 _ hF
    simp (maxSteps := 999999) (disch := first | exact D (by decide) | exact K (by kernel_rfl)) only [E, EE, ↓reduceIte, simprocAttr, xk B3 [2, 1, 2, 1, 2, 2, 1, 2, 2, 2, 2, 2] .sk rfl, h1]
    try simp only [NM, EE] at hJ
    exact hJ
  · cases hF
    simp (maxSteps := 999999) (disch := first | exact D (by decide) | exact K (by kernel_rfl)) only [E, EE, ↓reduceIte, simprocAttr, xk B3 [3, 1, 2, 1, 2, 2, 1, 2, 2, 2, 2, 2] (.ex 0) rfl, R3_airzrai4z_l3.st, h1]
noncomputable def f3_airzrai4z_l3 (k : Nat) : Nat → (List Int) → Int → Int → Int → Bool → (List Int) → Int → Int → Int → (List T44) → Int → Int → Int → Int → Option R3_airzrai4z_l3
  | 0, _, _, _, _, _, _, _, _, _, _, _, _, _, _ => none
  | n + 1, x1, x7, x8, x9, x10, x100, x101, x102, h0_, h0__1, h1_, h1__1, h1__2, h1__3 => Option.bind (f3_airzrai4z_l3_b k x1 x7 x8 x9 x10 x100 x101 x102 h0_ h0__1 h1_ h1__1 h1__2 h1__3) fun o =>
    match o with
    | .o0 y y_1 y_2 y_3 y_4 y_5 y_6 y_7 y_8 y_9 y_10 y_11 y_12 y_13 => f3_airzrai4z_l3 k n y y_1 y_2 y_3 y_4 y_5 y_6 y_7 y_8 y_9 y_10 y_11 y_12 y_13
    | .o1 y y_1 y_2 y_3 y_4 y_5 y_6 y_7 y_8 y_9 y_10 y_11 y_12 y_13 y_14 => some (.o1 y y_1 y_2 y_3 y_4 y_5 y_6 y_7 y_8 y_9 y_10 y_11 y_12 y_13 y_14)
theorem f3_airzrai4z_l3_ok (k n : Nat) : ∀ (x1 : List Int) (x7 x8 x9 : Int) (x10 : Bool) (x100 : List Int) (x101 x102 h0_ : Int) (h0__1 : List T44) (h1_ h1__1 h1__2 h1__3 : Int) (r : R3_airzrai4z_l3) (hF : f3_airzrai4z_l3 k n x1 x7 x8 x9 x10 x100 x101 x102 h0_ h0__1 h1_ h1__1 h1__2 h1__3 = some r) (σ : St) (hσ : headR (hints.head 3 8) (hints.canon 3 8) σ = some ({ n := 161, F := [(1, V.sl 1 (rowsOf (encI .i64) x1)), (3, V.ptr 30000 0), (5, V.ptr 30001 0), (7, V.p (Value.int .i64 x7)), (8, V.p (Value.int .i64 x8)), (9, V.p (Value.int .i64 x9)), (10, V.p (Value.bool x10)), (100, V.sl 1 (rowsOf (encI .i64) x100)), (101, V.p (Value.int .i64 x101)), (102, V.p (Value.int .i64 x102))], M := [(30000, O.box 24 [V.p (Value.int .i64 h0_), V.sl 6 (rowsOf encT44 h0__1)]), (30001, O.box 27 [V.p (Value.int .i64 h1_), V.p (Value.int .i64 h1__1), V.p (Value.int .i64 h1__2), V.p (Value.int .i64 h1__3)])] } : St)), LP 3 k (nav B3 [1, 2, 2, 1, 2, 2, 2, 2, 2]) n σ = some r.st := by
  induction n with
  | zero => intro x1 x7 x8 x9 x10 x100 x101 x102 h0_ h0__1 h1_ h1__1 h1__2 h1__3 r hF; cases hF
  | succ n ih =>
    intro x1 x7 x8 x9 x10 x100 x101 x102 h0_ h0__1 h1_ h1__1 h1__2 h1__3 r hF σ hσ
    rw [f3_airzrai4z_l3] at hF
    obtain ⟨o, h, hF⟩ := Option.bind_eq_some_iff.1 hF
    have hB := f3_airzrai4z_l3_b_ok k x1 x7 x8 x9 x10 x100 x101 x102 h0_ h0__1 h1_ h1__1 h1__2 h1__3 o h
    unfold LP at ih ⊢
    unfold EX at hB
    rw [loopK_succ, show firstReg (nav B3 [1, 2, 2, 1, 2, 2, 2, 2, 2]) = 8 from rfl, hσ, headK_some, hB]
    cases o with
    | o0 y y_1 y_2 y_3 y_4 y_5 y_6 y_7 y_8 y_9 y_10 y_11 y_12 y_13 =>
      refine ih y y_1 y_2 y_3 y_4 y_5 y_6 y_7 y_8 y_9 y_10 y_11 y_12 y_13 r hF _ ?_
      simp (maxSteps := 999999) (disch := first | exact D (by decide) | exact K (by kernel_rfl)) only [E, EE, ↓reduceIte, simprocAttr, hh_3_8, hc_3_8]
    | o1 y y_1 y_2 y_3 y_4 y_5 y_6 y_7 y_8 y_9 y_10 y_11 y_12 y_13 y_14 => cases hF; rfl
noncomputable def f3_airzrai4z_j6 (k : Nat) (x7 x8 x9 x13 x14 : Int) (x138 : Bool) : Option R3_airzrai4z :=
  cond ((x9 == 0))
    (
      cond ((x7 == x13))
        (some (R3_airzrai4z.o0 (x8 == x14)))
        (some (R3_airzrai4z.o0 false)))
    (some (R3_airzrai4z.o0 false))
theorem f3_airzrai4z_j6_ok (k : Nat) (x7 x8 x9 x13 x14 : Int) (x138 : Bool) (r : R3_airzrai4z) (hF : f3_airzrai4z_j6 k x7 x8 x9 x13 x14 x138 = some r) : finK Try.prog Try.f3 0 (EX 3 k (nav B3 [2, 2, 2, 2, 2, 2, 2, 2, 2]) ({ n := 161, F := [(7, V.p (Value.int .i64 x7)), (8, V.p (Value.int .i64 x8)), (9, V.p (Value.int .i64 x9)), (13, V.p (Value.int .i64 x13)), (14, V.p (Value.int .i64 x14)), (138, V.p (Value.bool x138))], M := [] } : St)) = some r.st := by
  unfold f3_airzrai4z_j6 at hF
  simp (maxSteps := 999999) (disch := first | exact D (by decide) | exact K (by kernel_rfl)) only [E, EE, ↓reduceIte, simprocAttr, xk B3 [2, 2, 2, 2, 2, 2, 2, 2, 2] .sq rfl, show (nav B3 [1, 2, 2, 2, 2, 2, 2, 2, 2, 2]) = Code.region 17 _ false from rfl, hk_3_17, hz_3_17, hs_3_17]
  replace hF := cond_some hF
  rcases hF with ⟨h1, hF⟩ | ⟨h1, hF⟩
  · replace hF := cond_some hF
    rcases hF with ⟨h2, hF⟩ | ⟨h2, hF⟩
    · cases hF
      simp (maxSteps := 999999) (disch := first | exact D (by decide) | exact K (by kernel_rfl)) only [E, EE, ↓reduceIte, simprocAttr, xk B3 [2, 2, 2, 2, 2, 2, 2, 2, 2, 2] .rt rfl, finK_norm, finK_ret, fin3, R3_airzrai4z.st, h1, h2]
    · cases hF
      simp (maxSteps := 999999) (disch := first | exact D (by decide) | exact K (by kernel_rfl)) only [E, EE, ↓reduceIte, simprocAttr, xk B3 [2, 2, 2, 2, 2, 2, 2, 2, 2, 2] .rt rfl, finK_norm, finK_ret, fin3, R3_airzrai4z.st, h1, h2]
  · cases hF
    simp (maxSteps := 999999) (disch := first | exact D (by decide) | exact K (by kernel_rfl)) only [E, EE, ↓reduceIte, simprocAttr, xk B3 [2, 2, 2, 2, 2, 2, 2, 2, 2, 2] .rt rfl, finK_norm, finK_ret, fin3, R3_airzrai4z.st, h1]
noncomputable def f3_airzrai4z_j5 (k : Nat) (x1 : List Int) (x7 x8 x9 : Int) (x112 : Bool) (h0_ : Int) (h0__1 : List T44) (h1_ h1__1 h1__2 h1__3 : Int) : Option R3_airzrai4z :=
  Option.bind (f11_airzriiii k h0_ h0__1 x1 h1_ h1__1 h1__2 h1__3) fun o1 =>
    match o1 with
    | .o0 v4 v5 =>
      cond ((decide (v4 < 0)))
        (
          cond ((x7 == 0))
            (
              cond ((x8 == 0))
                (some (R3_airzrai4z.o0 (x9 == 4)))
                (some (R3_airzrai4z.o0 false)))
            (some (R3_airzrai4z.o0 false)))
        (f3_airzrai4z_j6 k x7 x8 x9 v4 v5 false)
theorem f3_airzrai4z_j5_ok (k : Nat) (x1 : List Int) (x7 x8 x9 : Int) (x112 : Bool) (h0_ : Int) (h0__1 : List T44) (h1_ h1__1 h1__2 h1__3 : Int) (r : R3_airzrai4z) (hF : f3_airzrai4z_j5 k x1 x7 x8 x9 x112 h0_ h0__1 h1_ h1__1 h1__2 h1__3 = some r) : finK Try.prog Try.f3 0 (EX 3 k (nav B3 [2, 2, 2, 2, 2, 2, 2]) ({ n := 161, F := [(1, V.sl 1 (rowsOf (encI .i64) x1)), (3, V.ptr 30000 0), (5, V.ptr 30001 0), (7, V.p (Value.int .i64 x7)), (8, V.p (Value.int .i64 x8)), (9, V.p (Value.int .i64 x9)), (112, V.p (Value.bool x112))], M := [(30000, O.box 24 [V.p (Value.int .i64 h0_), V.sl 6 (rowsOf encT44 h0__1)]), (30001, O.box 27 [V.p (Value.int .i64 h1_), V.p (Value.int .i64 h1__1), V.p (Value.int .i64 h1__2), V.p (Value.int .i64 h1__3)])] } : St)) = some r.st := by
  unfold f3_airzrai4z_j5 at hF
  replace hF := Option.bind_eq_some_iff.1 hF
  obtain ⟨o1, h2, hF⟩ := hF
  have hc3 := f11_airzriiii_ok k h0_ h0__1 x1 h1_ h1__1 h1__2 h1__3 _ h2
  cases o1 with
  | o0 v4 v5 =>
    (try dsimp only at hF)
    (try simp only [NM, EE, R11_airzriiii.st] at hc3)
    simp (maxSteps := 999999) (disch := first | exact D (by decide) | exact K (by kernel_rfl)) only [E, EE, ↓reduceIte, simprocAttr, xk B3 [2, 2, 2, 2, 2, 2, 2] .sq rfl, show (nav B3 [1, 2, 2, 2, 2, 2, 2, 2]) = Code.region 14 _ false from rfl, hk_3_14, hz_3_14, hs_3_14, u_24, i_24, is_24, ib_24, iz_24, fieldAddrV, u_27, i_27, is_27, ib_27, iz_27, u_3, i_3, is_3, ib_3, iz_3, callStep, CL, gv, List.contains, xk B3 [2, 2, 2, 2, 2, 2, 2, 2] .sq rfl, xk B3 [1, 2, 2, 2, 2, 2, 2, 2, 2] .sq rfl, show (nav B3 [1, 1, 2, 2, 2, 2, 2, 2, 2, 2]) = Code.region 15 _ false from rfl, hk_3_15, hz_3_15, hs_3_15, xk B3 [2, 1, 2, 2, 2, 2, 2, 2, 2, 2] (.cd 138) rfl, hc3]
    replace hF := cond_some hF
    rcases hF with ⟨h6, hF⟩ | ⟨h6, hF⟩
    · simp (maxSteps := 999999) (disch := first | exact D (by decide) | exact K (by kernel_rfl)) only [E, EE, ↓reduceIte, simprocAttr, xk B3 [2, 2, 1, 2, 2, 2, 2, 2, 2, 2, 2] .sq rfl, show (nav B3 [1, 2, 2, 1, 2, 2, 2, 2, 2, 2, 2, 2]) = Code.region 16 _ false from rfl, hk_3_16, hz_3_16, hs_3_16, hc3, h6]
      replace hF := cond_some hF
      rcases hF with ⟨h7, hF⟩ | ⟨h7, hF⟩
      · replace hF := cond_some hF
        rcases hF with ⟨h8, hF⟩ | ⟨h8, hF⟩
        · cases hF
          simp (maxSteps := 999999) (disch := first | exact D (by decide) | exact K (by kernel_rfl)) only [E, EE, ↓reduceIte, simprocAttr, xk B3 [2, 2, 2, 1, 2, 2, 2, 2, 2, 2, 2, 2] .rt rfl, finK_norm, finK_ret, fin3, R3_airzrai4z.st, hc3, h6, h7, h8]
        · cases hF
          simp (maxSteps := 999999) (disch := first | exact D (by decide) | exact K (by kernel_rfl)) only [E, EE, ↓reduceIte, simprocAttr, xk B3 [2, 2, 2, 1, 2, 2, 2, 2, 2, 2, 2, 2] .rt rfl, finK_norm, finK_ret, fin3, R3_airzrai4z.st, hc3, h6, h7, h8]
      · cases hF
        simp (maxSteps := 999999) (disch := first | exact D (by decide) | exact K (by kernel_rfl)) only [E, EE, ↓reduceIte, simprocAttr, xk B3 [2, 2, 2, 1, 2, 2, 2, 2, 2, 2, 2, 2] .rt rfl, finK_norm, finK_ret, fin3, R3_airzrai4z.st, hc3, h6, h7]
    · have hJ := f3_airzrai4z_j6_ok k x7 x8 x9 v4 v5 false _ hF
      simp (maxSteps := 999999) (disch := first | exact D (by decide) | exact K (by kernel_rfl)) only [E, EE, ↓reduceIte, simprocAttr, xk B3 [3, 2, 1, 2, 2, 2, 2, 2, 2, 2, 2] .sk rfl, hc3, h6]
      try simp only [NM, EE] at hJ
      exact hJ
noncomputable def f3_airzrai4z_j4 (k : Nat) (x1 : List Int) (x7 x8 x9 : Int) (x10 : Bool) (x100 : List Int) (x101 x102 : Int) (x103 : Bool) (h0_ : Int) (h0__1 : List T44) (h1_ h1__1 h1__2 h1__3 : Int) : Option R3_airzrai4z :=
  cond (x10)
    (
      cond ((x7 == 0))
        (
          cond ((x8 == 0))
            (some (R3_airzrai4z.o0 (x9 == 2)))
            (some (R3_airzrai4z.o0 false)))
        (some (R3_airzrai4z.o0 false)))
    (f3_airzrai4z_j5 k x1 x7 x8 x9 false h0_ h0__1 h1_ h1__1 h1__2 h1__3)
theorem f3_airzrai4z_j4_ok (k : Nat) (x1 : List Int) (x7 x8 x9 : Int) (x10 : Bool) (x100 : List Int) (x101 x102 : Int) (x103 : Bool) (h0_ : Int) (h0__1 : List T44) (h1_ h1__1 h1__2 h1__3 : Int) (r : R3_airzrai4z) (hF : f3_airzrai4z_j4 k x1 x7 x8 x9 x10 x100 x101 x102 x103 h0_ h0__1 h1_ h1__1 h1__2 h1__3 = some r) : finK Try.prog Try.f3 0 (EX 3 k (nav B3 [2, 2, 2, 2, 2, 2]) ({ n := 161, F := [(1, V.sl 1 (rowsOf (encI .i64) x1)), (3, V.ptr 30000 0), (5, V.ptr 30001 0), (7, V.p (Value.int .i64 x7)), (8, V.p (Value.int .i64 x8)), (9, V.p (Value.int .i64 x9)), (10, V.p (Value.bool x10)), (100, V.sl 1 (rowsOf (encI .i64) x100)), (101, V.p (Value.int .i64 x101)), (102, V.p (Value.int .i64 x102)), (103, V.p (Value.bool x103))], M := [(30000, O.box 24 [V.p (Value.int .i64 h0_), V.sl 6 (rowsOf encT44 h0__1)]), (30001, O.box 27 [V.p (Value.int .i64 h1_), V.p (Value.int .i64 h1__1), V.p (Value.int .i64 h1__2), V.p (Value.int .i64 h1__3)])] } : St)) = some r.st := by
  unfold f3_airzrai4z_j4 at hF
  simp (maxSteps := 999999) (disch := first | exact D (by decide) | exact K (by kernel_rfl)) only [E, EE, ↓reduceIte, simprocAttr, xk B3 [2, 2, 2, 2, 2, 2] .sq rfl, xk B3 [1, 2, 2, 2, 2, 2, 2] .sq rfl, show (nav B3 [1, 1, 2, 2, 2, 2, 2, 2]) = Code.region 12 _ false from rfl, hk_3_12, hz_3_12, hs_3_12, xk B3 [2, 1, 2, 2, 2, 2, 2, 2] (.cd 112) rfl]
  replace hF := cond_some hF
  rcases hF with ⟨h1, hF⟩ | ⟨h1, hF⟩
  · simp (maxSteps := 999999) (disch := first | exact D (by decide) | exact K (by kernel_rfl)) only [E, EE, ↓reduceIte, simprocAttr, xk B3 [2, 2, 1, 2, 2, 2, 2, 2, 2] .sq rfl, show (nav B3 [1, 2, 2, 1, 2, 2, 2, 2, 2, 2]) = Code.region 13 _ false from rfl, hk_3_13, hz_3_13, hs_3_13, h1]
    replace hF := cond_some hF
    rcases hF with ⟨h2, hF⟩ | ⟨h2, hF⟩
    · replace hF := cond_some hF
      rcases hF with ⟨h3, hF⟩ | ⟨h3, hF⟩
      · cases hF
        simp (maxSteps := 999999) (disch := first | exact D (by decide) | exact K (by kernel_rfl)) only [E, EE, ↓reduceIte, simprocAttr, xk B3 [2, 2, 2, 1, 2, 2, 2, 2, 2, 2] .rt rfl, finK_norm, finK_ret, fin3, R3_airzrai4z.st, h1, h2, h3]
      · cases hF
        simp (maxSteps := 999999) (disch := first | exact D (by decide) | exact K (by kernel_rfl)) only [E, EE, ↓reduceIte, simprocAttr, xk B3 [2, 2, 2, 1, 2, 2, 2, 2, 2, 2] .rt rfl, finK_norm, finK_ret, fin3, R3_airzrai4z.st, h1, h2, h3]
    · cases hF
      simp (maxSteps := 999999) (disch := first | exact D (by decide) | exact K (by kernel_rfl)) only [E, EE, ↓reduceIte, simprocAttr, xk B3 [2, 2, 2, 1, 2, 2, 2, 2, 2, 2] .rt rfl, finK_norm, finK_ret, fin3, R3_airzrai4z.st, h1, h2]
  · have hJ := f3_airzrai4z_j5_ok k x1 x7 x8 x9 false h0_ h0__1 h1_ h1__1 h1__2 h1__3 _ hF
    simp (maxSteps := 999999) (disch := first | exact D (by decide) | exact K (by kernel_rfl)) only [E, EE, ↓reduceIte, simprocAttr, xk B3 [3, 2, 1, 2, 2, 2, 2, 2, 2] .sk rfl, h1]
    try simp only [NM, EE] at hJ
    exact hJ
noncomputable def f3_airzrai4z_j2 (k : Nat) (x1 : List Int) (x7 x8 x9 : Int) (x37 : Bool) (m3 : Int) (m3_1 : List T44) (m5 m5_1 m5_2 m5_3 : Int) : Option R3_airzrai4z :=
  cond ((((List.length x1) : Int) != ((List.length m3_1) : Int)))
    (
      Option.bind (f3_airzrai4z_l3 k k x1 x7 x8 x9 true x1 ((List.length x1) : Int) 0 m3 m3_1 m5 m5_1 m5_2 m5_3) fun o2 =>
        match o2 with
        | .o0 _ _ _ _ _ _ _ _ _ _ _ _ _ _ =>
          none
        | .o1 v5 v6 v7 v8 v9 v10 v11 v12 v13 v14 v15 v16 v17 v18 v19 =>
          f3_airzrai4z_j4 k v5 v6 v7 v8 v9 v10 v11 v12 v13 v14 v15 v16 v17 v18 v19)
    (
      cond ((decide (m5_3 < 0)))
        (
          Option.bind (f3_airzrai4z_l3 k k x1 x7 x8 x9 true x1 ((List.length x1) : Int) 0 m3 m3_1 m5 m5_1 m5_2 m5_3) fun o21 =>
            match o21 with
            | .o0 _ _ _ _ _ _ _ _ _ _ _ _ _ _ =>
              none
            | .o1 v24 v25 v26 v27 v28 v29 v30 v31 v32 v33 v34 v35 v36 v37 v38 =>
              f3_airzrai4z_j4 k v24 v25 v26 v27 v28 v29 v30 v31 v32 v33 v34 v35 v36 v37 v38)
        (
          cond ((m5 == m5_1))
            (
              Option.bind (f3_airzrai4z_l3 k k x1 x7 x8 x9 true x1 ((List.length x1) : Int) 0 m3 m3_1 m5 m5_1 m5_2 m5_3) fun o40 =>
                match o40 with
                | .o0 _ _ _ _ _ _ _ _ _ _ _ _ _ _ =>
                  none
                | .o1 v43 v44 v45 v46 v47 v48 v49 v50 v51 v52 v53 v54 v55 v56 v57 =>
                  f3_airzrai4z_j4 k v43 v44 v45 v46 v47 v48 v49 v50 v51 v52 v53 v54 v55 v56 v57)
            (
              cond ((decide (m5 < 1)))
                (
                  Option.bind (f3_airzrai4z_l3 k k x1 x7 x8 x9 true x1 ((List.length x1) : Int) 0 m3 m3_1 m5 m5_1 m5_2 m5_3) fun o59 =>
                    match o59 with
                    | .o0 _ _ _ _ _ _ _ _ _ _ _ _ _ _ =>
                      none
                    | .o1 v62 v63 v64 v65 v66 v67 v68 v69 v70 v71 v72 v73 v74 v75 v76 =>
                      f3_airzrai4z_j4 k v62 v63 v64 v65 v66 v67 v68 v69 v70 v71 v72 v73 v74 v75 v76)
                (
                  cond ((decide (m5 > m3)))
                    (
                      Option.bind (f3_airzrai4z_l3 k k x1 x7 x8 x9 true x1 ((List.length x1) : Int) 0 m3 m3_1 m5 m5_1 m5_2 m5_3) fun o78 =>
                        match o78 with
                        | .o0 _ _ _ _ _ _ _ _ _ _ _ _ _ _ =>
                          none
                        | .o1 v81 v82 v83 v84 v85 v86 v87 v88 v89 v90 v91 v92 v93 v94 v95 =>
                          f3_airzrai4z_j4 k v81 v82 v83 v84 v85 v86 v87 v88 v89 v90 v91 v92 v93 v94 v95)
                    (
                      cond ((decide (m5_1 < 1)))
                        (
                          Option.bind (f3_airzrai4z_l3 k k x1 x7 x8 x9 true x1 ((List.length x1) : Int) 0 m3 m3_1 m5 m5_1 m5_2 m5_3) fun o97 =>
                            match o97 with
                            | .o0 _ _ _ _ _ _ _ _ _ _ _ _ _ _ =>
                              none
                            | .o1 v100 v101 v102 v103 v104 v105 v106 v107 v108 v109 v110 v111 v112 v113 v114 =>
                              f3_airzrai4z_j4 k v100 v101 v102 v103 v104 v105 v106 v107 v108 v109 v110 v111 v112 v113 v114)
                        (
                          cond ((decide (m5_1 > m3)))
                            (
                              Option.bind (f3_airzrai4z_l3 k k x1 x7 x8 x9 true x1 ((List.length x1) : Int) 0 m3 m3_1 m5 m5_1 m5_2 m5_3) fun o116 =>
                                match o116 with
                                | .o0 _ _ _ _ _ _ _ _ _ _ _ _ _ _ =>
                                  none
                                | .o1 v119 v120 v121 v122 v123 v124 v125 v126 v127 v128 v129 v130 v131 v132 v133 =>
                                  f3_airzrai4z_j4 k v119 v120 v121 v122 v123 v124 v125 v126 v127 v128 v129 v130 v131 v132 v133)
                            (
                              cond ((decide (m5_2 < 0)))
                                (
                                  Option.bind (f3_airzrai4z_l3 k k x1 x7 x8 x9 true x1 ((List.length x1) : Int) 0 m3 m3_1 m5 m5_1 m5_2 m5_3) fun o135 =>
                                    match o135 with
                                    | .o0 _ _ _ _ _ _ _ _ _ _ _ _ _ _ =>
                                      none
                                    | .o1 v138 v139 v140 v141 v142 v143 v144 v145 v146 v147 v148 v149 v150 v151 v152 =>
                                      f3_airzrai4z_j4 k v138 v139 v140 v141 v142 v143 v144 v145 v146 v147 v148 v149 v150 v151 v152)
                                (
                                  Option.bind (f3_airzrai4z_l3 k k x1 x7 x8 x9 (decide (m5_2 > 1048576)) x1 ((List.length x1) : Int) 0 m3 m3_1 m5 m5_1 m5_2 m5_3) fun o153 =>
                                    match o153 with
                                    | .o0 _ _ _ _ _ _ _ _ _ _ _ _ _ _ =>
                                      none
                                    | .o1 v156 v157 v158 v159 v160 v161 v162 v163 v164 v165 v166 v167 v168 v169 v170 =>
                                      f3_airzrai4z_j4 k v156 v157 v158 v159 v160 v161 v162 v163 v164 v165 v166 v167 v168 v169 v170))))))))
theorem f3_airzrai4z_j2_ok (k : Nat) (x1 : List Int) (x7 x8 x9 : Int) (x37 : Bool) (m3 : Int) (m3_1 : List T44) (m5 m5_1 m5_2 m5_3 : Int) (r : R3_airzrai4z) (hF : f3_airzrai4z_j2 k x1 x7 x8 x9 x37 m3 m3_1 m5 m5_1 m5_2 m5_3 = some r) : finK Try.prog Try.f3 0 (EX 3 k (nav B3 [2, 2, 2, 2]) ({ n := 161, F := [(1, V.sl 1 (rowsOf (encI .i64) x1)), (3, V.ptr 3 0), (5, V.ptr 5 0), (7, V.p (Value.int .i64 x7)), (8, V.p (Value.int .i64 x8)), (9, V.p (Value.int .i64 x9)), (37, V.p (Value.bool x37))], M := [(3, O.box 24 [V.p (Value.int .i64 m3), V.sl 6 (rowsOf encT44 m3_1)]), (5, O.box 27 [V.p (Value.int .i64 m5), V.p (Value.int .i64 m5_1), V.p (Value.int .i64 m5_2), V.p (Value.int .i64 m5_3)])] } : St)) = some r.st := by
  unfold f3_airzrai4z_j2 at hF
  simp (maxSteps := 999999) (disch := first | exact D (by decide) | exact K (by kernel_rfl)) only [E, EE, ↓reduceIte, simprocAttr, xk B3 [2, 2, 2, 2] .sq rfl, show (nav B3 [1, 2, 2, 2, 2]) = Code.region 6 _ false from rfl, hk_3_6, hz_3_6, hs_3_6, u_25, i_25, is_25, ib_25, iz_25, fieldAddrV, u_24, i_24, is_24, ib_24, iz_24, u_22, i_22, is_22, ib_22, iz_22]
  replace hF := cond_some hF
  rcases hF with ⟨h1, hF⟩ | ⟨h1, hF⟩
  · replace hF := Option.bind_eq_some_iff.1 hF
    obtain ⟨o2, h3, hF⟩ := hF
    have hc4 := f3_airzrai4z_l3_ok k k x1 x7 x8 x9 true x1 ((List.length x1) : Int) 0 m3 m3_1 m5 m5_1 m5_2 m5_3 _ h3
    simp (maxSteps := 999999) (disch := first | exact D (by decide) | exact K (by kernel_rfl)) only [E, EE, ↓reduceIte, simprocAttr, xk B3 [2, 2, 2, 2, 2] .sq rfl, xk B3 [1, 2, 2, 2, 2, 2] .sq rfl, show (nav B3 [1, 1, 2, 2, 2, 2, 2]) = Code.region 7 _ false from rfl, hk_3_7, hz_3_7, hs_3_7, u_25, i_25, is_25, ib_25, iz_25, xk B3 [2, 1, 2, 2, 2, 2, 2] (.bk 0) rfl, xk B3 [2, 2, 1, 2, 2, 2, 2, 2] .lp rfl, hh_3_8, hc_3_8, h1]
    (try simp only [NM, EE] at hc4)
    rw [hc4 _ (by simp (maxSteps := 999999) (disch := first | exact D (by decide) | exact K (by kernel_rfl)) only [E, EE, ↓reduceIte, simprocAttr, hh_3_8, hc_3_8, h1])]
    clear hc4
    cases o2 with
    | o0 _ _ _ _ _ _ _ _ _ _ _ _ _ _ =>
      (try dsimp only at hF)
      cases hF
    | o1 v5 v6 v7 v8 v9 v10 v11 v12 v13 v14 v15 v16 v17 v18 v19 =>
      (try dsimp only at hF)
      have hJ := f3_airzrai4z_j4_ok k v5 v6 v7 v8 v9 v10 v11 v12 v13 v14 v15 v16 v17 v18 v19 _ hF
      simp (maxSteps := 999999) (disch := first | exact D (by decide) | exact K (by kernel_rfl)) only [E, EE, ↓reduceIte, simprocAttr, R3_airzrai4z_l3.st, h1]
      try simp only [NM, EE] at hJ
      exact hJ
  · simp (maxSteps := 999999) (disch := first | exact D (by decide) | exact K (by kernel_rfl)) only [E, EE, ↓reduceIte, simprocAttr, fieldAddrV, u_27, i_27, is_27, ib_27, iz_27, u_3, i_3, is_3, ib_3, iz_3, h1]
    replace hF := cond_some hF
    rcases hF with ⟨h20, hF⟩ | ⟨h20, hF⟩
    · replace hF := Option.bind_eq_some_iff.1 hF
      obtain ⟨o21, h22, hF⟩ := hF
      have hc23 := f3_airzrai4z_l3_ok k k x1 x7 x8 x9 true x1 ((List.length x1) : Int) 0 m3 m3_1 m5 m5_1 m5_2 m5_3 _ h22
      simp (maxSteps := 999999) (disch := first | exact D (by decide) | exact K (by kernel_rfl)) only [E, EE, ↓reduceIte, simprocAttr, xk B3 [2, 2, 2, 2, 2] .sq rfl, xk B3 [1, 2, 2, 2, 2, 2] .sq rfl, show (nav B3 [1, 1, 2, 2, 2, 2, 2]) = Code.region 7 _ false from rfl, hk_3_7, hz_3_7, hs_3_7, u_25, i_25, is_25, ib_25, iz_25, xk B3 [2, 1, 2, 2, 2, 2, 2] (.bk 0) rfl, xk B3 [2, 2, 1, 2, 2, 2, 2, 2] .lp rfl, hh_3_8, hc_3_8, h1, h20]
      (try simp only [NM, EE] at hc23)
      rw [hc23 _ (by simp (maxSteps := 999999) (disch := first | exact D (by decide) | exact K (by kernel_rfl)) only [E, EE, ↓reduceIte, simprocAttr, hh_3_8, hc_3_8, h1, h20])]
      clear hc23
      cases o21 with
      | o0 _ _ _ _ _ _ _ _ _ _ _ _ _ _ =>
        (try dsimp only at hF)
        cases hF
      | o1 v24 v25 v26 v27 v28 v29 v30 v31 v32 v33 v34 v35 v36 v37 v38 =>
        (try dsimp only at hF)
        have hJ := f3_airzrai4z_j4_ok k v24 v25 v26 v27 v28 v29 v30 v31 v32 v33 v34 v35 v36 v37 v38 _ hF
        simp (maxSteps := 999999) (disch := first | exact D (by decide) | exact K (by kernel_rfl)) only [E, EE, ↓reduceIte, simprocAttr, R3_airzrai4z_l3.st, h1, h20]
        try simp only [NM, EE] at hJ
        exact hJ
    · simp (maxSteps := 999999) (disch := first | exact D (by decide) | exact K (by kernel_rfl)) only [E, EE, ↓reduceIte, simprocAttr, fieldAddrV, u_27, i_27, is_27, ib_27, iz_27, u_3, i_3, is_3, ib_3, iz_3, h1, h20]
      replace hF := cond_some hF
      rcases hF with ⟨h39, hF⟩ | ⟨h39, hF⟩
      · replace hF := Option.bind_eq_some_iff.1 hF
        obtain ⟨o40, h41, hF⟩ := hF
        have hc42 := f3_airzrai4z_l3_ok k k x1 x7 x8 x9 true x1 ((List.length x1) : Int) 0 m3 m3_1 m5 m5_1 m5_2 m5_3 _ h41
        simp (maxSteps := 999999) (disch := first | exact D (by decide) | exact K (by kernel_rfl)) only [E, EE, ↓reduceIte, simprocAttr, xk B3 [2, 2, 2, 2, 2] .sq rfl, xk B3 [1, 2, 2, 2, 2, 2] .sq rfl, show (nav B3 [1, 1, 2, 2, 2, 2, 2]) = Code.region 7 _ false from rfl, hk_3_7, hz_3_7, hs_3_7, u_25, i_25, is_25, ib_25, iz_25, xk B3 [2, 1, 2, 2, 2, 2, 2] (.bk 0) rfl, xk B3 [2, 2, 1, 2, 2, 2, 2, 2] .lp rfl, hh_3_8, hc_3_8, h1, h20, h39]
        (try simp only [NM, EE] at hc42)
        rw [hc42 _ (by simp (maxSteps := 999999) (disch := first | exact D (by decide) | exact K (by kernel_rfl)) only [E, EE, ↓reduceIte, simprocAttr, hh_3_8, hc_3_8, h1, h20, h39])]
        clear hc42
        cases o40 with
        | o0 _ _ _ _ _ _ _ _ _ _ _ _ _ _ =>
          (try dsimp only at hF)
          cases hF
        | o1 v43 v44 v45 v46 v47 v48 v49 v50 v51 v52 v53 v54 v55 v56 v57 =>
          (try dsimp only at hF)
          have hJ := f3_airzrai4z_j4_ok k v43 v44 v45 v46 v47 v48 v49 v50 v51 v52 v53 v54 v55 v56 v57 _ hF
          simp (maxSteps := 999999) (disch := first | exact D (by decide) | exact K (by kernel_rfl)) only [E, EE, ↓reduceIte, simprocAttr, R3_airzrai4z_l3.st, h1, h20, h39]
          try simp only [NM, EE] at hJ
          exact hJ
      · simp (maxSteps := 999999) (disch := first | exact D (by decide) | exact K (by kernel_rfl)) only [E, EE, ↓reduceIte, simprocAttr, fieldAddrV, u_27, i_27, is_27, ib_27, iz_27, u_3, i_3, is_3, ib_3, iz_3, h1, h20, h39]
        replace hF := cond_some hF
        rcases hF with ⟨h58, hF⟩ | ⟨h58, hF⟩
        · replace hF := Option.bind_eq_some_iff.1 hF
          obtain ⟨o59, h60, hF⟩ := hF
          have hc61 := f3_airzrai4z_l3_ok k k x1 x7 x8 x9 true x1 ((List.length x1) : Int) 0 m3 m3_1 m5 m5_1 m5_2 m5_3 _ h60
          simp (maxSteps := 999999) (disch := first | exact D (by decide) | exact K (by kernel_rfl)) only [E, EE, ↓reduceIte, simprocAttr, xk B3 [2, 2, 2, 2, 2] .sq rfl, xk B3 [1, 2, 2, 2, 2, 2] .sq rfl, show (nav B3 [1, 1, 2, 2, 2, 2, 2]) = Code.region 7 _ false from rfl, hk_3_7, hz_3_7, hs_3_7, u_25, i_25, is_25, ib_25, iz_25, xk B3 [2, 1, 2, 2, 2, 2, 2] (.bk 0) rfl, xk B3 [2, 2, 1, 2, 2, 2, 2, 2] .lp rfl, hh_3_8, hc_3_8, h1, h20, h39, h58]
          (try simp only [NM, EE] at hc61)
          rw [hc61 _ (by simp (maxSteps := 999999) (disch := first | exact D (by decide) | exact K (by kernel_rfl)) only [E, EE, ↓reduceIte, simprocAttr, hh_3_8, hc_3_8, h1, h20, h39, h58])]
          clear hc61
          cases o59 with
          | o0 _ _ _ _ _ _ _ _ _ _ _ _ _ _ =>
            (try dsimp only at hF)
            cases hF
          | o1 v62 v63 v64 v65 v66 v67 v68 v69 v70 v71 v72 v73 v74 v75 v76 =>
            (try dsimp only at hF)
            have hJ := f3_airzrai4z_j4_ok k v62 v63 v64 v65 v66 v67 v68 v69 v70 v71 v72 v73 v74 v75 v76 _ hF
            simp (maxSteps := 999999) (disch := first | exact D (by decide) | exact K (by kernel_rfl)) only [E, EE, ↓reduceIte, simprocAttr, R3_airzrai4z_l3.st, h1, h20, h39, h58]
            try simp only [NM, EE] at hJ
            exact hJ
        · simp (maxSteps := 999999) (disch := first | exact D (by decide) | exact K (by kernel_rfl)) only [E, EE, ↓reduceIte, simprocAttr, fieldAddrV, u_27, i_27, is_27, ib_27, iz_27, u_3, i_3, is_3, ib_3, iz_3, u_24, i_24, is_24, ib_24, iz_24, h1, h20, h39, h58]
          replace hF := cond_some hF
          rcases hF with ⟨h77, hF⟩ | ⟨h77, hF⟩
          · replace hF := Option.bind_eq_some_iff.1 hF
            obtain ⟨o78, h79, hF⟩ := hF
            have hc80 := f3_airzrai4z_l3_ok k k x1 x7 x8 x9 true x1 ((List.length x1) : Int) 0 m3 m3_1 m5 m5_1 m5_2 m5_3 _ h79
            simp (maxSteps := 999999) (disch := first | exact D (by decide) | exact K (by kernel_rfl)) only [E, EE, ↓reduceIte, simprocAttr, xk B3 [2, 2, 2, 2, 2] .sq rfl, xk B3 [1, 2, 2, 2, 2, 2] .sq rfl, show (nav B3 [1, 1, 2, 2, 2, 2, 2]) = Code.region 7 _ false from rfl, hk_3_7, hz_3_7, hs_3_7, u_25, i_25, is_25, ib_25, iz_25, xk B3 [2, 1, 2, 2, 2, 2, 2] (.bk 0) rfl, xk B3 [2, 2, 1, 2, 2, 2, 2, 2] .lp rfl, hh_3_8, hc_3_8, h1, h20, h39, h58, h77]
            (try simp only [NM, EE] at hc80)
            rw [hc80 _ (by simp (maxSteps := 999999) (disch := first | exact D (by decide) | exact K (by kernel_rfl)) only [E, EE, ↓reduceIte, simprocAttr, hh_3_8, hc_3_8, h1, h20, h39, h58, h77])]
            clear hc80
            cases o78 with
            | o0 _ _ _ _ _ _ _ _ _ _ _ _ _ _ =>
              (try dsimp only at hF)
              cases hF
            | o1 v81 v82 v83 v84 v85 v86 v87 v88 v89 v90 v91 v92 v93 v94 v95 =>
              (try dsimp only at hF)
              have hJ := f3_airzrai4z_j4_ok k v81 v82 v83 v84 v85 v86 v87 v88 v89 v90 v91 v92 v93 v94 v95 _ hF
              simp (maxSteps := 999999) (disch := first | exact D (by decide) | exact K (by kernel_rfl)) only [E, EE, ↓reduceIte, simprocAttr, R3_airzrai4z_l3.st, h1, h20, h39, h58, h77]
              try simp only [NM, EE] at hJ
              exact hJ
          · simp (maxSteps := 999999) (disch := first | exact D (by decide) | exact K (by kernel_rfl)) only [E, EE, ↓reduceIte, simprocAttr, fieldAddrV, u_27, i_27, is_27, ib_27, iz_27, u_3, i_3, is_3, ib_3, iz_3, h1, h20, h39, h58, h77]
            replace hF := cond_some hF
            rcases hF with ⟨h96, hF⟩ | ⟨h96, hF⟩
            · replace hF := Option.bind_eq_some_iff.1 hF
              obtain ⟨o97, h98, hF⟩ := hF
              have hc99 := f3_airzrai4z_l3_ok k k x1 x7 x8 x9 true x1 ((List.length x1) : Int) 0 m3 m3_1 m5 m5_1 m5_2 m5_3 _ h98
              simp (maxSteps := 999999) (disch := first | exact D (by decide) | exact K (by kernel_rfl)) only [E, EE, ↓reduceIte, simprocAttr, xk B3 [2, 2, 2, 2, 2] .sq rfl, xk B3 [1, 2, 2, 2, 2, 2] .sq rfl, show (nav B3 [1, 1, 2, 2, 2, 2, 2]) = Code.region 7 _ false from rfl, hk_3_7, hz_3_7, hs_3_7, u_25, i_25, is_25, ib_25, iz_25, xk B3 [2, 1, 2, 2, 2, 2, 2] (.bk 0) rfl, xk B3 [2, 2, 1, 2, 2, 2, 2, 2] .lp rfl, hh_3_8, hc_3_8, h1, h20, h39, h58, h77, h96]
              (try simp only [NM, EE] at hc99)
              rw [hc99 _ (by simp (maxSteps := 999999) (disch := first | exact D (by decide) | exact K (by kernel_rfl)) only [E, EE, ↓reduceIte, simprocAttr, hh_3_8, hc_3_8, h1, h20, h39, h58, h77, h96])]
              clear hc99
              cases o97 with
              | o0 _ _ _ _ _ _ _ _ _ _ _ _ _ _ =>
                (try dsimp only at hF)
                cases hF
              | o1 v100 v101 v102 v103 v104 v105 v106 v107 v108 v109 v110 v111 v112 v113 v114 =>
                (try dsimp only at hF)
                have hJ := f3_airzrai4z_j4_ok k v100 v101 v102 v103 v104 v105 v106 v107 v108 v109 v110 v111 v112 v113 v114 _ hF
                simp (maxSteps := 999999) (disch := first | exact D (by decide) | exact K (by kernel_rfl)) only [E, EE, ↓reduceIte, simprocAttr, R3_airzrai4z_l3.st, h1, h20, h39, h58, h77, h96]
                try simp only [NM, EE] at hJ
                exact hJ
            · simp (maxSteps := 999999) (disch := first | exact D (by decide) | exact K (by kernel_rfl)) only [E, EE, ↓reduceIte, simprocAttr, fieldAddrV, u_27, i_27, is_27, ib_27, iz_27, u_3, i_3, is_3, ib_3, iz_3, u_24, i_24, is_24, ib_24, iz_24, h1, h20, h39, h58, h77, h96]
              replace hF := cond_some hF
              rcases hF with ⟨h115, hF⟩ | ⟨h115, hF⟩
              · replace hF := Option.bind_eq_some_iff.1 hF
                obtain ⟨o116, h117, hF⟩ := hF
                have hc118 := f3_airzrai4z_l3_ok k k x1 x7 x8 x9 true x1 ((List.length x1) : Int) 0 m3 m3_1 m5 m5_1 m5_2 m5_3 _ h117
                simp (maxSteps := 999999) (disch := first | exact D (by decide) | exact K (by kernel_rfl)) only [E, EE, ↓reduceIte, simprocAttr, xk B3 [2, 2, 2, 2, 2] .sq rfl, xk B3 [1, 2, 2, 2, 2, 2] .sq rfl, show (nav B3 [1, 1, 2, 2, 2, 2, 2]) = Code.region 7 _ false from rfl, hk_3_7, hz_3_7, hs_3_7, u_25, i_25, is_25, ib_25, iz_25, xk B3 [2, 1, 2, 2, 2, 2, 2] (.bk 0) rfl, xk B3 [2, 2, 1, 2, 2, 2, 2, 2] .lp rfl, hh_3_8, hc_3_8, h1, h20, h39, h58, h77, h96, h115]
                (try simp only [NM, EE] at hc118)
                rw [hc118 _ (by simp (maxSteps := 999999) (disch := first | exact D (by decide) | exact K (by kernel_rfl)) only [E, EE, ↓reduceIte, simprocAttr, hh_3_8, hc_3_8, h1, h20, h39, h58, h77, h96, h115])]
                clear hc118
                cases o116 with
                | o0 _ _ _ _ _ _ _ _ _ _ _ _ _ _ =>
                  (try dsimp only at hF)
                  cases hF
                | o1 v119 v120 v121 v122 v123 v124 v125 v126 v127 v128 v129 v130 v131 v132 v133 =>
                  (try dsimp only at hF)
                  have hJ := f3_airzrai4z_j4_ok k v119 v120 v121 v122 v123 v124 v125 v126 v127 v128 v129 v130 v131 v132 v133 _ hF
                  simp (maxSteps := 999999) (disch := first | exact D (by decide) | exact K (by kernel_rfl)) only [E, EE, ↓reduceIte, simprocAttr, R3_airzrai4z_l3.st, h1, h20, h39, h58, h77, h96, h115]
                  try simp only [NM, EE] at hJ
                  exact hJ
              · simp (maxSteps := 999999) (disch := first | exact D (by decide) | exact K (by kernel_rfl)) only [E, EE, ↓reduceIte, simprocAttr, fieldAddrV, u_27, i_27, is_27, ib_27, iz_27, u_3, i_3, is_3, ib_3, iz_3, h1, h20, h39, h58, h77, h96, h115]
                replace hF := cond_some hF
                rcases hF with ⟨h134, hF⟩ | ⟨h134, hF⟩
                · replace hF := Option.bind_eq_some_iff.1 hF
                  obtain ⟨o135, h136, hF⟩ := hF
                  have hc137 := f3_airzrai4z_l3_ok k k x1 x7 x8 x9 true x1 ((List.length x1) : Int) 0 m3 m3_1 m5 m5_1 m5_2 m5_3 _ h136
                  simp (maxSteps := 999999) (disch := first | exact D (by decide) | exact K (by kernel_rfl)) only [E, EE, ↓reduceIte, simprocAttr, xk B3 [2, 2, 2, 2, 2] .sq rfl, xk B3 [1, 2, 2, 2, 2, 2] .sq rfl, show (nav B3 [1, 1, 2, 2, 2, 2, 2]) = Code.region 7 _ false from rfl, hk_3_7, hz_3_7, hs_3_7, u_25, i_25, is_25, ib_25, iz_25, xk B3 [2, 1, 2, 2, 2, 2, 2] (.bk 0) rfl, xk B3 [2, 2, 1, 2, 2, 2, 2, 2] .lp rfl, hh_3_8, hc_3_8, h1, h20, h39, h58, h77, h96, h115, h134]
                  (try simp only [NM, EE] at hc137)
                  rw [hc137 _ (by simp (maxSteps := 999999) (disch := first | exact D (by decide) | exact K (by kernel_rfl)) only [E, EE, ↓reduceIte, simprocAttr, hh_3_8, hc_3_8, h1, h20, h39, h58, h77, h96, h115, h134])]
                  clear hc137
                  cases o135 with
                  | o0 _ _ _ _ _ _ _ _ _ _ _ _ _ _ =>
                    (try dsimp only at hF)
                    cases hF
                  | o1 v138 v139 v140 v141 v142 v143 v144 v145 v146 v147 v148 v149 v150 v151 v152 =>
                    (try dsimp only at hF)
                    have hJ := f3_airzrai4z_j4_ok k v138 v139 v140 v141 v142 v143 v144 v145 v146 v147 v148 v149 v150 v151 v152 _ hF
                    simp (maxSteps := 999999) (disch := first | exact D (by decide) | exact K (by kernel_rfl)) only [E, EE, ↓reduceIte, simprocAttr, R3_airzrai4z_l3.st, h1, h20, h39, h58, h77, h96, h115, h134]
                    try simp only [NM, EE] at hJ
                    exact hJ
                · replace hF := Option.bind_eq_some_iff.1 hF
                  obtain ⟨o153, h154, hF⟩ := hF
                  have hc155 := f3_airzrai4z_l3_ok k k x1 x7 x8 x9 (decide (m5_2 > 1048576)) x1 ((List.length x1) : Int) 0 m3 m3_1 m5 m5_1 m5_2 m5_3 _ h154
                  simp (maxSteps := 999999) (disch := first | exact D (by decide) | exact K (by kernel_rfl)) only [E, EE, ↓reduceIte, simprocAttr, fieldAddrV, u_27, i_27, is_27, ib_27, iz_27, u_3, i_3, is_3, ib_3, iz_3, xk B3 [2, 2, 2, 2, 2] .sq rfl, xk B3 [1, 2, 2, 2, 2, 2] .sq rfl, show (nav B3 [1, 1, 2, 2, 2, 2, 2]) = Code.region 7 _ false from rfl, hk_3_7, hz_3_7, hs_3_7, u_25, i_25, is_25, ib_25, iz_25, xk B3 [2, 1, 2, 2, 2, 2, 2] (.bk 0) rfl, xk B3 [2, 2, 1, 2, 2, 2, 2, 2] .lp rfl, hh_3_8, hc_3_8, h1, h20, h39, h58, h77, h96, h115, h134]
                  (try simp only [NM, EE] at hc155)
                  rw [hc155 _ (by simp (maxSteps := 999999) (disch := first | exact D (by decide) | exact K (by kernel_rfl)) only [E, EE, ↓reduceIte, simprocAttr, hh_3_8, hc_3_8, h1, h20, h39, h58, h77, h96, h115, h134])]
                  clear hc155
                  cases o153 with
                  | o0 _ _ _ _ _ _ _ _ _ _ _ _ _ _ =>
                    (try dsimp only at hF)
                    cases hF
                  | o1 v156 v157 v158 v159 v160 v161 v162 v163 v164 v165 v166 v167 v168 v169 v170 =>
                    (try dsimp only at hF)
                    have hJ := f3_airzrai4z_j4_ok k v156 v157 v158 v159 v160 v161 v162 v163 v164 v165 v166 v167 v168 v169 v170 _ hF
                    simp (maxSteps := 999999) (disch := first | exact D (by decide) | exact K (by kernel_rfl)) only [E, EE, ↓reduceIte, simprocAttr, R3_airzrai4z_l3.st, h1, h20, h39, h58, h77, h96, h115, h134]
                    try simp only [NM, EE] at hJ
                    exact hJ
noncomputable def f3_airzrai4z_j1 (k : Nat) (x1 : List Int) (x16 : Bool) (m3 : Int) (m3_1 : List T44) (m5 m5_1 m5_2 m5_3 : Int) : Option R3_airzrai4z :=
  Option.bind (f9_airz k m3 m3_1) fun o1 =>
    match o1 with
    | .o0 v4 v5 =>
      ifE ((List.length x1) * 8 ≤ roomy) (
        Option.bind (f8_airzriiii k v4 v5 x1 m5 m5_1 m5_2 m5_3) fun o7 =>
          match o7 with
          | .o0 v10 v11 v12 =>
            Option.bind (f10_airz k m3 m3_1) fun o13 =>
              match o13 with
              | .o0 v16 =>
                cond ((!v16))
                  (
                    cond ((v10 == 0))
                      (
                        cond ((v11 == 0))
                          (some (R3_airzrai4z.o0 (v12 == 230)))
                          (some (R3_airzrai4z.o0 false)))
                      (some (R3_airzrai4z.o0 false)))
                  (f3_airzrai4z_j2 k x1 v10 v11 v12 false m3 m3_1 m5 m5_1 m5_2 m5_3))
theorem f3_airzrai4z_j1_ok (k : Nat) (x1 : List Int) (x16 : Bool) (m3 : Int) (m3_1 : List T44) (m5 m5_1 m5_2 m5_3 : Int) (r : R3_airzrai4z) (hF : f3_airzrai4z_j1 k x1 x16 m3 m3_1 m5 m5_1 m5_2 m5_3 = some r) : finK Try.prog Try.f3 0 (EX 3 k (nav B3 [2, 2]) ({ n := 161, F := [(1, V.sl 1 (rowsOf (encI .i64) x1)), (3, V.ptr 3 0), (5, V.ptr 5 0), (16, V.p (Value.bool x16))], M := [(3, O.box 24 [V.p (Value.int .i64 m3), V.sl 6 (rowsOf encT44 m3_1)]), (5, O.box 27 [V.p (Value.int .i64 m5), V.p (Value.int .i64 m5_1), V.p (Value.int .i64 m5_2), V.p (Value.int .i64 m5_3)])] } : St)) = some r.st := by
  unfold f3_airzrai4z_j1 at hF
  replace hF := Option.bind_eq_some_iff.1 hF
  obtain ⟨o1, h2, hF⟩ := hF
  have hc3 := f9_airz_ok k m3 m3_1 _ h2
  cases o1 with
  | o0 v4 v5 =>
    (try dsimp only at hF)
    (try simp only [NM, EE, R9_airz.st] at hc3)
    replace hF := ifE_some.1 hF
    obtain ⟨h6, hF⟩ := hF
    replace hF := Option.bind_eq_some_iff.1 hF
    obtain ⟨o7, h8, hF⟩ := hF
    have hc9 := f8_airzriiii_ok k v4 v5 x1 m5 m5_1 m5_2 m5_3 _ h8
    cases o7 with
    | o0 v10 v11 v12 =>
      (try dsimp only at hF)
      (try simp only [NM, EE, R8_airzriiii.st] at hc9)
      replace hF := Option.bind_eq_some_iff.1 hF
      obtain ⟨o13, h14, hF⟩ := hF
      have hc15 := f10_airz_ok k m3 m3_1 _ h14
      cases o13 with
      | o0 v16 =>
        (try dsimp only at hF)
        (try simp only [NM, EE, R10_airz.st] at hc15)
        simp (maxSteps := 999999) (disch := first | exact D (by decide) | exact K (by kernel_rfl)) only [E, EE, ↓reduceIte, simprocAttr, xk B3 [2, 2] .sq rfl, show (nav B3 [1, 2, 2]) = Code.region 3 _ true from rfl, hk_3_3, hz_3_3, hs_3_3, u_24, i_24, is_24, ib_24, iz_24, callStep, CL, gv, List.contains, buildSliceV, fillRows, sm_3, u_25, i_25, is_25, ib_25, iz_25, u_3, i_3, is_3, ib_3, iz_3, appendV, content, fieldAddrV, u_27, i_27, is_27, ib_27, iz_27, xk B3 [2, 2, 2] .sq rfl, xk B3 [1, 2, 2, 2] .sq rfl, show (nav B3 [1, 1, 2, 2, 2]) = Code.region 4 _ false from rfl, hk_3_4, hz_3_4, hs_3_4, xk B3 [2, 1, 2, 2, 2] (.cd 37) rfl, hc3, h6, hc9, hc15]
        replace hF := cond_some hF
        rcases hF with ⟨h17, hF⟩ | ⟨h17, hF⟩
        · simp (maxSteps := 999999) (disch := first | exact D (by decide) | exact K (by kernel_rfl)) only [E, EE, ↓reduceIte, simprocAttr, xk B3 [2, 2, 1, 2, 2, 2] .sq rfl, show (nav B3 [1, 2, 2, 1, 2, 2, 2]) = Code.region 5 _ false from rfl, hk_3_5, hz_3_5, hs_3_5, hc3, h6, hc9, hc15, h17]
          replace hF := cond_some hF
          rcases hF with ⟨h18, hF⟩ | ⟨h18, hF⟩
          · replace hF := cond_some hF
            rcases hF with ⟨h19, hF⟩ | ⟨h19, hF⟩
            · cases hF
              simp (maxSteps := 999999) (disch := first | exact D (by decide) | exact K (by kernel_rfl)) only [E, EE, ↓reduceIte, simprocAttr, xk B3 [2, 2, 2, 1, 2, 2, 2] .rt rfl, finK_norm, finK_ret, fin3, R3_airzrai4z.st, hc3, h6, hc9, hc15, h17, h18, h19]
            · cases hF
              simp (maxSteps := 999999) (disch := first | exact D (by decide) | exact K (by kernel_rfl)) only [E, EE, ↓reduceIte, simprocAttr, xk B3 [2, 2, 2, 1, 2, 2, 2] .rt rfl, finK_norm, finK_ret, fin3, R3_airzrai4z.st, hc3, h6, hc9, hc15, h17, h18, h19]
          · cases hF
            simp (maxSteps := 999999) (disch := first | exact D (by decide) | exact K (by kernel_rfl)) only [E, EE, ↓reduceIte, simprocAttr, xk B3 [2, 2, 2, 1, 2, 2, 2] .rt rfl, finK_norm, finK_ret, fin3, R3_airzrai4z.st, hc3, h6, hc9, hc15, h17, h18]
        · have hJ := f3_airzrai4z_j2_ok k x1 v10 v11 v12 false m3 m3_1 m5 m5_1 m5_2 m5_3 _ hF
          simp (maxSteps := 999999) (disch := first | exact D (by decide) | exact K (by kernel_rfl)) only [E, EE, ↓reduceIte, simprocAttr, xk B3 [3, 2, 1, 2, 2, 2] .sk rfl, hc3, h6, hc9, hc15, h17]
          try simp only [NM, EE] at hJ
          exact hJ
noncomputable def f3_airzrai4z_e (k : Nat) (a0 : Int) (a0_1 : List T44) (a1 : List Int) (a2 a2_1 a2_2 a2_3 : Int) : Option R3_airzrai4z :=
  Option.bind (f7_ k) fun o1 =>
    match o1 with
    | .o0 v4 =>
      cond ((!v4))
        (some (R3_airzrai4z.o0 false))
        (f3_airzrai4z_j1 k a1 false a0 a0_1 a2 a2_1 a2_2 a2_3)
theorem f3_airzrai4z_e_ok (k : Nat) (a0 : Int) (a0_1 : List T44) (a1 : List Int) (a2 a2_1 a2_2 a2_3 : Int) (r : R3_airzrai4z) (hF : f3_airzrai4z_e k a0 a0_1 a1 a2 a2_1 a2_2 a2_3 = some r) : finK Try.prog Try.f3 0 (EX 3 k (nav B3 []) ({ n := 161, F := [(0, V.agg [V.p (Value.int .i64 a0), V.sl 6 (rowsOf encT44 a0_1)]), (1, V.sl 1 (rowsOf (encI .i64) a1)), (2, V.agg [V.p (Value.int .i64 a2), V.p (Value.int .i64 a2_1), V.p (Value.int .i64 a2_2), V.p (Value.int .i64 a2_3)])], M := [] } : St)) = some r.st := by
  unfold f3_airzrai4z_e at hF
  replace hF := Option.bind_eq_some_iff.1 hF
  obtain ⟨o1, h2, hF⟩ := hF
  have hc3 := f7__ok k _ h2
  cases o1 with
  | o0 v4 =>
    (try dsimp only at hF)
    (try simp only [NM, EE, R7_.st] at hc3)
    simp (maxSteps := 999999) (disch := first | exact D (by decide) | exact K (by kernel_rfl)) only [E, EE, ↓reduceIte, simprocAttr, xk B3 [] .sq rfl, show (nav B3 [1]) = Code.region 0 _ false from rfl, hk_3_0, hz_3_0, hs_3_0, xk B3 [2] .sq rfl, xk B3 [1, 2] .sq rfl, show (nav B3 [1, 1, 2]) = Code.region 1 _ false from rfl, hk_3_1, hz_3_1, hs_3_1, callStep, CL, gv, List.contains, xk B3 [2, 1, 2] (.cd 16) rfl, hc3]
    replace hF := cond_some hF
    rcases hF with ⟨h5, hF⟩ | ⟨h5, hF⟩
    · cases hF
      simp (maxSteps := 999999) (disch := first | exact D (by decide) | exact K (by kernel_rfl)) only [E, EE, ↓reduceIte, simprocAttr, xk B3 [2, 2, 1, 2] .sq rfl, show (nav B3 [1, 2, 2, 1, 2]) = Code.region 2 _ false from rfl, hk_3_2, hz_3_2, hs_3_2, xk B3 [2, 2, 2, 1, 2] .rt rfl, finK_norm, finK_ret, fin3, R3_airzrai4z.st, hc3, h5]
    · have hJ := f3_airzrai4z_j1_ok k a1 false a0 a0_1 a2 a2_1 a2_2 a2_3 _ hF
      simp (maxSteps := 999999) (disch := first | exact D (by decide) | exact K (by kernel_rfl)) only [E, EE, ↓reduceIte, simprocAttr, xk B3 [3, 2, 1, 2] .sk rfl, hc3, h5]
      try simp only [NM, EE] at hJ
      exact hJ
noncomputable def f3_airzrai4z (k : Nat) (a0 : Int) (a0_1 : List T44) (a1 : List Int) (a2 a2_1 a2_2 a2_3 : Int) : Option R3_airzrai4z := match k with | 0 => none | k + 1 => f3_airzrai4z_e k a0 a0_1 a1 a2 a2_1 a2_2 a2_3
theorem f3_airzrai4z_ok (k : Nat) (a0 : Int) (a0_1 : List T44) (a1 : List Int) (a2 a2_1 a2_2 a2_3 : Int) (r : R3_airzrai4z) (hF : f3_airzrai4z k a0 a0_1 a1 a2 a2_1 a2_2 a2_3 = some r) : CV k 3 [V.agg [V.p (Value.int .i64 a0), V.sl 6 (rowsOf encT44 a0_1)], V.sl 1 (rowsOf (encI .i64) a1), V.agg [V.p (Value.int .i64 a2), V.p (Value.int .i64 a2_1), V.p (Value.int .i64 a2_2), V.p (Value.int .i64 a2_3)]] [] = some r.st := by
  cases k with
  | zero => cases hF
  | succ k =>
    unfold CV
    rw [ev_call (F := Try.f3) (c := (nav B3 [])) rfl Try.func3 rfl rfl rfl rfl]
    exact f3_airzrai4z_e_ok k a0 a0_1 a1 a2 a2_1 a2_2 a2_3 r hF
end Go.Proofs.YtmogplhglcodjaaV
