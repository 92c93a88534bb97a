/- What the program's functions answer: plain functions, and that the interpreter answers what they do. Written by a program of this session, out of the translation. -/
import Derived.Test.YtmogplhglcodjaaVP4
namespace Go.Proofs.YtmogplhglcodjaaV
open Go
set_option linter.unusedVariables false
set_option linter.unusedSimpArgs false
set_option maxRecDepth 8000
set_option maxHeartbeats 4000000
-- f10_airz: f10 heliograph/heliographref13.Right
inductive R10_airz where
  | o0 (y : Bool)
noncomputable def R10_airz.st : R10_airz → V × List O × List O
  | .o0 y => (V.p (Value.bool y), [], [])
inductive R10_airz_l2_l3 where
  | o0 (y y_1 y_2 : Int) (y_3 : List T44) (y_4 y_5 y_6 y_7 y_8 y_9 : Int)
  | o1 (y : Bool)
  | o2 (y y_1 : Int) (y_2 : Bool) (y_3 : Int) (y_4 : List T44) (y_5 y_6 y_7 y_8 y_9 y_10 : Int)
noncomputable def R10_airz_l2_l3.st : R10_airz_l2_l3 → Out × St
  | .o0 y y_1 y_2 y_3 y_4 y_5 y_6 y_7 y_8 y_9 => (.norm, ({ n := 136, F := [(1, V.ptr 30000 0), (3, V.p (Value.int .i64 y)), (4, V.ptr 30001 0), (5, V.p (Value.int .i64 y_1))], M := [(30000, O.box 24 [V.p (Value.int .i64 y_2), V.sl 6 (rowsOf encT44 y_3)]), (30001, O.box 44 [V.p (Value.int .i64 y_4), V.p (Value.int .i64 y_5), V.p (Value.int .i64 y_6), V.p (Value.int .i64 y_7), V.p (Value.int .i64 y_8), V.p (Value.int .i64 y_9)])] } : St))
  | .o1 y => (.ret, ({ n := 136, F := [(2, V.p (Value.bool y))], M := [] } : St))
  | .o2 y y_1 y_2 y_3 y_4 y_5 y_6 y_7 y_8 y_9 y_10 => (.exit 2, ({ n := 136, F := [(1, V.ptr 30000 0), (3, V.p (Value.int .i64 y)), (4, V.ptr 30001 0), (5, V.p (Value.int .i64 y_1)), (101, V.p (Value.bool y_2))], M := [(30000, O.box 24 [V.p (Value.int .i64 y_3), V.sl 6 (rowsOf encT44 y_4)]), (30001, O.box 44 [V.p (Value.int .i64 y_5), V.p (Value.int .i64 y_6), V.p (Value.int .i64 y_7), V.p (Value.int .i64 y_8), V.p (Value.int .i64 y_9), V.p (Value.int .i64 y_10)])] } : St))
noncomputable def f10_airz_l2_l3_j2 (k : Nat) (x3 x5 : Int) (x135 : Bool) (h0_ : Int) (h0__1 : List T44) (h1_ h1__1 h1__2 h1__3 h1__4 h1__5 : Int) : Option R10_airz_l2_l3 :=
  some (R10_airz_l2_l3.o0 x3 (IntKind.i64.wrap (x5 + (1 : Int))) h0_ h0__1 h1_ h1__1 h1__2 h1__3 h1__4 h1__5)
theorem f10_airz_l2_l3_j2_ok (k : Nat) (x3 x5 : Int) (x135 : Bool) (h0_ : Int) (h0__1 : List T44) (h1_ h1__1 h1__2 h1__3 h1__4 h1__5 : Int) (r : R10_airz_l2_l3) (hF : f10_airz_l2_l3_j2 k x3 x5 x135 h0_ h0__1 h1_ h1__1 h1__2 h1__3 h1__4 h1__5 = some r) : EX 10 k (nav B10 [2, 2, 1, 2, 2, 2, 2, 2, 1, 2, 1, 2, 2, 1, 2, 2]) ({ n := 136, F := [(1, V.ptr 30000 0), (3, V.p (Value.int .i64 x3)), (4, V.ptr 30001 0), (5, V.p (Value.int .i64 x5)), (135, V.p (Value.bool x135))], M := [(30000, O.box 24 [V.p (Value.int .i64 h0_), V.sl 6 (rowsOf encT44 h0__1)]), (30001, O.box 44 [V.p (Value.int .i64 h1_), V.p (Value.int .i64 h1__1), V.p (Value.int .i64 h1__2), V.p (Value.int .i64 h1__3), V.p (Value.int .i64 h1__4), V.p (Value.int .i64 h1__5)])] } : St) = some r.st := by
  unfold f10_airz_l2_l3_j2 at hF
  cases hF
  simp (maxSteps := 999999) (disch := first | exact D (by decide) | exact K (by kernel_rfl)) only [E, EE, ↓reduceIte, simprocAttr, show (nav B10 [2, 2, 1, 2, 2, 2, 2, 2, 1, 2, 1, 2, 2, 1, 2, 2]) = Code.region 11 _ false from rfl, hk_10_11, hz_10_11, hs_10_11, R10_airz_l2_l3.st]
noncomputable def f10_airz_l2_l3_j1 (k : Nat) (x3 x5 : Int) (x101 : Bool) (h0_ : Int) (h0__1 : List T44) (h1_ h1__1 h1__2 h1__3 h1__4 h1__5 : Int) : Option R10_airz_l2_l3 :=
  ifE ((0 : Int) ≤ x5) (
    Option.bind (h0__1[(Int.toNat x5)]?) fun v2 =>
      cond ((v2.From == h1_))
        (
          cond ((v2.To == h1__1))
            (
              cond ((decide (v2.End ≤ h1__2)))
                (f10_airz_l2_l3_j2 k x3 x5 false h0_ h0__1 h1_ h1__1 h1__2 h1__3 h1__4 h1__5)
                (
                  cond ((!(decide (h1__3 ≤ v2.Start))))
                    (some (R10_airz_l2_l3.o1 false))
                    (f10_airz_l2_l3_j2 k x3 x5 false h0_ h0__1 h1_ h1__1 h1__2 h1__3 h1__4 h1__5)))
            (f10_airz_l2_l3_j2 k x3 x5 false h0_ h0__1 h1_ h1__1 h1__2 h1__3 h1__4 h1__5))
        (f10_airz_l2_l3_j2 k x3 x5 false h0_ h0__1 h1_ h1__1 h1__2 h1__3 h1__4 h1__5))
theorem f10_airz_l2_l3_j1_ok (k : Nat) (x3 x5 : Int) (x101 : Bool) (h0_ : Int) (h0__1 : List T44) (h1_ h1__1 h1__2 h1__3 h1__4 h1__5 : Int) (r : R10_airz_l2_l3) (hF : f10_airz_l2_l3_j1 k x3 x5 x101 h0_ h0__1 h1_ h1__1 h1__2 h1__3 h1__4 h1__5 = some r) : EX 10 k (nav B10 [2, 1, 2, 2, 2, 2, 2, 1, 2, 1, 2, 2, 1, 2, 2]) ({ n := 136, F := [(1, V.ptr 30000 0), (3, V.p (Value.int .i64 x3)), (4, V.ptr 30001 0), (5, V.p (Value.int .i64 x5)), (101, V.p (Value.bool x101))], M := [(30000, O.box 24 [V.p (Value.int .i64 h0_), V.sl 6 (rowsOf encT44 h0__1)]), (30001, O.box 44 [V.p (Value.int .i64 h1_), V.p (Value.int .i64 h1__1), V.p (Value.int .i64 h1__2), V.p (Value.int .i64 h1__3), V.p (Value.int .i64 h1__4), V.p (Value.int .i64 h1__5)])] } : St) = some r.st := by
  unfold f10_airz_l2_l3_j1 at hF
  replace hF := ifE_some.1 hF
  obtain ⟨h1, hF⟩ := hF
  replace hF := Option.bind_eq_some_iff.1 hF
  obtain ⟨v2, h3, hF⟩ := hF
  simp (maxSteps := 999999) (disch := first | exact D (by decide) | exact K (by kernel_rfl)) only [E, EE, ↓reduceIte, simprocAttr, xk B10 [2, 1, 2, 2, 2, 2, 2, 1, 2, 1, 2, 2, 1, 2, 2] .sq rfl, xk B10 [1, 2, 1, 2, 2, 2, 2, 2, 1, 2, 1, 2, 2, 1, 2, 2] (.bk 3) rfl, xk B10 [2, 1, 2, 1, 2, 2, 2, 2, 2, 1, 2, 1, 2, 2, 1, 2, 2] .sq rfl, show (nav B10 [1, 2, 1, 2, 1, 2, 2, 2, 2, 2, 1, 2, 1, 2, 2, 1, 2, 2]) = Code.region 12 _ false from rfl, hk_10_12, hz_10_12, hs_10_12, fieldAddrV, u_24, i_24, is_24, ib_24, iz_24, u_22, i_22, is_22, ib_22, iz_22, indexAddrV, u_44, i_44, is_44, ib_44, iz_44, encT44_eq, xk B10 [2, 2, 1, 2, 1, 2, 2, 2, 2, 2, 1, 2, 1, 2, 2, 1, 2, 2] .sq rfl, show (nav B10 [1, 2, 2, 1, 2, 1, 2, 2, 2, 2, 2, 1, 2, 1, 2, 2, 1, 2, 2]) = Code.region 13 _ false from rfl, hk_10_13, hz_10_13, hs_10_13, u_3, i_3, is_3, ib_3, iz_3, h1, h3]
  replace hF := cond_some hF
  rcases hF with ⟨h4, hF⟩ | ⟨h4, hF⟩
  · simp (maxSteps := 999999) (disch := first | exact D (by decide) | exact K (by kernel_rfl)) only [E, EE, ↓reduceIte, simprocAttr, fieldAddrV, u_44, i_44, is_44, ib_44, iz_44, u_3, i_3, is_3, ib_3, iz_3, h1, h3, h4]
    replace hF := cond_some hF
    rcases hF with ⟨h5, hF⟩ | ⟨h5, hF⟩
    · simp (maxSteps := 999999) (disch := first | exact D (by decide) | exact K (by kernel_rfl)) only [E, EE, ↓reduceIte, simprocAttr, fieldAddrV, u_44, i_44, is_44, ib_44, iz_44, u_3, i_3, is_3, ib_3, iz_3, h1, h3, h4, h5]
      replace hF := cond_some hF
      rcases hF with ⟨h6, hF⟩ | ⟨h6, hF⟩
      · have hJ := f10_airz_l2_l3_j2_ok k x3 x5 false h0_ h0__1 h1_ h1__1 h1__2 h1__3 h1__4 h1__5 _ hF
        simp (maxSteps := 999999) (disch := first | exact D (by decide) | exact K (by kernel_rfl)) only [E, EE, ↓reduceIte, simprocAttr, xk B10 [2, 2, 2, 1, 2, 1, 2, 2, 2, 2, 2, 1, 2, 1, 2, 2, 1, 2, 2] (.cd 135) rfl, xk B10 [3, 2, 2, 2, 1, 2, 1, 2, 2, 2, 2, 2, 1, 2, 1, 2, 2, 1, 2, 2] .sk rfl, h1, h3, h4, h5, h6]
        try simp only [NM, EE] at hJ
        exact hJ
      · simp (maxSteps := 999999) (disch := first | exact D (by decide) | exact K (by kernel_rfl)) only [E, EE, ↓reduceIte, simprocAttr, fieldAddrV, u_44, i_44, is_44, ib_44, iz_44, u_3, i_3, is_3, ib_3, iz_3, xk B10 [2, 2, 2, 1, 2, 1, 2, 2, 2, 2, 2, 1, 2, 1, 2, 2, 1, 2, 2] (.cd 135) rfl, h1, h3, h4, h5, h6]
        replace hF := cond_some hF
        rcases hF with ⟨h7, hF⟩ | ⟨h7, hF⟩
        · cases hF
          simp (maxSteps := 999999) (disch := first | exact D (by decide) | exact K (by kernel_rfl)) only [E, EE, ↓reduceIte, simprocAttr, xk B10 [2, 2, 2, 2, 1, 2, 1, 2, 2, 2, 2, 2, 1, 2, 1, 2, 2, 1, 2, 2] .sq rfl, show (nav B10 [1, 2, 2, 2, 2, 1, 2, 1, 2, 2, 2, 2, 2, 1, 2, 1, 2, 2, 1, 2, 2]) = Code.region 14 _ false from rfl, hk_10_14, hz_10_14, hs_10_14, xk B10 [2, 2, 2, 2, 2, 1, 2, 1, 2, 2, 2, 2, 2, 1, 2, 1, 2, 2, 1, 2, 2] .rt rfl, R10_airz_l2_l3.st, h1, h3, h4, h5, h6, h7]
        · have hJ := f10_airz_l2_l3_j2_ok k x3 x5 false h0_ h0__1 h1_ h1__1 h1__2 h1__3 h1__4 h1__5 _ hF
          simp (maxSteps := 999999) (disch := first | exact D (by decide) | exact K (by kernel_rfl)) only [E, EE, ↓reduceIte, simprocAttr, xk B10 [3, 2, 2, 2, 1, 2, 1, 2, 2, 2, 2, 2, 1, 2, 1, 2, 2, 1, 2, 2] .sk rfl, h1, h3, h4, h5, h6, h7]
          try simp only [NM, EE] at hJ
          exact hJ
    · have hJ := f10_airz_l2_l3_j2_ok k x3 x5 false h0_ h0__1 h1_ h1__1 h1__2 h1__3 h1__4 h1__5 _ hF
      simp (maxSteps := 999999) (disch := first | exact D (by decide) | exact K (by kernel_rfl)) only [E, EE, ↓reduceIte, simprocAttr, xk B10 [2, 2, 2, 1, 2, 1, 2, 2, 2, 2, 2, 1, 2, 1, 2, 2, 1, 2, 2] (.cd 135) rfl, xk B10 [3, 2, 2, 2, 1, 2, 1, 2, 2, 2, 2, 2, 1, 2, 1, 2, 2, 1, 2, 2] .sk rfl, h1, h3, h4, h5]
      try simp only [NM, EE] at hJ
      exact hJ
  · have hJ := f10_airz_l2_l3_j2_ok k x3 x5 false h0_ h0__1 h1_ h1__1 h1__2 h1__3 h1__4 h1__5 _ hF
    simp (maxSteps := 999999) (disch := first | exact D (by decide) | exact K (by kernel_rfl)) only [E, EE, ↓reduceIte, simprocAttr, xk B10 [2, 2, 2, 1, 2, 1, 2, 2, 2, 2, 2, 1, 2, 1, 2, 2, 1, 2, 2] (.cd 135) rfl, xk B10 [3, 2, 2, 2, 1, 2, 1, 2, 2, 2, 2, 2, 1, 2, 1, 2, 2, 1, 2, 2] .sk rfl, h1, h3, h4]
    try simp only [NM, EE] at hJ
    exact hJ
noncomputable def f10_airz_l2_l3_b (k : Nat) (x3 x5 h0_ : Int) (h0__1 : List T44) (h1_ h1__1 h1__2 h1__3 h1__4 h1__5 : Int) : Option R10_airz_l2_l3 :=
  cond ((decide (x5 < x3)))
    (f10_airz_l2_l3_j1 k x3 x5 true h0_ h0__1 h1_ h1__1 h1__2 h1__3 h1__4 h1__5)
    (some (R10_airz_l2_l3.o2 x3 x5 false h0_ h0__1 h1_ h1__1 h1__2 h1__3 h1__4 h1__5))
theorem f10_airz_l2_l3_b_ok (k : Nat) (x3 x5 h0_ : Int) (h0__1 : List T44) (h1_ h1__1 h1__2 h1__3 h1__4 h1__5 : Int) (r : R10_airz_l2_l3) (hF : f10_airz_l2_l3_b k x3 x5 h0_ h0__1 h1_ h1__1 h1__2 h1__3 h1__4 h1__5 = some r) : EX 10 k (nav B10 [1, 2, 2, 2, 2, 2, 1, 2, 1, 2, 2, 1, 2, 2]) ({ n := 136, F := [(1, V.ptr 30000 0), (3, V.p (Value.int .i64 x3)), (4, V.ptr 30001 0), (5, V.p (Value.int .i64 x5))], M := [(30000, O.box 24 [V.p (Value.int .i64 h0_), V.sl 6 (rowsOf encT44 h0__1)]), (30001, O.box 44 [V.p (Value.int .i64 h1_), V.p (Value.int .i64 h1__1), V.p (Value.int .i64 h1__2), V.p (Value.int .i64 h1__3), V.p (Value.int .i64 h1__4), V.p (Value.int .i64 h1__5)])] } : St) = some r.st := by
  unfold f10_airz_l2_l3_b at hF
  simp (maxSteps := 999999) (disch := first | exact D (by decide) | exact K (by kernel_rfl)) only [E, EE, ↓reduceIte, simprocAttr, xk B10 [1, 2, 2, 2, 2, 2, 1, 2, 1, 2, 2, 1, 2, 2] .sq rfl, xk B10 [1, 1, 2, 2, 2, 2, 2, 1, 2, 1, 2, 2, 1, 2, 2] .sq rfl, show (nav B10 [1, 1, 1, 2, 2, 2, 2, 2, 1, 2, 1, 2, 2, 1, 2, 2]) = Code.region 10 _ false from rfl, hk_10_10, hz_10_10, hs_10_10, xk B10 [2, 1, 1, 2, 2, 2, 2, 2, 1, 2, 1, 2, 2, 1, 2, 2] (.cd 101) rfl]
  replace hF := cond_some hF
  rcases hF with ⟨h1, hF⟩ | ⟨h1, hF⟩
  · have hJ := f10_airz_l2_l3_j1_ok k x3 x5 true h0_ h0__1 h1_ h1__1 h1__2 h1__3 h1__4 h1__5 _ hF
    simp (maxSteps := 999999) (disch := first | exact D (by decide) | exact K (by kernel_rfl)) only [E, EE, ↓reduceIte, simprocAttr, xk B10 [2, 2, 1, 1, 2, 2, 2, 2, 2, 1, 2, 1, 2, 2, 1, 2, 2] .sk rfl, h1]
    try simp only [NM, EE] at hJ
    exact hJ
  · cases hF
    simp (maxSteps := 999999) (disch := first | exact D (by decide) | exact K (by kernel_rfl)) only [E, EE, ↓reduceIte, simprocAttr, xk B10 [3, 2, 1, 1, 2, 2, 2, 2, 2, 1, 2, 1, 2, 2, 1, 2, 2] (.ex 2) rfl, R10_airz_l2_l3.st, h1]
noncomputable def f10_airz_l2_l3 (k : Nat) : Nat → Int → Int → Int → (List T44) → Int → Int → Int → Int → Int → Int → Option R10_airz_l2_l3
  | 0, _, _, _, _, _, _, _, _, _, _ => none
  | n + 1, x3, x5, h0_, h0__1, h1_, h1__1, h1__2, h1__3, h1__4, h1__5 => Option.bind (f10_airz_l2_l3_b k x3 x5 h0_ h0__1 h1_ h1__1 h1__2 h1__3 h1__4 h1__5) fun o =>
    match o with
    | .o0 y y_1 y_2 y_3 y_4 y_5 y_6 y_7 y_8 y_9 => f10_airz_l2_l3 k n y y_1 y_2 y_3 y_4 y_5 y_6 y_7 y_8 y_9
    | .o1 y => some (.o1 y)
    | .o2 y y_1 y_2 y_3 y_4 y_5 y_6 y_7 y_8 y_9 y_10 => some (.o2 y y_1 y_2 y_3 y_4 y_5 y_6 y_7 y_8 y_9 y_10)
theorem f10_airz_l2_l3_ok (k n : Nat) : ∀ (x3 x5 h0_ : Int) (h0__1 : List T44) (h1_ h1__1 h1__2 h1__3 h1__4 h1__5 : Int) (r : R10_airz_l2_l3) (hF : f10_airz_l2_l3 k n x3 x5 h0_ h0__1 h1_ h1__1 h1__2 h1__3 h1__4 h1__5 = some r) (σ : St) (hσ : headR (hints.head 10 10) (hints.canon 10 10) σ = some ({ n := 136, F := [(1, V.ptr 30000 0), (3, V.p (Value.int .i64 x3)), (4, V.ptr 30001 0), (5, V.p (Value.int .i64 x5))], M := [(30000, O.box 24 [V.p (Value.int .i64 h0_), V.sl 6 (rowsOf encT44 h0__1)]), (30001, O.box 44 [V.p (Value.int .i64 h1_), V.p (Value.int .i64 h1__1), V.p (Value.int .i64 h1__2), V.p (Value.int .i64 h1__3), V.p (Value.int .i64 h1__4), V.p (Value.int .i64 h1__5)])] } : St)), LP 10 k (nav B10 [1, 2, 2, 2, 2, 2, 1, 2, 1, 2, 2, 1, 2, 2]) n σ = some r.st := by
  induction n with
  | zero => intro x3 x5 h0_ h0__1 h1_ h1__1 h1__2 h1__3 h1__4 h1__5 r hF; cases hF
  | succ n ih =>
    intro x3 x5 h0_ h0__1 h1_ h1__1 h1__2 h1__3 h1__4 h1__5 r hF σ hσ
    rw [f10_airz_l2_l3] at hF
    obtain ⟨o, h, hF⟩ := Option.bind_eq_some_iff.1 hF
    have hB := f10_airz_l2_l3_b_ok k x3 x5 h0_ h0__1 h1_ h1__1 h1__2 h1__3 h1__4 h1__5 o h
    unfold LP at ih ⊢
    unfold EX at hB
    rw [loopK_succ, show firstReg (nav B10 [1, 2, 2, 2, 2, 2, 1, 2, 1, 2, 2, 1, 2, 2]) = 10 from rfl, hσ, headK_some, hB]
    cases o with
    | o0 y y_1 y_2 y_3 y_4 y_5 y_6 y_7 y_8 y_9 =>
      refine ih y y_1 y_2 y_3 y_4 y_5 y_6 y_7 y_8 y_9 r hF _ ?_
      simp (maxSteps := 999999) (disch := first | exact D (by decide) | exact K (by kernel_rfl)) only [E, EE, ↓reduceIte, simprocAttr, hh_10_10, hc_10_10]
    | o1 y => cases hF; rfl
    | o2 y y_1 y_2 y_3 y_4 y_5 y_6 y_7 y_8 y_9 y_10 => cases hF; rfl
inductive R10_airz_l2 where
  | o0 (y : Bool)
  | o1 (y y_1 : Int) (y_2 : List T44)
  | o2 (y : Int) (y_1 : Bool) (y_2 : Int) (y_3 : List T44)
noncomputable def R10_airz_l2.st : R10_airz_l2 → Out × St
  | .o0 y => (.ret, ({ n := 136, F := [(2, V.p (Value.bool y))], M := [] } : St))
  | .o1 y y_1 y_2 => (.norm, ({ n := 136, F := [(1, V.ptr 30000 0), (3, V.p (Value.int .i64 y))], M := [(30000, O.box 24 [V.p (Value.int .i64 y_1), V.sl 6 (rowsOf encT44 y_2)])] } : St))
  | .o2 y y_1 y_2 y_3 => (.exit 0, ({ n := 136, F := [(1, V.ptr 30000 0), (3, V.p (Value.int .i64 y)), (25, V.p (Value.bool y_1))], M := [(30000, O.box 24 [V.p (Value.int .i64 y_2), V.sl 6 (rowsOf encT44 y_3)])] } : St))
noncomputable def f10_airz_l2_j4 (k : Nat) (x3 x5 : Int) (x101 : Bool) (h0_ : Int) (h0__1 : List T44) (h1_ h1__1 h1__2 h1__3 h1__4 h1__5 : Int) : Option R10_airz_l2 :=
  some (R10_airz_l2.o1 (IntKind.i64.wrap (x3 + (1 : Int))) h0_ h0__1)
theorem f10_airz_l2_j4_ok (k : Nat) (x3 x5 : Int) (x101 : Bool) (h0_ : Int) (h0__1 : List T44) (h1_ h1__1 h1__2 h1__3 h1__4 h1__5 : Int) (r : R10_airz_l2) (hF : f10_airz_l2_j4 k x3 x5 x101 h0_ h0__1 h1_ h1__1 h1__2 h1__3 h1__4 h1__5 = some r) : EX 10 k (nav B10 [2, 2, 1, 2, 2, 1, 2, 2]) ({ n := 136, F := [(1, V.ptr 30000 0), (3, V.p (Value.int .i64 x3)), (4, V.ptr 30001 0), (5, V.p (Value.int .i64 x5)), (101, V.p (Value.bool x101))], M := [(30000, O.box 24 [V.p (Value.int .i64 h0_), V.sl 6 (rowsOf encT44 h0__1)]), (30001, O.box 44 [V.p (Value.int .i64 h1_), V.p (Value.int .i64 h1__1), V.p (Value.int .i64 h1__2), V.p (Value.int .i64 h1__3), V.p (Value.int .i64 h1__4), V.p (Value.int .i64 h1__5)])] } : St) = some r.st := by
  unfold f10_airz_l2_j4 at hF
  cases hF
  simp (maxSteps := 999999) (disch := first | exact D (by decide) | exact K (by kernel_rfl)) only [E, EE, ↓reduceIte, simprocAttr, show (nav B10 [2, 2, 1, 2, 2, 1, 2, 2]) = Code.region 5 _ false from rfl, hk_10_5, hz_10_5, hs_10_5, R10_airz_l2.st]
noncomputable def f10_airz_l2_j2 (k : Nat) (x3 : Int) (x98 : Bool) (h0_ : Int) (h0__1 : List T44) (m4 m4_1 m4_2 m4_3 m4_4 m4_5 : Int) : Option R10_airz_l2 :=
  Option.bind (f10_airz_l2_l3 k k x3 0 h0_ h0__1 m4 m4_1 m4_2 m4_3 m4_4 m4_5) fun o1 =>
    match o1 with
    | .o0 _ _ _ _ _ _ _ _ _ _ =>
      none
    | .o1 v4 =>
      some (R10_airz_l2.o0 v4)
    | .o2 v5 v6 v7 v8 v9 v10 v11 v12 v13 v14 v15 =>
      f10_airz_l2_j4 k v5 v6 v7 v8 v9 v10 v11 v12 v13 v14 v15
theorem f10_airz_l2_j2_ok (k : Nat) (x3 : Int) (x98 : Bool) (h0_ : Int) (h0__1 : List T44) (m4 m4_1 m4_2 m4_3 m4_4 m4_5 : Int) (r : R10_airz_l2) (hF : f10_airz_l2_j2 k x3 x98 h0_ h0__1 m4 m4_1 m4_2 m4_3 m4_4 m4_5 = some r) : SQ 10 k (nav B10 [2, 2, 1, 2, 2, 1, 2, 2]) (blockK 1 (EX 10 k (nav B10 [2, 2, 2, 1, 2, 1, 2, 2, 1, 2, 2]) ({ n := 136, F := [(1, V.ptr 30000 0), (3, V.p (Value.int .i64 x3)), (4, V.ptr 4 0), (98, V.p (Value.bool x98))], M := [(30000, O.box 24 [V.p (Value.int .i64 h0_), V.sl 6 (rowsOf encT44 h0__1)]), (4, O.box 44 [V.p (Value.int .i64 m4), V.p (Value.int .i64 m4_1), V.p (Value.int .i64 m4_2), V.p (Value.int .i64 m4_3), V.p (Value.int .i64 m4_4), V.p (Value.int .i64 m4_5)])] } : St))) = some r.st := by
  unfold f10_airz_l2_j2 at hF
  replace hF := Option.bind_eq_some_iff.1 hF
  obtain ⟨o1, h2, hF⟩ := hF
  have hc3 := f10_airz_l2_l3_ok k k x3 0 h0_ h0__1 m4 m4_1 m4_2 m4_3 m4_4 m4_5 _ h2
  simp (maxSteps := 999999) (disch := first | exact D (by decide) | exact K (by kernel_rfl)) only [E, EE, ↓reduceIte, simprocAttr, xk B10 [2, 2, 2, 1, 2, 1, 2, 2, 1, 2, 2] .sq rfl, show (nav B10 [1, 2, 2, 2, 1, 2, 1, 2, 2, 1, 2, 2]) = Code.region 9 _ false from rfl, hk_10_9, hz_10_9, hs_10_9, xk B10 [2, 2, 2, 2, 1, 2, 1, 2, 2, 1, 2, 2] (.bk 2) rfl, xk B10 [2, 2, 2, 2, 2, 1, 2, 1, 2, 2, 1, 2, 2] .lp rfl, hh_10_10, hc_10_10]
  (try simp only [NM, EE] at hc3)
  rw [hc3 _ (by simp (maxSteps := 999999) (disch := first | exact D (by decide) | exact K (by kernel_rfl)) only [E, EE, ↓reduceIte, simprocAttr, hh_10_10, hc_10_10])]
  clear hc3
  cases o1 with
  | o0 _ _ _ _ _ _ _ _ _ _ =>
    (try dsimp only at hF)
    cases hF
  | o1 v4 =>
    (try dsimp only at hF)
    cases hF
    simp (maxSteps := 999999) (disch := first | exact D (by decide) | exact K (by kernel_rfl)) only [E, EE, ↓reduceIte, simprocAttr, R10_airz_l2_l3.st, R10_airz_l2.st]
  | o2 v5 v6 v7 v8 v9 v10 v11 v12 v13 v14 v15 =>
    (try dsimp only at hF)
    have hJ := f10_airz_l2_j4_ok k v5 v6 v7 v8 v9 v10 v11 v12 v13 v14 v15 _ hF
    simp (maxSteps := 999999) (disch := first | exact D (by decide) | exact K (by kernel_rfl)) only [E, EE, ↓reduceIte, simprocAttr, R10_airz_l2_l3.st]
    try simp only [NM, EE] at hJ
    exact hJ
noncomputable def f10_airz_l2_j1 (k : Nat) (x3 : Int) (x25 : Bool) (h0_ : Int) (h0__1 : List T44) : Option R10_airz_l2 :=
  ifE ((0 : Int) ≤ x3) (
    Option.bind (h0__1[(Int.toNat x3)]?) fun v2 =>
      cond ((decide (v2.From < 1)))
        (some (R10_airz_l2.o0 false))
        (
          cond ((decide (v2.From > h0_)))
            (some (R10_airz_l2.o0 false))
            (
              cond ((decide (v2.To < 1)))
                (some (R10_airz_l2.o0 false))
                (
                  cond ((decide (v2.To > h0_)))
                    (some (R10_airz_l2.o0 false))
                    (
                      cond ((v2.From == v2.To))
                        (some (R10_airz_l2.o0 false))
                        (
                          cond ((decide (v2.Start < 0)))
                            (some (R10_airz_l2.o0 false))
                            (
                              cond ((decide (v2.End ≤ v2.Start)))
                                (some (R10_airz_l2.o0 false))
                                (
                                  cond ((decide (v2.End > 1048576)))
                                    (some (R10_airz_l2.o0 false))
                                    (
                                      cond ((decide (v2.Rate < 1)))
                                        (some (R10_airz_l2.o0 false))
                                        (
                                          cond ((decide (v2.Rate > 4096)))
                                            (some (R10_airz_l2.o0 false))
                                            (
                                              cond ((decide (v2.Delay < 0)))
                                                (some (R10_airz_l2.o0 false))
                                                (
                                                  cond ((decide (v2.Delay > 4096)))
                                                    (some (R10_airz_l2.o0 false))
                                                    (f10_airz_l2_j2 k x3 false h0_ h0__1 v2.From v2.To v2.Start v2.End v2.Rate v2.Delay)))))))))))))
theorem f10_airz_l2_j1_ok (k : Nat) (x3 : Int) (x25 : Bool) (h0_ : Int) (h0__1 : List T44) (r : R10_airz_l2) (hF : f10_airz_l2_j1 k x3 x25 h0_ h0__1 = some r) : EX 10 k (nav B10 [2, 1, 2, 2, 1, 2, 2]) ({ n := 136, F := [(1, V.ptr 30000 0), (3, V.p (Value.int .i64 x3)), (25, V.p (Value.bool x25))], M := [(30000, O.box 24 [V.p (Value.int .i64 h0_), V.sl 6 (rowsOf encT44 h0__1)])] } : St) = some r.st := by
  unfold f10_airz_l2_j1 at hF
  replace hF := ifE_some.1 hF
  obtain ⟨h1, hF⟩ := hF
  replace hF := Option.bind_eq_some_iff.1 hF
  obtain ⟨v2, h3, hF⟩ := hF
  simp (maxSteps := 999999) (disch := first | exact D (by decide) | exact K (by kernel_rfl)) only [E, EE, ↓reduceIte, simprocAttr, xk B10 [2, 1, 2, 2, 1, 2, 2] .sq rfl, xk B10 [1, 2, 1, 2, 2, 1, 2, 2] (.bk 1) rfl, xk B10 [2, 1, 2, 1, 2, 2, 1, 2, 2] .sq rfl, show (nav B10 [1, 2, 1, 2, 1, 2, 2, 1, 2, 2]) = Code.region 6 _ false from rfl, hk_10_6, hz_10_6, hs_10_6, fieldAddrV, u_24, i_24, is_24, ib_24, iz_24, u_22, i_22, is_22, ib_22, iz_22, indexAddrV, u_44, i_44, is_44, ib_44, iz_44, encT44_eq, xk B10 [2, 2, 1, 2, 1, 2, 2, 1, 2, 2] .sq rfl, xk B10 [1, 2, 2, 1, 2, 1, 2, 2, 1, 2, 2] .sq rfl, show (nav B10 [1, 1, 2, 2, 1, 2, 1, 2, 2, 1, 2, 2]) = Code.region 7 _ false from rfl, hk_10_7, hz_10_7, hs_10_7, u_3, i_3, is_3, ib_3, iz_3, h1, h3]
  replace hF := cond_some hF
  rcases hF with ⟨h4, hF⟩ | ⟨h4, hF⟩
  · cases hF
    simp (maxSteps := 999999) (disch := first | exact D (by decide) | exact K (by kernel_rfl)) only [E, EE, ↓reduceIte, simprocAttr, xk B10 [2, 1, 2, 2, 1, 2, 1, 2, 2, 1, 2, 2] (.cd 98) rfl, xk B10 [2, 2, 1, 2, 2, 1, 2, 1, 2, 2, 1, 2, 2] .sq rfl, show (nav B10 [1, 2, 2, 1, 2, 2, 1, 2, 1, 2, 2, 1, 2, 2]) = Code.region 8 _ false from rfl, hk_10_8, hz_10_8, hs_10_8, xk B10 [2, 2, 2, 1, 2, 2, 1, 2, 1, 2, 2, 1, 2, 2] .rt rfl, R10_airz_l2.st, h1, h3, h4]
  · simp (maxSteps := 999999) (disch := first | exact D (by decide) | exact K (by kernel_rfl)) only [E, EE, ↓reduceIte, simprocAttr, fieldAddrV, u_44, i_44, is_44, ib_44, iz_44, u_3, i_3, is_3, ib_3, iz_3, u_24, i_24, is_24, ib_24, iz_24, h1, h3, h4]
    replace hF := cond_some hF
    rcases hF with ⟨h5, hF⟩ | ⟨h5, hF⟩
    · cases hF
      simp (maxSteps := 999999) (disch := first | exact D (by decide) | exact K (by kernel_rfl)) only [E, EE, ↓reduceIte, simprocAttr, xk B10 [2, 1, 2, 2, 1, 2, 1, 2, 2, 1, 2, 2] (.cd 98) rfl, xk B10 [2, 2, 1, 2, 2, 1, 2, 1, 2, 2, 1, 2, 2] .sq rfl, show (nav B10 [1, 2, 2, 1, 2, 2, 1, 2, 1, 2, 2, 1, 2, 2]) = Code.region 8 _ false from rfl, hk_10_8, hz_10_8, hs_10_8, xk B10 [2, 2, 2, 1, 2, 2, 1, 2, 1, 2, 2, 1, 2, 2] .rt rfl, R10_airz_l2.st, h1, h3, h4, h5]
    · simp (maxSteps := 999999) (disch := first | exact D (by decide) | exact K (by kernel_rfl)) only [E, EE, ↓reduceIte, simprocAttr, fieldAddrV, u_44, i_44, is_44, ib_44, iz_44, u_3, i_3, is_3, ib_3, iz_3, h1, h3, h4, h5]
      replace hF := cond_some hF
      rcases hF with ⟨h6, hF⟩ | ⟨h6, hF⟩
      · cases hF
        simp (maxSteps := 999999) (disch := first | exact D (by decide) | exact K (by kernel_rfl)) only [E, EE, ↓reduceIte, simprocAttr, xk B10 [2, 1, 2, 2, 1, 2, 1, 2, 2, 1, 2, 2] (.cd 98) rfl, xk B10 [2, 2, 1, 2, 2, 1, 2, 1, 2, 2, 1, 2, 2] .sq rfl, show (nav B10 [1, 2, 2, 1, 2, 2, 1, 2, 1, 2, 2, 1, 2, 2]) = Code.region 8 _ false from rfl, hk_10_8, hz_10_8, hs_10_8, xk B10 [2, 2, 2, 1, 2, 2, 1, 2, 1, 2, 2, 1, 2, 2] .rt rfl, R10_airz_l2.st, h1, h3, h4, h5, h6]
      · simp (maxSteps := 999999) (disch := first | exact D (by decide) | exact K (by kernel_rfl)) only [E, EE, ↓reduceIte, simprocAttr, fieldAddrV, u_44, i_44, is_44, ib_44, iz_44, u_3, i_3, is_3, ib_3, iz_3, u_24, i_24, is_24, ib_24, iz_24, h1, h3, h4, h5, h6]
        replace hF := cond_some hF
        rcases hF with ⟨h7, hF⟩ | ⟨h7, hF⟩
        · cases hF
          simp (maxSteps := 999999) (disch := first | exact D (by decide) | exact K (by kernel_rfl)) only [E, EE, ↓reduceIte, simprocAttr, xk B10 [2, 1, 2, 2, 1, 2, 1, 2, 2, 1, 2, 2] (.cd 98) rfl, xk B10 [2, 2, 1, 2, 2, 1, 2, 1, 2, 2, 1, 2, 2] .sq rfl, show (nav B10 [1, 2, 2, 1, 2, 2, 1, 2, 1, 2, 2, 1, 2, 2]) = Code.region 8 _ false from rfl, hk_10_8, hz_10_8, hs_10_8, xk B10 [2, 2, 2, 1, 2, 2, 1, 2, 1, 2, 2, 1, 2, 2] .rt rfl, R10_airz_l2.st, h1, h3, h4, h5, h6, h7]
        · simp (maxSteps := 999999) (disch := first | exact D (by decide) | exact K (by kernel_rfl)) only [E, EE, ↓reduceIte, simprocAttr, fieldAddrV, u_44, i_44, is_44, ib_44, iz_44, u_3, i_3, is_3, ib_3, iz_3, h1, h3, h4, h5, h6, h7]
          replace hF := cond_some hF
          rcases hF with ⟨h8, hF⟩ | ⟨h8, hF⟩
          · cases hF
            simp (maxSteps := 999999) (disch := first | exact D (by decide) | exact K (by kernel_rfl)) only [E, EE, ↓reduceIte, simprocAttr, xk B10 [2, 1, 2, 2, 1, 2, 1, 2, 2, 1, 2, 2] (.cd 98) rfl, xk B10 [2, 2, 1, 2, 2, 1, 2, 1, 2, 2, 1, 2, 2] .sq rfl, show (nav B10 [1, 2, 2, 1, 2, 2, 1, 2, 1, 2, 2, 1, 2, 2]) = Code.region 8 _ false from rfl, hk_10_8, hz_10_8, hs_10_8, xk B10 [2, 2, 2, 1, 2, 2, 1, 2, 1, 2, 2, 1, 2, 2] .rt rfl, R10_airz_l2.st, h1, h3, h4, h5, h6, h7, h8]
          · simp (maxSteps := 999999) (disch := first | exact D (by decide) | exact K (by kernel_rfl)) only [E, EE, ↓reduceIte, simprocAttr, fieldAddrV, u_44, i_44, is_44, ib_44, iz_44, u_3, i_3, is_3, ib_3, iz_3, h1, h3, h4, h5, h6, h7, h8]
            replace hF := cond_some hF
            rcases hF with ⟨h9, hF⟩ | ⟨h9, hF⟩
            · cases hF
              simp (maxSteps := 999999) (disch := first | exact D (by decide) | exact K (by kernel_rfl)) only [E, EE, ↓reduceIte, simprocAttr, xk B10 [2, 1, 2, 2, 1, 2, 1, 2, 2, 1, 2, 2] (.cd 98) rfl, xk B10 [2, 2, 1, 2, 2, 1, 2, 1, 2, 2, 1, 2, 2] .sq rfl, show (nav B10 [1, 2, 2, 1, 2, 2, 1, 2, 1, 2, 2, 1, 2, 2]) = Code.region 8 _ false from rfl, hk_10_8, hz_10_8, hs_10_8, xk B10 [2, 2, 2, 1, 2, 2, 1, 2, 1, 2, 2, 1, 2, 2] .rt rfl, R10_airz_l2.st, h1, h3, h4, h5, h6, h7, h8, h9]
            · simp (maxSteps := 999999) (disch := first | exact D (by decide) | exact K (by kernel_rfl)) only [E, EE, ↓reduceIte, simprocAttr, fieldAddrV, u_44, i_44, is_44, ib_44, iz_44, u_3, i_3, is_3, ib_3, iz_3, h1, h3, h4, h5, h6, h7, h8, h9]
              replace hF := cond_some hF
              rcases hF with ⟨h10, hF⟩ | ⟨h10, hF⟩
              · cases hF
                simp (maxSteps := 999999) (disch := first | exact D (by decide) | exact K (by kernel_rfl)) only [E, EE, ↓reduceIte, simprocAttr, xk B10 [2, 1, 2, 2, 1, 2, 1, 2, 2, 1, 2, 2] (.cd 98) rfl, xk B10 [2, 2, 1, 2, 2, 1, 2, 1, 2, 2, 1, 2, 2] .sq rfl, show (nav B10 [1, 2, 2, 1, 2, 2, 1, 2, 1, 2, 2, 1, 2, 2]) = Code.region 8 _ false from rfl, hk_10_8, hz_10_8, hs_10_8, xk B10 [2, 2, 2, 1, 2, 2, 1, 2, 1, 2, 2, 1, 2, 2] .rt rfl, R10_airz_l2.st, h1, h3, h4, h5, h6, h7, h8, h9, h10]
              · simp (maxSteps := 999999) (disch := first | exact D (by decide) | exact K (by kernel_rfl)) only [E, EE, ↓reduceIte, simprocAttr, fieldAddrV, u_44, i_44, is_44, ib_44, iz_44, u_3, i_3, is_3, ib_3, iz_3, h1, h3, h4, h5, h6, h7, h8, h9, h10]
                replace hF := cond_some hF
                rcases hF with ⟨h11, hF⟩ | ⟨h11, hF⟩
                · cases hF
                  simp (maxSteps := 999999) (disch := first | exact D (by decide) | exact K (by kernel_rfl)) only [E, EE, ↓reduceIte, simprocAttr, xk B10 [2, 1, 2, 2, 1, 2, 1, 2, 2, 1, 2, 2] (.cd 98) rfl, xk B10 [2, 2, 1, 2, 2, 1, 2, 1, 2, 2, 1, 2, 2] .sq rfl, show (nav B10 [1, 2, 2, 1, 2, 2, 1, 2, 1, 2, 2, 1, 2, 2]) = Code.region 8 _ false from rfl, hk_10_8, hz_10_8, hs_10_8, xk B10 [2, 2, 2, 1, 2, 2, 1, 2, 1, 2, 2, 1, 2, 2] .rt rfl, R10_airz_l2.st, h1, h3, h4, h5, h6, h7, h8, h9, h10, h11]
                · simp (maxSteps := 999999) (disch := first | exact D (by decide) | exact K (by kernel_rfl)) only [E, EE, ↓reduceIte, simprocAttr, fieldAddrV, u_44, i_44, is_44, ib_44, iz_44, u_3, i_3, is_3, ib_3, iz_3, h1, h3, h4, h5, h6, h7, h8, h9, h10, h11]
                  replace hF := cond_some hF
                  rcases hF with ⟨h12, hF⟩ | ⟨h12, hF⟩
                  · cases hF
                    simp (maxSteps := 999999) (disch := first | exact D (by decide) | exact K (by kernel_rfl)) only [E, EE, ↓reduceIte, simprocAttr, xk B10 [2, 1, 2, 2, 1, 2, 1, 2, 2, 1, 2, 2] (.cd 98) rfl, xk B10 [2, 2, 1, 2, 2, 1, 2, 1, 2, 2, 1, 2, 2] .sq rfl, show (nav B10 [1, 2, 2, 1, 2, 2, 1, 2, 1, 2, 2, 1, 2, 2]) = Code.region 8 _ false from rfl, hk_10_8, hz_10_8, hs_10_8, xk B10 [2, 2, 2, 1, 2, 2, 1, 2, 1, 2, 2, 1, 2, 2] .rt rfl, R10_airz_l2.st, h1, h3, h4, h5, h6, h7, h8, h9, h10, h11, h12]
                  · simp (maxSteps := 999999) (disch := first | exact D (by decide) | exact K (by kernel_rfl)) only [E, EE, ↓reduceIte, simprocAttr, fieldAddrV, u_44, i_44, is_44, ib_44, iz_44, u_3, i_3, is_3, ib_3, iz_3, h1, h3, h4, h5, h6, h7, h8, h9, h10, h11, h12]
                    replace hF := cond_some hF
                    rcases hF with ⟨h13, hF⟩ | ⟨h13, hF⟩
                    · cases hF
                      simp (maxSteps := 999999) (disch := first | exact D (by decide) | exact K (by kernel_rfl)) only [E, EE, ↓reduceIte, simprocAttr, xk B10 [2, 1, 2, 2, 1, 2, 1, 2, 2, 1, 2, 2] (.cd 98) rfl, xk B10 [2, 2, 1, 2, 2, 1, 2, 1, 2, 2, 1, 2, 2] .sq rfl, show (nav B10 [1, 2, 2, 1, 2, 2, 1, 2, 1, 2, 2, 1, 2, 2]) = Code.region 8 _ false from rfl, hk_10_8, hz_10_8, hs_10_8, xk B10 [2, 2, 2, 1, 2, 2, 1, 2, 1, 2, 2, 1, 2, 2] .rt rfl, R10_airz_l2.st, h1, h3, h4, h5, h6, h7, h8, h9, h10, h11, h12, h13]
                    · simp (maxSteps := 999999) (disch := first | exact D (by decide) | exact K (by kernel_rfl)) only [E, EE, ↓reduceIte, simprocAttr, fieldAddrV, u_44, i_44, is_44, ib_44, iz_44, u_3, i_3, is_3, ib_3, iz_3, h1, h3, h4, h5, h6, h7, h8, h9, h10, h11, h12, h13]
                      replace hF := cond_some hF
                      rcases hF with ⟨h14, hF⟩ | ⟨h14, hF⟩
                      · cases hF
                        simp (maxSteps := 999999) (disch := first | exact D (by decide) | exact K (by kernel_rfl)) only [E, EE, ↓reduceIte, simprocAttr, xk B10 [2, 1, 2, 2, 1, 2, 1, 2, 2, 1, 2, 2] (.cd 98) rfl, xk B10 [2, 2, 1, 2, 2, 1, 2, 1, 2, 2, 1, 2, 2] .sq rfl, show (nav B10 [1, 2, 2, 1, 2, 2, 1, 2, 1, 2, 2, 1, 2, 2]) = Code.region 8 _ false from rfl, hk_10_8, hz_10_8, hs_10_8, xk B10 [2, 2, 2, 1, 2, 2, 1, 2, 1, 2, 2, 1, 2, 2] .rt rfl, R10_airz_l2.st, h1, h3, h4, h5, h6, h7, h8, h9, h10, h11, h12, h13, h14]
                      · simp (maxSteps := 999999) (disch := first | exact D (by decide) | exact K (by kernel_rfl)) only [E, EE, ↓reduceIte, simprocAttr, fieldAddrV, u_44, i_44, is_44, ib_44, iz_44, u_3, i_3, is_3, ib_3, iz_3, xk B10 [2, 1, 2, 2, 1, 2, 1, 2, 2, 1, 2, 2] (.cd 98) rfl, h1, h3, h4, h5, h6, h7, h8, h9, h10, h11, h12, h13, h14]
                        replace hF := cond_some hF
                        rcases hF with ⟨h15, hF⟩ | ⟨h15, hF⟩
                        · cases hF
                          simp (maxSteps := 999999) (disch := first | exact D (by decide) | exact K (by kernel_rfl)) only [E, EE, ↓reduceIte, simprocAttr, xk B10 [2, 2, 1, 2, 2, 1, 2, 1, 2, 2, 1, 2, 2] .sq rfl, show (nav B10 [1, 2, 2, 1, 2, 2, 1, 2, 1, 2, 2, 1, 2, 2]) = Code.region 8 _ false from rfl, hk_10_8, hz_10_8, hs_10_8, xk B10 [2, 2, 2, 1, 2, 2, 1, 2, 1, 2, 2, 1, 2, 2] .rt rfl, R10_airz_l2.st, h1, h3, h4, h5, h6, h7, h8, h9, h10, h11, h12, h13, h14, h15]
                        · have hJ := f10_airz_l2_j2_ok k x3 false h0_ h0__1 v2.From v2.To v2.Start v2.End v2.Rate v2.Delay _ hF
                          simp (maxSteps := 999999) (disch := first | exact D (by decide) | exact K (by kernel_rfl)) only [E, EE, ↓reduceIte, simprocAttr, xk B10 [3, 2, 1, 2, 2, 1, 2, 1, 2, 2, 1, 2, 2] .sk rfl, h1, h3, h4, h5, h6, h7, h8, h9, h10, h11, h12, h13, h14, h15]
                          try simp only [NM, EE] at hJ
                          exact hJ
noncomputable def f10_airz_l2_b (k : Nat) (x3 h0_ : Int) (h0__1 : List T44) : Option R10_airz_l2 :=
  cond ((decide (x3 < ((List.length h0__1) : Int))))
    (f10_airz_l2_j1 k x3 true h0_ h0__1)
    (some (R10_airz_l2.o2 x3 false h0_ h0__1))
theorem f10_airz_l2_b_ok (k : Nat) (x3 h0_ : Int) (h0__1 : List T44) (r : R10_airz_l2) (hF : f10_airz_l2_b k x3 h0_ h0__1 = some r) : EX 10 k (nav B10 [1, 2, 2, 1, 2, 2]) ({ n := 136, F := [(1, V.ptr 30000 0), (3, V.p (Value.int .i64 x3))], M := [(30000, O.box 24 [V.p (Value.int .i64 h0_), V.sl 6 (rowsOf encT44 h0__1)])] } : St) = some r.st := by
  unfold f10_airz_l2_b at hF
  simp (maxSteps := 999999) (disch := first | exact D (by decide) | exact K (by kernel_rfl)) only [E, EE, ↓reduceIte, simprocAttr, xk B10 [1, 2, 2, 1, 2, 2] .sq rfl, xk B10 [1, 1, 2, 2, 1, 2, 2] .sq rfl, show (nav B10 [1, 1, 1, 2, 2, 1, 2, 2]) = Code.region 4 _ false from rfl, hk_10_4, hz_10_4, hs_10_4, fieldAddrV, u_24, i_24, is_24, ib_24, iz_24, u_22, i_22, is_22, ib_22, iz_22, xk B10 [2, 1, 1, 2, 2, 1, 2, 2] (.cd 25) rfl]
  replace hF := cond_some hF
  rcases hF with ⟨h1, hF⟩ | ⟨h1, hF⟩
  · have hJ := f10_airz_l2_j1_ok k x3 true h0_ h0__1 _ hF
    simp (maxSteps := 999999) (disch := first | exact D (by decide) | exact K (by kernel_rfl)) only [E, EE, ↓reduceIte, simprocAttr, xk B10 [2, 2, 1, 1, 2, 2, 1, 2, 2] .sk rfl, h1]
    try simp only [NM, EE] at hJ
    exact hJ
  · cases hF
    simp (maxSteps := 999999) (disch := first | exact D (by decide) | exact K (by kernel_rfl)) only [E, EE, ↓reduceIte, simprocAttr, xk B10 [3, 2, 1, 1, 2, 2, 1, 2, 2] (.ex 0) rfl, R10_airz_l2.st, h1]
noncomputable def f10_airz_l2 (k : Nat) : Nat → Int → Int → (List T44) → Option R10_airz_l2
  | 0, _, _, _ => none
  | n + 1, x3, h0_, h0__1 => Option.bind (f10_airz_l2_b k x3 h0_ h0__1) fun o =>
    match o with
    | .o0 y => some (.o0 y)
    | .o1 y y_1 y_2 => f10_airz_l2 k n y y_1 y_2
    | .o2 y y_1 y_2 y_3 => some (.o2 y y_1 y_2 y_3)
theorem f10_airz_l2_ok (k n : Nat) : ∀ (x3 h0_ : Int) (h0__1 : List T44) (r : R10_airz_l2) (hF : f10_airz_l2 k n x3 h0_ h0__1 = some r) (σ : St) (hσ : headR (hints.head 10 4) (hints.canon 10 4) σ = some ({ n := 136, F := [(1, V.ptr 30000 0), (3, V.p (Value.int .i64 x3))], M := [(30000, O.box 24 [V.p (Value.int .i64 h0_), V.sl 6 (rowsOf encT44 h0__1)])] } : St)), LP 10 k (nav B10 [1, 2, 2, 1, 2, 2]) n σ = some r.st := by
  induction n with
  | zero => intro x3 h0_ h0__1 r hF; cases hF
  | succ n ih =>
    intro x3 h0_ h0__1 r hF σ hσ
    rw [f10_airz_l2] at hF
    obtain ⟨o, h, hF⟩ := Option.bind_eq_some_iff.1 hF
    have hB := f10_airz_l2_b_ok k x3 h0_ h0__1 o h
    unfold LP at ih ⊢
    unfold EX at hB
    rw [loopK_succ, show firstReg (nav B10 [1, 2, 2, 1, 2, 2]) = 4 from rfl, hσ, headK_some, hB]
    cases o with
    | o0 y => cases hF; rfl
    | o1 y y_1 y_2 =>
      refine ih y y_1 y_2 r hF _ ?_
      simp (maxSteps := 999999) (disch := first | exact D (by decide) | exact K (by kernel_rfl)) only [E, EE, ↓reduceIte, simprocAttr, hh_10_4, hc_10_4]
    | o2 y y_1 y_2 y_3 => cases hF; rfl
noncomputable def f10_airz_j3 (k : Nat) (x3 : Int) (x25 : Bool) (h0_ : Int) (h0__1 : List T44) : Option R10_airz :=
  some (R10_airz.o0 true)
theorem f10_airz_j3_ok (k : Nat) (x3 : Int) (x25 : Bool) (h0_ : Int) (h0__1 : List T44) (r : R10_airz) (hF : f10_airz_j3 k x3 x25 h0_ h0__1 = some r) : finK Try.prog Try.f10 0 (EX 10 k (nav B10 [2, 2, 2]) ({ n := 136, F := [(1, V.ptr 30000 0), (3, V.p (Value.int .i64 x3)), (25, V.p (Value.bool x25))], M := [(30000, O.box 24 [V.p (Value.int .i64 h0_), V.sl 6 (rowsOf encT44 h0__1)])] } : St)) = some r.st := by
  unfold f10_airz_j3 at hF
  cases hF
  simp (maxSteps := 999999) (disch := first | exact D (by decide) | exact K (by kernel_rfl)) only [E, EE, ↓reduceIte, simprocAttr, xk B10 [2, 2, 2] .sq rfl, show (nav B10 [1, 2, 2, 2]) = Code.region 15 _ false from rfl, hk_10_15, hz_10_15, hs_10_15, xk B10 [2, 2, 2, 2] .rt rfl, finK_norm, finK_ret, fin10, R10_airz.st]
noncomputable def f10_airz_j1 (k : Nat) (x20 : Bool) (m1 : Int) (m1_1 : List T44) : Option R10_airz :=
  Option.bind (f10_airz_l2 k k 0 m1 m1_1) fun o1 =>
    match o1 with
    | .o0 v4 =>
      some (R10_airz.o0 v4)
    | .o1 _ _ _ =>
      none
    | .o2 v5 v6 v7 v8 =>
      f10_airz_j3 k v5 v6 v7 v8
theorem f10_airz_j1_ok (k : Nat) (x20 : Bool) (m1 : Int) (m1_1 : List T44) (r : R10_airz) (hF : f10_airz_j1 k x20 m1 m1_1 = some r) : finK Try.prog Try.f10 0 (EX 10 k (nav B10 [2, 2]) ({ n := 136, F := [(1, V.ptr 1 0), (20, V.p (Value.bool x20))], M := [(1, O.box 24 [V.p (Value.int .i64 m1), V.sl 6 (rowsOf encT44 m1_1)])] } : St)) = some r.st := by
  unfold f10_airz_j1 at hF
  replace hF := Option.bind_eq_some_iff.1 hF
  obtain ⟨o1, h2, hF⟩ := hF
  have hc3 := f10_airz_l2_ok k k 0 m1 m1_1 _ h2
  simp (maxSteps := 999999) (disch := first | exact D (by decide) | exact K (by kernel_rfl)) only [E, EE, ↓reduceIte, simprocAttr, xk B10 [2, 2] .sq rfl, xk B10 [1, 2, 2] .sq rfl, show (nav B10 [1, 1, 2, 2]) = Code.region 3 _ false from rfl, hk_10_3, hz_10_3, hs_10_3, xk B10 [2, 1, 2, 2] (.bk 0) rfl, xk B10 [2, 2, 1, 2, 2] .lp rfl, hh_10_4, hc_10_4]
  (try simp only [NM, EE] at hc3)
  rw [hc3 _ (by simp (maxSteps := 999999) (disch := first | exact D (by decide) | exact K (by kernel_rfl)) only [E, EE, ↓reduceIte, simprocAttr, hh_10_4, hc_10_4])]
  clear hc3
  cases o1 with
  | o0 v4 =>
    (try dsimp only at hF)
    cases hF
    simp (maxSteps := 999999) (disch := first | exact D (by decide) | exact K (by kernel_rfl)) only [E, EE, ↓reduceIte, simprocAttr, R10_airz_l2.st, finK_norm, finK_ret, fin10, R10_airz.st]
  | o1 _ _ _ =>
    (try dsimp only at hF)
    cases hF
  | o2 v5 v6 v7 v8 =>
    (try dsimp only at hF)
    have hJ := f10_airz_j3_ok k v5 v6 v7 v8 _ hF
    simp (maxSteps := 999999) (disch := first | exact D (by decide) | exact K (by kernel_rfl)) only [E, EE, ↓reduceIte, simprocAttr, R10_airz_l2.st]
    try simp only [NM, EE] at hJ
    exact hJ
noncomputable def f10_airz_e (k : Nat) (a0 : Int) (a0_1 : List T44) : Option R10_airz :=
  cond ((decide (a0 < 2)))
    (some (R10_airz.o0 false))
    (
      cond ((decide (a0 > 6)))
        (some (R10_airz.o0 false))
        (
          cond ((decide (((List.length a0_1) : Int) > 24)))
            (some (R10_airz.o0 false))
            (f10_airz_j1 k false a0 a0_1)))
theorem f10_airz_e_ok (k : Nat) (a0 : Int) (a0_1 : List T44) (r : R10_airz) (hF : f10_airz_e k a0 a0_1 = some r) : finK Try.prog Try.f10 0 (EX 10 k (nav B10 []) ({ n := 136, F := [(0, V.agg [V.p (Value.int .i64 a0), V.sl 6 (rowsOf encT44 a0_1)])], M := [] } : St)) = some r.st := by
  unfold f10_airz_e at hF
  simp (maxSteps := 999999) (disch := first | exact D (by decide) | exact K (by kernel_rfl)) only [E, EE, ↓reduceIte, simprocAttr, xk B10 [] .sq rfl, show (nav B10 [1]) = Code.region 0 _ false from rfl, hk_10_0, hz_10_0, hs_10_0, xk B10 [2] .sq rfl, xk B10 [1, 2] .sq rfl, show (nav B10 [1, 1, 2]) = Code.region 1 _ false from rfl, hk_10_1, hz_10_1, hs_10_1, fieldAddrV, u_24, i_24, is_24, ib_24, iz_24, u_3, i_3, is_3, ib_3, iz_3]
  replace hF := cond_some hF
  rcases hF with ⟨h1, hF⟩ | ⟨h1, hF⟩
  · cases hF
    simp (maxSteps := 999999) (disch := first | exact D (by decide) | exact K (by kernel_rfl)) only [E, EE, ↓reduceIte, simprocAttr, xk B10 [2, 1, 2] (.cd 20) rfl, xk B10 [2, 2, 1, 2] .sq rfl, show (nav B10 [1, 2, 2, 1, 2]) = Code.region 2 _ false from rfl, hk_10_2, hz_10_2, hs_10_2, xk B10 [2, 2, 2, 1, 2] .rt rfl, finK_norm, finK_ret, fin10, R10_airz.st, h1]
  · simp (maxSteps := 999999) (disch := first | exact D (by decide) | exact K (by kernel_rfl)) only [E, EE, ↓reduceIte, simprocAttr, fieldAddrV, u_24, i_24, is_24, ib_24, iz_24, u_3, i_3, is_3, ib_3, iz_3, h1]
    replace hF := cond_some hF
    rcases hF with ⟨h2, hF⟩ | ⟨h2, hF⟩
    · cases hF
      simp (maxSteps := 999999) (disch := first | exact D (by decide) | exact K (by kernel_rfl)) only [E, EE, ↓reduceIte, simprocAttr, xk B10 [2, 1, 2] (.cd 20) rfl, xk B10 [2, 2, 1, 2] .sq rfl, show (nav B10 [1, 2, 2, 1, 2]) = Code.region 2 _ false from rfl, hk_10_2, hz_10_2, hs_10_2, xk B10 [2, 2, 2, 1, 2] .rt rfl, finK_norm, finK_ret, fin10, R10_airz.st, h1, h2]
    · simp (maxSteps := 999999) (disch := first | exact D (by decide) | exact K (by kernel_rfl)) only [E, EE, ↓reduceIte, simprocAttr, fieldAddrV, u_24, i_24, is_24, ib_24, iz_24, u_22, i_22, is_22, ib_22, iz_22, xk B10 [2, 1, 2] (.cd 20) rfl, h1, h2]
      replace hF := cond_some hF
      rcases hF with ⟨h3, hF⟩ | ⟨h3, hF⟩
      · cases hF
        simp (maxSteps := 999999) (disch := first | exact D (by decide) | exact K (by kernel_rfl)) only [E, EE, ↓reduceIte, simprocAttr, xk B10 [2, 2, 1, 2] .sq rfl, show (nav B10 [1, 2, 2, 1, 2]) = Code.region 2 _ false from rfl, hk_10_2, hz_10_2, hs_10_2, xk B10 [2, 2, 2, 1, 2] .rt rfl, finK_norm, finK_ret, fin10, R10_airz.st, h1, h2, h3]
      · have hJ := f10_airz_j1_ok k false a0 a0_1 _ hF
        simp (maxSteps := 999999) (disch := first | exact D (by decide) | exact K (by kernel_rfl)) only [E, EE, ↓reduceIte, simprocAttr, xk B10 [3, 2, 1, 2] .sk rfl, h1, h2, h3]
        try simp only [NM, EE] at hJ
        exact hJ
noncomputable def f10_airz (k : Nat) (a0 : Int) (a0_1 : List T44) : Option R10_airz := match k with | 0 => none | k + 1 => f10_airz_e k a0 a0_1
theorem f10_airz_ok (k : Nat) (a0 : Int) (a0_1 : List T44) (r : R10_airz) (hF : f10_airz k a0 a0_1 = some r) : CV k 10 [V.agg [V.p (Value.int .i64 a0), V.sl 6 (rowsOf encT44 a0_1)]] [] = some r.st := by
  cases k with
  | zero => cases hF
  | succ k =>
    unfold CV
    rw [ev_call (F := Try.f10) (c := (nav B10 [])) rfl Try.func10 rfl rfl rfl rfl]
    exact f10_airz_e_ok k a0 a0_1 r hF
end Go.Proofs.YtmogplhglcodjaaV
