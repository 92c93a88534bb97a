/- What the program's functions answer: plain functions, and that the interpreter answers what they do. Written by a program of this session, out of the translation. -/
import Derived.Test.YtiompmmbjpjjeaaDoorVP3
namespace Go.Proofs.YtiompmmbjpjjeaaDoorV
open Go
set_option linter.unusedVariables false
set_option linter.unusedSimpArgs false
set_option maxRecDepth 8000
set_option maxHeartbeats 4000000
-- f18_airz: f18 heliograph/heliographref13.Right
inductive R18_airz where
  | o0 (y : Bool)
noncomputable def R18_airz.st : R18_airz → V × List O × List O
  | .o0 y => (V.p (Value.bool y), [], [])
inductive R18_airz_l2_l3 where
  | o0 (y y_1 y_2 : Int) (y_3 : List T54) (y_4 y_5 y_6 y_7 y_8 y_9 : Int)
  | o1 (y : Bool)
  | o2 (y y_1 : Int) (y_2 : Bool) (y_3 : Int) (y_4 : List T54) (y_5 y_6 y_7 y_8 y_9 y_10 : Int)
noncomputable def R18_airz_l2_l3.st : R18_airz_l2_l3 → Out × St
  | .o0 y y_1 y_2 y_3 y_4 y_5 y_6 y_7 y_8 y_9 => (.norm, ({ n := 136, F := [(1, V.ptr 30000 0), (3, V.p (Value.int .i64 y)), (4, V.ptr 30001 0), (5, V.p (Value.int .i64 y_1))], M := [(30000, O.box 24 [V.p (Value.int .i64 y_2), V.sl 6 (rowsOf encT54 y_3)]), (30001, O.box 54 [V.p (Value.int .i64 y_4), V.p (Value.int .i64 y_5), V.p (Value.int .i64 y_6), V.p (Value.int .i64 y_7), V.p (Value.int .i64 y_8), V.p (Value.int .i64 y_9)])] } : St))
  | .o1 y => (.ret, ({ n := 136, F := [(2, V.p (Value.bool y))], M := [] } : St))
  | .o2 y y_1 y_2 y_3 y_4 y_5 y_6 y_7 y_8 y_9 y_10 => (.exit 2, ({ n := 136, F := [(1, V.ptr 30000 0), (3, V.p (Value.int .i64 y)), (4, V.ptr 30001 0), (5, V.p (Value.int .i64 y_1)), (101, V.p (Value.bool y_2))], M := [(30000, O.box 24 [V.p (Value.int .i64 y_3), V.sl 6 (rowsOf encT54 y_4)]), (30001, O.box 54 [V.p (Value.int .i64 y_5), V.p (Value.int .i64 y_6), V.p (Value.int .i64 y_7), V.p (Value.int .i64 y_8), V.p (Value.int .i64 y_9), V.p (Value.int .i64 y_10)])] } : St))
noncomputable def f18_airz_l2_l3_j2 (k : Nat) (x3 x5 : Int) (x135 : Bool) (h0_ : Int) (h0__1 : List T54) (h1_ h1__1 h1__2 h1__3 h1__4 h1__5 : Int) : Option R18_airz_l2_l3 :=
  some (R18_airz_l2_l3.o0 x3 (IntKind.i64.wrap (x5 + (1 : Int))) h0_ h0__1 h1_ h1__1 h1__2 h1__3 h1__4 h1__5)
theorem f18_airz_l2_l3_j2_ok (k : Nat) (x3 x5 : Int) (x135 : Bool) (h0_ : Int) (h0__1 : List T54) (h1_ h1__1 h1__2 h1__3 h1__4 h1__5 : Int) (r : R18_airz_l2_l3) (hF : f18_airz_l2_l3_j2 k x3 x5 x135 h0_ h0__1 h1_ h1__1 h1__2 h1__3 h1__4 h1__5 = some r) : EX 18 k (nav B18 [2, 2, 1, 2, 2, 2, 2, 2, 1, 2, 1, 2, 2, 1, 2, 2]) ({ n := 136, F := [(1, V.ptr 30000 0), (3, V.p (Value.int .i64 x3)), (4, V.ptr 30001 0), (5, V.p (Value.int .i64 x5)), (135, V.p (Value.bool x135))], M := [(30000, O.box 24 [V.p (Value.int .i64 h0_), V.sl 6 (rowsOf encT54 h0__1)]), (30001, O.box 54 [V.p (Value.int .i64 h1_), V.p (Value.int .i64 h1__1), V.p (Value.int .i64 h1__2), V.p (Value.int .i64 h1__3), V.p (Value.int .i64 h1__4), V.p (Value.int .i64 h1__5)])] } : St) = some r.st := by
  unfold f18_airz_l2_l3_j2 at hF
  cases hF
  simp (maxSteps := 999999) (disch := first | exact D (by decide) | exact K (by kernel_rfl)) only [E, EE, ↓reduceIte, simprocAttr, show (nav B18 [2, 2, 1, 2, 2, 2, 2, 2, 1, 2, 1, 2, 2, 1, 2, 2]) = Code.region 11 _ false from rfl, hk_18_11, hz_18_11, hs_18_11, R18_airz_l2_l3.st]
noncomputable def f18_airz_l2_l3_j1 (k : Nat) (x3 x5 : Int) (x101 : Bool) (h0_ : Int) (h0__1 : List T54) (h1_ h1__1 h1__2 h1__3 h1__4 h1__5 : Int) : Option R18_airz_l2_l3 :=
  ifE ((0 : Int) ≤ x5) (
    Option.bind (h0__1[(Int.toNat x5)]?) fun v2 =>
      cond ((v2.From == h1_))
        (
          cond ((v2.To == h1__1))
            (
              cond ((decide (v2.End ≤ h1__2)))
                (f18_airz_l2_l3_j2 k x3 x5 false h0_ h0__1 h1_ h1__1 h1__2 h1__3 h1__4 h1__5)
                (
                  cond ((!(decide (h1__3 ≤ v2.Start))))
                    (some (R18_airz_l2_l3.o1 false))
                    (f18_airz_l2_l3_j2 k x3 x5 false h0_ h0__1 h1_ h1__1 h1__2 h1__3 h1__4 h1__5)))
            (f18_airz_l2_l3_j2 k x3 x5 false h0_ h0__1 h1_ h1__1 h1__2 h1__3 h1__4 h1__5))
        (f18_airz_l2_l3_j2 k x3 x5 false h0_ h0__1 h1_ h1__1 h1__2 h1__3 h1__4 h1__5))
theorem f18_airz_l2_l3_j1_ok (k : Nat) (x3 x5 : Int) (x101 : Bool) (h0_ : Int) (h0__1 : List T54) (h1_ h1__1 h1__2 h1__3 h1__4 h1__5 : Int) (r : R18_airz_l2_l3) (hF : f18_airz_l2_l3_j1 k x3 x5 x101 h0_ h0__1 h1_ h1__1 h1__2 h1__3 h1__4 h1__5 = some r) : EX 18 k (nav B18 [2, 1, 2, 2, 2, 2, 2, 1, 2, 1, 2, 2, 1, 2, 2]) ({ n := 136, F := [(1, V.ptr 30000 0), (3, V.p (Value.int .i64 x3)), (4, V.ptr 30001 0), (5, V.p (Value.int .i64 x5)), (101, V.p (Value.bool x101))], M := [(30000, O.box 24 [V.p (Value.int .i64 h0_), V.sl 6 (rowsOf encT54 h0__1)]), (30001, O.box 54 [V.p (Value.int .i64 h1_), V.p (Value.int .i64 h1__1), V.p (Value.int .i64 h1__2), V.p (Value.int .i64 h1__3), V.p (Value.int .i64 h1__4), V.p (Value.int .i64 h1__5)])] } : St) = some r.st := by
  unfold f18_airz_l2_l3_j1 at hF
  replace hF := ifE_some.1 hF
  obtain ⟨h1, hF⟩ := hF
  replace hF := Option.bind_eq_some_iff.1 hF
  obtain ⟨v2, h3, hF⟩ := hF
  simp (maxSteps := 999999) (disch := first | exact D (by decide) | exact K (by kernel_rfl)) only [E, EE, ↓reduceIte, simprocAttr, xk B18 [2, 1, 2, 2, 2, 2, 2, 1, 2, 1, 2, 2, 1, 2, 2] .sq rfl, xk B18 [1, 2, 1, 2, 2, 2, 2, 2, 1, 2, 1, 2, 2, 1, 2, 2] (.bk 3) rfl, xk B18 [2, 1, 2, 1, 2, 2, 2, 2, 2, 1, 2, 1, 2, 2, 1, 2, 2] .sq rfl, show (nav B18 [1, 2, 1, 2, 1, 2, 2, 2, 2, 2, 1, 2, 1, 2, 2, 1, 2, 2]) = Code.region 12 _ false from rfl, hk_18_12, hz_18_12, hs_18_12, fieldAddrV, u_24, i_24, is_24, ib_24, iz_24, u_22, i_22, is_22, ib_22, iz_22, indexAddrV, u_54, i_54, is_54, ib_54, iz_54, encT54_eq, xk B18 [2, 2, 1, 2, 1, 2, 2, 2, 2, 2, 1, 2, 1, 2, 2, 1, 2, 2] .sq rfl, show (nav B18 [1, 2, 2, 1, 2, 1, 2, 2, 2, 2, 2, 1, 2, 1, 2, 2, 1, 2, 2]) = Code.region 13 _ false from rfl, hk_18_13, hz_18_13, hs_18_13, u_3, i_3, is_3, ib_3, iz_3, h1, h3]
  replace hF := cond_some hF
  rcases hF with ⟨h4, hF⟩ | ⟨h4, hF⟩
  · simp (maxSteps := 999999) (disch := first | exact D (by decide) | exact K (by kernel_rfl)) only [E, EE, ↓reduceIte, simprocAttr, fieldAddrV, u_54, i_54, is_54, ib_54, iz_54, u_3, i_3, is_3, ib_3, iz_3, h1, h3, h4]
    replace hF := cond_some hF
    rcases hF with ⟨h5, hF⟩ | ⟨h5, hF⟩
    · simp (maxSteps := 999999) (disch := first | exact D (by decide) | exact K (by kernel_rfl)) only [E, EE, ↓reduceIte, simprocAttr, fieldAddrV, u_54, i_54, is_54, ib_54, iz_54, u_3, i_3, is_3, ib_3, iz_3, h1, h3, h4, h5]
      replace hF := cond_some hF
      rcases hF with ⟨h6, hF⟩ | ⟨h6, hF⟩
      · have hJ := f18_airz_l2_l3_j2_ok k x3 x5 false h0_ h0__1 h1_ h1__1 h1__2 h1__3 h1__4 h1__5 _ hF
        simp (maxSteps := 999999) (disch := first | exact D (by decide) | exact K (by kernel_rfl)) only [E, EE, ↓reduceIte, simprocAttr, xk B18 [2, 2, 2, 1, 2, 1, 2, 2, 2, 2, 2, 1, 2, 1, 2, 2, 1, 2, 2] (.cd 135) rfl, xk B18 [3, 2, 2, 2, 1, 2, 1, 2, 2, 2, 2, 2, 1, 2, 1, 2, 2, 1, 2, 2] .sk rfl, h1, h3, h4, h5, h6]
        try simp only [NM, EE] at hJ
        exact hJ
      · simp (maxSteps := 999999) (disch := first | exact D (by decide) | exact K (by kernel_rfl)) only [E, EE, ↓reduceIte, simprocAttr, fieldAddrV, u_54, i_54, is_54, ib_54, iz_54, u_3, i_3, is_3, ib_3, iz_3, xk B18 [2, 2, 2, 1, 2, 1, 2, 2, 2, 2, 2, 1, 2, 1, 2, 2, 1, 2, 2] (.cd 135) rfl, h1, h3, h4, h5, h6]
        replace hF := cond_some hF
        rcases hF with ⟨h7, hF⟩ | ⟨h7, hF⟩
        · cases hF
          simp (maxSteps := 999999) (disch := first | exact D (by decide) | exact K (by kernel_rfl)) only [E, EE, ↓reduceIte, simprocAttr, xk B18 [2, 2, 2, 2, 1, 2, 1, 2, 2, 2, 2, 2, 1, 2, 1, 2, 2, 1, 2, 2] .sq rfl, show (nav B18 [1, 2, 2, 2, 2, 1, 2, 1, 2, 2, 2, 2, 2, 1, 2, 1, 2, 2, 1, 2, 2]) = Code.region 14 _ false from rfl, hk_18_14, hz_18_14, hs_18_14, xk B18 [2, 2, 2, 2, 2, 1, 2, 1, 2, 2, 2, 2, 2, 1, 2, 1, 2, 2, 1, 2, 2] .rt rfl, R18_airz_l2_l3.st, h1, h3, h4, h5, h6, h7]
        · have hJ := f18_airz_l2_l3_j2_ok k x3 x5 false h0_ h0__1 h1_ h1__1 h1__2 h1__3 h1__4 h1__5 _ hF
          simp (maxSteps := 999999) (disch := first | exact D (by decide) | exact K (by kernel_rfl)) only [E, EE, ↓reduceIte, simprocAttr, xk B18 [3, 2, 2, 2, 1, 2, 1, 2, 2, 2, 2, 2, 1, 2, 1, 2, 2, 1, 2, 2] .sk rfl, h1, h3, h4, h5, h6, h7]
          try simp only [NM, EE] at hJ
          exact hJ
    · have hJ := f18_airz_l2_l3_j2_ok k x3 x5 false h0_ h0__1 h1_ h1__1 h1__2 h1__3 h1__4 h1__5 _ hF
      simp (maxSteps := 999999) (disch := first | exact D (by decide) | exact K (by kernel_rfl)) only [E, EE, ↓reduceIte, simprocAttr, xk B18 [2, 2, 2, 1, 2, 1, 2, 2, 2, 2, 2, 1, 2, 1, 2, 2, 1, 2, 2] (.cd 135) rfl, xk B18 [3, 2, 2, 2, 1, 2, 1, 2, 2, 2, 2, 2, 1, 2, 1, 2, 2, 1, 2, 2] .sk rfl, h1, h3, h4, h5]
      try simp only [NM, EE] at hJ
      exact hJ
  · have hJ := f18_airz_l2_l3_j2_ok k x3 x5 false h0_ h0__1 h1_ h1__1 h1__2 h1__3 h1__4 h1__5 _ hF
    simp (maxSteps := 999999) (disch := first | exact D (by decide) | exact K (by kernel_rfl)) only [E, EE, ↓reduceIte, simprocAttr, xk B18 [2, 2, 2, 1, 2, 1, 2, 2, 2, 2, 2, 1, 2, 1, 2, 2, 1, 2, 2] (.cd 135) rfl, xk B18 [3, 2, 2, 2, 1, 2, 1, 2, 2, 2, 2, 2, 1, 2, 1, 2, 2, 1, 2, 2] .sk rfl, h1, h3, h4]
    try simp only [NM, EE] at hJ
    exact hJ
noncomputable def f18_airz_l2_l3_b (k : Nat) (x3 x5 h0_ : Int) (h0__1 : List T54) (h1_ h1__1 h1__2 h1__3 h1__4 h1__5 : Int) : Option R18_airz_l2_l3 :=
  cond ((decide (x5 < x3)))
    (f18_airz_l2_l3_j1 k x3 x5 true h0_ h0__1 h1_ h1__1 h1__2 h1__3 h1__4 h1__5)
    (some (R18_airz_l2_l3.o2 x3 x5 false h0_ h0__1 h1_ h1__1 h1__2 h1__3 h1__4 h1__5))
theorem f18_airz_l2_l3_b_ok (k : Nat) (x3 x5 h0_ : Int) (h0__1 : List T54) (h1_ h1__1 h1__2 h1__3 h1__4 h1__5 : Int) (r : R18_airz_l2_l3) (hF : f18_airz_l2_l3_b k x3 x5 h0_ h0__1 h1_ h1__1 h1__2 h1__3 h1__4 h1__5 = some r) : EX 18 k (nav B18 [1, 2, 2, 2, 2, 2, 1, 2, 1, 2, 2, 1, 2, 2]) ({ n := 136, F := [(1, V.ptr 30000 0), (3, V.p (Value.int .i64 x3)), (4, V.ptr 30001 0), (5, V.p (Value.int .i64 x5))], M := [(30000, O.box 24 [V.p (Value.int .i64 h0_), V.sl 6 (rowsOf encT54 h0__1)]), (30001, O.box 54 [V.p (Value.int .i64 h1_), V.p (Value.int .i64 h1__1), V.p (Value.int .i64 h1__2), V.p (Value.int .i64 h1__3), V.p (Value.int .i64 h1__4), V.p (Value.int .i64 h1__5)])] } : St) = some r.st := by
  unfold f18_airz_l2_l3_b at hF
  simp (maxSteps := 999999) (disch := first | exact D (by decide) | exact K (by kernel_rfl)) only [E, EE, ↓reduceIte, simprocAttr, xk B18 [1, 2, 2, 2, 2, 2, 1, 2, 1, 2, 2, 1, 2, 2] .sq rfl, xk B18 [1, 1, 2, 2, 2, 2, 2, 1, 2, 1, 2, 2, 1, 2, 2] .sq rfl, show (nav B18 [1, 1, 1, 2, 2, 2, 2, 2, 1, 2, 1, 2, 2, 1, 2, 2]) = Code.region 10 _ false from rfl, hk_18_10, hz_18_10, hs_18_10, xk B18 [2, 1, 1, 2, 2, 2, 2, 2, 1, 2, 1, 2, 2, 1, 2, 2] (.cd 101) rfl]
  replace hF := cond_some hF
  rcases hF with ⟨h1, hF⟩ | ⟨h1, hF⟩
  · have hJ := f18_airz_l2_l3_j1_ok k x3 x5 true h0_ h0__1 h1_ h1__1 h1__2 h1__3 h1__4 h1__5 _ hF
    simp (maxSteps := 999999) (disch := first | exact D (by decide) | exact K (by kernel_rfl)) only [E, EE, ↓reduceIte, simprocAttr, xk B18 [2, 2, 1, 1, 2, 2, 2, 2, 2, 1, 2, 1, 2, 2, 1, 2, 2] .sk rfl, h1]
    try simp only [NM, EE] at hJ
    exact hJ
  · cases hF
    simp (maxSteps := 999999) (disch := first | exact D (by decide) | exact K (by kernel_rfl)) only [E, EE, ↓reduceIte, simprocAttr, xk B18 [3, 2, 1, 1, 2, 2, 2, 2, 2, 1, 2, 1, 2, 2, 1, 2, 2] (.ex 2) rfl, R18_airz_l2_l3.st, h1]
noncomputable def f18_airz_l2_l3 (k : Nat) : Nat → Int → Int → Int → (List T54) → Int → Int → Int → Int → Int → Int → Option R18_airz_l2_l3
  | 0, _, _, _, _, _, _, _, _, _, _ => none
  | n + 1, x3, x5, h0_, h0__1, h1_, h1__1, h1__2, h1__3, h1__4, h1__5 => Option.bind (f18_airz_l2_l3_b k x3 x5 h0_ h0__1 h1_ h1__1 h1__2 h1__3 h1__4 h1__5) fun o =>
    match o with
    | .o0 y y_1 y_2 y_3 y_4 y_5 y_6 y_7 y_8 y_9 => f18_airz_l2_l3 k n y y_1 y_2 y_3 y_4 y_5 y_6 y_7 y_8 y_9
    | .o1 y => some (.o1 y)
    | .o2 y y_1 y_2 y_3 y_4 y_5 y_6 y_7 y_8 y_9 y_10 => some (.o2 y y_1 y_2 y_3 y_4 y_5 y_6 y_7 y_8 y_9 y_10)
theorem f18_airz_l2_l3_ok (k n : Nat) : ∀ (x3 x5 h0_ : Int) (h0__1 : List T54) (h1_ h1__1 h1__2 h1__3 h1__4 h1__5 : Int) (r : R18_airz_l2_l3) (hF : f18_airz_l2_l3 k n x3 x5 h0_ h0__1 h1_ h1__1 h1__2 h1__3 h1__4 h1__5 = some r) (σ : St) (hσ : headR (hints.head 18 10) (hints.canon 18 10) σ = some ({ n := 136, F := [(1, V.ptr 30000 0), (3, V.p (Value.int .i64 x3)), (4, V.ptr 30001 0), (5, V.p (Value.int .i64 x5))], M := [(30000, O.box 24 [V.p (Value.int .i64 h0_), V.sl 6 (rowsOf encT54 h0__1)]), (30001, O.box 54 [V.p (Value.int .i64 h1_), V.p (Value.int .i64 h1__1), V.p (Value.int .i64 h1__2), V.p (Value.int .i64 h1__3), V.p (Value.int .i64 h1__4), V.p (Value.int .i64 h1__5)])] } : St)), LP 18 k (nav B18 [1, 2, 2, 2, 2, 2, 1, 2, 1, 2, 2, 1, 2, 2]) n σ = some r.st := by
  induction n with
  | zero => intro x3 x5 h0_ h0__1 h1_ h1__1 h1__2 h1__3 h1__4 h1__5 r hF; cases hF
  | succ n ih =>
    intro x3 x5 h0_ h0__1 h1_ h1__1 h1__2 h1__3 h1__4 h1__5 r hF σ hσ
    rw [f18_airz_l2_l3] at hF
    obtain ⟨o, h, hF⟩ := Option.bind_eq_some_iff.1 hF
    have hB := f18_airz_l2_l3_b_ok k x3 x5 h0_ h0__1 h1_ h1__1 h1__2 h1__3 h1__4 h1__5 o h
    unfold LP at ih ⊢
    unfold EX at hB
    rw [loopK_succ, show firstReg (nav B18 [1, 2, 2, 2, 2, 2, 1, 2, 1, 2, 2, 1, 2, 2]) = 10 from rfl, hσ, headK_some, hB]
    cases o with
    | o0 y y_1 y_2 y_3 y_4 y_5 y_6 y_7 y_8 y_9 =>
      refine ih y y_1 y_2 y_3 y_4 y_5 y_6 y_7 y_8 y_9 r hF _ ?_
      simp (maxSteps := 999999) (disch := first | exact D (by decide) | exact K (by kernel_rfl)) only [E, EE, ↓reduceIte, simprocAttr, hh_18_10, hc_18_10]
    | o1 y => cases hF; rfl
    | o2 y y_1 y_2 y_3 y_4 y_5 y_6 y_7 y_8 y_9 y_10 => cases hF; rfl
inductive R18_airz_l2 where
  | o0 (y : Bool)
  | o1 (y y_1 : Int) (y_2 : List T54)
  | o2 (y : Int) (y_1 : Bool) (y_2 : Int) (y_3 : List T54)
noncomputable def R18_airz_l2.st : R18_airz_l2 → Out × St
  | .o0 y => (.ret, ({ n := 136, F := [(2, V.p (Value.bool y))], M := [] } : St))
  | .o1 y y_1 y_2 => (.norm, ({ n := 136, F := [(1, V.ptr 30000 0), (3, V.p (Value.int .i64 y))], M := [(30000, O.box 24 [V.p (Value.int .i64 y_1), V.sl 6 (rowsOf encT54 y_2)])] } : St))
  | .o2 y y_1 y_2 y_3 => (.exit 0, ({ n := 136, F := [(1, V.ptr 30000 0), (3, V.p (Value.int .i64 y)), (25, V.p (Value.bool y_1))], M := [(30000, O.box 24 [V.p (Value.int .i64 y_2), V.sl 6 (rowsOf encT54 y_3)])] } : St))
noncomputable def f18_airz_l2_j4 (k : Nat) (x3 x5 : Int) (x101 : Bool) (h0_ : Int) (h0__1 : List T54) (h1_ h1__1 h1__2 h1__3 h1__4 h1__5 : Int) : Option R18_airz_l2 :=
  some (R18_airz_l2.o1 (IntKind.i64.wrap (x3 + (1 : Int))) h0_ h0__1)
theorem f18_airz_l2_j4_ok (k : Nat) (x3 x5 : Int) (x101 : Bool) (h0_ : Int) (h0__1 : List T54) (h1_ h1__1 h1__2 h1__3 h1__4 h1__5 : Int) (r : R18_airz_l2) (hF : f18_airz_l2_j4 k x3 x5 x101 h0_ h0__1 h1_ h1__1 h1__2 h1__3 h1__4 h1__5 = some r) : EX 18 k (nav B18 [2, 2, 1, 2, 2, 1, 2, 2]) ({ n := 136, F := [(1, V.ptr 30000 0), (3, V.p (Value.int .i64 x3)), (4, V.ptr 30001 0), (5, V.p (Value.int .i64 x5)), (101, V.p (Value.bool x101))], M := [(30000, O.box 24 [V.p (Value.int .i64 h0_), V.sl 6 (rowsOf encT54 h0__1)]), (30001, O.box 54 [V.p (Value.int .i64 h1_), V.p (Value.int .i64 h1__1), V.p (Value.int .i64 h1__2), V.p (Value.int .i64 h1__3), V.p (Value.int .i64 h1__4), V.p (Value.int .i64 h1__5)])] } : St) = some r.st := by
  unfold f18_airz_l2_j4 at hF
  cases hF
  simp (maxSteps := 999999) (disch := first | exact D (by decide) | exact K (by kernel_rfl)) only [E, EE, ↓reduceIte, simprocAttr, show (nav B18 [2, 2, 1, 2, 2, 1, 2, 2]) = Code.region 5 _ false from rfl, hk_18_5, hz_18_5, hs_18_5, R18_airz_l2.st]
noncomputable def f18_airz_l2_j2 (k : Nat) (x3 : Int) (x98 : Bool) (h0_ : Int) (h0__1 : List T54) (m4 m4_1 m4_2 m4_3 m4_4 m4_5 : Int) : Option R18_airz_l2 :=
  Option.bind (f18_airz_l2_l3 k k x3 0 h0_ h0__1 m4 m4_1 m4_2 m4_3 m4_4 m4_5) fun o1 =>
    match o1 with
    | .o0 _ _ _ _ _ _ _ _ _ _ =>
      none
    | .o1 v4 =>
      some (R18_airz_l2.o0 v4)
    | .o2 v5 v6 v7 v8 v9 v10 v11 v12 v13 v14 v15 =>
      f18_airz_l2_j4 k v5 v6 v7 v8 v9 v10 v11 v12 v13 v14 v15
theorem f18_airz_l2_j2_ok (k : Nat) (x3 : Int) (x98 : Bool) (h0_ : Int) (h0__1 : List T54) (m4 m4_1 m4_2 m4_3 m4_4 m4_5 : Int) (r : R18_airz_l2) (hF : f18_airz_l2_j2 k x3 x98 h0_ h0__1 m4 m4_1 m4_2 m4_3 m4_4 m4_5 = some r) : SQ 18 k (nav B18 [2, 2, 1, 2, 2, 1, 2, 2]) (blockK 1 (EX 18 k (nav B18 [2, 2, 2, 1, 2, 1, 2, 2, 1, 2, 2]) ({ n := 136, F := [(1, V.ptr 30000 0), (3, V.p (Value.int .i64 x3)), (4, V.ptr 4 0), (98, V.p (Value.bool x98))], M := [(30000, O.box 24 [V.p (Value.int .i64 h0_), V.sl 6 (rowsOf encT54 h0__1)]), (4, O.box 54 [V.p (Value.int .i64 m4), V.p (Value.int .i64 m4_1), V.p (Value.int .i64 m4_2), V.p (Value.int .i64 m4_3), V.p (Value.int .i64 m4_4), V.p (Value.int .i64 m4_5)])] } : St))) = some r.st := by
  unfold f18_airz_l2_j2 at hF
  replace hF := Option.bind_eq_some_iff.1 hF
  obtain ⟨o1, h2, hF⟩ := hF
  have hc3 := f18_airz_l2_l3_ok k k x3 0 h0_ h0__1 m4 m4_1 m4_2 m4_3 m4_4 m4_5 _ h2
  simp (maxSteps := 999999) (disch := first | exact D (by decide) | exact K (by kernel_rfl)) only [E, EE, ↓reduceIte, simprocAttr, xk B18 [2, 2, 2, 1, 2, 1, 2, 2, 1, 2, 2] .sq rfl, show (nav B18 [1, 2, 2, 2, 1, 2, 1, 2, 2, 1, 2, 2]) = Code.region 9 _ false from rfl, hk_18_9, hz_18_9, hs_18_9, xk B18 [2, 2, 2, 2, 1, 2, 1, 2, 2, 1, 2, 2] (.bk 2) rfl, xk B18 [2, 2, 2, 2, 2, 1, 2, 1, 2, 2, 1, 2, 2] .lp rfl, hh_18_10, hc_18_10]
  (try simp only [NM, EE] at hc3)
  rw [hc3 _ (by simp (maxSteps := 999999) (disch := first | exact D (by decide) | exact K (by kernel_rfl)) only [E, EE, ↓reduceIte, simprocAttr, hh_18_10, hc_18_10])]
  clear hc3
  cases o1 with
  | o0 _ _ _ _ _ _ _ _ _ _ =>
    (try dsimp only at hF)
    cases hF
  | o1 v4 =>
    (try dsimp only at hF)
    cases hF
    simp (maxSteps := 999999) (disch := first | exact D (by decide) | exact K (by kernel_rfl)) only [E, EE, ↓reduceIte, simprocAttr, R18_airz_l2_l3.st, R18_airz_l2.st]
  | o2 v5 v6 v7 v8 v9 v10 v11 v12 v13 v14 v15 =>
    (try dsimp only at hF)
    have hJ := f18_airz_l2_j4_ok k v5 v6 v7 v8 v9 v10 v11 v12 v13 v14 v15 _ hF
    simp (maxSteps := 999999) (disch := first | exact D (by decide) | exact K (by kernel_rfl)) only [E, EE, ↓reduceIte, simprocAttr, R18_airz_l2_l3.st]
    try simp only [NM, EE] at hJ
    exact hJ
noncomputable def f18_airz_l2_j1 (k : Nat) (x3 : Int) (x25 : Bool) (h0_ : Int) (h0__1 : List T54) : Option R18_airz_l2 :=
  ifE ((0 : Int) ≤ x3) (
    Option.bind (h0__1[(Int.toNat x3)]?) fun v2 =>
      cond ((decide (v2.From < 1)))
        (some (R18_airz_l2.o0 false))
        (
          cond ((decide (v2.From > h0_)))
            (some (R18_airz_l2.o0 false))
            (
              cond ((decide (v2.To < 1)))
                (some (R18_airz_l2.o0 false))
                (
                  cond ((decide (v2.To > h0_)))
                    (some (R18_airz_l2.o0 false))
                    (
                      cond ((v2.From == v2.To))
                        (some (R18_airz_l2.o0 false))
                        (
                          cond ((decide (v2.Start < 0)))
                            (some (R18_airz_l2.o0 false))
                            (
                              cond ((decide (v2.End ≤ v2.Start)))
                                (some (R18_airz_l2.o0 false))
                                (
                                  cond ((decide (v2.End > 1048576)))
                                    (some (R18_airz_l2.o0 false))
                                    (
                                      cond ((decide (v2.Rate < 1)))
                                        (some (R18_airz_l2.o0 false))
                                        (
                                          cond ((decide (v2.Rate > 4096)))
                                            (some (R18_airz_l2.o0 false))
                                            (
                                              cond ((decide (v2.Delay < 0)))
                                                (some (R18_airz_l2.o0 false))
                                                (
                                                  cond ((decide (v2.Delay > 4096)))
                                                    (some (R18_airz_l2.o0 false))
                                                    (f18_airz_l2_j2 k x3 false h0_ h0__1 v2.From v2.To v2.Start v2.End v2.Rate v2.Delay)))))))))))))
theorem f18_airz_l2_j1_ok (k : Nat) (x3 : Int) (x25 : Bool) (h0_ : Int) (h0__1 : List T54) (r : R18_airz_l2) (hF : f18_airz_l2_j1 k x3 x25 h0_ h0__1 = some r) : EX 18 k (nav B18 [2, 1, 2, 2, 1, 2, 2]) ({ n := 136, F := [(1, V.ptr 30000 0), (3, V.p (Value.int .i64 x3)), (25, V.p (Value.bool x25))], M := [(30000, O.box 24 [V.p (Value.int .i64 h0_), V.sl 6 (rowsOf encT54 h0__1)])] } : St) = some r.st := by
  unfold f18_airz_l2_j1 at hF
  replace hF := ifE_some.1 hF
  obtain ⟨h1, hF⟩ := hF
  replace hF := Option.bind_eq_some_iff.1 hF
  obtain ⟨v2, h3, hF⟩ := hF
  simp (maxSteps := 999999) (disch := first | exact D (by decide) | exact K (by kernel_rfl)) only [E, EE, ↓reduceIte, simprocAttr, xk B18 [2, 1, 2, 2, 1, 2, 2] .sq rfl, xk B18 [1, 2, 1, 2, 2, 1, 2, 2] (.bk 1) rfl, xk B18 [2, 1, 2, 1, 2, 2, 1, 2, 2] .sq rfl, show (nav B18 [1, 2, 1, 2, 1, 2, 2, 1, 2, 2]) = Code.region 6 _ false from rfl, hk_18_6, hz_18_6, hs_18_6, fieldAddrV, u_24, i_24, is_24, ib_24, iz_24, u_22, i_22, is_22, ib_22, iz_22, indexAddrV, u_54, i_54, is_54, ib_54, iz_54, encT54_eq, xk B18 [2, 2, 1, 2, 1, 2, 2, 1, 2, 2] .sq rfl, xk B18 [1, 2, 2, 1, 2, 1, 2, 2, 1, 2, 2] .sq rfl, show (nav B18 [1, 1, 2, 2, 1, 2, 1, 2, 2, 1, 2, 2]) = Code.region 7 _ false from rfl, hk_18_7, hz_18_7, hs_18_7, u_3, i_3, is_3, ib_3, iz_3, h1, h3]
  replace hF := cond_some hF
  rcases hF with ⟨h4, hF⟩ | ⟨h4, hF⟩
  · cases hF
    simp (maxSteps := 999999) (disch := first | exact D (by decide) | exact K (by kernel_rfl)) only [E, EE, ↓reduceIte, simprocAttr, xk B18 [2, 1, 2, 2, 1, 2, 1, 2, 2, 1, 2, 2] (.cd 98) rfl, xk B18 [2, 2, 1, 2, 2, 1, 2, 1, 2, 2, 1, 2, 2] .sq rfl, show (nav B18 [1, 2, 2, 1, 2, 2, 1, 2, 1, 2, 2, 1, 2, 2]) = Code.region 8 _ false from rfl, hk_18_8, hz_18_8, hs_18_8, xk B18 [2, 2, 2, 1, 2, 2, 1, 2, 1, 2, 2, 1, 2, 2] .rt rfl, R18_airz_l2.st, h1, h3, h4]
  · simp (maxSteps := 999999) (disch := first | exact D (by decide) | exact K (by kernel_rfl)) only [E, EE, ↓reduceIte, simprocAttr, fieldAddrV, u_54, i_54, is_54, ib_54, iz_54, u_3, i_3, is_3, ib_3, iz_3, u_24, i_24, is_24, ib_24, iz_24, h1, h3, h4]
    replace hF := cond_some hF
    rcases hF with ⟨h5, hF⟩ | ⟨h5, hF⟩
    · cases hF
      simp (maxSteps := 999999) (disch := first | exact D (by decide) | exact K (by kernel_rfl)) only [E, EE, ↓reduceIte, simprocAttr, xk B18 [2, 1, 2, 2, 1, 2, 1, 2, 2, 1, 2, 2] (.cd 98) rfl, xk B18 [2, 2, 1, 2, 2, 1, 2, 1, 2, 2, 1, 2, 2] .sq rfl, show (nav B18 [1, 2, 2, 1, 2, 2, 1, 2, 1, 2, 2, 1, 2, 2]) = Code.region 8 _ false from rfl, hk_18_8, hz_18_8, hs_18_8, xk B18 [2, 2, 2, 1, 2, 2, 1, 2, 1, 2, 2, 1, 2, 2] .rt rfl, R18_airz_l2.st, h1, h3, h4, h5]
    · simp (maxSteps := 999999) (disch := first | exact D (by decide) | exact K (by kernel_rfl)) only [E, EE, ↓reduceIte, simprocAttr, fieldAddrV, u_54, i_54, is_54, ib_54, iz_54, u_3, i_3, is_3, ib_3, iz_3, h1, h3, h4, h5]
      replace hF := cond_some hF
      rcases hF with ⟨h6, hF⟩ | ⟨h6, hF⟩
      · cases hF
        simp (maxSteps := 999999) (disch := first | exact D (by decide) | exact K (by kernel_rfl)) only [E, EE, ↓reduceIte, simprocAttr, xk B18 [2, 1, 2, 2, 1, 2, 1, 2, 2, 1, 2, 2] (.cd 98) rfl, xk B18 [2, 2, 1, 2, 2, 1, 2, 1, 2, 2, 1, 2, 2] .sq rfl, show (nav B18 [1, 2, 2, 1, 2, 2, 1, 2, 1, 2, 2, 1, 2, 2]) = Code.region 8 _ false from rfl, hk_18_8, hz_18_8, hs_18_8, xk B18 [2, 2, 2, 1, 2, 2, 1, 2, 1, 2, 2, 1, 2, 2] .rt rfl, R18_airz_l2.st, h1, h3, h4, h5, h6]
      · simp (maxSteps := 999999) (disch := first | exact D (by decide) | exact K (by kernel_rfl)) only [E, EE, ↓reduceIte, simprocAttr, fieldAddrV, u_54, i_54, is_54, ib_54, iz_54, u_3, i_3, is_3, ib_3, iz_3, u_24, i_24, is_24, ib_24, iz_24, h1, h3, h4, h5, h6]
        replace hF := cond_some hF
        rcases hF with ⟨h7, hF⟩ | ⟨h7, hF⟩
        · cases hF
          simp (maxSteps := 999999) (disch := first | exact D (by decide) | exact K (by kernel_rfl)) only [E, EE, ↓reduceIte, simprocAttr, xk B18 [2, 1, 2, 2, 1, 2, 1, 2, 2, 1, 2, 2] (.cd 98) rfl, xk B18 [2, 2, 1, 2, 2, 1, 2, 1, 2, 2, 1, 2, 2] .sq rfl, show (nav B18 [1, 2, 2, 1, 2, 2, 1, 2, 1, 2, 2, 1, 2, 2]) = Code.region 8 _ false from rfl, hk_18_8, hz_18_8, hs_18_8, xk B18 [2, 2, 2, 1, 2, 2, 1, 2, 1, 2, 2, 1, 2, 2] .rt rfl, R18_airz_l2.st, h1, h3, h4, h5, h6, h7]
        · simp (maxSteps := 999999) (disch := first | exact D (by decide) | exact K (by kernel_rfl)) only [E, EE, ↓reduceIte, simprocAttr, fieldAddrV, u_54, i_54, is_54, ib_54, iz_54, u_3, i_3, is_3, ib_3, iz_3, h1, h3, h4, h5, h6, h7]
          replace hF := cond_some hF
          rcases hF with ⟨h8, hF⟩ | ⟨h8, hF⟩
          · cases hF
            simp (maxSteps := 999999) (disch := first | exact D (by decide) | exact K (by kernel_rfl)) only [E, EE, ↓reduceIte, simprocAttr, xk B18 [2, 1, 2, 2, 1, 2, 1, 2, 2, 1, 2, 2] (.cd 98) rfl, xk B18 [2, 2, 1, 2, 2, 1, 2, 1, 2, 2, 1, 2, 2] .sq rfl, show (nav B18 [1, 2, 2, 1, 2, 2, 1, 2, 1, 2, 2, 1, 2, 2]) = Code.region 8 _ false from rfl, hk_18_8, hz_18_8, hs_18_8, xk B18 [2, 2, 2, 1, 2, 2, 1, 2, 1, 2, 2, 1, 2, 2] .rt rfl, R18_airz_l2.st, h1, h3, h4, h5, h6, h7, h8]
          · simp (maxSteps := 999999) (disch := first | exact D (by decide) | exact K (by kernel_rfl)) only [E, EE, ↓reduceIte, simprocAttr, fieldAddrV, u_54, i_54, is_54, ib_54, iz_54, u_3, i_3, is_3, ib_3, iz_3, h1, h3, h4, h5, h6, h7, h8]
            replace hF := cond_some hF
            rcases hF with ⟨h9, hF⟩ | ⟨h9, hF⟩
            · cases hF
              simp (maxSteps := 999999) (disch := first | exact D (by decide) | exact K (by kernel_rfl)) only [E, EE, ↓reduceIte, simprocAttr, xk B18 [2, 1, 2, 2, 1, 2, 1, 2, 2, 1, 2, 2] (.cd 98) rfl, xk B18 [2, 2, 1, 2, 2, 1, 2, 1, 2, 2, 1, 2, 2] .sq rfl, show (nav B18 [1, 2, 2, 1, 2, 2, 1, 2, 1, 2, 2, 1, 2, 2]) = Code.region 8 _ false from rfl, hk_18_8, hz_18_8, hs_18_8, xk B18 [2, 2, 2, 1, 2, 2, 1, 2, 1, 2, 2, 1, 2, 2] .rt rfl, R18_airz_l2.st, h1, h3, h4, h5, h6, h7, h8, h9]
            · simp (maxSteps := 999999) (disch := first | exact D (by decide) | exact K (by kernel_rfl)) only [E, EE, ↓reduceIte, simprocAttr, fieldAddrV, u_54, i_54, is_54, ib_54, iz_54, u_3, i_3, is_3, ib_3, iz_3, h1, h3, h4, h5, h6, h7, h8, h9]
              replace hF := cond_some hF
              rcases hF with ⟨h10, hF⟩ | ⟨h10, hF⟩
              · cases hF
                simp (maxSteps := 999999) (disch := first | exact D (by decide) | exact K (by kernel_rfl)) only [E, EE, ↓reduceIte, simprocAttr, xk B18 [2, 1, 2, 2, 1, 2, 1, 2, 2, 1, 2, 2] (.cd 98) rfl, xk B18 [2, 2, 1, 2, 2, 1, 2, 1, 2, 2, 1, 2, 2] .sq rfl, show (nav B18 [1, 2, 2, 1, 2, 2, 1, 2, 1, 2, 2, 1, 2, 2]) = Code.region 8 _ false from rfl, hk_18_8, hz_18_8, hs_18_8, xk B18 [2, 2, 2, 1, 2, 2, 1, 2, 1, 2, 2, 1, 2, 2] .rt rfl, R18_airz_l2.st, h1, h3, h4, h5, h6, h7, h8, h9, h10]
              · simp (maxSteps := 999999) (disch := first | exact D (by decide) | exact K (by kernel_rfl)) only [E, EE, ↓reduceIte, simprocAttr, fieldAddrV, u_54, i_54, is_54, ib_54, iz_54, u_3, i_3, is_3, ib_3, iz_3, h1, h3, h4, h5, h6, h7, h8, h9, h10]
                replace hF := cond_some hF
                rcases hF with ⟨h11, hF⟩ | ⟨h11, hF⟩
                · cases hF
                  simp (maxSteps := 999999) (disch := first | exact D (by decide) | exact K (by kernel_rfl)) only [E, EE, ↓reduceIte, simprocAttr, xk B18 [2, 1, 2, 2, 1, 2, 1, 2, 2, 1, 2, 2] (.cd 98) rfl, xk B18 [2, 2, 1, 2, 2, 1, 2, 1, 2, 2, 1, 2, 2] .sq rfl, show (nav B18 [1, 2, 2, 1, 2, 2, 1, 2, 1, 2, 2, 1, 2, 2]) = Code.region 8 _ false from rfl, hk_18_8, hz_18_8, hs_18_8, xk B18 [2, 2, 2, 1, 2, 2, 1, 2, 1, 2, 2, 1, 2, 2] .rt rfl, R18_airz_l2.st, h1, h3, h4, h5, h6, h7, h8, h9, h10, h11]
                · simp (maxSteps := 999999) (disch := first | exact D (by decide) | exact K (by kernel_rfl)) only [E, EE, ↓reduceIte, simprocAttr, fieldAddrV, u_54, i_54, is_54, ib_54, iz_54, u_3, i_3, is_3, ib_3, iz_3, h1, h3, h4, h5, h6, h7, h8, h9, h10, h11]
                  replace hF := cond_some hF
                  rcases hF with ⟨h12, hF⟩ | ⟨h12, hF⟩
                  · cases hF
                    simp (maxSteps := 999999) (disch := first | exact D (by decide) | exact K (by kernel_rfl)) only [E, EE, ↓reduceIte, simprocAttr, xk B18 [2, 1, 2, 2, 1, 2, 1, 2, 2, 1, 2, 2] (.cd 98) rfl, xk B18 [2, 2, 1, 2, 2, 1, 2, 1, 2, 2, 1, 2, 2] .sq rfl, show (nav B18 [1, 2, 2, 1, 2, 2, 1, 2, 1, 2, 2, 1, 2, 2]) = Code.region 8 _ false from rfl, hk_18_8, hz_18_8, hs_18_8, xk B18 [2, 2, 2, 1, 2, 2, 1, 2, 1, 2, 2, 1, 2, 2] .rt rfl, R18_airz_l2.st, h1, h3, h4, h5, h6, h7, h8, h9, h10, h11, h12]
                  · simp (maxSteps := 999999) (disch := first | exact D (by decide) | exact K (by kernel_rfl)) only [E, EE, ↓reduceIte, simprocAttr, fieldAddrV, u_54, i_54, is_54, ib_54, iz_54, u_3, i_3, is_3, ib_3, iz_3, h1, h3, h4, h5, h6, h7, h8, h9, h10, h11, h12]
                    replace hF := cond_some hF
                    rcases hF with ⟨h13, hF⟩ | ⟨h13, hF⟩
                    · cases hF
                      simp (maxSteps := 999999) (disch := first | exact D (by decide) | exact K (by kernel_rfl)) only [E, EE, ↓reduceIte, simprocAttr, xk B18 [2, 1, 2, 2, 1, 2, 1, 2, 2, 1, 2, 2] (.cd 98) rfl, xk B18 [2, 2, 1, 2, 2, 1, 2, 1, 2, 2, 1, 2, 2] .sq rfl, show (nav B18 [1, 2, 2, 1, 2, 2, 1, 2, 1, 2, 2, 1, 2, 2]) = Code.region 8 _ false from rfl, hk_18_8, hz_18_8, hs_18_8, xk B18 [2, 2, 2, 1, 2, 2, 1, 2, 1, 2, 2, 1, 2, 2] .rt rfl, R18_airz_l2.st, h1, h3, h4, h5, h6, h7, h8, h9, h10, h11, h12, h13]
                    · simp (maxSteps := 999999) (disch := first | exact D (by decide) | exact K (by kernel_rfl)) only [E, EE, ↓reduceIte, simprocAttr, fieldAddrV, u_54, i_54, is_54, ib_54, iz_54, u_3, i_3, is_3, ib_3, iz_3, h1, h3, h4, h5, h6, h7, h8, h9, h10, h11, h12, h13]
                      replace hF := cond_some hF
                      rcases hF with ⟨h14, hF⟩ | ⟨h14, hF⟩
                      · cases hF
                        simp (maxSteps := 999999) (disch := first | exact D (by decide) | exact K (by kernel_rfl)) only [E, EE, ↓reduceIte, simprocAttr, xk B18 [2, 1, 2, 2, 1, 2, 1, 2, 2, 1, 2, 2] (.cd 98) rfl, xk B18 [2, 2, 1, 2, 2, 1, 2, 1, 2, 2, 1, 2, 2] .sq rfl, show (nav B18 [1, 2, 2, 1, 2, 2, 1, 2, 1, 2, 2, 1, 2, 2]) = Code.region 8 _ false from rfl, hk_18_8, hz_18_8, hs_18_8, xk B18 [2, 2, 2, 1, 2, 2, 1, 2, 1, 2, 2, 1, 2, 2] .rt rfl, R18_airz_l2.st, h1, h3, h4, h5, h6, h7, h8, h9, h10, h11, h12, h13, h14]
                      · simp (maxSteps := 999999) (disch := first | exact D (by decide) | exact K (by kernel_rfl)) only [E, EE, ↓reduceIte, simprocAttr, fieldAddrV, u_54, i_54, is_54, ib_54, iz_54, u_3, i_3, is_3, ib_3, iz_3, xk B18 [2, 1, 2, 2, 1, 2, 1, 2, 2, 1, 2, 2] (.cd 98) rfl, h1, h3, h4, h5, h6, h7, h8, h9, h10, h11, h12, h13, h14]
                        replace hF := cond_some hF
                        rcases hF with ⟨h15, hF⟩ | ⟨h15, hF⟩
                        · cases hF
                          simp (maxSteps := 999999) (disch := first | exact D (by decide) | exact K (by kernel_rfl)) only [E, EE, ↓reduceIte, simprocAttr, xk B18 [2, 2, 1, 2, 2, 1, 2, 1, 2, 2, 1, 2, 2] .sq rfl, show (nav B18 [1, 2, 2, 1, 2, 2, 1, 2, 1, 2, 2, 1, 2, 2]) = Code.region 8 _ false from rfl, hk_18_8, hz_18_8, hs_18_8, xk B18 [2, 2, 2, 1, 2, 2, 1, 2, 1, 2, 2, 1, 2, 2] .rt rfl, R18_airz_l2.st, h1, h3, h4, h5, h6, h7, h8, h9, h10, h11, h12, h13, h14, h15]
                        · have hJ := f18_airz_l2_j2_ok k x3 false h0_ h0__1 v2.From v2.To v2.Start v2.End v2.Rate v2.Delay _ hF
                          simp (maxSteps := 999999) (disch := first | exact D (by decide) | exact K (by kernel_rfl)) only [E, EE, ↓reduceIte, simprocAttr, xk B18 [3, 2, 1, 2, 2, 1, 2, 1, 2, 2, 1, 2, 2] .sk rfl, h1, h3, h4, h5, h6, h7, h8, h9, h10, h11, h12, h13, h14, h15]
                          try simp only [NM, EE] at hJ
                          exact hJ
noncomputable def f18_airz_l2_b (k : Nat) (x3 h0_ : Int) (h0__1 : List T54) : Option R18_airz_l2 :=
  cond ((decide (x3 < ((List.length h0__1) : Int))))
    (f18_airz_l2_j1 k x3 true h0_ h0__1)
    (some (R18_airz_l2.o2 x3 false h0_ h0__1))
theorem f18_airz_l2_b_ok (k : Nat) (x3 h0_ : Int) (h0__1 : List T54) (r : R18_airz_l2) (hF : f18_airz_l2_b k x3 h0_ h0__1 = some r) : EX 18 k (nav B18 [1, 2, 2, 1, 2, 2]) ({ n := 136, F := [(1, V.ptr 30000 0), (3, V.p (Value.int .i64 x3))], M := [(30000, O.box 24 [V.p (Value.int .i64 h0_), V.sl 6 (rowsOf encT54 h0__1)])] } : St) = some r.st := by
  unfold f18_airz_l2_b at hF
  simp (maxSteps := 999999) (disch := first | exact D (by decide) | exact K (by kernel_rfl)) only [E, EE, ↓reduceIte, simprocAttr, xk B18 [1, 2, 2, 1, 2, 2] .sq rfl, xk B18 [1, 1, 2, 2, 1, 2, 2] .sq rfl, show (nav B18 [1, 1, 1, 2, 2, 1, 2, 2]) = Code.region 4 _ false from rfl, hk_18_4, hz_18_4, hs_18_4, fieldAddrV, u_24, i_24, is_24, ib_24, iz_24, u_22, i_22, is_22, ib_22, iz_22, xk B18 [2, 1, 1, 2, 2, 1, 2, 2] (.cd 25) rfl]
  replace hF := cond_some hF
  rcases hF with ⟨h1, hF⟩ | ⟨h1, hF⟩
  · have hJ := f18_airz_l2_j1_ok k x3 true h0_ h0__1 _ hF
    simp (maxSteps := 999999) (disch := first | exact D (by decide) | exact K (by kernel_rfl)) only [E, EE, ↓reduceIte, simprocAttr, xk B18 [2, 2, 1, 1, 2, 2, 1, 2, 2] .sk rfl, h1]
    try simp only [NM, EE] at hJ
    exact hJ
  · cases hF
    simp (maxSteps := 999999) (disch := first | exact D (by decide) | exact K (by kernel_rfl)) only [E, EE, ↓reduceIte, simprocAttr, xk B18 [3, 2, 1, 1, 2, 2, 1, 2, 2] (.ex 0) rfl, R18_airz_l2.st, h1]
noncomputable def f18_airz_l2 (k : Nat) : Nat → Int → Int → (List T54) → Option R18_airz_l2
  | 0, _, _, _ => none
  | n + 1, x3, h0_, h0__1 => Option.bind (f18_airz_l2_b k x3 h0_ h0__1) fun o =>
    match o with
    | .o0 y => some (.o0 y)
    | .o1 y y_1 y_2 => f18_airz_l2 k n y y_1 y_2
    | .o2 y y_1 y_2 y_3 => some (.o2 y y_1 y_2 y_3)
theorem f18_airz_l2_ok (k n : Nat) : ∀ (x3 h0_ : Int) (h0__1 : List T54) (r : R18_airz_l2) (hF : f18_airz_l2 k n x3 h0_ h0__1 = some r) (σ : St) (hσ : headR (hints.head 18 4) (hints.canon 18 4) σ = some ({ n := 136, F := [(1, V.ptr 30000 0), (3, V.p (Value.int .i64 x3))], M := [(30000, O.box 24 [V.p (Value.int .i64 h0_), V.sl 6 (rowsOf encT54 h0__1)])] } : St)), LP 18 k (nav B18 [1, 2, 2, 1, 2, 2]) n σ = some r.st := by
  induction n with
  | zero => intro x3 h0_ h0__1 r hF; cases hF
  | succ n ih =>
    intro x3 h0_ h0__1 r hF σ hσ
    rw [f18_airz_l2] at hF
    obtain ⟨o, h, hF⟩ := Option.bind_eq_some_iff.1 hF
    have hB := f18_airz_l2_b_ok k x3 h0_ h0__1 o h
    unfold LP at ih ⊢
    unfold EX at hB
    rw [loopK_succ, show firstReg (nav B18 [1, 2, 2, 1, 2, 2]) = 4 from rfl, hσ, headK_some, hB]
    cases o with
    | o0 y => cases hF; rfl
    | o1 y y_1 y_2 =>
      refine ih y y_1 y_2 r hF _ ?_
      simp (maxSteps := 999999) (disch := first | exact D (by decide) | exact K (by kernel_rfl)) only [E, EE, ↓reduceIte, simprocAttr, hh_18_4, hc_18_4]
    | o2 y y_1 y_2 y_3 => cases hF; rfl
noncomputable def f18_airz_j3 (k : Nat) (x3 : Int) (x25 : Bool) (h0_ : Int) (h0__1 : List T54) : Option R18_airz :=
  some (R18_airz.o0 true)
theorem f18_airz_j3_ok (k : Nat) (x3 : Int) (x25 : Bool) (h0_ : Int) (h0__1 : List T54) (r : R18_airz) (hF : f18_airz_j3 k x3 x25 h0_ h0__1 = some r) : finK Tryd.prog Tryd.f18 0 (EX 18 k (nav B18 [2, 2, 2]) ({ n := 136, F := [(1, V.ptr 30000 0), (3, V.p (Value.int .i64 x3)), (25, V.p (Value.bool x25))], M := [(30000, O.box 24 [V.p (Value.int .i64 h0_), V.sl 6 (rowsOf encT54 h0__1)])] } : St)) = some r.st := by
  unfold f18_airz_j3 at hF
  cases hF
  simp (maxSteps := 999999) (disch := first | exact D (by decide) | exact K (by kernel_rfl)) only [E, EE, ↓reduceIte, simprocAttr, xk B18 [2, 2, 2] .sq rfl, show (nav B18 [1, 2, 2, 2]) = Code.region 15 _ false from rfl, hk_18_15, hz_18_15, hs_18_15, xk B18 [2, 2, 2, 2] .rt rfl, finK_norm, finK_ret, fin18, R18_airz.st]
noncomputable def f18_airz_j1 (k : Nat) (x20 : Bool) (m1 : Int) (m1_1 : List T54) : Option R18_airz :=
  Option.bind (f18_airz_l2 k k 0 m1 m1_1) fun o1 =>
    match o1 with
    | .o0 v4 =>
      some (R18_airz.o0 v4)
    | .o1 _ _ _ =>
      none
    | .o2 v5 v6 v7 v8 =>
      f18_airz_j3 k v5 v6 v7 v8
theorem f18_airz_j1_ok (k : Nat) (x20 : Bool) (m1 : Int) (m1_1 : List T54) (r : R18_airz) (hF : f18_airz_j1 k x20 m1 m1_1 = some r) : finK Tryd.prog Tryd.f18 0 (EX 18 k (nav B18 [2, 2]) ({ n := 136, F := [(1, V.ptr 1 0), (20, V.p (Value.bool x20))], M := [(1, O.box 24 [V.p (Value.int .i64 m1), V.sl 6 (rowsOf encT54 m1_1)])] } : St)) = some r.st := by
  unfold f18_airz_j1 at hF
  replace hF := Option.bind_eq_some_iff.1 hF
  obtain ⟨o1, h2, hF⟩ := hF
  have hc3 := f18_airz_l2_ok k k 0 m1 m1_1 _ h2
  simp (maxSteps := 999999) (disch := first | exact D (by decide) | exact K (by kernel_rfl)) only [E, EE, ↓reduceIte, simprocAttr, xk B18 [2, 2] .sq rfl, xk B18 [1, 2, 2] .sq rfl, show (nav B18 [1, 1, 2, 2]) = Code.region 3 _ false from rfl, hk_18_3, hz_18_3, hs_18_3, xk B18 [2, 1, 2, 2] (.bk 0) rfl, xk B18 [2, 2, 1, 2, 2] .lp rfl, hh_18_4, hc_18_4]
  (try simp only [NM, EE] at hc3)
  rw [hc3 _ (by simp (maxSteps := 999999) (disch := first | exact D (by decide) | exact K (by kernel_rfl)) only [E, EE, ↓reduceIte, simprocAttr, hh_18_4, hc_18_4])]
  clear hc3
  cases o1 with
  | o0 v4 =>
    (try dsimp only at hF)
    cases hF
    simp (maxSteps := 999999) (disch := first | exact D (by decide) | exact K (by kernel_rfl)) only [E, EE, ↓reduceIte, simprocAttr, R18_airz_l2.st, finK_norm, finK_ret, fin18, R18_airz.st]
  | o1 _ _ _ =>
    (try dsimp only at hF)
    cases hF
  | o2 v5 v6 v7 v8 =>
    (try dsimp only at hF)
    have hJ := f18_airz_j3_ok k v5 v6 v7 v8 _ hF
    simp (maxSteps := 999999) (disch := first | exact D (by decide) | exact K (by kernel_rfl)) only [E, EE, ↓reduceIte, simprocAttr, R18_airz_l2.st]
    try simp only [NM, EE] at hJ
    exact hJ
noncomputable def f18_airz_e (k : Nat) (a0 : Int) (a0_1 : List T54) : Option R18_airz :=
  cond ((decide (a0 < 2)))
    (some (R18_airz.o0 false))
    (
      cond ((decide (a0 > 6)))
        (some (R18_airz.o0 false))
        (
          cond ((decide (((List.length a0_1) : Int) > 24)))
            (some (R18_airz.o0 false))
            (f18_airz_j1 k false a0 a0_1)))
theorem f18_airz_e_ok (k : Nat) (a0 : Int) (a0_1 : List T54) (r : R18_airz) (hF : f18_airz_e k a0 a0_1 = some r) : finK Tryd.prog Tryd.f18 0 (EX 18 k (nav B18 []) ({ n := 136, F := [(0, V.agg [V.p (Value.int .i64 a0), V.sl 6 (rowsOf encT54 a0_1)])], M := [] } : St)) = some r.st := by
  unfold f18_airz_e at hF
  simp (maxSteps := 999999) (disch := first | exact D (by decide) | exact K (by kernel_rfl)) only [E, EE, ↓reduceIte, simprocAttr, xk B18 [] .sq rfl, show (nav B18 [1]) = Code.region 0 _ false from rfl, hk_18_0, hz_18_0, hs_18_0, xk B18 [2] .sq rfl, xk B18 [1, 2] .sq rfl, show (nav B18 [1, 1, 2]) = Code.region 1 _ false from rfl, hk_18_1, hz_18_1, hs_18_1, fieldAddrV, u_24, i_24, is_24, ib_24, iz_24, u_3, i_3, is_3, ib_3, iz_3]
  replace hF := cond_some hF
  rcases hF with ⟨h1, hF⟩ | ⟨h1, hF⟩
  · cases hF
    simp (maxSteps := 999999) (disch := first | exact D (by decide) | exact K (by kernel_rfl)) only [E, EE, ↓reduceIte, simprocAttr, xk B18 [2, 1, 2] (.cd 20) rfl, xk B18 [2, 2, 1, 2] .sq rfl, show (nav B18 [1, 2, 2, 1, 2]) = Code.region 2 _ false from rfl, hk_18_2, hz_18_2, hs_18_2, xk B18 [2, 2, 2, 1, 2] .rt rfl, finK_norm, finK_ret, fin18, R18_airz.st, h1]
  · simp (maxSteps := 999999) (disch := first | exact D (by decide) | exact K (by kernel_rfl)) only [E, EE, ↓reduceIte, simprocAttr, fieldAddrV, u_24, i_24, is_24, ib_24, iz_24, u_3, i_3, is_3, ib_3, iz_3, h1]
    replace hF := cond_some hF
    rcases hF with ⟨h2, hF⟩ | ⟨h2, hF⟩
    · cases hF
      simp (maxSteps := 999999) (disch := first | exact D (by decide) | exact K (by kernel_rfl)) only [E, EE, ↓reduceIte, simprocAttr, xk B18 [2, 1, 2] (.cd 20) rfl, xk B18 [2, 2, 1, 2] .sq rfl, show (nav B18 [1, 2, 2, 1, 2]) = Code.region 2 _ false from rfl, hk_18_2, hz_18_2, hs_18_2, xk B18 [2, 2, 2, 1, 2] .rt rfl, finK_norm, finK_ret, fin18, R18_airz.st, h1, h2]
    · simp (maxSteps := 999999) (disch := first | exact D (by decide) | exact K (by kernel_rfl)) only [E, EE, ↓reduceIte, simprocAttr, fieldAddrV, u_24, i_24, is_24, ib_24, iz_24, u_22, i_22, is_22, ib_22, iz_22, xk B18 [2, 1, 2] (.cd 20) rfl, h1, h2]
      replace hF := cond_some hF
      rcases hF with ⟨h3, hF⟩ | ⟨h3, hF⟩
      · cases hF
        simp (maxSteps := 999999) (disch := first | exact D (by decide) | exact K (by kernel_rfl)) only [E, EE, ↓reduceIte, simprocAttr, xk B18 [2, 2, 1, 2] .sq rfl, show (nav B18 [1, 2, 2, 1, 2]) = Code.region 2 _ false from rfl, hk_18_2, hz_18_2, hs_18_2, xk B18 [2, 2, 2, 1, 2] .rt rfl, finK_norm, finK_ret, fin18, R18_airz.st, h1, h2, h3]
      · have hJ := f18_airz_j1_ok k false a0 a0_1 _ hF
        simp (maxSteps := 999999) (disch := first | exact D (by decide) | exact K (by kernel_rfl)) only [E, EE, ↓reduceIte, simprocAttr, xk B18 [3, 2, 1, 2] .sk rfl, h1, h2, h3]
        try simp only [NM, EE] at hJ
        exact hJ
noncomputable def f18_airz (k : Nat) (a0 : Int) (a0_1 : List T54) : Option R18_airz := match k with | 0 => none | k + 1 => f18_airz_e k a0 a0_1
theorem f18_airz_ok (k : Nat) (a0 : Int) (a0_1 : List T54) (r : R18_airz) (hF : f18_airz k a0 a0_1 = some r) : CV k 18 [V.agg [V.p (Value.int .i64 a0), V.sl 6 (rowsOf encT54 a0_1)]] [] = some r.st := by
  cases k with
  | zero => cases hF
  | succ k =>
    unfold CV
    rw [ev_call (F := Tryd.f18) (c := (nav B18 [])) rfl Tryd.func18 rfl rfl rfl rfl]
    exact f18_airz_e_ok k a0 a0_1 r hF
-- f19_airzr: f19 heliograph/heliographref20.Left
inductive R19_airzr where
  | o0 (y : Bool)
noncomputable def R19_airzr.st : R19_airzr → V × List O × List O
  | .o0 y => (V.p (Value.bool y), [], [])
inductive R19_airzr_l1 where
  | o0 (y : Bool)
  | o1 (y y_1 : List Int) (y_2 y_3 y_4 : Int) (y_5 : List T54)
  | o2 (y y_1 : List Int) (y_2 y_3 : Int) (y_4 : Bool) (y_5 : Int) (y_6 : List T54)
noncomputable def R19_airzr_l1.st : R19_airzr_l1 → Out × St
  | .o0 y => (.ret, ({ n := 22, F := [(4, V.p (Value.bool y))], M := [] } : St))
  | .o1 y y_1 y_2 y_3 y_4 y_5 => (.norm, ({ n := 22, F := [(1, V.sl 1 (rowsOf (encI .i64) y)), (2, V.ptr 30000 0), (7, V.sl 1 (rowsOf (encI .i64) y_1)), (8, V.p (Value.int .i64 y_2)), (9, V.p (Value.int .i64 y_3))], M := [(30000, O.box 24 [V.p (Value.int .i64 y_4), V.sl 6 (rowsOf encT54 y_5)])] } : St))
  | .o2 y y_1 y_2 y_3 y_4 y_5 y_6 => (.exit 0, ({ n := 22, F := [(1, V.sl 1 (rowsOf (encI .i64) y)), (2, V.ptr 30000 0), (7, V.sl 1 (rowsOf (encI .i64) y_1)), (8, V.p (Value.int .i64 y_2)), (9, V.p (Value.int .i64 y_3)), (10, V.p (Value.bool y_4))], M := [(30000, O.box 24 [V.p (Value.int .i64 y_5), V.sl 6 (rowsOf encT54 y_6)])] } : St))
noncomputable def f19_airzr_l1_j2 (k : Nat) (x1 x7 : List Int) (x8 x9 : Int) (x14 : Bool) (h0_ : Int) (h0__1 : List T54) : Option R19_airzr_l1 :=
  some (R19_airzr_l1.o1 x1 x7 x8 (IntKind.i64.wrap (x9 + (1 : Int))) h0_ h0__1)
theorem f19_airzr_l1_j2_ok (k : Nat) (x1 x7 : List Int) (x8 x9 : Int) (x14 : Bool) (h0_ : Int) (h0__1 : List T54) (r : R19_airzr_l1) (hF : f19_airzr_l1_j2 k x1 x7 x8 x9 x14 h0_ h0__1 = some r) : EX 19 k (nav B19 [2, 2, 2, 1, 2, 2, 1, 2]) ({ n := 22, F := [(1, V.sl 1 (rowsOf (encI .i64) x1)), (2, V.ptr 30000 0), (7, V.sl 1 (rowsOf (encI .i64) x7)), (8, V.p (Value.int .i64 x8)), (9, V.p (Value.int .i64 x9)), (14, V.p (Value.bool x14))], M := [(30000, O.box 24 [V.p (Value.int .i64 h0_), V.sl 6 (rowsOf encT54 h0__1)])] } : St) = some r.st := by
  unfold f19_airzr_l1_j2 at hF
  cases hF
  simp (maxSteps := 999999) (disch := first | exact D (by decide) | exact K (by kernel_rfl)) only [E, EE, ↓reduceIte, simprocAttr, show (nav B19 [2, 2, 2, 1, 2, 2, 1, 2]) = Code.region 6 _ false from rfl, hk_19_6, hz_19_6, hs_19_6, R19_airzr_l1.st]
noncomputable def f19_airzr_l1_j1 (k : Nat) (x1 x7 : List Int) (x8 x9 : Int) (x10 : Bool) (h0_ : Int) (h0__1 : List T54) : Option R19_airzr_l1 :=
  ifE ((0 : Int) ≤ x9) (
    Option.bind (x7[(Int.toNat x9)]?) fun v2 =>
      cond ((decide (v2 < 0)))
        (some (R19_airzr_l1.o0 false))
        (f19_airzr_l1_j2 k x1 x7 x8 x9 false h0_ h0__1))
theorem f19_airzr_l1_j1_ok (k : Nat) (x1 x7 : List Int) (x8 x9 : Int) (x10 : Bool) (h0_ : Int) (h0__1 : List T54) (r : R19_airzr_l1) (hF : f19_airzr_l1_j1 k x1 x7 x8 x9 x10 h0_ h0__1 = some r) : EX 19 k (nav B19 [2, 2, 1, 2, 2, 1, 2]) ({ n := 22, F := [(1, V.sl 1 (rowsOf (encI .i64) x1)), (2, V.ptr 30000 0), (7, V.sl 1 (rowsOf (encI .i64) x7)), (8, V.p (Value.int .i64 x8)), (9, V.p (Value.int .i64 x9)), (10, V.p (Value.bool x10))], M := [(30000, O.box 24 [V.p (Value.int .i64 h0_), V.sl 6 (rowsOf encT54 h0__1)])] } : St) = some r.st := by
  unfold f19_airzr_l1_j1 at hF
  replace hF := ifE_some.1 hF
  obtain ⟨h1, hF⟩ := hF
  replace hF := Option.bind_eq_some_iff.1 hF
  obtain ⟨v2, h3, hF⟩ := hF
  simp (maxSteps := 999999) (disch := first | exact D (by decide) | exact K (by kernel_rfl)) only [E, EE, ↓reduceIte, simprocAttr, xk B19 [2, 2, 1, 2, 2, 1, 2] .sq rfl, xk B19 [1, 2, 2, 1, 2, 2, 1, 2] (.bk 1) rfl, xk B19 [2, 1, 2, 2, 1, 2, 2, 1, 2] .sq rfl, show (nav B19 [1, 2, 1, 2, 2, 1, 2, 2, 1, 2]) = Code.region 3 _ false from rfl, hk_19_3, hz_19_3, hs_19_3, indexAddrV, u_25, i_25, is_25, ib_25, iz_25, u_3, i_3, is_3, ib_3, iz_3, encI_eq, xk B19 [2, 2, 1, 2, 2, 1, 2, 2, 1, 2] .sq rfl, show (nav B19 [1, 2, 2, 1, 2, 2, 1, 2, 2, 1, 2]) = Code.region 4 _ false from rfl, hk_19_4, hz_19_4, hs_19_4, xk B19 [2, 2, 2, 1, 2, 2, 1, 2, 2, 1, 2] (.cd 14) rfl, h1, h3]
  replace hF := cond_some hF
  rcases hF with ⟨h4, hF⟩ | ⟨h4, hF⟩
  · cases hF
    simp (maxSteps := 999999) (disch := first | exact D (by decide) | exact K (by kernel_rfl)) only [E, EE, ↓reduceIte, simprocAttr, xk B19 [2, 2, 2, 2, 1, 2, 2, 1, 2, 2, 1, 2] .sq rfl, show (nav B19 [1, 2, 2, 2, 2, 1, 2, 2, 1, 2, 2, 1, 2]) = Code.region 5 _ false from rfl, hk_19_5, hz_19_5, hs_19_5, xk B19 [2, 2, 2, 2, 2, 1, 2, 2, 1, 2, 2, 1, 2] .rt rfl, R19_airzr_l1.st, h1, h3, h4]
  · have hJ := f19_airzr_l1_j2_ok k x1 x7 x8 x9 false h0_ h0__1 _ hF
    simp (maxSteps := 999999) (disch := first | exact D (by decide) | exact K (by kernel_rfl)) only [E, EE, ↓reduceIte, simprocAttr, xk B19 [3, 2, 2, 2, 1, 2, 2, 1, 2, 2, 1, 2] .sk rfl, h1, h3, h4]
    try simp only [NM, EE] at hJ
    exact hJ
noncomputable def f19_airzr_l1_b (k : Nat) (x1 x7 : List Int) (x8 x9 h0_ : Int) (h0__1 : List T54) : Option R19_airzr_l1 :=
  cond ((decide (x9 < x8)))
    (f19_airzr_l1_j1 k x1 x7 x8 x9 true h0_ h0__1)
    (some (R19_airzr_l1.o2 x1 x7 x8 x9 false h0_ h0__1))
theorem f19_airzr_l1_b_ok (k : Nat) (x1 x7 : List Int) (x8 x9 h0_ : Int) (h0__1 : List T54) (r : R19_airzr_l1) (hF : f19_airzr_l1_b k x1 x7 x8 x9 h0_ h0__1 = some r) : EX 19 k (nav B19 [1, 2, 2, 1, 2]) ({ n := 22, F := [(1, V.sl 1 (rowsOf (encI .i64) x1)), (2, V.ptr 30000 0), (7, V.sl 1 (rowsOf (encI .i64) x7)), (8, V.p (Value.int .i64 x8)), (9, V.p (Value.int .i64 x9))], M := [(30000, O.box 24 [V.p (Value.int .i64 h0_), V.sl 6 (rowsOf encT54 h0__1)])] } : St) = some r.st := by
  unfold f19_airzr_l1_b at hF
  simp (maxSteps := 999999) (disch := first | exact D (by decide) | exact K (by kernel_rfl)) only [E, EE, ↓reduceIte, simprocAttr, xk B19 [1, 2, 2, 1, 2] .sq rfl, show (nav B19 [1, 1, 2, 2, 1, 2]) = Code.region 2 _ false from rfl, hk_19_2, hz_19_2, hs_19_2, xk B19 [2, 1, 2, 2, 1, 2] .sq rfl, xk B19 [1, 2, 1, 2, 2, 1, 2] (.cd 10) rfl]
  replace hF := cond_some hF
  rcases hF with ⟨h1, hF⟩ | ⟨h1, hF⟩
  · have hJ := f19_airzr_l1_j1_ok k x1 x7 x8 x9 true h0_ h0__1 _ hF
    simp (maxSteps := 999999) (disch := first | exact D (by decide) | exact K (by kernel_rfl)) only [E, EE, ↓reduceIte, simprocAttr, xk B19 [2, 1, 2, 1, 2, 2, 1, 2] .sk rfl, h1]
    try simp only [NM, EE] at hJ
    exact hJ
  · cases hF
    simp (maxSteps := 999999) (disch := first | exact D (by decide) | exact K (by kernel_rfl)) only [E, EE, ↓reduceIte, simprocAttr, xk B19 [3, 1, 2, 1, 2, 2, 1, 2] (.ex 0) rfl, R19_airzr_l1.st, h1]
noncomputable def f19_airzr_l1 (k : Nat) : Nat → (List Int) → (List Int) → Int → Int → Int → (List T54) → Option R19_airzr_l1
  | 0, _, _, _, _, _, _ => none
  | n + 1, x1, x7, x8, x9, h0_, h0__1 => Option.bind (f19_airzr_l1_b k x1 x7 x8 x9 h0_ h0__1) fun o =>
    match o with
    | .o0 y => some (.o0 y)
    | .o1 y y_1 y_2 y_3 y_4 y_5 => f19_airzr_l1 k n y y_1 y_2 y_3 y_4 y_5
    | .o2 y y_1 y_2 y_3 y_4 y_5 y_6 => some (.o2 y y_1 y_2 y_3 y_4 y_5 y_6)
theorem f19_airzr_l1_ok (k n : Nat) : ∀ (x1 x7 : List Int) (x8 x9 h0_ : Int) (h0__1 : List T54) (r : R19_airzr_l1) (hF : f19_airzr_l1 k n x1 x7 x8 x9 h0_ h0__1 = some r) (σ : St) (hσ : headR (hints.head 19 2) (hints.canon 19 2) σ = some ({ n := 22, F := [(1, V.sl 1 (rowsOf (encI .i64) x1)), (2, V.ptr 30000 0), (7, V.sl 1 (rowsOf (encI .i64) x7)), (8, V.p (Value.int .i64 x8)), (9, V.p (Value.int .i64 x9))], M := [(30000, O.box 24 [V.p (Value.int .i64 h0_), V.sl 6 (rowsOf encT54 h0__1)])] } : St)), LP 19 k (nav B19 [1, 2, 2, 1, 2]) n σ = some r.st := by
  induction n with
  | zero => intro x1 x7 x8 x9 h0_ h0__1 r hF; cases hF
  | succ n ih =>
    intro x1 x7 x8 x9 h0_ h0__1 r hF σ hσ
    rw [f19_airzr_l1] at hF
    obtain ⟨o, h, hF⟩ := Option.bind_eq_some_iff.1 hF
    have hB := f19_airzr_l1_b_ok k x1 x7 x8 x9 h0_ h0__1 o h
    unfold LP at ih ⊢
    unfold EX at hB
    rw [loopK_succ, show firstReg (nav B19 [1, 2, 2, 1, 2]) = 2 from rfl, hσ, headK_some, hB]
    cases o with
    | o0 y => cases hF; rfl
    | o1 y y_1 y_2 y_3 y_4 y_5 =>
      refine ih y y_1 y_2 y_3 y_4 y_5 r hF _ ?_
      simp (maxSteps := 999999) (disch := first | exact D (by decide) | exact K (by kernel_rfl)) only [E, EE, ↓reduceIte, simprocAttr, hh_19_2, hc_19_2]
    | o2 y y_1 y_2 y_3 y_4 y_5 y_6 => cases hF; rfl
noncomputable def f19_airzr_j2 (k : Nat) (x1 x7 : List Int) (x8 x9 : Int) (x10 : Bool) (h0_ : Int) (h0__1 : List T54) : Option R19_airzr :=
  some (R19_airzr.o0 ((((List.length x1) : Int) == ((List.length h0__1) : Int))))
theorem f19_airzr_j2_ok (k : Nat) (x1 x7 : List Int) (x8 x9 : Int) (x10 : Bool) (h0_ : Int) (h0__1 : List T54) (r : R19_airzr) (hF : f19_airzr_j2 k x1 x7 x8 x9 x10 h0_ h0__1 = some r) : finK Tryd.prog Tryd.f19 0 (EX 19 k (nav B19 [2, 2]) ({ n := 22, F := [(1, V.sl 1 (rowsOf (encI .i64) x1)), (2, V.ptr 30000 0), (7, V.sl 1 (rowsOf (encI .i64) x7)), (8, V.p (Value.int .i64 x8)), (9, V.p (Value.int .i64 x9)), (10, V.p (Value.bool x10))], M := [(30000, O.box 24 [V.p (Value.int .i64 h0_), V.sl 6 (rowsOf encT54 h0__1)])] } : St)) = some r.st := by
  unfold f19_airzr_j2 at hF
  cases hF
  simp (maxSteps := 999999) (disch := first | exact D (by decide) | exact K (by kernel_rfl)) only [E, EE, ↓reduceIte, simprocAttr, xk B19 [2, 2] .sq rfl, show (nav B19 [1, 2, 2]) = Code.region 7 _ false from rfl, hk_19_7, hz_19_7, hs_19_7, u_25, i_25, is_25, ib_25, iz_25, fieldAddrV, u_24, i_24, is_24, ib_24, iz_24, u_22, i_22, is_22, ib_22, iz_22, xk B19 [2, 2, 2] .rt rfl, finK_norm, finK_ret, fin19, R19_airzr.st]
noncomputable def f19_airzr_e (k : Nat) (a0 : Int) (a0_1 : List T54) (a1 : List Int) : Option R19_airzr :=
  Option.bind (f19_airzr_l1 k k a1 a1 ((List.length a1) : Int) 0 a0 a0_1) fun o1 =>
    match o1 with
    | .o0 v4 =>
      some (R19_airzr.o0 v4)
    | .o1 _ _ _ _ _ _ =>
      none
    | .o2 v5 v6 v7 v8 v9 v10 v11 =>
      f19_airzr_j2 k v5 v6 v7 v8 v9 v10 v11
theorem f19_airzr_e_ok (k : Nat) (a0 : Int) (a0_1 : List T54) (a1 : List Int) (r : R19_airzr) (hF : f19_airzr_e k a0 a0_1 a1 = some r) : finK Tryd.prog Tryd.f19 0 (EX 19 k (nav B19 []) ({ n := 22, F := [(0, V.agg [V.p (Value.int .i64 a0), V.sl 6 (rowsOf encT54 a0_1)]), (1, V.sl 1 (rowsOf (encI .i64) a1))], M := [] } : St)) = some r.st := by
  unfold f19_airzr_e at hF
  replace hF := Option.bind_eq_some_iff.1 hF
  obtain ⟨o1, h2, hF⟩ := hF
  have hc3 := f19_airzr_l1_ok k k a1 a1 ((List.length a1) : Int) 0 a0 a0_1 _ h2
  simp (maxSteps := 999999) (disch := first | exact D (by decide) | exact K (by kernel_rfl)) only [E, EE, ↓reduceIte, simprocAttr, xk B19 [] .sq rfl, show (nav B19 [1]) = Code.region 0 _ false from rfl, hk_19_0, hz_19_0, hs_19_0, xk B19 [2] .sq rfl, xk B19 [1, 2] .sq rfl, show (nav B19 [1, 1, 2]) = Code.region 1 _ false from rfl, hk_19_1, hz_19_1, hs_19_1, u_25, i_25, is_25, ib_25, iz_25, xk B19 [2, 1, 2] (.bk 0) rfl, xk B19 [2, 2, 1, 2] .lp rfl, hh_19_2, hc_19_2]
  (try simp only [NM, EE] at hc3)
  rw [hc3 _ (by simp (maxSteps := 999999) (disch := first | exact D (by decide) | exact K (by kernel_rfl)) only [E, EE, ↓reduceIte, simprocAttr, hh_19_2, hc_19_2])]
  clear hc3
  cases o1 with
  | o0 v4 =>
    (try dsimp only at hF)
    cases hF
    simp (maxSteps := 999999) (disch := first | exact D (by decide) | exact K (by kernel_rfl)) only [E, EE, ↓reduceIte, simprocAttr, R19_airzr_l1.st, finK_norm, finK_ret, fin19, R19_airzr.st]
  | o1 _ _ _ _ _ _ =>
    (try dsimp only at hF)
    cases hF
  | o2 v5 v6 v7 v8 v9 v10 v11 =>
    (try dsimp only at hF)
    have hJ := f19_airzr_j2_ok k v5 v6 v7 v8 v9 v10 v11 _ hF
    simp (maxSteps := 999999) (disch := first | exact D (by decide) | exact K (by kernel_rfl)) only [E, EE, ↓reduceIte, simprocAttr, R19_airzr_l1.st]
    try simp only [NM, EE] at hJ
    exact hJ
noncomputable def f19_airzr (k : Nat) (a0 : Int) (a0_1 : List T54) (a1 : List Int) : Option R19_airzr := match k with | 0 => none | k + 1 => f19_airzr_e k a0 a0_1 a1
theorem f19_airzr_ok (k : Nat) (a0 : Int) (a0_1 : List T54) (a1 : List Int) (r : R19_airzr) (hF : f19_airzr k a0 a0_1 a1 = some r) : CV k 19 [V.agg [V.p (Value.int .i64 a0), V.sl 6 (rowsOf encT54 a0_1)], V.sl 1 (rowsOf (encI .i64) a1)] [] = some r.st := by
  cases k with
  | zero => cases hF
  | succ k =>
    unfold CV
    rw [ev_call (F := Tryd.f19) (c := (nav B19 [])) rfl Tryd.func19 rfl rfl rfl rfl]
    exact f19_airzr_e_ok k a0 a0_1 a1 r hF
end Go.Proofs.YtiompmmbjpjjeaaDoorV
