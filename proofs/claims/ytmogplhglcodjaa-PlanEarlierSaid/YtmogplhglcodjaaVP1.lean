/- What the program's functions answer: plain functions, and that the interpreter answers what they do. Written by a program of this session, out of the translation. -/
import Derived.Test.YtmogplhglcodjaaVPC
namespace Go.Proofs.YtmogplhglcodjaaV
open Go
set_option linter.unusedVariables false
set_option linter.unusedSimpArgs false
set_option maxRecDepth 8000
set_option maxHeartbeats 4000000
-- f7_: f7 heliograph/heliographlaw13.wakes
inductive R7_ where
  | o0 (y : Bool)
noncomputable def R7_.st : R7_ → V × List O × List O
  | .o0 y => (V.p (Value.bool y), [], [])
noncomputable def f7_ (k : Nat) : Option R7_ := ifE (60 ≤ k) (some (.o0 true))
theorem f7__ok (k : Nat) (r : R7_) (hF : f7_ k = some r) : CV k 7 [] [] = some r.st := by
  obtain ⟨h, hF⟩ := ifE_some.1 hF
  cases hF
  exact callV_le h wakes
-- f21_iii: f21 heliograph/plan.within
inductive R21_iii where
  | o0 (y : Bool)
noncomputable def R21_iii.st : R21_iii → V × List O × List O
  | .o0 y => (V.p (Value.bool y), [], [])
noncomputable def f21_iii_e (k : Nat) (a0 a1 a2 : Int) : Option R21_iii :=
  cond ((decide (a0 ≥ a1)))
    (some (R21_iii.o0 (decide (a0 ≤ a2))))
    (some (R21_iii.o0 false))
theorem f21_iii_e_ok (k : Nat) (a0 a1 a2 : Int) (r : R21_iii) (hF : f21_iii_e k a0 a1 a2 = some r) : finK Try.prog Try.f21 0 (EX 21 k (nav B21 []) ({ n := 15, F := [(0, V.p (Value.int .i64 a0)), (1, V.p (Value.int .i64 a1)), (2, V.p (Value.int .i64 a2))], M := [] } : St)) = some r.st := by
  unfold f21_iii_e at hF
  simp (maxSteps := 999999) (disch := first | exact D (by decide) | exact K (by kernel_rfl)) only [E, EE, ↓reduceIte, simprocAttr, xk B21 [] .sq rfl, show (nav B21 [1]) = Code.region 0 _ false from rfl, hk_21_0, hz_21_0, hs_21_0, xk B21 [2] .sq rfl, show (nav B21 [1, 2]) = Code.region 1 _ false from rfl, hk_21_1, hz_21_1, hs_21_1]
  replace hF := cond_some hF
  rcases hF with ⟨h1, hF⟩ | ⟨h1, hF⟩
  · cases hF
    simp (maxSteps := 999999) (disch := first | exact D (by decide) | exact K (by kernel_rfl)) only [E, EE, ↓reduceIte, simprocAttr, xk B21 [2, 2] .rt rfl, finK_norm, finK_ret, fin21, R21_iii.st, h1]
  · cases hF
    simp (maxSteps := 999999) (disch := first | exact D (by decide) | exact K (by kernel_rfl)) only [E, EE, ↓reduceIte, simprocAttr, xk B21 [2, 2] .rt rfl, finK_norm, finK_ret, fin21, R21_iii.st, h1]
noncomputable def f21_iii (k : Nat) (a0 a1 a2 : Int) : Option R21_iii := match k with | 0 => none | k + 1 => f21_iii_e k a0 a1 a2
theorem f21_iii_ok (k : Nat) (a0 a1 a2 : Int) (r : R21_iii) (hF : f21_iii k a0 a1 a2 = some r) : CV k 21 [V.p (Value.int .i64 a0), V.p (Value.int .i64 a1), V.p (Value.int .i64 a2)] [] = some r.st := by
  cases k with
  | zero => cases hF
  | succ k =>
    unfold CV
    rw [ev_call (F := Try.f21) (c := (nav B21 [])) rfl Try.func21 rfl rfl rfl rfl]
    exact f21_iii_e_ok k a0 a1 a2 r hF
-- f14_airz: f14 heliograph/plan.Check
inductive R14_airz where
  | o0 (y : Int)
noncomputable def R14_airz.st : R14_airz → V × List O × List O
  | .o0 y => (V.p (Value.int .i64 y), [], [])
inductive R14_airz_l2_l3 where
  | o0 (y : Int)
  | o1 (y : List T44) (y_1 y_2 : Int) (y_3 : List T44) (y_4 y_5 y_6 : Int) (y_7 : List T44) (y_8 y_9 y_10 y_11 y_12 y_13 : Int)
  | o2 (y : List T44) (y_1 y_2 : Int) (y_3 : List T44) (y_4 y_5 : Int) (y_6 : Bool) (y_7 : Int) (y_8 : List T44) (y_9 y_10 y_11 y_12 y_13 y_14 : Int)
noncomputable def R14_airz_l2_l3.st : R14_airz_l2_l3 → Out × St
  | .o0 y => (.ret, ({ n := 112, F := [(2, V.p (Value.int .i64 y))], M := [] } : St))
  | .o1 y y_1 y_2 y_3 y_4 y_5 y_6 y_7 y_8 y_9 y_10 y_11 y_12 y_13 => (.norm, ({ n := 112, F := [(1, V.ptr 30000 0), (4, V.ptr 30001 0), (18, V.sl 6 (rowsOf encT44 y)), (19, V.p (Value.int .i64 y_1)), (20, V.p (Value.int .i64 y_2)), (78, V.sl 6 (rowsOf encT44 y_3)), (79, V.p (Value.int .i64 y_4)), (80, V.p (Value.int .i64 y_5))], M := [(30000, O.box 24 [V.p (Value.int .i64 y_6), V.sl 6 (rowsOf encT44 y_7)]), (30001, O.box 44 [V.p (Value.int .i64 y_8), V.p (Value.int .i64 y_9), V.p (Value.int .i64 y_10), V.p (Value.int .i64 y_11), V.p (Value.int .i64 y_12), V.p (Value.int .i64 y_13)])] } : St))
  | .o2 y y_1 y_2 y_3 y_4 y_5 y_6 y_7 y_8 y_9 y_10 y_11 y_12 y_13 y_14 => (.exit 2, ({ n := 112, F := [(1, V.ptr 30000 0), (4, V.ptr 30001 0), (18, V.sl 6 (rowsOf encT44 y)), (19, V.p (Value.int .i64 y_1)), (20, V.p (Value.int .i64 y_2)), (78, V.sl 6 (rowsOf encT44 y_3)), (79, V.p (Value.int .i64 y_4)), (80, V.p (Value.int .i64 y_5)), (81, V.p (Value.bool y_6))], M := [(30000, O.box 24 [V.p (Value.int .i64 y_7), V.sl 6 (rowsOf encT44 y_8)]), (30001, O.box 44 [V.p (Value.int .i64 y_9), V.p (Value.int .i64 y_10), V.p (Value.int .i64 y_11), V.p (Value.int .i64 y_12), V.p (Value.int .i64 y_13), V.p (Value.int .i64 y_14)])] } : St))
noncomputable def f14_airz_l2_l3_j2 (k : Nat) (x18 : List T44) (x19 x20 : Int) (x78 : List T44) (x79 x80 : Int) (x109 : Bool) (h0_ : Int) (h0__1 : List T44) (h1_ h1__1 h1__2 h1__3 h1__4 h1__5 : Int) : Option R14_airz_l2_l3 :=
  some (R14_airz_l2_l3.o1 x18 x19 x20 x78 x79 (IntKind.i64.wrap (x80 + (1 : Int))) h0_ h0__1 h1_ h1__1 h1__2 h1__3 h1__4 h1__5)
theorem f14_airz_l2_l3_j2_ok (k : Nat) (x18 : List T44) (x19 x20 : Int) (x78 : List T44) (x79 x80 : Int) (x109 : Bool) (h0_ : Int) (h0__1 : List T44) (h1_ h1__1 h1__2 h1__3 h1__4 h1__5 : Int) (r : R14_airz_l2_l3) (hF : f14_airz_l2_l3_j2 k x18 x19 x20 x78 x79 x80 x109 h0_ h0__1 h1_ h1__1 h1__2 h1__3 h1__4 h1__5 = some r) : EX 14 k (nav B14 [2, 2, 2, 1, 2, 2, 2, 2, 2, 1, 2, 2, 1, 2, 2, 1, 2, 2]) ({ n := 112, F := [(1, V.ptr 30000 0), (4, V.ptr 30001 0), (18, V.sl 6 (rowsOf encT44 x18)), (19, V.p (Value.int .i64 x19)), (20, V.p (Value.int .i64 x20)), (78, V.sl 6 (rowsOf encT44 x78)), (79, V.p (Value.int .i64 x79)), (80, V.p (Value.int .i64 x80)), (109, V.p (Value.bool x109))], M := [(30000, O.box 24 [V.p (Value.int .i64 h0_), V.sl 6 (rowsOf encT44 h0__1)]), (30001, O.box 44 [V.p (Value.int .i64 h1_), V.p (Value.int .i64 h1__1), V.p (Value.int .i64 h1__2), V.p (Value.int .i64 h1__3), V.p (Value.int .i64 h1__4), V.p (Value.int .i64 h1__5)])] } : St) = some r.st := by
  unfold f14_airz_l2_l3_j2 at hF
  cases hF
  simp (maxSteps := 999999) (disch := first | exact D (by decide) | exact K (by kernel_rfl)) only [E, EE, ↓reduceIte, simprocAttr, show (nav B14 [2, 2, 2, 1, 2, 2, 2, 2, 2, 1, 2, 2, 1, 2, 2, 1, 2, 2]) = Code.region 13 _ false from rfl, hk_14_13, hz_14_13, hs_14_13, R14_airz_l2_l3.st]
noncomputable def f14_airz_l2_l3_j1 (k : Nat) (x18 : List T44) (x19 x20 : Int) (x78 : List T44) (x79 x80 : Int) (x81 : Bool) (h0_ : Int) (h0__1 : List T44) (h1_ h1__1 h1__2 h1__3 h1__4 h1__5 : Int) : Option R14_airz_l2_l3 :=
  ifE ((0 : Int) ≤ x80) (
    Option.bind (x78[(Int.toNat x80)]?) fun v2 =>
      cond ((v2.From == h1_))
        (
          cond ((v2.To == h1__1))
            (
              cond ((decide (v2.Start < h1__3)))
                (
                  cond ((decide (h1__2 < v2.End)))
                    (some (R14_airz_l2_l3.o0 230))
                    (f14_airz_l2_l3_j2 k x18 x19 x20 x78 x79 x80 false h0_ h0__1 h1_ h1__1 h1__2 h1__3 h1__4 h1__5))
                (f14_airz_l2_l3_j2 k x18 x19 x20 x78 x79 x80 false h0_ h0__1 h1_ h1__1 h1__2 h1__3 h1__4 h1__5))
            (f14_airz_l2_l3_j2 k x18 x19 x20 x78 x79 x80 false h0_ h0__1 h1_ h1__1 h1__2 h1__3 h1__4 h1__5))
        (f14_airz_l2_l3_j2 k x18 x19 x20 x78 x79 x80 false h0_ h0__1 h1_ h1__1 h1__2 h1__3 h1__4 h1__5))
theorem f14_airz_l2_l3_j1_ok (k : Nat) (x18 : List T44) (x19 x20 : Int) (x78 : List T44) (x79 x80 : Int) (x81 : Bool) (h0_ : Int) (h0__1 : List T44) (h1_ h1__1 h1__2 h1__3 h1__4 h1__5 : Int) (r : R14_airz_l2_l3) (hF : f14_airz_l2_l3_j1 k x18 x19 x20 x78 x79 x80 x81 h0_ h0__1 h1_ h1__1 h1__2 h1__3 h1__4 h1__5 = some r) : EX 14 k (nav B14 [2, 2, 1, 2, 2, 2, 2, 2, 1, 2, 2, 1, 2, 2, 1, 2, 2]) ({ n := 112, F := [(1, V.ptr 30000 0), (4, V.ptr 30001 0), (18, V.sl 6 (rowsOf encT44 x18)), (19, V.p (Value.int .i64 x19)), (20, V.p (Value.int .i64 x20)), (78, V.sl 6 (rowsOf encT44 x78)), (79, V.p (Value.int .i64 x79)), (80, V.p (Value.int .i64 x80)), (81, V.p (Value.bool x81))], M := [(30000, O.box 24 [V.p (Value.int .i64 h0_), V.sl 6 (rowsOf encT44 h0__1)]), (30001, O.box 44 [V.p (Value.int .i64 h1_), V.p (Value.int .i64 h1__1), V.p (Value.int .i64 h1__2), V.p (Value.int .i64 h1__3), V.p (Value.int .i64 h1__4), V.p (Value.int .i64 h1__5)])] } : St) = some r.st := by
  unfold f14_airz_l2_l3_j1 at hF
  replace hF := ifE_some.1 hF
  obtain ⟨h1, hF⟩ := hF
  replace hF := Option.bind_eq_some_iff.1 hF
  obtain ⟨v2, h3, hF⟩ := hF
  simp (maxSteps := 999999) (disch := first | exact D (by decide) | exact K (by kernel_rfl)) only [E, EE, ↓reduceIte, simprocAttr, xk B14 [2, 2, 1, 2, 2, 2, 2, 2, 1, 2, 2, 1, 2, 2, 1, 2, 2] .sq rfl, xk B14 [1, 2, 2, 1, 2, 2, 2, 2, 2, 1, 2, 2, 1, 2, 2, 1, 2, 2] (.bk 3) rfl, xk B14 [2, 1, 2, 2, 1, 2, 2, 2, 2, 2, 1, 2, 2, 1, 2, 2, 1, 2, 2] .sq rfl, show (nav B14 [1, 2, 1, 2, 2, 1, 2, 2, 2, 2, 2, 1, 2, 2, 1, 2, 2, 1, 2, 2]) = Code.region 10 _ false from rfl, hk_14_10, hz_14_10, hs_14_10, indexAddrV, u_22, i_22, is_22, ib_22, iz_22, u_44, i_44, is_44, ib_44, iz_44, encT44_eq, xk B14 [2, 2, 1, 2, 2, 1, 2, 2, 2, 2, 2, 1, 2, 2, 1, 2, 2, 1, 2, 2] .sq rfl, show (nav B14 [1, 2, 2, 1, 2, 2, 1, 2, 2, 2, 2, 2, 1, 2, 2, 1, 2, 2, 1, 2, 2]) = Code.region 11 _ false from rfl, hk_14_11, hz_14_11, hs_14_11, fieldAddrV, u_3, i_3, is_3, ib_3, iz_3, h1, h3]
  replace hF := cond_some hF
  rcases hF with ⟨h4, hF⟩ | ⟨h4, hF⟩
  · simp (maxSteps := 999999) (disch := first | exact D (by decide) | exact K (by kernel_rfl)) only [E, EE, ↓reduceIte, simprocAttr, fieldAddrV, u_44, i_44, is_44, ib_44, iz_44, u_3, i_3, is_3, ib_3, iz_3, h1, h3, h4]
    replace hF := cond_some hF
    rcases hF with ⟨h5, hF⟩ | ⟨h5, hF⟩
    · simp (maxSteps := 999999) (disch := first | exact D (by decide) | exact K (by kernel_rfl)) only [E, EE, ↓reduceIte, simprocAttr, fieldAddrV, u_44, i_44, is_44, ib_44, iz_44, u_3, i_3, is_3, ib_3, iz_3, h1, h3, h4, h5]
      replace hF := cond_some hF
      rcases hF with ⟨h6, hF⟩ | ⟨h6, hF⟩
      · simp (maxSteps := 999999) (disch := first | exact D (by decide) | exact K (by kernel_rfl)) only [E, EE, ↓reduceIte, simprocAttr, fieldAddrV, u_44, i_44, is_44, ib_44, iz_44, u_3, i_3, is_3, ib_3, iz_3, xk B14 [2, 2, 2, 1, 2, 2, 1, 2, 2, 2, 2, 2, 1, 2, 2, 1, 2, 2, 1, 2, 2] (.cd 109) rfl, h1, h3, h4, h5, h6]
        replace hF := cond_some hF
        rcases hF with ⟨h7, hF⟩ | ⟨h7, hF⟩
        · cases hF
          simp (maxSteps := 999999) (disch := first | exact D (by decide) | exact K (by kernel_rfl)) only [E, EE, ↓reduceIte, simprocAttr, xk B14 [2, 2, 2, 2, 1, 2, 2, 1, 2, 2, 2, 2, 2, 1, 2, 2, 1, 2, 2, 1, 2, 2] .sq rfl, show (nav B14 [1, 2, 2, 2, 2, 1, 2, 2, 1, 2, 2, 2, 2, 2, 1, 2, 2, 1, 2, 2, 1, 2, 2]) = Code.region 12 _ false from rfl, hk_14_12, hz_14_12, hs_14_12, xk B14 [2, 2, 2, 2, 2, 1, 2, 2, 1, 2, 2, 2, 2, 2, 1, 2, 2, 1, 2, 2, 1, 2, 2] .rt rfl, R14_airz_l2_l3.st, h1, h3, h4, h5, h6, h7]
        · have hJ := f14_airz_l2_l3_j2_ok k x18 x19 x20 x78 x79 x80 false h0_ h0__1 h1_ h1__1 h1__2 h1__3 h1__4 h1__5 _ hF
          simp (maxSteps := 999999) (disch := first | exact D (by decide) | exact K (by kernel_rfl)) only [E, EE, ↓reduceIte, simprocAttr, xk B14 [3, 2, 2, 2, 1, 2, 2, 1, 2, 2, 2, 2, 2, 1, 2, 2, 1, 2, 2, 1, 2, 2] .sk rfl, h1, h3, h4, h5, h6, h7]
          try simp only [NM, EE] at hJ
          exact hJ
      · have hJ := f14_airz_l2_l3_j2_ok k x18 x19 x20 x78 x79 x80 false h0_ h0__1 h1_ h1__1 h1__2 h1__3 h1__4 h1__5 _ hF
        simp (maxSteps := 999999) (disch := first | exact D (by decide) | exact K (by kernel_rfl)) only [E, EE, ↓reduceIte, simprocAttr, xk B14 [2, 2, 2, 1, 2, 2, 1, 2, 2, 2, 2, 2, 1, 2, 2, 1, 2, 2, 1, 2, 2] (.cd 109) rfl, xk B14 [3, 2, 2, 2, 1, 2, 2, 1, 2, 2, 2, 2, 2, 1, 2, 2, 1, 2, 2, 1, 2, 2] .sk rfl, h1, h3, h4, h5, h6]
        try simp only [NM, EE] at hJ
        exact hJ
    · have hJ := f14_airz_l2_l3_j2_ok k x18 x19 x20 x78 x79 x80 false h0_ h0__1 h1_ h1__1 h1__2 h1__3 h1__4 h1__5 _ hF
      simp (maxSteps := 999999) (disch := first | exact D (by decide) | exact K (by kernel_rfl)) only [E, EE, ↓reduceIte, simprocAttr, xk B14 [2, 2, 2, 1, 2, 2, 1, 2, 2, 2, 2, 2, 1, 2, 2, 1, 2, 2, 1, 2, 2] (.cd 109) rfl, xk B14 [3, 2, 2, 2, 1, 2, 2, 1, 2, 2, 2, 2, 2, 1, 2, 2, 1, 2, 2, 1, 2, 2] .sk rfl, h1, h3, h4, h5]
      try simp only [NM, EE] at hJ
      exact hJ
  · have hJ := f14_airz_l2_l3_j2_ok k x18 x19 x20 x78 x79 x80 false h0_ h0__1 h1_ h1__1 h1__2 h1__3 h1__4 h1__5 _ hF
    simp (maxSteps := 999999) (disch := first | exact D (by decide) | exact K (by kernel_rfl)) only [E, EE, ↓reduceIte, simprocAttr, xk B14 [2, 2, 2, 1, 2, 2, 1, 2, 2, 2, 2, 2, 1, 2, 2, 1, 2, 2, 1, 2, 2] (.cd 109) rfl, xk B14 [3, 2, 2, 2, 1, 2, 2, 1, 2, 2, 2, 2, 2, 1, 2, 2, 1, 2, 2, 1, 2, 2] .sk rfl, h1, h3, h4]
    try simp only [NM, EE] at hJ
    exact hJ
noncomputable def f14_airz_l2_l3_b (k : Nat) (x18 : List T44) (x19 x20 : Int) (x78 : List T44) (x79 x80 h0_ : Int) (h0__1 : List T44) (h1_ h1__1 h1__2 h1__3 h1__4 h1__5 : Int) : Option R14_airz_l2_l3 :=
  cond ((decide (x80 < x79)))
    (f14_airz_l2_l3_j1 k x18 x19 x20 x78 x79 x80 true h0_ h0__1 h1_ h1__1 h1__2 h1__3 h1__4 h1__5)
    (some (R14_airz_l2_l3.o2 x18 x19 x20 x78 x79 x80 false h0_ h0__1 h1_ h1__1 h1__2 h1__3 h1__4 h1__5))
theorem f14_airz_l2_l3_b_ok (k : Nat) (x18 : List T44) (x19 x20 : Int) (x78 : List T44) (x79 x80 h0_ : Int) (h0__1 : List T44) (h1_ h1__1 h1__2 h1__3 h1__4 h1__5 : Int) (r : R14_airz_l2_l3) (hF : f14_airz_l2_l3_b k x18 x19 x20 x78 x79 x80 h0_ h0__1 h1_ h1__1 h1__2 h1__3 h1__4 h1__5 = some r) : EX 14 k (nav B14 [1, 2, 2, 2, 2, 2, 1, 2, 2, 1, 2, 2, 1, 2, 2]) ({ n := 112, F := [(1, V.ptr 30000 0), (4, V.ptr 30001 0), (18, V.sl 6 (rowsOf encT44 x18)), (19, V.p (Value.int .i64 x19)), (20, V.p (Value.int .i64 x20)), (78, V.sl 6 (rowsOf encT44 x78)), (79, V.p (Value.int .i64 x79)), (80, V.p (Value.int .i64 x80))], M := [(30000, O.box 24 [V.p (Value.int .i64 h0_), V.sl 6 (rowsOf encT44 h0__1)]), (30001, O.box 44 [V.p (Value.int .i64 h1_), V.p (Value.int .i64 h1__1), V.p (Value.int .i64 h1__2), V.p (Value.int .i64 h1__3), V.p (Value.int .i64 h1__4), V.p (Value.int .i64 h1__5)])] } : St) = some r.st := by
  unfold f14_airz_l2_l3_b at hF
  simp (maxSteps := 999999) (disch := first | exact D (by decide) | exact K (by kernel_rfl)) only [E, EE, ↓reduceIte, simprocAttr, xk B14 [1, 2, 2, 2, 2, 2, 1, 2, 2, 1, 2, 2, 1, 2, 2] .sq rfl, show (nav B14 [1, 1, 2, 2, 2, 2, 2, 1, 2, 2, 1, 2, 2, 1, 2, 2]) = Code.region 9 _ false from rfl, hk_14_9, hz_14_9, hs_14_9, xk B14 [2, 1, 2, 2, 2, 2, 2, 1, 2, 2, 1, 2, 2, 1, 2, 2] .sq rfl, xk B14 [1, 2, 1, 2, 2, 2, 2, 2, 1, 2, 2, 1, 2, 2, 1, 2, 2] (.cd 81) rfl]
  replace hF := cond_some hF
  rcases hF with ⟨h1, hF⟩ | ⟨h1, hF⟩
  · have hJ := f14_airz_l2_l3_j1_ok k x18 x19 x20 x78 x79 x80 true h0_ h0__1 h1_ h1__1 h1__2 h1__3 h1__4 h1__5 _ hF
    simp (maxSteps := 999999) (disch := first | exact D (by decide) | exact K (by kernel_rfl)) only [E, EE, ↓reduceIte, simprocAttr, xk B14 [2, 1, 2, 1, 2, 2, 2, 2, 2, 1, 2, 2, 1, 2, 2, 1, 2, 2] .sk rfl, h1]
    try simp only [NM, EE] at hJ
    exact hJ
  · cases hF
    simp (maxSteps := 999999) (disch := first | exact D (by decide) | exact K (by kernel_rfl)) only [E, EE, ↓reduceIte, simprocAttr, xk B14 [3, 1, 2, 1, 2, 2, 2, 2, 2, 1, 2, 2, 1, 2, 2, 1, 2, 2] (.ex 2) rfl, R14_airz_l2_l3.st, h1]
noncomputable def f14_airz_l2_l3 (k : Nat) : Nat → (List T44) → Int → Int → (List T44) → Int → Int → Int → (List T44) → Int → Int → Int → Int → Int → Int → Option R14_airz_l2_l3
  | 0, _, _, _, _, _, _, _, _, _, _, _, _, _, _ => none
  | n + 1, x18, x19, x20, x78, x79, x80, h0_, h0__1, h1_, h1__1, h1__2, h1__3, h1__4, h1__5 => Option.bind (f14_airz_l2_l3_b k x18 x19 x20 x78 x79 x80 h0_ h0__1 h1_ h1__1 h1__2 h1__3 h1__4 h1__5) fun o =>
    match o with
    | .o0 y => some (.o0 y)
    | .o1 y y_1 y_2 y_3 y_4 y_5 y_6 y_7 y_8 y_9 y_10 y_11 y_12 y_13 => f14_airz_l2_l3 k n y y_1 y_2 y_3 y_4 y_5 y_6 y_7 y_8 y_9 y_10 y_11 y_12 y_13
    | .o2 y y_1 y_2 y_3 y_4 y_5 y_6 y_7 y_8 y_9 y_10 y_11 y_12 y_13 y_14 => some (.o2 y y_1 y_2 y_3 y_4 y_5 y_6 y_7 y_8 y_9 y_10 y_11 y_12 y_13 y_14)
theorem f14_airz_l2_l3_ok (k n : Nat) : ∀ (x18 : List T44) (x19 x20 : Int) (x78 : List T44) (x79 x80 h0_ : Int) (h0__1 : List T44) (h1_ h1__1 h1__2 h1__3 h1__4 h1__5 : Int) (r : R14_airz_l2_l3) (hF : f14_airz_l2_l3 k n x18 x19 x20 x78 x79 x80 h0_ h0__1 h1_ h1__1 h1__2 h1__3 h1__4 h1__5 = some r) (σ : St) (hσ : headR (hints.head 14 9) (hints.canon 14 9) σ = some ({ n := 112, F := [(1, V.ptr 30000 0), (4, V.ptr 30001 0), (18, V.sl 6 (rowsOf encT44 x18)), (19, V.p (Value.int .i64 x19)), (20, V.p (Value.int .i64 x20)), (78, V.sl 6 (rowsOf encT44 x78)), (79, V.p (Value.int .i64 x79)), (80, V.p (Value.int .i64 x80))], M := [(30000, O.box 24 [V.p (Value.int .i64 h0_), V.sl 6 (rowsOf encT44 h0__1)]), (30001, O.box 44 [V.p (Value.int .i64 h1_), V.p (Value.int .i64 h1__1), V.p (Value.int .i64 h1__2), V.p (Value.int .i64 h1__3), V.p (Value.int .i64 h1__4), V.p (Value.int .i64 h1__5)])] } : St)), LP 14 k (nav B14 [1, 2, 2, 2, 2, 2, 1, 2, 2, 1, 2, 2, 1, 2, 2]) n σ = some r.st := by
  induction n with
  | zero => intro x18 x19 x20 x78 x79 x80 h0_ h0__1 h1_ h1__1 h1__2 h1__3 h1__4 h1__5 r hF; cases hF
  | succ n ih =>
    intro x18 x19 x20 x78 x79 x80 h0_ h0__1 h1_ h1__1 h1__2 h1__3 h1__4 h1__5 r hF σ hσ
    rw [f14_airz_l2_l3] at hF
    obtain ⟨o, h, hF⟩ := Option.bind_eq_some_iff.1 hF
    have hB := f14_airz_l2_l3_b_ok k x18 x19 x20 x78 x79 x80 h0_ h0__1 h1_ h1__1 h1__2 h1__3 h1__4 h1__5 o h
    unfold LP at ih ⊢
    unfold EX at hB
    rw [loopK_succ, show firstReg (nav B14 [1, 2, 2, 2, 2, 2, 1, 2, 2, 1, 2, 2, 1, 2, 2]) = 9 from rfl, hσ, headK_some, hB]
    cases o with
    | o0 y => cases hF; rfl
    | o1 y y_1 y_2 y_3 y_4 y_5 y_6 y_7 y_8 y_9 y_10 y_11 y_12 y_13 =>
      refine ih y y_1 y_2 y_3 y_4 y_5 y_6 y_7 y_8 y_9 y_10 y_11 y_12 y_13 r hF _ ?_
      simp (maxSteps := 999999) (disch := first | exact D (by decide) | exact K (by kernel_rfl)) only [E, EE, ↓reduceIte, simprocAttr, hh_14_9, hc_14_9]
    | o2 y y_1 y_2 y_3 y_4 y_5 y_6 y_7 y_8 y_9 y_10 y_11 y_12 y_13 y_14 => cases hF; rfl
inductive R14_airz_l2 where
  | o0 (y : Int)
  | o1 (y : List T44) (y_1 y_2 y_3 : Int) (y_4 : List T44)
  | o2 (y : List T44) (y_1 y_2 : Int) (y_3 : Bool) (y_4 : Int) (y_5 : List T44)
noncomputable def R14_airz_l2.st : R14_airz_l2 → Out × St
  | .o0 y => (.ret, ({ n := 112, F := [(2, V.p (Value.int .i64 y))], M := [] } : St))
  | .o1 y y_1 y_2 y_3 y_4 => (.norm, ({ n := 112, F := [(1, V.ptr 30000 0), (18, V.sl 6 (rowsOf encT44 y)), (19, V.p (Value.int .i64 y_1)), (20, V.p (Value.int .i64 y_2))], M := [(30000, O.box 24 [V.p (Value.int .i64 y_3), V.sl 6 (rowsOf encT44 y_4)])] } : St))
  | .o2 y y_1 y_2 y_3 y_4 y_5 => (.exit 0, ({ n := 112, F := [(1, V.ptr 30000 0), (18, V.sl 6 (rowsOf encT44 y)), (19, V.p (Value.int .i64 y_1)), (20, V.p (Value.int .i64 y_2)), (21, V.p (Value.bool y_3))], M := [(30000, O.box 24 [V.p (Value.int .i64 y_4), V.sl 6 (rowsOf encT44 y_5)])] } : St))
noncomputable def f14_airz_l2_j4 (k : Nat) (x18 : List T44) (x19 x20 : Int) (x78 : List T44) (x79 x80 : Int) (x81 : Bool) (h0_ : Int) (h0__1 : List T44) (h1_ h1__1 h1__2 h1__3 h1__4 h1__5 : Int) : Option R14_airz_l2 :=
  some (R14_airz_l2.o1 x18 x19 (IntKind.i64.wrap (x20 + (1 : Int))) h0_ h0__1)
theorem f14_airz_l2_j4_ok (k : Nat) (x18 : List T44) (x19 x20 : Int) (x78 : List T44) (x79 x80 : Int) (x81 : Bool) (h0_ : Int) (h0__1 : List T44) (h1_ h1__1 h1__2 h1__3 h1__4 h1__5 : Int) (r : R14_airz_l2) (hF : f14_airz_l2_j4 k x18 x19 x20 x78 x79 x80 x81 h0_ h0__1 h1_ h1__1 h1__2 h1__3 h1__4 h1__5 = some r) : EX 14 k (nav B14 [2, 2, 2, 1, 2, 2, 1, 2, 2]) ({ n := 112, F := [(1, V.ptr 30000 0), (4, V.ptr 30001 0), (18, V.sl 6 (rowsOf encT44 x18)), (19, V.p (Value.int .i64 x19)), (20, V.p (Value.int .i64 x20)), (78, V.sl 6 (rowsOf encT44 x78)), (79, V.p (Value.int .i64 x79)), (80, V.p (Value.int .i64 x80)), (81, V.p (Value.bool x81))], M := [(30000, O.box 24 [V.p (Value.int .i64 h0_), V.sl 6 (rowsOf encT44 h0__1)]), (30001, O.box 44 [V.p (Value.int .i64 h1_), V.p (Value.int .i64 h1__1), V.p (Value.int .i64 h1__2), V.p (Value.int .i64 h1__3), V.p (Value.int .i64 h1__4), V.p (Value.int .i64 h1__5)])] } : St) = some r.st := by
  unfold f14_airz_l2_j4 at hF
  cases hF
  simp (maxSteps := 999999) (disch := first | exact D (by decide) | exact K (by kernel_rfl)) only [E, EE, ↓reduceIte, simprocAttr, show (nav B14 [2, 2, 2, 1, 2, 2, 1, 2, 2]) = Code.region 14 _ false from rfl, hk_14_14, hz_14_14, hs_14_14, R14_airz_l2.st]
noncomputable def f14_airz_l2_j2 (k : Nat) (x3 : Int) (x18 : List T44) (x19 x20 : Int) (x74 : Bool) (h0_ : Int) (h0__1 : List T44) (m4 m4_1 m4_2 m4_3 m4_4 m4_5 : Int) : Option R14_airz_l2 :=
  ifE ((0 : Int) ≤ x3) (
    ifE ((Int.toNat x3) ≤ (List.length h0__1)) (
      Option.bind (f14_airz_l2_l3 k k x18 x19 x20 (List.take (Int.toNat x3) h0__1) ((List.length (List.take (Int.toNat x3) h0__1)) : Int) 0 h0_ h0__1 m4 m4_1 m4_2 m4_3 m4_4 m4_5) fun o3 =>
        match o3 with
        | .o0 v6 =>
          some (R14_airz_l2.o0 v6)
        | .o1 _ _ _ _ _ _ _ _ _ _ _ _ _ _ =>
          none
        | .o2 v7 v8 v9 v10 v11 v12 v13 v14 v15 v16 v17 v18 v19 v20 v21 =>
          f14_airz_l2_j4 k v7 v8 v9 v10 v11 v12 v13 v14 v15 v16 v17 v18 v19 v20 v21))
theorem f14_airz_l2_j2_ok (k : Nat) (x3 : Int) (x18 : List T44) (x19 x20 : Int) (x74 : Bool) (h0_ : Int) (h0__1 : List T44) (m4 m4_1 m4_2 m4_3 m4_4 m4_5 : Int) (r : R14_airz_l2) (hF : f14_airz_l2_j2 k x3 x18 x19 x20 x74 h0_ h0__1 m4 m4_1 m4_2 m4_3 m4_4 m4_5 = some r) : SQ 14 k (nav B14 [2, 2, 2, 1, 2, 2, 1, 2, 2]) (blockK 1 (EX 14 k (nav B14 [2, 2, 2, 1, 2, 2, 1, 2, 2, 1, 2, 2]) ({ n := 112, F := [(1, V.ptr 30000 0), (3, V.p (Value.int .i64 x3)), (4, V.ptr 4 0), (18, V.sl 6 (rowsOf encT44 x18)), (19, V.p (Value.int .i64 x19)), (20, V.p (Value.int .i64 x20)), (74, V.p (Value.bool x74))], M := [(30000, O.box 24 [V.p (Value.int .i64 h0_), V.sl 6 (rowsOf encT44 h0__1)]), (4, O.box 44 [V.p (Value.int .i64 m4), V.p (Value.int .i64 m4_1), V.p (Value.int .i64 m4_2), V.p (Value.int .i64 m4_3), V.p (Value.int .i64 m4_4), V.p (Value.int .i64 m4_5)])] } : St))) = some r.st := by
  unfold f14_airz_l2_j2 at hF
  replace hF := ifE_some.1 hF
  obtain ⟨h1, hF⟩ := hF
  replace hF := ifE_some.1 hF
  obtain ⟨h2, hF⟩ := hF
  replace hF := Option.bind_eq_some_iff.1 hF
  obtain ⟨o3, h4, hF⟩ := hF
  have hc5 := f14_airz_l2_l3_ok k k x18 x19 x20 (List.take (Int.toNat x3) h0__1) ((List.length (List.take (Int.toNat x3) h0__1)) : Int) 0 h0_ h0__1 m4 m4_1 m4_2 m4_3 m4_4 m4_5 _ h4
  simp (maxSteps := 999999) (disch := first | exact D (by decide) | exact K (by kernel_rfl)) only [E, EE, ↓reduceIte, simprocAttr, xk B14 [2, 2, 2, 1, 2, 2, 1, 2, 2, 1, 2, 2] .sq rfl, show (nav B14 [1, 2, 2, 2, 1, 2, 2, 1, 2, 2, 1, 2, 2]) = Code.region 8 _ false from rfl, hk_14_8, hz_14_8, hs_14_8, fieldAddrV, u_24, i_24, is_24, ib_24, iz_24, u_22, i_22, is_22, ib_22, iz_22, sliceV, bound, u_44, i_44, is_44, ib_44, iz_44, xk B14 [2, 2, 2, 2, 1, 2, 2, 1, 2, 2, 1, 2, 2] (.bk 2) rfl, xk B14 [2, 2, 2, 2, 2, 1, 2, 2, 1, 2, 2, 1, 2, 2] .lp rfl, hh_14_9, hc_14_9, h1, h2]
  (try simp only [NM, EE] at hc5)
  rw [hc5 _ (by simp (maxSteps := 999999) (disch := first | exact D (by decide) | exact K (by kernel_rfl)) only [E, EE, ↓reduceIte, simprocAttr, hh_14_9, hc_14_9, h1, h2])]
  clear hc5
  cases o3 with
  | o0 v6 =>
    (try dsimp only at hF)
    cases hF
    simp (maxSteps := 999999) (disch := first | exact D (by decide) | exact K (by kernel_rfl)) only [E, EE, ↓reduceIte, simprocAttr, R14_airz_l2_l3.st, R14_airz_l2.st, h1, h2]
  | o1 _ _ _ _ _ _ _ _ _ _ _ _ _ _ =>
    (try dsimp only at hF)
    cases hF
  | o2 v7 v8 v9 v10 v11 v12 v13 v14 v15 v16 v17 v18 v19 v20 v21 =>
    (try dsimp only at hF)
    have hJ := f14_airz_l2_j4_ok k v7 v8 v9 v10 v11 v12 v13 v14 v15 v16 v17 v18 v19 v20 v21 _ hF
    simp (maxSteps := 999999) (disch := first | exact D (by decide) | exact K (by kernel_rfl)) only [E, EE, ↓reduceIte, simprocAttr, R14_airz_l2_l3.st, h1, h2]
    try simp only [NM, EE] at hJ
    exact hJ
noncomputable def f14_airz_l2_j1 (k : Nat) (x18 : List T44) (x19 x20 : Int) (x21 : Bool) (h0_ : Int) (h0__1 : List T44) : Option R14_airz_l2 :=
  ifE ((0 : Int) ≤ x20) (
    Option.bind (x18[(Int.toNat x20)]?) fun v2 =>
      Option.bind (f21_iii k v2.From 1 h0_) fun o4 =>
        match o4 with
        | .o0 v7 =>
          cond ((!v7))
            (some (R14_airz_l2.o0 230))
            (
              Option.bind (f21_iii k v2.To 1 h0_) fun o9 =>
                match o9 with
                | .o0 v12 =>
                  cond ((!v12))
                    (some (R14_airz_l2.o0 230))
                    (
                      cond ((v2.From == v2.To))
                        (some (R14_airz_l2.o0 230))
                        (
                          cond ((decide (v2.Start < 0)))
                            (some (R14_airz_l2.o0 230))
                            (
                              cond ((decide (v2.Start ≥ v2.End)))
                                (some (R14_airz_l2.o0 230))
                                (
                                  cond ((decide (v2.End > 1048576)))
                                    (some (R14_airz_l2.o0 230))
                                    (
                                      Option.bind (f21_iii k v2.Rate 1 4096) fun o18 =>
                                        match o18 with
                                        | .o0 v21 =>
                                          cond ((!v21))
                                            (some (R14_airz_l2.o0 230))
                                            (
                                              Option.bind (f21_iii k v2.Delay 0 4096) fun o23 =>
                                                match o23 with
                                                | .o0 v26 =>
                                                  cond ((!v26))
                                                    (some (R14_airz_l2.o0 230))
                                                    (f14_airz_l2_j2 k x20 x18 x19 x20 false h0_ h0__1 v2.From v2.To v2.Start v2.End v2.Rate v2.Delay)))))))))
theorem f14_airz_l2_j1_ok (k : Nat) (x18 : List T44) (x19 x20 : Int) (x21 : Bool) (h0_ : Int) (h0__1 : List T44) (r : R14_airz_l2) (hF : f14_airz_l2_j1 k x18 x19 x20 x21 h0_ h0__1 = some r) : EX 14 k (nav B14 [2, 2, 1, 2, 2, 1, 2, 2]) ({ n := 112, F := [(1, V.ptr 30000 0), (18, V.sl 6 (rowsOf encT44 x18)), (19, V.p (Value.int .i64 x19)), (20, V.p (Value.int .i64 x20)), (21, V.p (Value.bool x21))], M := [(30000, O.box 24 [V.p (Value.int .i64 h0_), V.sl 6 (rowsOf encT44 h0__1)])] } : St) = some r.st := by
  unfold f14_airz_l2_j1 at hF
  replace hF := ifE_some.1 hF
  obtain ⟨h1, hF⟩ := hF
  replace hF := Option.bind_eq_some_iff.1 hF
  obtain ⟨v2, h3, hF⟩ := hF
  replace hF := Option.bind_eq_some_iff.1 hF
  obtain ⟨o4, h5, hF⟩ := hF
  have hc6 := f21_iii_ok k v2.From 1 h0_ _ h5
  cases o4 with
  | o0 v7 =>
    (try dsimp only at hF)
    (try simp only [NM, EE, R21_iii.st] at hc6)
    simp (maxSteps := 999999) (disch := first | exact D (by decide) | exact K (by kernel_rfl)) only [E, EE, ↓reduceIte, simprocAttr, xk B14 [2, 2, 1, 2, 2, 1, 2, 2] .sq rfl, xk B14 [1, 2, 2, 1, 2, 2, 1, 2, 2] (.bk 1) rfl, xk B14 [2, 1, 2, 2, 1, 2, 2, 1, 2, 2] .sq rfl, show (nav B14 [1, 2, 1, 2, 2, 1, 2, 2, 1, 2, 2]) = Code.region 5 _ false from rfl, hk_14_5, hz_14_5, hs_14_5, indexAddrV, u_22, i_22, is_22, ib_22, iz_22, u_44, i_44, is_44, ib_44, iz_44, encT44_eq, xk B14 [2, 2, 1, 2, 2, 1, 2, 2, 1, 2, 2] .sq rfl, xk B14 [1, 2, 2, 1, 2, 2, 1, 2, 2, 1, 2, 2] .sq rfl, show (nav B14 [1, 1, 2, 2, 1, 2, 2, 1, 2, 2, 1, 2, 2]) = Code.region 6 _ false from rfl, hk_14_6, hz_14_6, hs_14_6, fieldAddrV, u_3, i_3, is_3, ib_3, iz_3, u_24, i_24, is_24, ib_24, iz_24, callStep, CL, gv, List.contains, h1, h3, hc6]
    replace hF := cond_some hF
    rcases hF with ⟨h8, hF⟩ | ⟨h8, hF⟩
    · cases hF
      simp (maxSteps := 999999) (disch := first | exact D (by decide) | exact K (by kernel_rfl)) only [E, EE, ↓reduceIte, simprocAttr, xk B14 [2, 1, 2, 2, 1, 2, 2, 1, 2, 2, 1, 2, 2] (.cd 74) rfl, xk B14 [2, 2, 1, 2, 2, 1, 2, 2, 1, 2, 2, 1, 2, 2] .sq rfl, show (nav B14 [1, 2, 2, 1, 2, 2, 1, 2, 2, 1, 2, 2, 1, 2, 2]) = Code.region 7 _ false from rfl, hk_14_7, hz_14_7, hs_14_7, xk B14 [2, 2, 2, 1, 2, 2, 1, 2, 2, 1, 2, 2, 1, 2, 2] .rt rfl, R14_airz_l2.st, h1, h3, hc6, h8]
    · replace hF := Option.bind_eq_some_iff.1 hF
      obtain ⟨o9, h10, hF⟩ := hF
      have hc11 := f21_iii_ok k v2.To 1 h0_ _ h10
      cases o9 with
      | o0 v12 =>
        (try dsimp only at hF)
        (try simp only [NM, EE, R21_iii.st] at hc11)
        simp (maxSteps := 999999) (disch := first | exact D (by decide) | exact K (by kernel_rfl)) only [E, EE, ↓reduceIte, simprocAttr, fieldAddrV, u_44, i_44, is_44, ib_44, iz_44, u_3, i_3, is_3, ib_3, iz_3, u_24, i_24, is_24, ib_24, iz_24, callStep, CL, gv, List.contains, h1, h3, hc6, h8, hc11]
        replace hF := cond_some hF
        rcases hF with ⟨h13, hF⟩ | ⟨h13, hF⟩
        · cases hF
          simp (maxSteps := 999999) (disch := first | exact D (by decide) | exact K (by kernel_rfl)) only [E, EE, ↓reduceIte, simprocAttr, xk B14 [2, 1, 2, 2, 1, 2, 2, 1, 2, 2, 1, 2, 2] (.cd 74) rfl, xk B14 [2, 2, 1, 2, 2, 1, 2, 2, 1, 2, 2, 1, 2, 2] .sq rfl, show (nav B14 [1, 2, 2, 1, 2, 2, 1, 2, 2, 1, 2, 2, 1, 2, 2]) = Code.region 7 _ false from rfl, hk_14_7, hz_14_7, hs_14_7, xk B14 [2, 2, 2, 1, 2, 2, 1, 2, 2, 1, 2, 2, 1, 2, 2] .rt rfl, R14_airz_l2.st, h1, h3, hc6, h8, hc11, h13]
        · simp (maxSteps := 999999) (disch := first | exact D (by decide) | exact K (by kernel_rfl)) only [E, EE, ↓reduceIte, simprocAttr, fieldAddrV, u_44, i_44, is_44, ib_44, iz_44, u_3, i_3, is_3, ib_3, iz_3, h1, h3, hc6, h8, hc11, h13]
          replace hF := cond_some hF
          rcases hF with ⟨h14, hF⟩ | ⟨h14, hF⟩
          · cases hF
            simp (maxSteps := 999999) (disch := first | exact D (by decide) | exact K (by kernel_rfl)) only [E, EE, ↓reduceIte, simprocAttr, xk B14 [2, 1, 2, 2, 1, 2, 2, 1, 2, 2, 1, 2, 2] (.cd 74) rfl, xk B14 [2, 2, 1, 2, 2, 1, 2, 2, 1, 2, 2, 1, 2, 2] .sq rfl, show (nav B14 [1, 2, 2, 1, 2, 2, 1, 2, 2, 1, 2, 2, 1, 2, 2]) = Code.region 7 _ false from rfl, hk_14_7, hz_14_7, hs_14_7, xk B14 [2, 2, 2, 1, 2, 2, 1, 2, 2, 1, 2, 2, 1, 2, 2] .rt rfl, R14_airz_l2.st, h1, h3, hc6, h8, hc11, h13, h14]
          · simp (maxSteps := 999999) (disch := first | exact D (by decide) | exact K (by kernel_rfl)) only [E, EE, ↓reduceIte, simprocAttr, fieldAddrV, u_44, i_44, is_44, ib_44, iz_44, u_3, i_3, is_3, ib_3, iz_3, h1, h3, hc6, h8, hc11, h13, h14]
            replace hF := cond_some hF
            rcases hF with ⟨h15, hF⟩ | ⟨h15, hF⟩
            · cases hF
              simp (maxSteps := 999999) (disch := first | exact D (by decide) | exact K (by kernel_rfl)) only [E, EE, ↓reduceIte, simprocAttr, xk B14 [2, 1, 2, 2, 1, 2, 2, 1, 2, 2, 1, 2, 2] (.cd 74) rfl, xk B14 [2, 2, 1, 2, 2, 1, 2, 2, 1, 2, 2, 1, 2, 2] .sq rfl, show (nav B14 [1, 2, 2, 1, 2, 2, 1, 2, 2, 1, 2, 2, 1, 2, 2]) = Code.region 7 _ false from rfl, hk_14_7, hz_14_7, hs_14_7, xk B14 [2, 2, 2, 1, 2, 2, 1, 2, 2, 1, 2, 2, 1, 2, 2] .rt rfl, R14_airz_l2.st, h1, h3, hc6, h8, hc11, h13, h14, h15]
            · simp (maxSteps := 999999) (disch := first | exact D (by decide) | exact K (by kernel_rfl)) only [E, EE, ↓reduceIte, simprocAttr, fieldAddrV, u_44, i_44, is_44, ib_44, iz_44, u_3, i_3, is_3, ib_3, iz_3, h1, h3, hc6, h8, hc11, h13, h14, h15]
              replace hF := cond_some hF
              rcases hF with ⟨h16, hF⟩ | ⟨h16, hF⟩
              · cases hF
                simp (maxSteps := 999999) (disch := first | exact D (by decide) | exact K (by kernel_rfl)) only [E, EE, ↓reduceIte, simprocAttr, xk B14 [2, 1, 2, 2, 1, 2, 2, 1, 2, 2, 1, 2, 2] (.cd 74) rfl, xk B14 [2, 2, 1, 2, 2, 1, 2, 2, 1, 2, 2, 1, 2, 2] .sq rfl, show (nav B14 [1, 2, 2, 1, 2, 2, 1, 2, 2, 1, 2, 2, 1, 2, 2]) = Code.region 7 _ false from rfl, hk_14_7, hz_14_7, hs_14_7, xk B14 [2, 2, 2, 1, 2, 2, 1, 2, 2, 1, 2, 2, 1, 2, 2] .rt rfl, R14_airz_l2.st, h1, h3, hc6, h8, hc11, h13, h14, h15, h16]
              · simp (maxSteps := 999999) (disch := first | exact D (by decide) | exact K (by kernel_rfl)) only [E, EE, ↓reduceIte, simprocAttr, fieldAddrV, u_44, i_44, is_44, ib_44, iz_44, u_3, i_3, is_3, ib_3, iz_3, h1, h3, hc6, h8, hc11, h13, h14, h15, h16]
                replace hF := cond_some hF
                rcases hF with ⟨h17, hF⟩ | ⟨h17, hF⟩
                · cases hF
                  simp (maxSteps := 999999) (disch := first | exact D (by decide) | exact K (by kernel_rfl)) only [E, EE, ↓reduceIte, simprocAttr, xk B14 [2, 1, 2, 2, 1, 2, 2, 1, 2, 2, 1, 2, 2] (.cd 74) rfl, xk B14 [2, 2, 1, 2, 2, 1, 2, 2, 1, 2, 2, 1, 2, 2] .sq rfl, show (nav B14 [1, 2, 2, 1, 2, 2, 1, 2, 2, 1, 2, 2, 1, 2, 2]) = Code.region 7 _ false from rfl, hk_14_7, hz_14_7, hs_14_7, xk B14 [2, 2, 2, 1, 2, 2, 1, 2, 2, 1, 2, 2, 1, 2, 2] .rt rfl, R14_airz_l2.st, h1, h3, hc6, h8, hc11, h13, h14, h15, h16, h17]
                · replace hF := Option.bind_eq_some_iff.1 hF
                  obtain ⟨o18, h19, hF⟩ := hF
                  have hc20 := f21_iii_ok k v2.Rate 1 4096 _ h19
                  cases o18 with
                  | o0 v21 =>
                    (try dsimp only at hF)
                    (try simp only [NM, EE, R21_iii.st] at hc20)
                    simp (maxSteps := 999999) (disch := first | exact D (by decide) | exact K (by kernel_rfl)) only [E, EE, ↓reduceIte, simprocAttr, fieldAddrV, u_44, i_44, is_44, ib_44, iz_44, u_3, i_3, is_3, ib_3, iz_3, callStep, CL, gv, List.contains, h1, h3, hc6, h8, hc11, h13, h14, h15, h16, h17, hc20]
                    replace hF := cond_some hF
                    rcases hF with ⟨h22, hF⟩ | ⟨h22, hF⟩
                    · cases hF
                      simp (maxSteps := 999999) (disch := first | exact D (by decide) | exact K (by kernel_rfl)) only [E, EE, ↓reduceIte, simprocAttr, xk B14 [2, 1, 2, 2, 1, 2, 2, 1, 2, 2, 1, 2, 2] (.cd 74) rfl, xk B14 [2, 2, 1, 2, 2, 1, 2, 2, 1, 2, 2, 1, 2, 2] .sq rfl, show (nav B14 [1, 2, 2, 1, 2, 2, 1, 2, 2, 1, 2, 2, 1, 2, 2]) = Code.region 7 _ false from rfl, hk_14_7, hz_14_7, hs_14_7, xk B14 [2, 2, 2, 1, 2, 2, 1, 2, 2, 1, 2, 2, 1, 2, 2] .rt rfl, R14_airz_l2.st, h1, h3, hc6, h8, hc11, h13, h14, h15, h16, h17, hc20, h22]
                    · replace hF := Option.bind_eq_some_iff.1 hF
                      obtain ⟨o23, h24, hF⟩ := hF
                      have hc25 := f21_iii_ok k v2.Delay 0 4096 _ h24
                      cases o23 with
                      | o0 v26 =>
                        (try dsimp only at hF)
                        (try simp only [NM, EE, R21_iii.st] at hc25)
                        simp (maxSteps := 999999) (disch := first | exact D (by decide) | exact K (by kernel_rfl)) only [E, EE, ↓reduceIte, simprocAttr, fieldAddrV, u_44, i_44, is_44, ib_44, iz_44, u_3, i_3, is_3, ib_3, iz_3, callStep, CL, gv, List.contains, xk B14 [2, 1, 2, 2, 1, 2, 2, 1, 2, 2, 1, 2, 2] (.cd 74) rfl, h1, h3, hc6, h8, hc11, h13, h14, h15, h16, h17, hc20, h22, hc25]
                        replace hF := cond_some hF
                        rcases hF with ⟨h27, hF⟩ | ⟨h27, hF⟩
                        · cases hF
                          simp (maxSteps := 999999) (disch := first | exact D (by decide) | exact K (by kernel_rfl)) only [E, EE, ↓reduceIte, simprocAttr, xk B14 [2, 2, 1, 2, 2, 1, 2, 2, 1, 2, 2, 1, 2, 2] .sq rfl, show (nav B14 [1, 2, 2, 1, 2, 2, 1, 2, 2, 1, 2, 2, 1, 2, 2]) = Code.region 7 _ false from rfl, hk_14_7, hz_14_7, hs_14_7, xk B14 [2, 2, 2, 1, 2, 2, 1, 2, 2, 1, 2, 2, 1, 2, 2] .rt rfl, R14_airz_l2.st, h1, h3, hc6, h8, hc11, h13, h14, h15, h16, h17, hc20, h22, hc25, h27]
                        · have hJ := f14_airz_l2_j2_ok k x20 x18 x19 x20 false h0_ h0__1 v2.From v2.To v2.Start v2.End v2.Rate v2.Delay _ hF
                          simp (maxSteps := 999999) (disch := first | exact D (by decide) | exact K (by kernel_rfl)) only [E, EE, ↓reduceIte, simprocAttr, xk B14 [3, 2, 1, 2, 2, 1, 2, 2, 1, 2, 2, 1, 2, 2] .sk rfl, h1, h3, hc6, h8, hc11, h13, h14, h15, h16, h17, hc20, h22, hc25, h27]
                          try simp only [NM, EE] at hJ
                          exact hJ
noncomputable def f14_airz_l2_b (k : Nat) (x18 : List T44) (x19 x20 h0_ : Int) (h0__1 : List T44) : Option R14_airz_l2 :=
  cond ((decide (x20 < x19)))
    (f14_airz_l2_j1 k x18 x19 x20 true h0_ h0__1)
    (some (R14_airz_l2.o2 x18 x19 x20 false h0_ h0__1))
theorem f14_airz_l2_b_ok (k : Nat) (x18 : List T44) (x19 x20 h0_ : Int) (h0__1 : List T44) (r : R14_airz_l2) (hF : f14_airz_l2_b k x18 x19 x20 h0_ h0__1 = some r) : EX 14 k (nav B14 [1, 2, 2, 1, 2, 2]) ({ n := 112, F := [(1, V.ptr 30000 0), (18, V.sl 6 (rowsOf encT44 x18)), (19, V.p (Value.int .i64 x19)), (20, V.p (Value.int .i64 x20))], M := [(30000, O.box 24 [V.p (Value.int .i64 h0_), V.sl 6 (rowsOf encT44 h0__1)])] } : St) = some r.st := by
  unfold f14_airz_l2_b at hF
  simp (maxSteps := 999999) (disch := first | exact D (by decide) | exact K (by kernel_rfl)) only [E, EE, ↓reduceIte, simprocAttr, xk B14 [1, 2, 2, 1, 2, 2] .sq rfl, show (nav B14 [1, 1, 2, 2, 1, 2, 2]) = Code.region 4 _ false from rfl, hk_14_4, hz_14_4, hs_14_4, xk B14 [2, 1, 2, 2, 1, 2, 2] .sq rfl, xk B14 [1, 2, 1, 2, 2, 1, 2, 2] (.cd 21) rfl]
  replace hF := cond_some hF
  rcases hF with ⟨h1, hF⟩ | ⟨h1, hF⟩
  · have hJ := f14_airz_l2_j1_ok k x18 x19 x20 true h0_ h0__1 _ hF
    simp (maxSteps := 999999) (disch := first | exact D (by decide) | exact K (by kernel_rfl)) only [E, EE, ↓reduceIte, simprocAttr, xk B14 [2, 1, 2, 1, 2, 2, 1, 2, 2] .sk rfl, h1]
    try simp only [NM, EE] at hJ
    exact hJ
  · cases hF
    simp (maxSteps := 999999) (disch := first | exact D (by decide) | exact K (by kernel_rfl)) only [E, EE, ↓reduceIte, simprocAttr, xk B14 [3, 1, 2, 1, 2, 2, 1, 2, 2] (.ex 0) rfl, R14_airz_l2.st, h1]
noncomputable def f14_airz_l2 (k : Nat) : Nat → (List T44) → Int → Int → Int → (List T44) → Option R14_airz_l2
  | 0, _, _, _, _, _ => none
  | n + 1, x18, x19, x20, h0_, h0__1 => Option.bind (f14_airz_l2_b k x18 x19 x20 h0_ h0__1) fun o =>
    match o with
    | .o0 y => some (.o0 y)
    | .o1 y y_1 y_2 y_3 y_4 => f14_airz_l2 k n y y_1 y_2 y_3 y_4
    | .o2 y y_1 y_2 y_3 y_4 y_5 => some (.o2 y y_1 y_2 y_3 y_4 y_5)
theorem f14_airz_l2_ok (k n : Nat) : ∀ (x18 : List T44) (x19 x20 h0_ : Int) (h0__1 : List T44) (r : R14_airz_l2) (hF : f14_airz_l2 k n x18 x19 x20 h0_ h0__1 = some r) (σ : St) (hσ : headR (hints.head 14 4) (hints.canon 14 4) σ = some ({ n := 112, F := [(1, V.ptr 30000 0), (18, V.sl 6 (rowsOf encT44 x18)), (19, V.p (Value.int .i64 x19)), (20, V.p (Value.int .i64 x20))], M := [(30000, O.box 24 [V.p (Value.int .i64 h0_), V.sl 6 (rowsOf encT44 h0__1)])] } : St)), LP 14 k (nav B14 [1, 2, 2, 1, 2, 2]) n σ = some r.st := by
  induction n with
  | zero => intro x18 x19 x20 h0_ h0__1 r hF; cases hF
  | succ n ih =>
    intro x18 x19 x20 h0_ h0__1 r hF σ hσ
    rw [f14_airz_l2] at hF
    obtain ⟨o, h, hF⟩ := Option.bind_eq_some_iff.1 hF
    have hB := f14_airz_l2_b_ok k x18 x19 x20 h0_ h0__1 o h
    unfold LP at ih ⊢
    unfold EX at hB
    rw [loopK_succ, show firstReg (nav B14 [1, 2, 2, 1, 2, 2]) = 4 from rfl, hσ, headK_some, hB]
    cases o with
    | o0 y => cases hF; rfl
    | o1 y y_1 y_2 y_3 y_4 =>
      refine ih y y_1 y_2 y_3 y_4 r hF _ ?_
      simp (maxSteps := 999999) (disch := first | exact D (by decide) | exact K (by kernel_rfl)) only [E, EE, ↓reduceIte, simprocAttr, hh_14_4, hc_14_4]
    | o2 y y_1 y_2 y_3 y_4 y_5 => cases hF; rfl
noncomputable def f14_airz_j3 (k : Nat) (x18 : List T44) (x19 x20 : Int) (x21 : Bool) (h0_ : Int) (h0__1 : List T44) : Option R14_airz :=
  some (R14_airz.o0 0)
theorem f14_airz_j3_ok (k : Nat) (x18 : List T44) (x19 x20 : Int) (x21 : Bool) (h0_ : Int) (h0__1 : List T44) (r : R14_airz) (hF : f14_airz_j3 k x18 x19 x20 x21 h0_ h0__1 = some r) : finK Try.prog Try.f14 0 (EX 14 k (nav B14 [2, 2, 2]) ({ n := 112, F := [(1, V.ptr 30000 0), (18, V.sl 6 (rowsOf encT44 x18)), (19, V.p (Value.int .i64 x19)), (20, V.p (Value.int .i64 x20)), (21, V.p (Value.bool x21))], M := [(30000, O.box 24 [V.p (Value.int .i64 h0_), V.sl 6 (rowsOf encT44 h0__1)])] } : St)) = some r.st := by
  unfold f14_airz_j3 at hF
  cases hF
  simp (maxSteps := 999999) (disch := first | exact D (by decide) | exact K (by kernel_rfl)) only [E, EE, ↓reduceIte, simprocAttr, xk B14 [2, 2, 2] .sq rfl, show (nav B14 [1, 2, 2, 2]) = Code.region 15 _ false from rfl, hk_14_15, hz_14_15, hs_14_15, xk B14 [2, 2, 2, 2] .rt rfl, finK_norm, finK_ret, fin14, R14_airz.st]
noncomputable def f14_airz_j1 (k : Nat) (x16 : Bool) (m1 : Int) (m1_1 : List T44) : Option R14_airz :=
  Option.bind (f14_airz_l2 k k m1_1 ((List.length m1_1) : Int) 0 m1 m1_1) fun o1 =>
    match o1 with
    | .o0 v4 =>
      some (R14_airz.o0 v4)
    | .o1 _ _ _ _ _ =>
      none
    | .o2 v5 v6 v7 v8 v9 v10 =>
      f14_airz_j3 k v5 v6 v7 v8 v9 v10
theorem f14_airz_j1_ok (k : Nat) (x16 : Bool) (m1 : Int) (m1_1 : List T44) (r : R14_airz) (hF : f14_airz_j1 k x16 m1 m1_1 = some r) : finK Try.prog Try.f14 0 (EX 14 k (nav B14 [2, 2]) ({ n := 112, F := [(1, V.ptr 1 0), (16, V.p (Value.bool x16))], M := [(1, O.box 24 [V.p (Value.int .i64 m1), V.sl 6 (rowsOf encT44 m1_1)])] } : St)) = some r.st := by
  unfold f14_airz_j1 at hF
  replace hF := Option.bind_eq_some_iff.1 hF
  obtain ⟨o1, h2, hF⟩ := hF
  have hc3 := f14_airz_l2_ok k k m1_1 ((List.length m1_1) : Int) 0 m1 m1_1 _ h2
  simp (maxSteps := 999999) (disch := first | exact D (by decide) | exact K (by kernel_rfl)) only [E, EE, ↓reduceIte, simprocAttr, xk B14 [2, 2] .sq rfl, xk B14 [1, 2, 2] .sq rfl, show (nav B14 [1, 1, 2, 2]) = Code.region 3 _ false from rfl, hk_14_3, hz_14_3, hs_14_3, fieldAddrV, u_24, i_24, is_24, ib_24, iz_24, u_22, i_22, is_22, ib_22, iz_22, xk B14 [2, 1, 2, 2] (.bk 0) rfl, xk B14 [2, 2, 1, 2, 2] .lp rfl, hh_14_4, hc_14_4]
  (try simp only [NM, EE] at hc3)
  rw [hc3 _ (by simp (maxSteps := 999999) (disch := first | exact D (by decide) | exact K (by kernel_rfl)) only [E, EE, ↓reduceIte, simprocAttr, hh_14_4, hc_14_4])]
  clear hc3
  cases o1 with
  | o0 v4 =>
    (try dsimp only at hF)
    cases hF
    simp (maxSteps := 999999) (disch := first | exact D (by decide) | exact K (by kernel_rfl)) only [E, EE, ↓reduceIte, simprocAttr, R14_airz_l2.st, finK_norm, finK_ret, fin14, R14_airz.st]
  | o1 _ _ _ _ _ =>
    (try dsimp only at hF)
    cases hF
  | o2 v5 v6 v7 v8 v9 v10 =>
    (try dsimp only at hF)
    have hJ := f14_airz_j3_ok k v5 v6 v7 v8 v9 v10 _ hF
    simp (maxSteps := 999999) (disch := first | exact D (by decide) | exact K (by kernel_rfl)) only [E, EE, ↓reduceIte, simprocAttr, R14_airz_l2.st]
    try simp only [NM, EE] at hJ
    exact hJ
noncomputable def f14_airz_e (k : Nat) (a0 : Int) (a0_1 : List T44) : Option R14_airz :=
  Option.bind (f21_iii k a0 2 6) fun o1 =>
    match o1 with
    | .o0 v4 =>
      cond ((!v4))
        (some (R14_airz.o0 230))
        (
          cond ((decide (((List.length a0_1) : Int) > 24)))
            (some (R14_airz.o0 230))
            (f14_airz_j1 k false a0 a0_1))
theorem f14_airz_e_ok (k : Nat) (a0 : Int) (a0_1 : List T44) (r : R14_airz) (hF : f14_airz_e k a0 a0_1 = some r) : finK Try.prog Try.f14 0 (EX 14 k (nav B14 []) ({ n := 112, F := [(0, V.agg [V.p (Value.int .i64 a0), V.sl 6 (rowsOf encT44 a0_1)])], M := [] } : St)) = some r.st := by
  unfold f14_airz_e at hF
  replace hF := Option.bind_eq_some_iff.1 hF
  obtain ⟨o1, h2, hF⟩ := hF
  have hc3 := f21_iii_ok k a0 2 6 _ h2
  cases o1 with
  | o0 v4 =>
    (try dsimp only at hF)
    (try simp only [NM, EE, R21_iii.st] at hc3)
    simp (maxSteps := 999999) (disch := first | exact D (by decide) | exact K (by kernel_rfl)) only [E, EE, ↓reduceIte, simprocAttr, xk B14 [] .sq rfl, show (nav B14 [1]) = Code.region 0 _ false from rfl, hk_14_0, hz_14_0, hs_14_0, xk B14 [2] .sq rfl, xk B14 [1, 2] .sq rfl, show (nav B14 [1, 1, 2]) = Code.region 1 _ false from rfl, hk_14_1, hz_14_1, hs_14_1, fieldAddrV, u_24, i_24, is_24, ib_24, iz_24, u_3, i_3, is_3, ib_3, iz_3, callStep, CL, gv, List.contains, hc3]
    replace hF := cond_some hF
    rcases hF with ⟨h5, hF⟩ | ⟨h5, hF⟩
    · cases hF
      simp (maxSteps := 999999) (disch := first | exact D (by decide) | exact K (by kernel_rfl)) only [E, EE, ↓reduceIte, simprocAttr, xk B14 [2, 1, 2] (.cd 16) rfl, xk B14 [2, 2, 1, 2] .sq rfl, show (nav B14 [1, 2, 2, 1, 2]) = Code.region 2 _ false from rfl, hk_14_2, hz_14_2, hs_14_2, xk B14 [2, 2, 2, 1, 2] .rt rfl, finK_norm, finK_ret, fin14, R14_airz.st, hc3, h5]
    · simp (maxSteps := 999999) (disch := first | exact D (by decide) | exact K (by kernel_rfl)) only [E, EE, ↓reduceIte, simprocAttr, fieldAddrV, u_24, i_24, is_24, ib_24, iz_24, u_22, i_22, is_22, ib_22, iz_22, xk B14 [2, 1, 2] (.cd 16) rfl, hc3, h5]
      replace hF := cond_some hF
      rcases hF with ⟨h6, hF⟩ | ⟨h6, hF⟩
      · cases hF
        simp (maxSteps := 999999) (disch := first | exact D (by decide) | exact K (by kernel_rfl)) only [E, EE, ↓reduceIte, simprocAttr, xk B14 [2, 2, 1, 2] .sq rfl, show (nav B14 [1, 2, 2, 1, 2]) = Code.region 2 _ false from rfl, hk_14_2, hz_14_2, hs_14_2, xk B14 [2, 2, 2, 1, 2] .rt rfl, finK_norm, finK_ret, fin14, R14_airz.st, hc3, h5, h6]
      · have hJ := f14_airz_j1_ok k false a0 a0_1 _ hF
        simp (maxSteps := 999999) (disch := first | exact D (by decide) | exact K (by kernel_rfl)) only [E, EE, ↓reduceIte, simprocAttr, xk B14 [3, 2, 1, 2] .sk rfl, hc3, h5, h6]
        try simp only [NM, EE] at hJ
        exact hJ
noncomputable def f14_airz (k : Nat) (a0 : Int) (a0_1 : List T44) : Option R14_airz := match k with | 0 => none | k + 1 => f14_airz_e k a0 a0_1
theorem f14_airz_ok (k : Nat) (a0 : Int) (a0_1 : List T44) (r : R14_airz) (hF : f14_airz k a0 a0_1 = some r) : CV k 14 [V.agg [V.p (Value.int .i64 a0), V.sl 6 (rowsOf encT44 a0_1)]] [] = some r.st := by
  cases k with
  | zero => cases hF
  | succ k =>
    unfold CV
    rw [ev_call (F := Try.f14) (c := (nav B14 [])) rfl Try.func14 rfl rfl rfl rfl]
    exact f14_airz_e_ok k a0 a0_1 r hF
-- f16_ai6z: f16 heliograph/plan.Volume
inductive R16_ai6z where
  | o0 (y : Int)
noncomputable def R16_ai6z.st : R16_ai6z → V × List O × List O
  | .o0 y => (V.p (Value.int .i64 y), [], [])
noncomputable def f16_ai6z_j1 (k : Nat) (x27 : Bool) (m1 m1_1 m1_2 m1_3 m1_4 m1_5 : Int) : Option R16_ai6z :=
  some (R16_ai6z.o0 (IntKind.i64.wrap (m1_4 * (IntKind.i64.wrap (m1_3 - m1_2)))))
theorem f16_ai6z_j1_ok (k : Nat) (x27 : Bool) (m1 m1_1 m1_2 m1_3 m1_4 m1_5 : Int) (r : R16_ai6z) (hF : f16_ai6z_j1 k x27 m1 m1_1 m1_2 m1_3 m1_4 m1_5 = some r) : finK Try.prog Try.f16 0 (EX 16 k (nav B16 [2, 2]) ({ n := 36, F := [(1, V.ptr 1 0), (27, V.p (Value.bool x27))], M := [(1, O.box 44 [V.p (Value.int .i64 m1), V.p (Value.int .i64 m1_1), V.p (Value.int .i64 m1_2), V.p (Value.int .i64 m1_3), V.p (Value.int .i64 m1_4), V.p (Value.int .i64 m1_5)])] } : St)) = some r.st := by
  unfold f16_ai6z_j1 at hF
  cases hF
  simp (maxSteps := 999999) (disch := first | exact D (by decide) | exact K (by kernel_rfl)) only [E, EE, ↓reduceIte, simprocAttr, xk B16 [2, 2] .sq rfl, show (nav B16 [1, 2, 2]) = Code.region 3 _ false from rfl, hk_16_3, hz_16_3, hs_16_3, fieldAddrV, u_44, i_44, is_44, ib_44, iz_44, u_3, i_3, is_3, ib_3, iz_3, xk B16 [2, 2, 2] .rt rfl, finK_norm, finK_ret, fin16, R16_ai6z.st]
noncomputable def f16_ai6z_e (k : Nat) (a0 a0_1 a0_2 a0_3 a0_4 a0_5 : Int) : Option R16_ai6z :=
  cond ((decide (a0_4 < 0)))
    (some (R16_ai6z.o0 0))
    (
      cond ((decide (a0_2 < 0)))
        (some (R16_ai6z.o0 0))
        (
          cond ((decide (a0_3 ≤ a0_2)))
            (some (R16_ai6z.o0 0))
            (
              cond ((decide (a0_4 > 1048576)))
                (some (R16_ai6z.o0 0))
                (
                  cond ((decide (a0_3 > 1048576)))
                    (some (R16_ai6z.o0 0))
                    (f16_ai6z_j1 k false a0 a0_1 a0_2 a0_3 a0_4 a0_5)))))
theorem f16_ai6z_e_ok (k : Nat) (a0 a0_1 a0_2 a0_3 a0_4 a0_5 : Int) (r : R16_ai6z) (hF : f16_ai6z_e k a0 a0_1 a0_2 a0_3 a0_4 a0_5 = some r) : finK Try.prog Try.f16 0 (EX 16 k (nav B16 []) ({ n := 36, F := [(0, V.agg [V.p (Value.int .i64 a0), V.p (Value.int .i64 a0_1), V.p (Value.int .i64 a0_2), V.p (Value.int .i64 a0_3), V.p (Value.int .i64 a0_4), V.p (Value.int .i64 a0_5)])], M := [] } : St)) = some r.st := by
  unfold f16_ai6z_e at hF
  simp (maxSteps := 999999) (disch := first | exact D (by decide) | exact K (by kernel_rfl)) only [E, EE, ↓reduceIte, simprocAttr, xk B16 [] .sq rfl, show (nav B16 [1]) = Code.region 0 _ false from rfl, hk_16_0, hz_16_0, hs_16_0, xk B16 [2] .sq rfl, xk B16 [1, 2] .sq rfl, show (nav B16 [1, 1, 2]) = Code.region 1 _ false from rfl, hk_16_1, hz_16_1, hs_16_1, fieldAddrV, u_44, i_44, is_44, ib_44, iz_44, u_3, i_3, is_3, ib_3, iz_3]
  replace hF := cond_some hF
  rcases hF with ⟨h1, hF⟩ | ⟨h1, hF⟩
  · cases hF
    simp (maxSteps := 999999) (disch := first | exact D (by decide) | exact K (by kernel_rfl)) only [E, EE, ↓reduceIte, simprocAttr, xk B16 [2, 1, 2] (.cd 27) rfl, xk B16 [2, 2, 1, 2] .sq rfl, show (nav B16 [1, 2, 2, 1, 2]) = Code.region 2 _ false from rfl, hk_16_2, hz_16_2, hs_16_2, xk B16 [2, 2, 2, 1, 2] .rt rfl, finK_norm, finK_ret, fin16, R16_ai6z.st, h1]
  · simp (maxSteps := 999999) (disch := first | exact D (by decide) | exact K (by kernel_rfl)) only [E, EE, ↓reduceIte, simprocAttr, fieldAddrV, u_44, i_44, is_44, ib_44, iz_44, u_3, i_3, is_3, ib_3, iz_3, h1]
    replace hF := cond_some hF
    rcases hF with ⟨h2, hF⟩ | ⟨h2, hF⟩
    · cases hF
      simp (maxSteps := 999999) (disch := first | exact D (by decide) | exact K (by kernel_rfl)) only [E, EE, ↓reduceIte, simprocAttr, xk B16 [2, 1, 2] (.cd 27) rfl, xk B16 [2, 2, 1, 2] .sq rfl, show (nav B16 [1, 2, 2, 1, 2]) = Code.region 2 _ false from rfl, hk_16_2, hz_16_2, hs_16_2, xk B16 [2, 2, 2, 1, 2] .rt rfl, finK_norm, finK_ret, fin16, R16_ai6z.st, h1, h2]
    · simp (maxSteps := 999999) (disch := first | exact D (by decide) | exact K (by kernel_rfl)) only [E, EE, ↓reduceIte, simprocAttr, fieldAddrV, u_44, i_44, is_44, ib_44, iz_44, u_3, i_3, is_3, ib_3, iz_3, h1, h2]
      replace hF := cond_some hF
      rcases hF with ⟨h3, hF⟩ | ⟨h3, hF⟩
      · cases hF
        simp (maxSteps := 999999) (disch := first | exact D (by decide) | exact K (by kernel_rfl)) only [E, EE, ↓reduceIte, simprocAttr, xk B16 [2, 1, 2] (.cd 27) rfl, xk B16 [2, 2, 1, 2] .sq rfl, show (nav B16 [1, 2, 2, 1, 2]) = Code.region 2 _ false from rfl, hk_16_2, hz_16_2, hs_16_2, xk B16 [2, 2, 2, 1, 2] .rt rfl, finK_norm, finK_ret, fin16, R16_ai6z.st, h1, h2, h3]
      · simp (maxSteps := 999999) (disch := first | exact D (by decide) | exact K (by kernel_rfl)) only [E, EE, ↓reduceIte, simprocAttr, fieldAddrV, u_44, i_44, is_44, ib_44, iz_44, u_3, i_3, is_3, ib_3, iz_3, h1, h2, h3]
        replace hF := cond_some hF
        rcases hF with ⟨h4, hF⟩ | ⟨h4, hF⟩
        · cases hF
          simp (maxSteps := 999999) (disch := first | exact D (by decide) | exact K (by kernel_rfl)) only [E, EE, ↓reduceIte, simprocAttr, xk B16 [2, 1, 2] (.cd 27) rfl, xk B16 [2, 2, 1, 2] .sq rfl, show (nav B16 [1, 2, 2, 1, 2]) = Code.region 2 _ false from rfl, hk_16_2, hz_16_2, hs_16_2, xk B16 [2, 2, 2, 1, 2] .rt rfl, finK_norm, finK_ret, fin16, R16_ai6z.st, h1, h2, h3, h4]
        · simp (maxSteps := 999999) (disch := first | exact D (by decide) | exact K (by kernel_rfl)) only [E, EE, ↓reduceIte, simprocAttr, fieldAddrV, u_44, i_44, is_44, ib_44, iz_44, u_3, i_3, is_3, ib_3, iz_3, xk B16 [2, 1, 2] (.cd 27) rfl, h1, h2, h3, h4]
          replace hF := cond_some hF
          rcases hF with ⟨h5, hF⟩ | ⟨h5, hF⟩
          · cases hF
            simp (maxSteps := 999999) (disch := first | exact D (by decide) | exact K (by kernel_rfl)) only [E, EE, ↓reduceIte, simprocAttr, xk B16 [2, 2, 1, 2] .sq rfl, show (nav B16 [1, 2, 2, 1, 2]) = Code.region 2 _ false from rfl, hk_16_2, hz_16_2, hs_16_2, xk B16 [2, 2, 2, 1, 2] .rt rfl, finK_norm, finK_ret, fin16, R16_ai6z.st, h1, h2, h3, h4, h5]
          · have hJ := f16_ai6z_j1_ok k false a0 a0_1 a0_2 a0_3 a0_4 a0_5 _ hF
            simp (maxSteps := 999999) (disch := first | exact D (by decide) | exact K (by kernel_rfl)) only [E, EE, ↓reduceIte, simprocAttr, xk B16 [3, 2, 1, 2] .sk rfl, h1, h2, h3, h4, h5]
            try simp only [NM, EE] at hJ
            exact hJ
noncomputable def f16_ai6z (k : Nat) (a0 a0_1 a0_2 a0_3 a0_4 a0_5 : Int) : Option R16_ai6z := match k with | 0 => none | k + 1 => f16_ai6z_e k a0 a0_1 a0_2 a0_3 a0_4 a0_5
theorem f16_ai6z_ok (k : Nat) (a0 a0_1 a0_2 a0_3 a0_4 a0_5 : Int) (r : R16_ai6z) (hF : f16_ai6z k a0 a0_1 a0_2 a0_3 a0_4 a0_5 = some r) : CV k 16 [V.agg [V.p (Value.int .i64 a0), V.p (Value.int .i64 a0_1), V.p (Value.int .i64 a0_2), V.p (Value.int .i64 a0_3), V.p (Value.int .i64 a0_4), V.p (Value.int .i64 a0_5)]] [] = some r.st := by
  cases k with
  | zero => cases hF
  | succ k =>
    unfold CV
    rw [ev_call (F := Try.f16) (c := (nav B16 [])) rfl Try.func16 rfl rfl rfl rfl]
    exact f16_ai6z_e_ok k a0 a0_1 a0_2 a0_3 a0_4 a0_5 r hF
-- f12_airz: f12 heliograph/plan.Volumes
inductive R12_airz where
  | o0 (y : List Int)
noncomputable def R12_airz.st : R12_airz → V × List O × List O
  | .o0 y => (V.own 2000000, [], [O.row true 1 3 (rowsOf (encI .i64) y)])
inductive R12_airz_l2 where
  | o0 (y : List T44) (y_1 y_2 : Int) (y_3 : List Int)
  | o1 (y : List T44) (y_1 y_2 : Int) (y_3 : Bool) (y_4 : List Int)
noncomputable def R12_airz_l2.st : R12_airz_l2 → Out × St
  | .o0 y y_1 y_2 y_3 => (.norm, ({ n := 23, F := [(3, V.own 20), (10, V.sl 6 (rowsOf encT44 y)), (11, V.p (Value.int .i64 y_1)), (12, V.p (Value.int .i64 y_2))], M := [(20, O.row true 1 3 (rowsOf (encI .i64) y_3))] } : St))
  | .o1 y y_1 y_2 y_3 y_4 => (.exit 0, ({ n := 23, F := [(3, V.own 30000), (10, V.sl 6 (rowsOf encT44 y)), (11, V.p (Value.int .i64 y_1)), (12, V.p (Value.int .i64 y_2)), (13, V.p (Value.bool y_3))], M := [(30000, O.row true 1 3 (rowsOf (encI .i64) y_4))] } : St))
noncomputable def f12_airz_l2_j2 (k : Nat) (x10 : List T44) (x11 x12 : Int) (m20 : List Int) : Option R12_airz_l2 :=
  some (R12_airz_l2.o0 x10 x11 (IntKind.i64.wrap (x12 + (1 : Int))) m20)
theorem f12_airz_l2_j2_ok (k : Nat) (x10 : List T44) (x11 x12 : Int) (m20 : List Int) (r : R12_airz_l2) (hF : f12_airz_l2_j2 k x10 x11 x12 m20 = some r) : EX 12 k (nav B12 [2, 2, 2, 1, 2, 2, 1, 2, 2, 2]) ({ n := 23, F := [(3, V.own 20), (10, V.sl 6 (rowsOf encT44 x10)), (11, V.p (Value.int .i64 x11)), (12, V.p (Value.int .i64 x12))], M := [(20, O.row true 1 3 (rowsOf (encI .i64) m20))] } : St) = some r.st := by
  unfold f12_airz_l2_j2 at hF
  cases hF
  simp (maxSteps := 999999) (disch := first | exact D (by decide) | exact K (by kernel_rfl)) only [E, EE, ↓reduceIte, simprocAttr, show (nav B12 [2, 2, 2, 1, 2, 2, 1, 2, 2, 2]) = Code.region 8 _ false from rfl, hk_12_8, hz_12_8, hs_12_8, R12_airz_l2.st]
noncomputable def f12_airz_l2_j1 (k : Nat) (x10 : List T44) (x11 x12 : Int) (x13 : Bool) (h0_ : List Int) : Option R12_airz_l2 :=
  ifE ((0 : Int) ≤ x12) (
    Option.bind (x10[(Int.toNat x12)]?) fun v2 =>
      Option.bind (f16_ai6z k v2.From v2.To v2.Start v2.End v2.Rate v2.Delay) fun o4 =>
        match o4 with
        | .o0 v7 =>
          ifE (((List.length h0_) + 1) * 8 ≤ roomy) (
            f12_airz_l2_j2 k x10 x11 x12 (h0_ ++ ([v7] : List Int))))
theorem f12_airz_l2_j1_ok (k : Nat) (x10 : List T44) (x11 x12 : Int) (x13 : Bool) (h0_ : List Int) (r : R12_airz_l2) (hF : f12_airz_l2_j1 k x10 x11 x12 x13 h0_ = some r) : EX 12 k (nav B12 [2, 2, 1, 2, 2, 1, 2, 2, 2]) ({ n := 23, F := [(3, V.own 30000), (10, V.sl 6 (rowsOf encT44 x10)), (11, V.p (Value.int .i64 x11)), (12, V.p (Value.int .i64 x12)), (13, V.p (Value.bool x13))], M := [(30000, O.row true 1 3 (rowsOf (encI .i64) h0_))] } : St) = some r.st := by
  unfold f12_airz_l2_j1 at hF
  replace hF := ifE_some.1 hF
  obtain ⟨h1, hF⟩ := hF
  replace hF := Option.bind_eq_some_iff.1 hF
  obtain ⟨v2, h3, hF⟩ := hF
  replace hF := Option.bind_eq_some_iff.1 hF
  obtain ⟨o4, h5, hF⟩ := hF
  have hc6 := f16_ai6z_ok k v2.From v2.To v2.Start v2.End v2.Rate v2.Delay _ h5
  cases o4 with
  | o0 v7 =>
    (try dsimp only at hF)
    (try simp only [NM, EE, R16_ai6z.st] at hc6)
    have q8 : [[V.p (Value.int .i64 v7)]] = rowsOf (encI .i64) ([v7] : List Int) := rfl
    have q9 : List.map (tell [0]) (rowsOf (encI .i64) ([v7] : List Int)) = rowsOf (encI .i64) ([v7] : List Int) := rfl
    replace hF := ifE_some.1 hF
    obtain ⟨h10, hF⟩ := hF
    have hJ := f12_airz_l2_j2_ok k x10 x11 x12 (h0_ ++ ([v7] : List Int)) _ hF
    simp (maxSteps := 999999) (disch := first | exact D (by decide) | exact K (by kernel_rfl)) only [E, EE, ↓reduceIte, simprocAttr, xk B12 [2, 2, 1, 2, 2, 1, 2, 2, 2] .sq rfl, xk B12 [1, 2, 2, 1, 2, 2, 1, 2, 2, 2] (.bk 1) rfl, xk B12 [2, 1, 2, 2, 1, 2, 2, 1, 2, 2, 2] .sq rfl, show (nav B12 [1, 2, 1, 2, 2, 1, 2, 2, 1, 2, 2, 2]) = Code.region 6 _ false from rfl, hk_12_6, hz_12_6, hs_12_6, indexAddrV, u_22, i_22, is_22, ib_22, iz_22, u_44, i_44, is_44, ib_44, iz_44, encT44_eq, show (nav B12 [2, 2, 1, 2, 2, 1, 2, 2, 1, 2, 2, 2]) = Code.region 7 _ false from rfl, hk_12_7, hz_12_7, hs_12_7, callStep, CL, gv, List.contains, buildSliceV, fillRows, sm_3, u_25, i_25, is_25, ib_25, iz_25, u_3, i_3, is_3, ib_3, iz_3, appendV, content, h1, h3, hc6, q8, q9, h10]
    try simp only [NM, EE] at hJ
    exact hJ
noncomputable def f12_airz_l2_b (k : Nat) (x10 : List T44) (x11 x12 : Int) (h0_ : List Int) : Option R12_airz_l2 :=
  cond ((decide (x12 < x11)))
    (f12_airz_l2_j1 k x10 x11 x12 true h0_)
    (some (R12_airz_l2.o1 x10 x11 x12 false h0_))
theorem f12_airz_l2_b_ok (k : Nat) (x10 : List T44) (x11 x12 : Int) (h0_ : List Int) (r : R12_airz_l2) (hF : f12_airz_l2_b k x10 x11 x12 h0_ = some r) : EX 12 k (nav B12 [1, 2, 2, 1, 2, 2, 2]) ({ n := 23, F := [(3, V.own 30000), (10, V.sl 6 (rowsOf encT44 x10)), (11, V.p (Value.int .i64 x11)), (12, V.p (Value.int .i64 x12))], M := [(30000, O.row true 1 3 (rowsOf (encI .i64) h0_))] } : St) = some r.st := by
  unfold f12_airz_l2_b at hF
  simp (maxSteps := 999999) (disch := first | exact D (by decide) | exact K (by kernel_rfl)) only [E, EE, ↓reduceIte, simprocAttr, xk B12 [1, 2, 2, 1, 2, 2, 2] .sq rfl, show (nav B12 [1, 1, 2, 2, 1, 2, 2, 2]) = Code.region 5 _ false from rfl, hk_12_5, hz_12_5, hs_12_5, xk B12 [2, 1, 2, 2, 1, 2, 2, 2] .sq rfl, xk B12 [1, 2, 1, 2, 2, 1, 2, 2, 2] (.cd 13) rfl]
  replace hF := cond_some hF
  rcases hF with ⟨h1, hF⟩ | ⟨h1, hF⟩
  · have hJ := f12_airz_l2_j1_ok k x10 x11 x12 true h0_ _ hF
    simp (maxSteps := 999999) (disch := first | exact D (by decide) | exact K (by kernel_rfl)) only [E, EE, ↓reduceIte, simprocAttr, xk B12 [2, 1, 2, 1, 2, 2, 1, 2, 2, 2] .sk rfl, h1]
    try simp only [NM, EE] at hJ
    exact hJ
  · cases hF
    simp (maxSteps := 999999) (disch := first | exact D (by decide) | exact K (by kernel_rfl)) only [E, EE, ↓reduceIte, simprocAttr, xk B12 [3, 1, 2, 1, 2, 2, 1, 2, 2, 2] (.ex 0) rfl, R12_airz_l2.st, h1]
noncomputable def f12_airz_l2 (k : Nat) : Nat → (List T44) → Int → Int → (List Int) → Option R12_airz_l2
  | 0, _, _, _, _ => none
  | n + 1, x10, x11, x12, h0_ => Option.bind (f12_airz_l2_b k x10 x11 x12 h0_) fun o =>
    match o with
    | .o0 y y_1 y_2 y_3 => f12_airz_l2 k n y y_1 y_2 y_3
    | .o1 y y_1 y_2 y_3 y_4 => some (.o1 y y_1 y_2 y_3 y_4)
theorem f12_airz_l2_ok (k n : Nat) : ∀ (x10 : List T44) (x11 x12 : Int) (h0_ : List Int) (r : R12_airz_l2) (hF : f12_airz_l2 k n x10 x11 x12 h0_ = some r) (σ : St) (hσ : headR (hints.head 12 5) (hints.canon 12 5) σ = some ({ n := 23, F := [(3, V.own 30000), (10, V.sl 6 (rowsOf encT44 x10)), (11, V.p (Value.int .i64 x11)), (12, V.p (Value.int .i64 x12))], M := [(30000, O.row true 1 3 (rowsOf (encI .i64) h0_))] } : St)), LP 12 k (nav B12 [1, 2, 2, 1, 2, 2, 2]) n σ = some r.st := by
  induction n with
  | zero => intro x10 x11 x12 h0_ r hF; cases hF
  | succ n ih =>
    intro x10 x11 x12 h0_ r hF σ hσ
    rw [f12_airz_l2] at hF
    obtain ⟨o, h, hF⟩ := Option.bind_eq_some_iff.1 hF
    have hB := f12_airz_l2_b_ok k x10 x11 x12 h0_ o h
    unfold LP at ih ⊢
    unfold EX at hB
    rw [loopK_succ, show firstReg (nav B12 [1, 2, 2, 1, 2, 2, 2]) = 5 from rfl, hσ, headK_some, hB]
    cases o with
    | o0 y y_1 y_2 y_3 =>
      refine ih y y_1 y_2 y_3 r hF _ ?_
      simp (maxSteps := 999999) (disch := first | exact D (by decide) | exact K (by kernel_rfl)) only [E, EE, ↓reduceIte, simprocAttr, hh_12_5, hc_12_5]
    | o1 y y_1 y_2 y_3 y_4 => cases hF; rfl
noncomputable def f12_airz_j3 (k : Nat) (x10 : List T44) (x11 x12 : Int) (x13 : Bool) (h0_ : List Int) : Option R12_airz :=
  some (R12_airz.o0 h0_)
theorem f12_airz_j3_ok (k : Nat) (x10 : List T44) (x11 x12 : Int) (x13 : Bool) (h0_ : List Int) (r : R12_airz) (hF : f12_airz_j3 k x10 x11 x12 x13 h0_ = some r) : finK Try.prog Try.f12 0 (EX 12 k (nav B12 [2, 2, 2, 2]) ({ n := 23, F := [(3, V.own 30000), (10, V.sl 6 (rowsOf encT44 x10)), (11, V.p (Value.int .i64 x11)), (12, V.p (Value.int .i64 x12)), (13, V.p (Value.bool x13))], M := [(30000, O.row true 1 3 (rowsOf (encI .i64) h0_))] } : St)) = some r.st := by
  unfold f12_airz_j3 at hF
  cases hF
  simp (maxSteps := 999999) (disch := first | exact D (by decide) | exact K (by kernel_rfl)) only [E, EE, ↓reduceIte, simprocAttr, xk B12 [2, 2, 2, 2] .sq rfl, show (nav B12 [1, 2, 2, 2, 2]) = Code.region 9 _ false from rfl, hk_12_9, hz_12_9, hs_12_9, xk B12 [2, 2, 2, 2, 2] .rt rfl, finK_norm, finK_ret, fin12, R12_airz.st]
noncomputable def f12_airz_j1 (k : Nat) (x8 : Bool) (m1 : Int) (m1_1 : List T44) : Option R12_airz :=
  Option.bind (f12_airz_l2 k k m1_1 ((List.length m1_1) : Int) 0 []) fun o1 =>
    match o1 with
    | .o0 _ _ _ _ =>
      none
    | .o1 v4 v5 v6 v7 v8 =>
      f12_airz_j3 k v4 v5 v6 v7 v8
theorem f12_airz_j1_ok (k : Nat) (x8 : Bool) (m1 : Int) (m1_1 : List T44) (r : R12_airz) (hF : f12_airz_j1 k x8 m1 m1_1 = some r) : finK Try.prog Try.f12 0 (EX 12 k (nav B12 [2, 2]) ({ n := 23, F := [(1, V.ptr 1 0), (8, V.p (Value.bool x8))], M := [(1, O.box 24 [V.p (Value.int .i64 m1), V.sl 6 (rowsOf encT44 m1_1)])] } : St)) = some r.st := by
  unfold f12_airz_j1 at hF
  replace hF := Option.bind_eq_some_iff.1 hF
  obtain ⟨o1, h2, hF⟩ := hF
  have hc3 := f12_airz_l2_ok k k m1_1 ((List.length m1_1) : Int) 0 [] _ h2
  simp (maxSteps := 999999) (disch := first | exact D (by decide) | exact K (by kernel_rfl)) only [E, EE, ↓reduceIte, simprocAttr, xk B12 [2, 2] .sq rfl, show (nav B12 [1, 2, 2]) = Code.region 3 _ false from rfl, hk_12_3, hz_12_3, hs_12_3, xk B12 [2, 2, 2] .sq rfl, xk B12 [1, 2, 2, 2] .sq rfl, show (nav B12 [1, 1, 2, 2, 2]) = Code.region 4 _ false from rfl, hk_12_4, hz_12_4, hs_12_4, fieldAddrV, u_24, i_24, is_24, ib_24, iz_24, u_22, i_22, is_22, ib_22, iz_22, xk B12 [2, 1, 2, 2, 2] (.bk 0) rfl, xk B12 [2, 2, 1, 2, 2, 2] .lp rfl, hh_12_5, hc_12_5]
  (try simp only [NM, EE] at hc3)
  rw [hc3 _ (by simp (maxSteps := 999999) (disch := first | exact D (by decide) | exact K (by kernel_rfl)) only [E, EE, ↓reduceIte, simprocAttr, hh_12_5, hc_12_5])]
  clear hc3
  cases o1 with
  | o0 _ _ _ _ =>
    (try dsimp only at hF)
    cases hF
  | o1 v4 v5 v6 v7 v8 =>
    (try dsimp only at hF)
    have hJ := f12_airz_j3_ok k v4 v5 v6 v7 v8 _ hF
    simp (maxSteps := 999999) (disch := first | exact D (by decide) | exact K (by kernel_rfl)) only [E, EE, ↓reduceIte, simprocAttr, R12_airz_l2.st]
    try simp only [NM, EE] at hJ
    exact hJ
noncomputable def f12_airz_e (k : Nat) (a0 : Int) (a0_1 : List T44) : Option R12_airz :=
  Option.bind (f14_airz k a0 a0_1) fun o1 =>
    match o1 with
    | .o0 v4 =>
      cond ((v4 != 0))
        (some (R12_airz.o0 []))
        (f12_airz_j1 k false a0 a0_1)
theorem f12_airz_e_ok (k : Nat) (a0 : Int) (a0_1 : List T44) (r : R12_airz) (hF : f12_airz_e k a0 a0_1 = some r) : finK Try.prog Try.f12 0 (EX 12 k (nav B12 []) ({ n := 23, F := [(0, V.agg [V.p (Value.int .i64 a0), V.sl 6 (rowsOf encT44 a0_1)])], M := [] } : St)) = some r.st := by
  unfold f12_airz_e at hF
  replace hF := Option.bind_eq_some_iff.1 hF
  obtain ⟨o1, h2, hF⟩ := hF
  have hc3 := f14_airz_ok k a0 a0_1 _ h2
  cases o1 with
  | o0 v4 =>
    (try dsimp only at hF)
    (try simp only [NM, EE, R14_airz.st] at hc3)
    simp (maxSteps := 999999) (disch := first | exact D (by decide) | exact K (by kernel_rfl)) only [E, EE, ↓reduceIte, simprocAttr, xk B12 [] .sq rfl, show (nav B12 [1]) = Code.region 0 _ false from rfl, hk_12_0, hz_12_0, hs_12_0, xk B12 [2] .sq rfl, xk B12 [1, 2] .sq rfl, show (nav B12 [1, 1, 2]) = Code.region 1 _ false from rfl, hk_12_1, hz_12_1, hs_12_1, u_24, i_24, is_24, ib_24, iz_24, callStep, CL, gv, List.contains, xk B12 [2, 1, 2] (.cd 8) rfl, hc3]
    replace hF := cond_some hF
    rcases hF with ⟨h5, hF⟩ | ⟨h5, hF⟩
    · cases hF
      simp (maxSteps := 999999) (disch := first | exact D (by decide) | exact K (by kernel_rfl)) only [E, EE, ↓reduceIte, simprocAttr, xk B12 [2, 2, 1, 2] .sq rfl, show (nav B12 [1, 2, 2, 1, 2]) = Code.region 2 _ false from rfl, hk_12_2, hz_12_2, hs_12_2, xk B12 [2, 2, 2, 1, 2] .rt rfl, finK_norm, finK_ret, fin12, R12_airz.st, hc3, h5]
    · have hJ := f12_airz_j1_ok k false a0 a0_1 _ hF
      simp (maxSteps := 999999) (disch := first | exact D (by decide) | exact K (by kernel_rfl)) only [E, EE, ↓reduceIte, simprocAttr, xk B12 [3, 2, 1, 2] .sk rfl, hc3, h5]
      try simp only [NM, EE] at hJ
      exact hJ
noncomputable def f12_airz (k : Nat) (a0 : Int) (a0_1 : List T44) : Option R12_airz := match k with | 0 => none | k + 1 => f12_airz_e k a0 a0_1
theorem f12_airz_ok (k : Nat) (a0 : Int) (a0_1 : List T44) (r : R12_airz) (hF : f12_airz k a0 a0_1 = some r) : CV k 12 [V.agg [V.p (Value.int .i64 a0), V.sl 6 (rowsOf encT44 a0_1)]] [] = some r.st := by
  cases k with
  | zero => cases hF
  | succ k =>
    unfold CV
    rw [ev_call (F := Try.f12) (c := (nav B12 [])) rfl Try.func12 rfl rfl rfl rfl]
    exact f12_airz_e_ok k a0 a0_1 r hF
-- f20_i: f20 heliograph/plan.Route$1
inductive R20_i where
  | o0 (y : Bool)
noncomputable def R20_i.st : R20_i → V × List O × List O
  | .o0 y => (V.p (Value.bool y), [], [])
noncomputable def f20_i_e (k : Nat) (a0 : Int) : Option R20_i :=
  some (R20_i.o0 (decide (a0 < 0)))
theorem f20_i_e_ok (k : Nat) (a0 : Int) (r : R20_i) (hF : f20_i_e k a0 = some r) : finK Try.prog Try.f20 0 (EX 20 k (nav B20 []) ({ n := 5, F := [(0, V.p (Value.int .i64 a0))], M := [] } : St)) = some r.st := by
  unfold f20_i_e at hF
  cases hF
  simp (maxSteps := 999999) (disch := first | exact D (by decide) | exact K (by kernel_rfl)) only [E, EE, ↓reduceIte, simprocAttr, xk B20 [] .sq rfl, show (nav B20 [1]) = Code.region 0 _ false from rfl, hk_20_0, hz_20_0, hs_20_0, xk B20 [2] .sq rfl, show (nav B20 [1, 2]) = Code.region 1 _ false from rfl, hk_20_1, hz_20_1, hs_20_1, xk B20 [2, 2] .rt rfl, finK_norm, finK_ret, fin20, R20_i.st]
noncomputable def f20_i (k : Nat) (a0 : Int) : Option R20_i := match k with | 0 => none | k + 1 => f20_i_e k a0
theorem f20_i_ok (k : Nat) (a0 : Int) (r : R20_i) (hF : f20_i k a0 = some r) : CV k 20 [V.p (Value.int .i64 a0)] [] = some r.st := by
  cases k with
  | zero => cases hF
  | succ k =>
    unfold CV
    rw [ev_call (F := Try.f20) (c := (nav B20 [])) rfl Try.func20 rfl rfl rfl rfl]
    exact f20_i_e_ok k a0 r hF
end Go.Proofs.YtmogplhglcodjaaV
