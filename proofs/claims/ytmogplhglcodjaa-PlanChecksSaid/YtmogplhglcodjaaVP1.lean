/- What the program's functions answer: plain functions, and that the interpreter answers what they do. Written by a program of this session, out of the translation. -/
import Derived.Test.YtmogplhglcodjaaVPC
namespace Go.Proofs.YtmogplhglcodjaaV
open Go
set_option linter.unusedVariables false
set_option linter.unusedSimpArgs false
set_option maxRecDepth 8000
set_option maxHeartbeats 4000000
-- f7_: f7 heliograph/heliographlaw13.wakes
inductive R7_ where
  | o0 (y : Bool)
noncomputable def R7_.st : R7_ → V × List O × List O
  | .o0 y => (V.p (Value.bool y), [], [])
noncomputable def f7_ (k : Nat) : Option R7_ := ifE (60 ≤ k) (some (.o0 true))
theorem f7__ok (k : Nat) (r : R7_) (hF : f7_ k = some r) : CV k 7 [] [] = some r.st := by
  obtain ⟨h, hF⟩ := ifE_some.1 hF
  cases hF
  exact callV_le h wakes
-- f9_airz: f9 heliograph/heliographlaw13.copied
inductive R9_airz where
  | o0 (y : Int) (y_1 : List T44)
noncomputable def R9_airz.st : R9_airz → V × List O × List O
  | .o0 y y_1 => (V.agg [V.p (Value.int .i64 y), V.own 2000000], [], [O.row true 6 44 (rowsOf encT44 y_1)])
noncomputable def f9_airz_e (k : Nat) (a0 : Int) (a0_1 : List T44) : Option R9_airz :=
  ifE ((List.length a0_1) * 48 ≤ roomy) (
    some (R9_airz.o0 a0 a0_1))
theorem f9_airz_e_ok (k : Nat) (a0 : Int) (a0_1 : List T44) (r : R9_airz) (hF : f9_airz_e k a0 a0_1 = some r) : finK Try.prog Try.f9 0 (EX 9 k (nav B9 []) ({ n := 9, F := [(0, V.agg [V.p (Value.int .i64 a0), V.sl 6 (rowsOf encT44 a0_1)])], M := [] } : St)) = some r.st := by
  unfold f9_airz_e at hF
  replace hF := ifE_some.1 hF
  obtain ⟨h1, hF⟩ := hF
  cases hF
  simp (maxSteps := 999999) (disch := first | exact D (by decide) | exact K (by kernel_rfl)) only [E, EE, ↓reduceIte, simprocAttr, xk B9 [] .sq rfl, show (nav B9 [1]) = Code.region 0 _ false from rfl, hk_9_0, hz_9_0, hs_9_0, u_24, i_24, is_24, ib_24, iz_24, xk B9 [2] .sq rfl, show (nav B9 [1, 2]) = Code.region 1 _ false from rfl, hk_9_1, hz_9_1, hs_9_1, buildSliceV, fillRows, sm_44, u_22, i_22, is_22, ib_22, iz_22, u_44, i_44, is_44, ib_44, iz_44, fieldAddrV, appendV, content, xk B9 [2, 2] .sq rfl, show (nav B9 [1, 2, 2]) = Code.region 2 _ false from rfl, hk_9_2, hz_9_2, hs_9_2, xk B9 [2, 2, 2] .rt rfl, finK_norm, finK_ret, fin9, R9_airz.st, h1]
noncomputable def f9_airz (k : Nat) (a0 : Int) (a0_1 : List T44) : Option R9_airz := match k with | 0 => none | k + 1 => f9_airz_e k a0 a0_1
theorem f9_airz_ok (k : Nat) (a0 : Int) (a0_1 : List T44) (r : R9_airz) (hF : f9_airz k a0 a0_1 = some r) : CV k 9 [V.agg [V.p (Value.int .i64 a0), V.sl 6 (rowsOf encT44 a0_1)]] [] = some r.st := by
  cases k with
  | zero => cases hF
  | succ k =>
    unfold CV
    rw [ev_call (F := Try.f9) (c := (nav B9 [])) rfl Try.func9 rfl rfl rfl rfl]
    exact f9_airz_e_ok k a0 a0_1 r hF
-- f21_iii: f21 heliograph/plan.within
inductive R21_iii where
  | o0 (y : Bool)
noncomputable def R21_iii.st : R21_iii → V × List O × List O
  | .o0 y => (V.p (Value.bool y), [], [])
noncomputable def f21_iii_e (k : Nat) (a0 a1 a2 : Int) : Option R21_iii :=
  cond ((decide (a0 ≥ a1)))
    (some (R21_iii.o0 (decide (a0 ≤ a2))))
    (some (R21_iii.o0 false))
theorem f21_iii_e_ok (k : Nat) (a0 a1 a2 : Int) (r : R21_iii) (hF : f21_iii_e k a0 a1 a2 = some r) : finK Try.prog Try.f21 0 (EX 21 k (nav B21 []) ({ n := 15, F := [(0, V.p (Value.int .i64 a0)), (1, V.p (Value.int .i64 a1)), (2, V.p (Value.int .i64 a2))], M := [] } : St)) = some r.st := by
  unfold f21_iii_e at hF
  simp (maxSteps := 999999) (disch := first | exact D (by decide) | exact K (by kernel_rfl)) only [E, EE, ↓reduceIte, simprocAttr, xk B21 [] .sq rfl, show (nav B21 [1]) = Code.region 0 _ false from rfl, hk_21_0, hz_21_0, hs_21_0, xk B21 [2] .sq rfl, show (nav B21 [1, 2]) = Code.region 1 _ false from rfl, hk_21_1, hz_21_1, hs_21_1]
  replace hF := cond_some hF
  rcases hF with ⟨h1, hF⟩ | ⟨h1, hF⟩
  · cases hF
    simp (maxSteps := 999999) (disch := first | exact D (by decide) | exact K (by kernel_rfl)) only [E, EE, ↓reduceIte, simprocAttr, xk B21 [2, 2] .rt rfl, finK_norm, finK_ret, fin21, R21_iii.st, h1]
  · cases hF
    simp (maxSteps := 999999) (disch := first | exact D (by decide) | exact K (by kernel_rfl)) only [E, EE, ↓reduceIte, simprocAttr, xk B21 [2, 2] .rt rfl, finK_norm, finK_ret, fin21, R21_iii.st, h1]
noncomputable def f21_iii (k : Nat) (a0 a1 a2 : Int) : Option R21_iii := match k with | 0 => none | k + 1 => f21_iii_e k a0 a1 a2
theorem f21_iii_ok (k : Nat) (a0 a1 a2 : Int) (r : R21_iii) (hF : f21_iii k a0 a1 a2 = some r) : CV k 21 [V.p (Value.int .i64 a0), V.p (Value.int .i64 a1), V.p (Value.int .i64 a2)] [] = some r.st := by
  cases k with
  | zero => cases hF
  | succ k =>
    unfold CV
    rw [ev_call (F := Try.f21) (c := (nav B21 [])) rfl Try.func21 rfl rfl rfl rfl]
    exact f21_iii_e_ok k a0 a1 a2 r hF
-- f14_airz: f14 heliograph/plan.Check
inductive R14_airz where
  | o0 (y : Int)
noncomputable def R14_airz.st : R14_airz → V × List O × List O
  | .o0 y => (V.p (Value.int .i64 y), [], [])
inductive R14_airz_l2_l3 where
  | o0 (y : Int)
  | o1 (y : List T44) (y_1 y_2 : Int) (y_3 : List T44) (y_4 y_5 y_6 : Int) (y_7 : List T44) (y_8 y_9 y_10 y_11 y_12 y_13 : Int)
  | o2 (y : List T44) (y_1 y_2 : Int) (y_3 : List T44) (y_4 y_5 : Int) (y_6 : Bool) (y_7 : Int) (y_8 : List T44) (y_9 y_10 y_11 y_12 y_13 y_14 : Int)
noncomputable def R14_airz_l2_l3.st : R14_airz_l2_l3 → Out × St
  | .o0 y => (.ret, ({ n := 112, F := [(2, V.p (Value.int .i64 y))], M := [] } : St))
  | .o1 y y_1 y_2 y_3 y_4 y_5 y_6 y_7 y_8 y_9 y_10 y_11 y_12 y_13 => (.norm, ({ n := 112, F := [(1, V.ptr 30000 0), (4, V.ptr 30001 0), (18, V.sl 6 (rowsOf encT44 y)), (19, V.p (Value.int .i64 y_1)), (20, V.p (Value.int .i64 y_2)), (78, V.sl 6 (rowsOf encT44 y_3)), (79, V.p (Value.int .i64 y_4)), (80, V.p (Value.int .i64 y_5))], M := [(30000, O.box 24 [V.p (Value.int .i64 y_6), V.sl 6 (rowsOf encT44 y_7)]), (30001, O.box 44 [V.p (Value.int .i64 y_8), V.p (Value.int .i64 y_9), V.p (Value.int .i64 y_10), V.p (Value.int .i64 y_11), V.p (Value.int .i64 y_12), V.p (Value.int .i64 y_13)])] } : St))
  | .o2 y y_1 y_2 y_3 y_4 y_5 y_6 y_7 y_8 y_9 y_10 y_11 y_12 y_13 y_14 => (.exit 2, ({ n := 112, F := [(1, V.ptr 30000 0), (4, V.ptr 30001 0), (18, V.sl 6 (rowsOf encT44 y)), (19, V.p (Value.int .i64 y_1)), (20, V.p (Value.int .i64 y_2)), (78, V.sl 6 (rowsOf encT44 y_3)), (79, V.p (Value.int .i64 y_4)), (80, V.p (Value.int .i64 y_5)), (81, V.p (Value.bool y_6))], M := [(30000, O.box 24 [V.p (Value.int .i64 y_7), V.sl 6 (rowsOf encT44 y_8)]), (30001, O.box 44 [V.p (Value.int .i64 y_9), V.p (Value.int .i64 y_10), V.p (Value.int .i64 y_11), V.p (Value.int .i64 y_12), V.p (Value.int .i64 y_13), V.p (Value.int .i64 y_14)])] } : St))
noncomputable def f14_airz_l2_l3_j2 (k : Nat) (x18 : List T44) (x19 x20 : Int) (x78 : List T44) (x79 x80 : Int) (x109 : Bool) (h0_ : Int) (h0__1 : List T44) (h1_ h1__1 h1__2 h1__3 h1__4 h1__5 : Int) : Option R14_airz_l2_l3 :=
  some (R14_airz_l2_l3.o1 x18 x19 x20 x78 x79 (IntKind.i64.wrap (x80 + (1 : Int))) h0_ h0__1 h1_ h1__1 h1__2 h1__3 h1__4 h1__5)
theorem f14_airz_l2_l3_j2_ok (k : Nat) (x18 : List T44) (x19 x20 : Int) (x78 : List T44) (x79 x80 : Int) (x109 : Bool) (h0_ : Int) (h0__1 : List T44) (h1_ h1__1 h1__2 h1__3 h1__4 h1__5 : Int) (r : R14_airz_l2_l3) (hF : f14_airz_l2_l3_j2 k x18 x19 x20 x78 x79 x80 x109 h0_ h0__1 h1_ h1__1 h1__2 h1__3 h1__4 h1__5 = some r) : EX 14 k (nav B14 [2, 2, 2, 1, 2, 2, 2, 2, 2, 1, 2, 2, 1, 2, 2, 1, 2, 2]) ({ n := 112, F := [(1, V.ptr 30000 0), (4, V.ptr 30001 0), (18, V.sl 6 (rowsOf encT44 x18)), (19, V.p (Value.int .i64 x19)), (20, V.p (Value.int .i64 x20)), (78, V.sl 6 (rowsOf encT44 x78)), (79, V.p (Value.int .i64 x79)), (80, V.p (Value.int .i64 x80)), (109, V.p (Value.bool x109))], M := [(30000, O.box 24 [V.p (Value.int .i64 h0_), V.sl 6 (rowsOf encT44 h0__1)]), (30001, O.box 44 [V.p (Value.int .i64 h1_), V.p (Value.int .i64 h1__1), V.p (Value.int .i64 h1__2), V.p (Value.int .i64 h1__3), V.p (Value.int .i64 h1__4), V.p (Value.int .i64 h1__5)])] } : St) = some r.st := by
  unfold f14_airz_l2_l3_j2 at hF
  cases hF
  simp (maxSteps := 999999) (disch := first | exact D (by decide) | exact K (by kernel_rfl)) only [E, EE, ↓reduceIte, simprocAttr, show (nav B14 [2, 2, 2, 1, 2, 2, 2, 2, 2, 1, 2, 2, 1, 2, 2, 1, 2, 2]) = Code.region 13 _ false from rfl, hk_14_13, hz_14_13, hs_14_13, R14_airz_l2_l3.st]
noncomputable def f14_airz_l2_l3_j1 (k : Nat) (x18 : List T44) (x19 x20 : Int) (x78 : List T44) (x79 x80 : Int) (x81 : Bool) (h0_ : Int) (h0__1 : List T44) (h1_ h1__1 h1__2 h1__3 h1__4 h1__5 : Int) : Option R14_airz_l2_l3 :=
  ifE ((0 : Int) ≤ x80) (
    Option.bind (x78[(Int.toNat x80)]?) fun v2 =>
      cond ((v2.From == h1_))
        (
          cond ((v2.To == h1__1))
            (
              cond ((decide (v2.Start < h1__3)))
                (
                  cond ((decide (h1__2 < v2.End)))
                    (some (R14_airz_l2_l3.o0 230))
                    (f14_airz_l2_l3_j2 k x18 x19 x20 x78 x79 x80 false h0_ h0__1 h1_ h1__1 h1__2 h1__3 h1__4 h1__5))
                (f14_airz_l2_l3_j2 k x18 x19 x20 x78 x79 x80 false h0_ h0__1 h1_ h1__1 h1__2 h1__3 h1__4 h1__5))
            (f14_airz_l2_l3_j2 k x18 x19 x20 x78 x79 x80 false h0_ h0__1 h1_ h1__1 h1__2 h1__3 h1__4 h1__5))
        (f14_airz_l2_l3_j2 k x18 x19 x20 x78 x79 x80 false h0_ h0__1 h1_ h1__1 h1__2 h1__3 h1__4 h1__5))
theorem f14_airz_l2_l3_j1_ok (k : Nat) (x18 : List T44) (x19 x20 : Int) (x78 : List T44) (x79 x80 : Int) (x81 : Bool) (h0_ : Int) (h0__1 : List T44) (h1_ h1__1 h1__2 h1__3 h1__4 h1__5 : Int) (r : R14_airz_l2_l3) (hF : f14_airz_l2_l3_j1 k x18 x19 x20 x78 x79 x80 x81 h0_ h0__1 h1_ h1__1 h1__2 h1__3 h1__4 h1__5 = some r) : EX 14 k (nav B14 [2, 2, 1, 2, 2, 2, 2, 2, 1, 2, 2, 1, 2, 2, 1, 2, 2]) ({ n := 112, F := [(1, V.ptr 30000 0), (4, V.ptr 30001 0), (18, V.sl 6 (rowsOf encT44 x18)), (19, V.p (Value.int .i64 x19)), (20, V.p (Value.int .i64 x20)), (78, V.sl 6 (rowsOf encT44 x78)), (79, V.p (Value.int .i64 x79)), (80, V.p (Value.int .i64 x80)), (81, V.p (Value.bool x81))], M := [(30000, O.box 24 [V.p (Value.int .i64 h0_), V.sl 6 (rowsOf encT44 h0__1)]), (30001, O.box 44 [V.p (Value.int .i64 h1_), V.p (Value.int .i64 h1__1), V.p (Value.int .i64 h1__2), V.p (Value.int .i64 h1__3), V.p (Value.int .i64 h1__4), V.p (Value.int .i64 h1__5)])] } : St) = some r.st := by
  unfold f14_airz_l2_l3_j1 at hF
  replace hF := ifE_some.1 hF
  obtain ⟨h1, hF⟩ := hF
  replace hF := Option.bind_eq_some_iff.1 hF
  obtain ⟨v2, h3, hF⟩ := hF
  simp (maxSteps := 999999) (disch := first | exact D (by decide) | exact K (by kernel_rfl)) only [E, EE, ↓reduceIte, simprocAttr, xk B14 [2, 2, 1, 2, 2, 2, 2, 2, 1, 2, 2, 1, 2, 2, 1, 2, 2] .sq rfl, xk B14 [1, 2, 2, 1, 2, 2, 2, 2, 2, 1, 2, 2, 1, 2, 2, 1, 2, 2] (.bk 3) rfl, xk B14 [2, 1, 2, 2, 1, 2, 2, 2, 2, 2, 1, 2, 2, 1, 2, 2, 1, 2, 2] .sq rfl, show (nav B14 [1, 2, 1, 2, 2, 1, 2, 2, 2, 2, 2, 1, 2, 2, 1, 2, 2, 1, 2, 2]) = Code.region 10 _ false from rfl, hk_14_10, hz_14_10, hs_14_10, indexAddrV, u_22, i_22, is_22, ib_22, iz_22, u_44, i_44, is_44, ib_44, iz_44, encT44_eq, xk B14 [2, 2, 1, 2, 2, 1, 2, 2, 2, 2, 2, 1, 2, 2, 1, 2, 2, 1, 2, 2] .sq rfl, show (nav B14 [1, 2, 2, 1, 2, 2, 1, 2, 2, 2, 2, 2, 1, 2, 2, 1, 2, 2, 1, 2, 2]) = Code.region 11 _ false from rfl, hk_14_11, hz_14_11, hs_14_11, fieldAddrV, u_3, i_3, is_3, ib_3, iz_3, h1, h3]
  replace hF := cond_some hF
  rcases hF with ⟨h4, hF⟩ | ⟨h4, hF⟩
  · simp (maxSteps := 999999) (disch := first | exact D (by decide) | exact K (by kernel_rfl)) only [E, EE, ↓reduceIte, simprocAttr, fieldAddrV, u_44, i_44, is_44, ib_44, iz_44, u_3, i_3, is_3, ib_3, iz_3, h1, h3, h4]
    replace hF := cond_some hF
    rcases hF with ⟨h5, hF⟩ | ⟨h5, hF⟩
    · simp (maxSteps := 999999) (disch := first | exact D (by decide) | exact K (by kernel_rfl)) only [E, EE, ↓reduceIte, simprocAttr, fieldAddrV, u_44, i_44, is_44, ib_44, iz_44, u_3, i_3, is_3, ib_3, iz_3, h1, h3, h4, h5]
      replace hF := cond_some hF
      rcases hF with ⟨h6, hF⟩ | ⟨h6, hF⟩
      · simp (maxSteps := 999999) (disch := first | exact D (by decide) | exact K (by kernel_rfl)) only [E, EE, ↓reduceIte, simprocAttr, fieldAddrV, u_44, i_44, is_44, ib_44, iz_44, u_3, i_3, is_3, ib_3, iz_3, xk B14 [2, 2, 2, 1, 2, 2, 1, 2, 2, 2, 2, 2, 1, 2, 2, 1, 2, 2, 1, 2, 2] (.cd 109) rfl, h1, h3, h4, h5, h6]
        replace hF := cond_some hF
        rcases hF with ⟨h7, hF⟩ | ⟨h7, hF⟩
        · cases hF
          simp (maxSteps := 999999) (disch := first | exact D (by decide) | exact K (by kernel_rfl)) only [E, EE, ↓reduceIte, simprocAttr, xk B14 [2, 2, 2, 2, 1, 2, 2, 1, 2, 2, 2, 2, 2, 1, 2, 2, 1, 2, 2, 1, 2, 2] .sq rfl, show (nav B14 [1, 2, 2, 2, 2, 1, 2, 2, 1, 2, 2, 2, 2, 2, 1, 2, 2, 1, 2, 2, 1, 2, 2]) = Code.region 12 _ false from rfl, hk_14_12, hz_14_12, hs_14_12, xk B14 [2, 2, 2, 2, 2, 1, 2, 2, 1, 2, 2, 2, 2, 2, 1, 2, 2, 1, 2, 2, 1, 2, 2] .rt rfl, R14_airz_l2_l3.st, h1, h3, h4, h5, h6, h7]
        · have hJ := f14_airz_l2_l3_j2_ok k x18 x19 x20 x78 x79 x80 false h0_ h0__1 h1_ h1__1 h1__2 h1__3 h1__4 h1__5 _ hF
          simp (maxSteps := 999999) (disch := first | exact D (by decide) | exact K (by kernel_rfl)) only [E, EE, ↓reduceIte, simprocAttr, xk B14 [3, 2, 2, 2, 1, 2, 2, 1, 2, 2, 2, 2, 2, 1, 2, 2, 1, 2, 2, 1, 2, 2] .sk rfl, h1, h3, h4, h5, h6, h7]
          try simp only [NM, EE] at hJ
          exact hJ
      · have hJ := f14_airz_l2_l3_j2_ok k x18 x19 x20 x78 x79 x80 false h0_ h0__1 h1_ h1__1 h1__2 h1__3 h1__4 h1__5 _ hF
        simp (maxSteps := 999999) (disch := first | exact D (by decide) | exact K (by kernel_rfl)) only [E, EE, ↓reduceIte, simprocAttr, xk B14 [2, 2, 2, 1, 2, 2, 1, 2, 2, 2, 2, 2, 1, 2, 2, 1, 2, 2, 1, 2, 2] (.cd 109) rfl, xk B14 [3, 2, 2, 2, 1, 2, 2, 1, 2, 2, 2, 2, 2, 1, 2, 2, 1, 2, 2, 1, 2, 2] .sk rfl, h1, h3, h4, h5, h6]
        try simp only [NM, EE] at hJ
        exact hJ
    · have hJ := f14_airz_l2_l3_j2_ok k x18 x19 x20 x78 x79 x80 false h0_ h0__1 h1_ h1__1 h1__2 h1__3 h1__4 h1__5 _ hF
      simp (maxSteps := 999999) (disch := first | exact D (by decide) | exact K (by kernel_rfl)) only [E, EE, ↓reduceIte, simprocAttr, xk B14 [2, 2, 2, 1, 2, 2, 1, 2, 2, 2, 2, 2, 1, 2, 2, 1, 2, 2, 1, 2, 2] (.cd 109) rfl, xk B14 [3, 2, 2, 2, 1, 2, 2, 1, 2, 2, 2, 2, 2, 1, 2, 2, 1, 2, 2, 1, 2, 2] .sk rfl, h1, h3, h4, h5]
      try simp only [NM, EE] at hJ
      exact hJ
  · have hJ := f14_airz_l2_l3_j2_ok k x18 x19 x20 x78 x79 x80 false h0_ h0__1 h1_ h1__1 h1__2 h1__3 h1__4 h1__5 _ hF
    simp (maxSteps := 999999) (disch := first | exact D (by decide) | exact K (by kernel_rfl)) only [E, EE, ↓reduceIte, simprocAttr, xk B14 [2, 2, 2, 1, 2, 2, 1, 2, 2, 2, 2, 2, 1, 2, 2, 1, 2, 2, 1, 2, 2] (.cd 109) rfl, xk B14 [3, 2, 2, 2, 1, 2, 2, 1, 2, 2, 2, 2, 2, 1, 2, 2, 1, 2, 2, 1, 2, 2] .sk rfl, h1, h3, h4]
    try simp only [NM, EE] at hJ
    exact hJ
noncomputable def f14_airz_l2_l3_b (k : Nat) (x18 : List T44) (x19 x20 : Int) (x78 : List T44) (x79 x80 h0_ : Int) (h0__1 : List T44) (h1_ h1__1 h1__2 h1__3 h1__4 h1__5 : Int) : Option R14_airz_l2_l3 :=
  cond ((decide (x80 < x79)))
    (f14_airz_l2_l3_j1 k x18 x19 x20 x78 x79 x80 true h0_ h0__1 h1_ h1__1 h1__2 h1__3 h1__4 h1__5)
    (some (R14_airz_l2_l3.o2 x18 x19 x20 x78 x79 x80 false h0_ h0__1 h1_ h1__1 h1__2 h1__3 h1__4 h1__5))
theorem f14_airz_l2_l3_b_ok (k : Nat) (x18 : List T44) (x19 x20 : Int) (x78 : List T44) (x79 x80 h0_ : Int) (h0__1 : List T44) (h1_ h1__1 h1__2 h1__3 h1__4 h1__5 : Int) (r : R14_airz_l2_l3) (hF : f14_airz_l2_l3_b k x18 x19 x20 x78 x79 x80 h0_ h0__1 h1_ h1__1 h1__2 h1__3 h1__4 h1__5 = some r) : EX 14 k (nav B14 [1, 2, 2, 2, 2, 2, 1, 2, 2, 1, 2, 2, 1, 2, 2]) ({ n := 112, F := [(1, V.ptr 30000 0), (4, V.ptr 30001 0), (18, V.sl 6 (rowsOf encT44 x18)), (19, V.p (Value.int .i64 x19)), (20, V.p (Value.int .i64 x20)), (78, V.sl 6 (rowsOf encT44 x78)), (79, V.p (Value.int .i64 x79)), (80, V.p (Value.int .i64 x80))], M := [(30000, O.box 24 [V.p (Value.int .i64 h0_), V.sl 6 (rowsOf encT44 h0__1)]), (30001, O.box 44 [V.p (Value.int .i64 h1_), V.p (Value.int .i64 h1__1), V.p (Value.int .i64 h1__2), V.p (Value.int .i64 h1__3), V.p (Value.int .i64 h1__4), V.p (Value.int .i64 h1__5)])] } : St) = some r.st := by
  unfold f14_airz_l2_l3_b at hF
  simp (maxSteps := 999999) (disch := first | exact D (by decide) | exact K (by kernel_rfl)) only [E, EE, ↓reduceIte, simprocAttr, xk B14 [1, 2, 2, 2, 2, 2, 1, 2, 2, 1, 2, 2, 1, 2, 2] .sq rfl, show (nav B14 [1, 1, 2, 2, 2, 2, 2, 1, 2, 2, 1, 2, 2, 1, 2, 2]) = Code.region 9 _ false from rfl, hk_14_9, hz_14_9, hs_14_9, xk B14 [2, 1, 2, 2, 2, 2, 2, 1, 2, 2, 1, 2, 2, 1, 2, 2] .sq rfl, xk B14 [1, 2, 1, 2, 2, 2, 2, 2, 1, 2, 2, 1, 2, 2, 1, 2, 2] (.cd 81) rfl]
  replace hF := cond_some hF
  rcases hF with ⟨h1, hF⟩ | ⟨h1, hF⟩
  · have hJ := f14_airz_l2_l3_j1_ok k x18 x19 x20 x78 x79 x80 true h0_ h0__1 h1_ h1__1 h1__2 h1__3 h1__4 h1__5 _ hF
    simp (maxSteps := 999999) (disch := first | exact D (by decide) | exact K (by kernel_rfl)) only [E, EE, ↓reduceIte, simprocAttr, xk B14 [2, 1, 2, 1, 2, 2, 2, 2, 2, 1, 2, 2, 1, 2, 2, 1, 2, 2] .sk rfl, h1]
    try simp only [NM, EE] at hJ
    exact hJ
  · cases hF
    simp (maxSteps := 999999) (disch := first | exact D (by decide) | exact K (by kernel_rfl)) only [E, EE, ↓reduceIte, simprocAttr, xk B14 [3, 1, 2, 1, 2, 2, 2, 2, 2, 1, 2, 2, 1, 2, 2, 1, 2, 2] (.ex 2) rfl, R14_airz_l2_l3.st, h1]
noncomputable def f14_airz_l2_l3 (k : Nat) : Nat → (List T44) → Int → Int → (List T44) → Int → Int → Int → (List T44) → Int → Int → Int → Int → Int → Int → Option R14_airz_l2_l3
  | 0, _, _, _, _, _, _, _, _, _, _, _, _, _, _ => none
  | n + 1, x18, x19, x20, x78, x79, x80, h0_, h0__1, h1_, h1__1, h1__2, h1__3, h1__4, h1__5 => Option.bind (f14_airz_l2_l3_b k x18 x19 x20 x78 x79 x80 h0_ h0__1 h1_ h1__1 h1__2 h1__3 h1__4 h1__5) fun o =>
    match o with
    | .o0 y => some (.o0 y)
    | .o1 y y_1 y_2 y_3 y_4 y_5 y_6 y_7 y_8 y_9 y_10 y_11 y_12 y_13 => f14_airz_l2_l3 k n y y_1 y_2 y_3 y_4 y_5 y_6 y_7 y_8 y_9 y_10 y_11 y_12 y_13
    | .o2 y y_1 y_2 y_3 y_4 y_5 y_6 y_7 y_8 y_9 y_10 y_11 y_12 y_13 y_14 => some (.o2 y y_1 y_2 y_3 y_4 y_5 y_6 y_7 y_8 y_9 y_10 y_11 y_12 y_13 y_14)
theorem f14_airz_l2_l3_ok (k n : Nat) : ∀ (x18 : List T44) (x19 x20 : Int) (x78 : List T44) (x79 x80 h0_ : Int) (h0__1 : List T44) (h1_ h1__1 h1__2 h1__3 h1__4 h1__5 : Int) (r : R14_airz_l2_l3) (hF : f14_airz_l2_l3 k n x18 x19 x20 x78 x79 x80 h0_ h0__1 h1_ h1__1 h1__2 h1__3 h1__4 h1__5 = some r) (σ : St) (hσ : headR (hints.head 14 9) (hints.canon 14 9) σ = some ({ n := 112, F := [(1, V.ptr 30000 0), (4, V.ptr 30001 0), (18, V.sl 6 (rowsOf encT44 x18)), (19, V.p (Value.int .i64 x19)), (20, V.p (Value.int .i64 x20)), (78, V.sl 6 (rowsOf encT44 x78)), (79, V.p (Value.int .i64 x79)), (80, V.p (Value.int .i64 x80))], M := [(30000, O.box 24 [V.p (Value.int .i64 h0_), V.sl 6 (rowsOf encT44 h0__1)]), (30001, O.box 44 [V.p (Value.int .i64 h1_), V.p (Value.int .i64 h1__1), V.p (Value.int .i64 h1__2), V.p (Value.int .i64 h1__3), V.p (Value.int .i64 h1__4), V.p (Value.int .i64 h1__5)])] } : St)), LP 14 k (nav B14 [1, 2, 2, 2, 2, 2, 1, 2, 2, 1, 2, 2, 1, 2, 2]) n σ = some r.st := by
  induction n with
  | zero => intro x18 x19 x20 x78 x79 x80 h0_ h0__1 h1_ h1__1 h1__2 h1__3 h1__4 h1__5 r hF; cases hF
  | succ n ih =>
    intro x18 x19 x20 x78 x79 x80 h0_ h0__1 h1_ h1__1 h1__2 h1__3 h1__4 h1__5 r hF σ hσ
    rw [f14_airz_l2_l3] at hF
    obtain ⟨o, h, hF⟩ := Option.bind_eq_some_iff.1 hF
    have hB := f14_airz_l2_l3_b_ok k x18 x19 x20 x78 x79 x80 h0_ h0__1 h1_ h1__1 h1__2 h1__3 h1__4 h1__5 o h
    unfold LP at ih ⊢
    unfold EX at hB
    rw [loopK_succ, show firstReg (nav B14 [1, 2, 2, 2, 2, 2, 1, 2, 2, 1, 2, 2, 1, 2, 2]) = 9 from rfl, hσ, headK_some, hB]
    cases o with
    | o0 y => cases hF; rfl
    | o1 y y_1 y_2 y_3 y_4 y_5 y_6 y_7 y_8 y_9 y_10 y_11 y_12 y_13 =>
      refine ih y y_1 y_2 y_3 y_4 y_5 y_6 y_7 y_8 y_9 y_10 y_11 y_12 y_13 r hF _ ?_
      simp (maxSteps := 999999) (disch := first | exact D (by decide) | exact K (by kernel_rfl)) only [E, EE, ↓reduceIte, simprocAttr, hh_14_9, hc_14_9]
    | o2 y y_1 y_2 y_3 y_4 y_5 y_6 y_7 y_8 y_9 y_10 y_11 y_12 y_13 y_14 => cases hF; rfl
inductive R14_airz_l2 where
  | o0 (y : Int)
  | o1 (y : List T44) (y_1 y_2 y_3 : Int) (y_4 : List T44)
  | o2 (y : List T44) (y_1 y_2 : Int) (y_3 : Bool) (y_4 : Int) (y_5 : List T44)
noncomputable def R14_airz_l2.st : R14_airz_l2 → Out × St
  | .o0 y => (.ret, ({ n := 112, F := [(2, V.p (Value.int .i64 y))], M := [] } : St))
  | .o1 y y_1 y_2 y_3 y_4 => (.norm, ({ n := 112, F := [(1, V.ptr 30000 0), (18, V.sl 6 (rowsOf encT44 y)), (19, V.p (Value.int .i64 y_1)), (20, V.p (Value.int .i64 y_2))], M := [(30000, O.box 24 [V.p (Value.int .i64 y_3), V.sl 6 (rowsOf encT44 y_4)])] } : St))
  | .o2 y y_1 y_2 y_3 y_4 y_5 => (.exit 0, ({ n := 112, F := [(1, V.ptr 30000 0), (18, V.sl 6 (rowsOf encT44 y)), (19, V.p (Value.int .i64 y_1)), (20, V.p (Value.int .i64 y_2)), (21, V.p (Value.bool y_3))], M := [(30000, O.box 24 [V.p (Value.int .i64 y_4), V.sl 6 (rowsOf encT44 y_5)])] } : St))
noncomputable def f14_airz_l2_j4 (k : Nat) (x18 : List T44) (x19 x20 : Int) (x78 : List T44) (x79 x80 : Int) (x81 : Bool) (h0_ : Int) (h0__1 : List T44) (h1_ h1__1 h1__2 h1__3 h1__4 h1__5 : Int) : Option R14_airz_l2 :=
  some (R14_airz_l2.o1 x18 x19 (IntKind.i64.wrap (x20 + (1 : Int))) h0_ h0__1)
theorem f14_airz_l2_j4_ok (k : Nat) (x18 : List T44) (x19 x20 : Int) (x78 : List T44) (x79 x80 : Int) (x81 : Bool) (h0_ : Int) (h0__1 : List T44) (h1_ h1__1 h1__2 h1__3 h1__4 h1__5 : Int) (r : R14_airz_l2) (hF : f14_airz_l2_j4 k x18 x19 x20 x78 x79 x80 x81 h0_ h0__1 h1_ h1__1 h1__2 h1__3 h1__4 h1__5 = some r) : EX 14 k (nav B14 [2, 2, 2, 1, 2, 2, 1, 2, 2]) ({ n := 112, F := [(1, V.ptr 30000 0), (4, V.ptr 30001 0), (18, V.sl 6 (rowsOf encT44 x18)), (19, V.p (Value.int .i64 x19)), (20, V.p (Value.int .i64 x20)), (78, V.sl 6 (rowsOf encT44 x78)), (79, V.p (Value.int .i64 x79)), (80, V.p (Value.int .i64 x80)), (81, V.p (Value.bool x81))], M := [(30000, O.box 24 [V.p (Value.int .i64 h0_), V.sl 6 (rowsOf encT44 h0__1)]), (30001, O.box 44 [V.p (Value.int .i64 h1_), V.p (Value.int .i64 h1__1), V.p (Value.int .i64 h1__2), V.p (Value.int .i64 h1__3), V.p (Value.int .i64 h1__4), V.p (Value.int .i64 h1__5)])] } : St) = some r.st := by
  unfold f14_airz_l2_j4 at hF
  cases hF
  simp (maxSteps := 999999) (disch := first | exact D (by decide) | exact K (by kernel_rfl)) only [E, EE, ↓reduceIte, simprocAttr, show (nav B14 [2, 2, 2, 1, 2, 2, 1, 2, 2]) = Code.region 14 _ false from rfl, hk_14_14, hz_14_14, hs_14_14, R14_airz_l2.st]
noncomputable def f14_airz_l2_j2 (k : Nat) (x3 : Int) (x18 : List T44) (x19 x20 : Int) (x74 : Bool) (h0_ : Int) (h0__1 : List T44) (m4 m4_1 m4_2 m4_3 m4_4 m4_5 : Int) : Option R14_airz_l2 :=
  ifE ((0 : Int) ≤ x3) (
    ifE ((Int.toNat x3) ≤ (List.length h0__1)) (
      Option.bind (f14_airz_l2_l3 k k x18 x19 x20 (List.take (Int.toNat x3) h0__1) ((List.length (List.take (Int.toNat x3) h0__1)) : Int) 0 h0_ h0__1 m4 m4_1 m4_2 m4_3 m4_4 m4_5) fun o3 =>
        match o3 with
        | .o0 v6 =>
          some (R14_airz_l2.o0 v6)
        | .o1 _ _ _ _ _ _ _ _ _ _ _ _ _ _ =>
          none
        | .o2 v7 v8 v9 v10 v11 v12 v13 v14 v15 v16 v17 v18 v19 v20 v21 =>
          f14_airz_l2_j4 k v7 v8 v9 v10 v11 v12 v13 v14 v15 v16 v17 v18 v19 v20 v21))
theorem f14_airz_l2_j2_ok (k : Nat) (x3 : Int) (x18 : List T44) (x19 x20 : Int) (x74 : Bool) (h0_ : Int) (h0__1 : List T44) (m4 m4_1 m4_2 m4_3 m4_4 m4_5 : Int) (r : R14_airz_l2) (hF : f14_airz_l2_j2 k x3 x18 x19 x20 x74 h0_ h0__1 m4 m4_1 m4_2 m4_3 m4_4 m4_5 = some r) : SQ 14 k (nav B14 [2, 2, 2, 1, 2, 2, 1, 2, 2]) (blockK 1 (EX 14 k (nav B14 [2, 2, 2, 1, 2, 2, 1, 2, 2, 1, 2, 2]) ({ n := 112, F := [(1, V.ptr 30000 0), (3, V.p (Value.int .i64 x3)), (4, V.ptr 4 0), (18, V.sl 6 (rowsOf encT44 x18)), (19, V.p (Value.int .i64 x19)), (20, V.p (Value.int .i64 x20)), (74, V.p (Value.bool x74))], M := [(30000, O.box 24 [V.p (Value.int .i64 h0_), V.sl 6 (rowsOf encT44 h0__1)]), (4, O.box 44 [V.p (Value.int .i64 m4), V.p (Value.int .i64 m4_1), V.p (Value.int .i64 m4_2), V.p (Value.int .i64 m4_3), V.p (Value.int .i64 m4_4), V.p (Value.int .i64 m4_5)])] } : St))) = some r.st := by
  unfold f14_airz_l2_j2 at hF
  replace hF := ifE_some.1 hF
  obtain ⟨h1, hF⟩ := hF
  replace hF := ifE_some.1 hF
  obtain ⟨h2, hF⟩ := hF
  replace hF := Option.bind_eq_some_iff.1 hF
  obtain ⟨o3, h4, hF⟩ := hF
  have hc5 := f14_airz_l2_l3_ok k k x18 x19 x20 (List.take (Int.toNat x3) h0__1) ((List.length (List.take (Int.toNat x3) h0__1)) : Int) 0 h0_ h0__1 m4 m4_1 m4_2 m4_3 m4_4 m4_5 _ h4
  simp (maxSteps := 999999) (disch := first | exact D (by decide) | exact K (by kernel_rfl)) only [E, EE, ↓reduceIte, simprocAttr, xk B14 [2, 2, 2, 1, 2, 2, 1, 2, 2, 1, 2, 2] .sq rfl, show (nav B14 [1, 2, 2, 2, 1, 2, 2, 1, 2, 2, 1, 2, 2]) = Code.region 8 _ false from rfl, hk_14_8, hz_14_8, hs_14_8, fieldAddrV, u_24, i_24, is_24, ib_24, iz_24, u_22, i_22, is_22, ib_22, iz_22, sliceV, bound, u_44, i_44, is_44, ib_44, iz_44, xk B14 [2, 2, 2, 2, 1, 2, 2, 1, 2, 2, 1, 2, 2] (.bk 2) rfl, xk B14 [2, 2, 2, 2, 2, 1, 2, 2, 1, 2, 2, 1, 2, 2] .lp rfl, hh_14_9, hc_14_9, h1, h2]
  (try simp only [NM, EE] at hc5)
  rw [hc5 _ (by simp (maxSteps := 999999) (disch := first | exact D (by decide) | exact K (by kernel_rfl)) only [E, EE, ↓reduceIte, simprocAttr, hh_14_9, hc_14_9, h1, h2])]
  clear hc5
  cases o3 with
  | o0 v6 =>
    (try dsimp only at hF)
    cases hF
    simp (maxSteps := 999999) (disch := first | exact D (by decide) | exact K (by kernel_rfl)) only [E, EE, ↓reduceIte, simprocAttr, R14_airz_l2_l3.st, R14_airz_l2.st, h1, h2]
  | o1 _ _ _ _ _ _ _ _ _ _ _ _ _ _ =>
    (try dsimp only at hF)
    cases hF
  | o2 v7 v8 v9 v10 v11 v12 v13 v14 v15 v16 v17 v18 v19 v20 v21 =>
    (try dsimp only at hF)
    have hJ := f14_airz_l2_j4_ok k v7 v8 v9 v10 v11 v12 v13 v14 v15 v16 v17 v18 v19 v20 v21 _ hF
    simp (maxSteps := 999999) (disch := first | exact D (by decide) | exact K (by kernel_rfl)) only [E, EE, ↓reduceIte, simprocAttr, R14_airz_l2_l3.st, h1, h2]
    try simp only [NM, EE] at hJ
    exact hJ
noncomputable def f14_airz_l2_j1 (k : Nat) (x18 : List T44) (x19 x20 : Int) (x21 : Bool) (h0_ : Int) (h0__1 : List T44) : Option R14_airz_l2 :=
  ifE ((0 : Int) ≤ x20) (
    Option.bind (x18[(Int.toNat x20)]?) fun v2 =>
      Option.bind (f21_iii k v2.From 1 h0_) fun o4 =>
        match o4 with
        | .o0 v7 =>
          cond ((!v7))
            (some (R14_airz_l2.o0 230))
            (
              Option.bind (f21_iii k v2.To 1 h0_) fun o9 =>
                match o9 with
                | .o0 v12 =>
                  cond ((!v12))
                    (some (R14_airz_l2.o0 230))
                    (
                      cond ((v2.From == v2.To))
                        (some (R14_airz_l2.o0 230))
                        (
                          cond ((decide (v2.Start < 0)))
                            (some (R14_airz_l2.o0 230))
                            (
                              cond ((decide (v2.Start ≥ v2.End)))
                                (some (R14_airz_l2.o0 230))
                                (
                                  cond ((decide (v2.End > 1048576)))
                                    (some (R14_airz_l2.o0 230))
                                    (
                                      Option.bind (f21_iii k v2.Rate 1 4096) fun o18 =>
                                        match o18 with
                                        | .o0 v21 =>
                                          cond ((!v21))
                                            (some (R14_airz_l2.o0 230))
                                            (
                                              Option.bind (f21_iii k v2.Delay 0 4096) fun o23 =>
                                                match o23 with
                                                | .o0 v26 =>
                                                  cond ((!v26))
                                                    (some (R14_airz_l2.o0 230))
                                                    (f14_airz_l2_j2 k x20 x18 x19 x20 false h0_ h0__1 v2.From v2.To v2.Start v2.End v2.Rate v2.Delay)))))))))
theorem f14_airz_l2_j1_ok (k : Nat) (x18 : List T44) (x19 x20 : Int) (x21 : Bool) (h0_ : Int) (h0__1 : List T44) (r : R14_airz_l2) (hF : f14_airz_l2_j1 k x18 x19 x20 x21 h0_ h0__1 = some r) : EX 14 k (nav B14 [2, 2, 1, 2, 2, 1, 2, 2]) ({ n := 112, F := [(1, V.ptr 30000 0), (18, V.sl 6 (rowsOf encT44 x18)), (19, V.p (Value.int .i64 x19)), (20, V.p (Value.int .i64 x20)), (21, V.p (Value.bool x21))], M := [(30000, O.box 24 [V.p (Value.int .i64 h0_), V.sl 6 (rowsOf encT44 h0__1)])] } : St) = some r.st := by
  unfold f14_airz_l2_j1 at hF
  replace hF := ifE_some.1 hF
  obtain ⟨h1, hF⟩ := hF
  replace hF := Option.bind_eq_some_iff.1 hF
  obtain ⟨v2, h3, hF⟩ := hF
  replace hF := Option.bind_eq_some_iff.1 hF
  obtain ⟨o4, h5, hF⟩ := hF
  have hc6 := f21_iii_ok k v2.From 1 h0_ _ h5
  cases o4 with
  | o0 v7 =>
    (try dsimp only at hF)
    (try simp only [NM, EE, R21_iii.st] at hc6)
    simp (maxSteps := 999999) (disch := first | exact D (by decide) | exact K (by kernel_rfl)) only [E, EE, ↓reduceIte, simprocAttr, xk B14 [2, 2, 1, 2, 2, 1, 2, 2] .sq rfl, xk B14 [1, 2, 2, 1, 2, 2, 1, 2, 2] (.bk 1) rfl, xk B14 [2, 1, 2, 2, 1, 2, 2, 1, 2, 2] .sq rfl, show (nav B14 [1, 2, 1, 2, 2, 1, 2, 2, 1, 2, 2]) = Code.region 5 _ false from rfl, hk_14_5, hz_14_5, hs_14_5, indexAddrV, u_22, i_22, is_22, ib_22, iz_22, u_44, i_44, is_44, ib_44, iz_44, encT44_eq, xk B14 [2, 2, 1, 2, 2, 1, 2, 2, 1, 2, 2] .sq rfl, xk B14 [1, 2, 2, 1, 2, 2, 1, 2, 2, 1, 2, 2] .sq rfl, show (nav B14 [1, 1, 2, 2, 1, 2, 2, 1, 2, 2, 1, 2, 2]) = Code.region 6 _ false from rfl, hk_14_6, hz_14_6, hs_14_6, fieldAddrV, u_3, i_3, is_3, ib_3, iz_3, u_24, i_24, is_24, ib_24, iz_24, callStep, CL, gv, List.contains, h1, h3, hc6]
    replace hF := cond_some hF
    rcases hF with ⟨h8, hF⟩ | ⟨h8, hF⟩
    · cases hF
      simp (maxSteps := 999999) (disch := first | exact D (by decide) | exact K (by kernel_rfl)) only [E, EE, ↓reduceIte, simprocAttr, xk B14 [2, 1, 2, 2, 1, 2, 2, 1, 2, 2, 1, 2, 2] (.cd 74) rfl, xk B14 [2, 2, 1, 2, 2, 1, 2, 2, 1, 2, 2, 1, 2, 2] .sq rfl, show (nav B14 [1, 2, 2, 1, 2, 2, 1, 2, 2, 1, 2, 2, 1, 2, 2]) = Code.region 7 _ false from rfl, hk_14_7, hz_14_7, hs_14_7, xk B14 [2, 2, 2, 1, 2, 2, 1, 2, 2, 1, 2, 2, 1, 2, 2] .rt rfl, R14_airz_l2.st, h1, h3, hc6, h8]
    · replace hF := Option.bind_eq_some_iff.1 hF
      obtain ⟨o9, h10, hF⟩ := hF
      have hc11 := f21_iii_ok k v2.To 1 h0_ _ h10
      cases o9 with
      | o0 v12 =>
        (try dsimp only at hF)
        (try simp only [NM, EE, R21_iii.st] at hc11)
        simp (maxSteps := 999999) (disch := first | exact D (by decide) | exact K (by kernel_rfl)) only [E, EE, ↓reduceIte, simprocAttr, fieldAddrV, u_44, i_44, is_44, ib_44, iz_44, u_3, i_3, is_3, ib_3, iz_3, u_24, i_24, is_24, ib_24, iz_24, callStep, CL, gv, List.contains, h1, h3, hc6, h8, hc11]
        replace hF := cond_some hF
        rcases hF with ⟨h13, hF⟩ | ⟨h13, hF⟩
        · cases hF
          simp (maxSteps := 999999) (disch := first | exact D (by decide) | exact K (by kernel_rfl)) only [E, EE, ↓reduceIte, simprocAttr, xk B14 [2, 1, 2, 2, 1, 2, 2, 1, 2, 2, 1, 2, 2] (.cd 74) rfl, xk B14 [2, 2, 1, 2, 2, 1, 2, 2, 1, 2, 2, 1, 2, 2] .sq rfl, show (nav B14 [1, 2, 2, 1, 2, 2, 1, 2, 2, 1, 2, 2, 1, 2, 2]) = Code.region 7 _ false from rfl, hk_14_7, hz_14_7, hs_14_7, xk B14 [2, 2, 2, 1, 2, 2, 1, 2, 2, 1, 2, 2, 1, 2, 2] .rt rfl, R14_airz_l2.st, h1, h3, hc6, h8, hc11, h13]
        · simp (maxSteps := 999999) (disch := first | exact D (by decide) | exact K (by kernel_rfl)) only [E, EE, ↓reduceIte, simprocAttr, fieldAddrV, u_44, i_44, is_44, ib_44, iz_44, u_3, i_3, is_3, ib_3, iz_3, h1, h3, hc6, h8, hc11, h13]
          replace hF := cond_some hF
          rcases hF with ⟨h14, hF⟩ | ⟨h14, hF⟩
          · cases hF
            simp (maxSteps := 999999) (disch := first | exact D (by decide) | exact K (by kernel_rfl)) only [E, EE, ↓reduceIte, simprocAttr, xk B14 [2, 1, 2, 2, 1, 2, 2, 1, 2, 2, 1, 2, 2] (.cd 74) rfl, xk B14 [2, 2, 1, 2, 2, 1, 2, 2, 1, 2, 2, 1, 2, 2] .sq rfl, show (nav B14 [1, 2, 2, 1, 2, 2, 1, 2, 2, 1, 2, 2, 1, 2, 2]) = Code.region 7 _ false from rfl, hk_14_7, hz_14_7, hs_14_7, xk B14 [2, 2, 2, 1, 2, 2, 1, 2, 2, 1, 2, 2, 1, 2, 2] .rt rfl, R14_airz_l2.st, h1, h3, hc6, h8, hc11, h13, h14]
          · simp (maxSteps := 999999) (disch := first | exact D (by decide) | exact K (by kernel_rfl)) only [E, EE, ↓reduceIte, simprocAttr, fieldAddrV, u_44, i_44, is_44, ib_44, iz_44, u_3, i_3, is_3, ib_3, iz_3, h1, h3, hc6, h8, hc11, h13, h14]
            replace hF := cond_some hF
            rcases hF with ⟨h15, hF⟩ | ⟨h15, hF⟩
            · cases hF
              simp (maxSteps := 999999) (disch := first | exact D (by decide) | exact K (by kernel_rfl)) only [E, EE, ↓reduceIte, simprocAttr, xk B14 [2, 1, 2, 2, 1, 2, 2, 1, 2, 2, 1, 2, 2] (.cd 74) rfl, xk B14 [2, 2, 1, 2, 2, 1, 2, 2, 1, 2, 2, 1, 2, 2] .sq rfl, show (nav B14 [1, 2, 2, 1, 2, 2, 1, 2, 2, 1, 2, 2, 1, 2, 2]) = Code.region 7 _ false from rfl, hk_14_7, hz_14_7, hs_14_7, xk B14 [2, 2, 2, 1, 2, 2, 1, 2, 2, 1, 2, 2, 1, 2, 2] .rt rfl, R14_airz_l2.st, h1, h3, hc6, h8, hc11, h13, h14, h15]
            · simp (maxSteps := 999999) (disch := first | exact D (by decide) | exact K (by kernel_rfl)) only [E, EE, ↓reduceIte, simprocAttr, fieldAddrV, u_44, i_44, is_44, ib_44, iz_44, u_3, i_3, is_3, ib_3, iz_3, h1, h3, hc6, h8, hc11, h13, h14, h15]
              replace hF := cond_some hF
              rcases hF with ⟨h16, hF⟩ | ⟨h16, hF⟩
              · cases hF
                simp (maxSteps := 999999) (disch := first | exact D (by decide) | exact K (by kernel_rfl)) only [E, EE, ↓reduceIte, simprocAttr, xk B14 [2, 1, 2, 2, 1, 2, 2, 1, 2, 2, 1, 2, 2] (.cd 74) rfl, xk B14 [2, 2, 1, 2, 2, 1, 2, 2, 1, 2, 2, 1, 2, 2] .sq rfl, show (nav B14 [1, 2, 2, 1, 2, 2, 1, 2, 2, 1, 2, 2, 1, 2, 2]) = Code.region 7 _ false from rfl, hk_14_7, hz_14_7, hs_14_7, xk B14 [2, 2, 2, 1, 2, 2, 1, 2, 2, 1, 2, 2, 1, 2, 2] .rt rfl, R14_airz_l2.st, h1, h3, hc6, h8, hc11, h13, h14, h15, h16]
              · simp (maxSteps := 999999) (disch := first | exact D (by decide) | exact K (by kernel_rfl)) only [E, EE, ↓reduceIte, simprocAttr, fieldAddrV, u_44, i_44, is_44, ib_44, iz_44, u_3, i_3, is_3, ib_3, iz_3, h1, h3, hc6, h8, hc11, h13, h14, h15, h16]
                replace hF := cond_some hF
                rcases hF with ⟨h17, hF⟩ | ⟨h17, hF⟩
                · cases hF
                  simp (maxSteps := 999999) (disch := first | exact D (by decide) | exact K (by kernel_rfl)) only [E, EE, ↓reduceIte, simprocAttr, xk B14 [2, 1, 2, 2, 1, 2, 2, 1, 2, 2, 1, 2, 2] (.cd 74) rfl, xk B14 [2, 2, 1, 2, 2, 1, 2, 2, 1, 2, 2, 1, 2, 2] .sq rfl, show (nav B14 [1, 2, 2, 1, 2, 2, 1, 2, 2, 1, 2, 2, 1, 2, 2]) = Code.region 7 _ false from rfl, hk_14_7, hz_14_7, hs_14_7, xk B14 [2, 2, 2, 1, 2, 2, 1, 2, 2, 1, 2, 2, 1, 2, 2] .rt rfl, R14_airz_l2.st, h1, h3, hc6, h8, hc11, h13, h14, h15, h16, h17]
                · replace hF := Option.bind_eq_some_iff.1 hF
                  obtain ⟨o18, h19, hF⟩ := hF
                  have hc20 := f21_iii_ok k v2.Rate 1 4096 _ h19
                  cases o18 with
                  | o0 v21 =>
                    (try dsimp only at hF)
                    (try simp only [NM, EE, R21_iii.st] at hc20)
                    simp (maxSteps := 999999) (disch := first | exact D (by decide) | exact K (by kernel_rfl)) only [E, EE, ↓reduceIte, simprocAttr, fieldAddrV, u_44, i_44, is_44, ib_44, iz_44, u_3, i_3, is_3, ib_3, iz_3, callStep, CL, gv, List.contains, h1, h3, hc6, h8, hc11, h13, h14, h15, h16, h17, hc20]
                    replace hF := cond_some hF
                    rcases hF with ⟨h22, hF⟩ | ⟨h22, hF⟩
                    · cases hF
                      simp (maxSteps := 999999) (disch := first | exact D (by decide) | exact K (by kernel_rfl)) only [E, EE, ↓reduceIte, simprocAttr, xk B14 [2, 1, 2, 2, 1, 2, 2, 1, 2, 2, 1, 2, 2] (.cd 74) rfl, xk B14 [2, 2, 1, 2, 2, 1, 2, 2, 1, 2, 2, 1, 2, 2] .sq rfl, show (nav B14 [1, 2, 2, 1, 2, 2, 1, 2, 2, 1, 2, 2, 1, 2, 2]) = Code.region 7 _ false from rfl, hk_14_7, hz_14_7, hs_14_7, xk B14 [2, 2, 2, 1, 2, 2, 1, 2, 2, 1, 2, 2, 1, 2, 2] .rt rfl, R14_airz_l2.st, h1, h3, hc6, h8, hc11, h13, h14, h15, h16, h17, hc20, h22]
                    · replace hF := Option.bind_eq_some_iff.1 hF
                      obtain ⟨o23, h24, hF⟩ := hF
                      have hc25 := f21_iii_ok k v2.Delay 0 4096 _ h24
                      cases o23 with
                      | o0 v26 =>
                        (try dsimp only at hF)
                        (try simp only [NM, EE, R21_iii.st] at hc25)
                        simp (maxSteps := 999999) (disch := first | exact D (by decide) | exact K (by kernel_rfl)) only [E, EE, ↓reduceIte, simprocAttr, fieldAddrV, u_44, i_44, is_44, ib_44, iz_44, u_3, i_3, is_3, ib_3, iz_3, callStep, CL, gv, List.contains, xk B14 [2, 1, 2, 2, 1, 2, 2, 1, 2, 2, 1, 2, 2] (.cd 74) rfl, h1, h3, hc6, h8, hc11, h13, h14, h15, h16, h17, hc20, h22, hc25]
                        replace hF := cond_some hF
                        rcases hF with ⟨h27, hF⟩ | ⟨h27, hF⟩
                        · cases hF
                          simp (maxSteps := 999999) (disch := first | exact D (by decide) | exact K (by kernel_rfl)) only [E, EE, ↓reduceIte, simprocAttr, xk B14 [2, 2, 1, 2, 2, 1, 2, 2, 1, 2, 2, 1, 2, 2] .sq rfl, show (nav B14 [1, 2, 2, 1, 2, 2, 1, 2, 2, 1, 2, 2, 1, 2, 2]) = Code.region 7 _ false from rfl, hk_14_7, hz_14_7, hs_14_7, xk B14 [2, 2, 2, 1, 2, 2, 1, 2, 2, 1, 2, 2, 1, 2, 2] .rt rfl, R14_airz_l2.st, h1, h3, hc6, h8, hc11, h13, h14, h15, h16, h17, hc20, h22, hc25, h27]
                        · have hJ := f14_airz_l2_j2_ok k x20 x18 x19 x20 false h0_ h0__1 v2.From v2.To v2.Start v2.End v2.Rate v2.Delay _ hF
                          simp (maxSteps := 999999) (disch := first | exact D (by decide) | exact K (by kernel_rfl)) only [E, EE, ↓reduceIte, simprocAttr, xk B14 [3, 2, 1, 2, 2, 1, 2, 2, 1, 2, 2, 1, 2, 2] .sk rfl, h1, h3, hc6, h8, hc11, h13, h14, h15, h16, h17, hc20, h22, hc25, h27]
                          try simp only [NM, EE] at hJ
                          exact hJ
noncomputable def f14_airz_l2_b (k : Nat) (x18 : List T44) (x19 x20 h0_ : Int) (h0__1 : List T44) : Option R14_airz_l2 :=
  cond ((decide (x20 < x19)))
    (f14_airz_l2_j1 k x18 x19 x20 true h0_ h0__1)
    (some (R14_airz_l2.o2 x18 x19 x20 false h0_ h0__1))
theorem f14_airz_l2_b_ok (k : Nat) (x18 : List T44) (x19 x20 h0_ : Int) (h0__1 : List T44) (r : R14_airz_l2) (hF : f14_airz_l2_b k x18 x19 x20 h0_ h0__1 = some r) : EX 14 k (nav B14 [1, 2, 2, 1, 2, 2]) ({ n := 112, F := [(1, V.ptr 30000 0), (18, V.sl 6 (rowsOf encT44 x18)), (19, V.p (Value.int .i64 x19)), (20, V.p (Value.int .i64 x20))], M := [(30000, O.box 24 [V.p (Value.int .i64 h0_), V.sl 6 (rowsOf encT44 h0__1)])] } : St) = some r.st := by
  unfold f14_airz_l2_b at hF
  simp (maxSteps := 999999) (disch := first | exact D (by decide) | exact K (by kernel_rfl)) only [E, EE, ↓reduceIte, simprocAttr, xk B14 [1, 2, 2, 1, 2, 2] .sq rfl, show (nav B14 [1, 1, 2, 2, 1, 2, 2]) = Code.region 4 _ false from rfl, hk_14_4, hz_14_4, hs_14_4, xk B14 [2, 1, 2, 2, 1, 2, 2] .sq rfl, xk B14 [1, 2, 1, 2, 2, 1, 2, 2] (.cd 21) rfl]
  replace hF := cond_some hF
  rcases hF with ⟨h1, hF⟩ | ⟨h1, hF⟩
  · have hJ := f14_airz_l2_j1_ok k x18 x19 x20 true h0_ h0__1 _ hF
    simp (maxSteps := 999999) (disch := first | exact D (by decide) | exact K (by kernel_rfl)) only [E, EE, ↓reduceIte, simprocAttr, xk B14 [2, 1, 2, 1, 2, 2, 1, 2, 2] .sk rfl, h1]
    try simp only [NM, EE] at hJ
    exact hJ
  · cases hF
    simp (maxSteps := 999999) (disch := first | exact D (by decide) | exact K (by kernel_rfl)) only [E, EE, ↓reduceIte, simprocAttr, xk B14 [3, 1, 2, 1, 2, 2, 1, 2, 2] (.ex 0) rfl, R14_airz_l2.st, h1]
noncomputable def f14_airz_l2 (k : Nat) : Nat → (List T44) → Int → Int → Int → (List T44) → Option R14_airz_l2
  | 0, _, _, _, _, _ => none
  | n + 1, x18, x19, x20, h0_, h0__1 => Option.bind (f14_airz_l2_b k x18 x19 x20 h0_ h0__1) fun o =>
    match o with
    | .o0 y => some (.o0 y)
    | .o1 y y_1 y_2 y_3 y_4 => f14_airz_l2 k n y y_1 y_2 y_3 y_4
    | .o2 y y_1 y_2 y_3 y_4 y_5 => some (.o2 y y_1 y_2 y_3 y_4 y_5)
theorem f14_airz_l2_ok (k n : Nat) : ∀ (x18 : List T44) (x19 x20 h0_ : Int) (h0__1 : List T44) (r : R14_airz_l2) (hF : f14_airz_l2 k n x18 x19 x20 h0_ h0__1 = some r) (σ : St) (hσ : headR (hints.head 14 4) (hints.canon 14 4) σ = some ({ n := 112, F := [(1, V.ptr 30000 0), (18, V.sl 6 (rowsOf encT44 x18)), (19, V.p (Value.int .i64 x19)), (20, V.p (Value.int .i64 x20))], M := [(30000, O.box 24 [V.p (Value.int .i64 h0_), V.sl 6 (rowsOf encT44 h0__1)])] } : St)), LP 14 k (nav B14 [1, 2, 2, 1, 2, 2]) n σ = some r.st := by
  induction n with
  | zero => intro x18 x19 x20 h0_ h0__1 r hF; cases hF
  | succ n ih =>
    intro x18 x19 x20 h0_ h0__1 r hF σ hσ
    rw [f14_airz_l2] at hF
    obtain ⟨o, h, hF⟩ := Option.bind_eq_some_iff.1 hF
    have hB := f14_airz_l2_b_ok k x18 x19 x20 h0_ h0__1 o h
    unfold LP at ih ⊢
    unfold EX at hB
    rw [loopK_succ, show firstReg (nav B14 [1, 2, 2, 1, 2, 2]) = 4 from rfl, hσ, headK_some, hB]
    cases o with
    | o0 y => cases hF; rfl
    | o1 y y_1 y_2 y_3 y_4 =>
      refine ih y y_1 y_2 y_3 y_4 r hF _ ?_
      simp (maxSteps := 999999) (disch := first | exact D (by decide) | exact K (by kernel_rfl)) only [E, EE, ↓reduceIte, simprocAttr, hh_14_4, hc_14_4]
    | o2 y y_1 y_2 y_3 y_4 y_5 => cases hF; rfl
noncomputable def f14_airz_j3 (k : Nat) (x18 : List T44) (x19 x20 : Int) (x21 : Bool) (h0_ : Int) (h0__1 : List T44) : Option R14_airz :=
  some (R14_airz.o0 0)
theorem f14_airz_j3_ok (k : Nat) (x18 : List T44) (x19 x20 : Int) (x21 : Bool) (h0_ : Int) (h0__1 : List T44) (r : R14_airz) (hF : f14_airz_j3 k x18 x19 x20 x21 h0_ h0__1 = some r) : finK Try.prog Try.f14 0 (EX 14 k (nav B14 [2, 2, 2]) ({ n := 112, F := [(1, V.ptr 30000 0), (18, V.sl 6 (rowsOf encT44 x18)), (19, V.p (Value.int .i64 x19)), (20, V.p (Value.int .i64 x20)), (21, V.p (Value.bool x21))], M := [(30000, O.box 24 [V.p (Value.int .i64 h0_), V.sl 6 (rowsOf encT44 h0__1)])] } : St)) = some r.st := by
  unfold f14_airz_j3 at hF
  cases hF
  simp (maxSteps := 999999) (disch := first | exact D (by decide) | exact K (by kernel_rfl)) only [E, EE, ↓reduceIte, simprocAttr, xk B14 [2, 2, 2] .sq rfl, show (nav B14 [1, 2, 2, 2]) = Code.region 15 _ false from rfl, hk_14_15, hz_14_15, hs_14_15, xk B14 [2, 2, 2, 2] .rt rfl, finK_norm, finK_ret, fin14, R14_airz.st]
noncomputable def f14_airz_j1 (k : Nat) (x16 : Bool) (m1 : Int) (m1_1 : List T44) : Option R14_airz :=
  Option.bind (f14_airz_l2 k k m1_1 ((List.length m1_1) : Int) 0 m1 m1_1) fun o1 =>
    match o1 with
    | .o0 v4 =>
      some (R14_airz.o0 v4)
    | .o1 _ _ _ _ _ =>
      none
    | .o2 v5 v6 v7 v8 v9 v10 =>
      f14_airz_j3 k v5 v6 v7 v8 v9 v10
theorem f14_airz_j1_ok (k : Nat) (x16 : Bool) (m1 : Int) (m1_1 : List T44) (r : R14_airz) (hF : f14_airz_j1 k x16 m1 m1_1 = some r) : finK Try.prog Try.f14 0 (EX 14 k (nav B14 [2, 2]) ({ n := 112, F := [(1, V.ptr 1 0), (16, V.p (Value.bool x16))], M := [(1, O.box 24 [V.p (Value.int .i64 m1), V.sl 6 (rowsOf encT44 m1_1)])] } : St)) = some r.st := by
  unfold f14_airz_j1 at hF
  replace hF := Option.bind_eq_some_iff.1 hF
  obtain ⟨o1, h2, hF⟩ := hF
  have hc3 := f14_airz_l2_ok k k m1_1 ((List.length m1_1) : Int) 0 m1 m1_1 _ h2
  simp (maxSteps := 999999) (disch := first | exact D (by decide) | exact K (by kernel_rfl)) only [E, EE, ↓reduceIte, simprocAttr, xk B14 [2, 2] .sq rfl, xk B14 [1, 2, 2] .sq rfl, show (nav B14 [1, 1, 2, 2]) = Code.region 3 _ false from rfl, hk_14_3, hz_14_3, hs_14_3, fieldAddrV, u_24, i_24, is_24, ib_24, iz_24, u_22, i_22, is_22, ib_22, iz_22, xk B14 [2, 1, 2, 2] (.bk 0) rfl, xk B14 [2, 2, 1, 2, 2] .lp rfl, hh_14_4, hc_14_4]
  (try simp only [NM, EE] at hc3)
  rw [hc3 _ (by simp (maxSteps := 999999) (disch := first | exact D (by decide) | exact K (by kernel_rfl)) only [E, EE, ↓reduceIte, simprocAttr, hh_14_4, hc_14_4])]
  clear hc3
  cases o1 with
  | o0 v4 =>
    (try dsimp only at hF)
    cases hF
    simp (maxSteps := 999999) (disch := first | exact D (by decide) | exact K (by kernel_rfl)) only [E, EE, ↓reduceIte, simprocAttr, R14_airz_l2.st, finK_norm, finK_ret, fin14, R14_airz.st]
  | o1 _ _ _ _ _ =>
    (try dsimp only at hF)
    cases hF
  | o2 v5 v6 v7 v8 v9 v10 =>
    (try dsimp only at hF)
    have hJ := f14_airz_j3_ok k v5 v6 v7 v8 v9 v10 _ hF
    simp (maxSteps := 999999) (disch := first | exact D (by decide) | exact K (by kernel_rfl)) only [E, EE, ↓reduceIte, simprocAttr, R14_airz_l2.st]
    try simp only [NM, EE] at hJ
    exact hJ
noncomputable def f14_airz_e (k : Nat) (a0 : Int) (a0_1 : List T44) : Option R14_airz :=
  Option.bind (f21_iii k a0 2 6) fun o1 =>
    match o1 with
    | .o0 v4 =>
      cond ((!v4))
        (some (R14_airz.o0 230))
        (
          cond ((decide (((List.length a0_1) : Int) > 24)))
            (some (R14_airz.o0 230))
            (f14_airz_j1 k false a0 a0_1))
theorem f14_airz_e_ok (k : Nat) (a0 : Int) (a0_1 : List T44) (r : R14_airz) (hF : f14_airz_e k a0 a0_1 = some r) : finK Try.prog Try.f14 0 (EX 14 k (nav B14 []) ({ n := 112, F := [(0, V.agg [V.p (Value.int .i64 a0), V.sl 6 (rowsOf encT44 a0_1)])], M := [] } : St)) = some r.st := by
  unfold f14_airz_e at hF
  replace hF := Option.bind_eq_some_iff.1 hF
  obtain ⟨o1, h2, hF⟩ := hF
  have hc3 := f21_iii_ok k a0 2 6 _ h2
  cases o1 with
  | o0 v4 =>
    (try dsimp only at hF)
    (try simp only [NM, EE, R21_iii.st] at hc3)
    simp (maxSteps := 999999) (disch := first | exact D (by decide) | exact K (by kernel_rfl)) only [E, EE, ↓reduceIte, simprocAttr, xk B14 [] .sq rfl, show (nav B14 [1]) = Code.region 0 _ false from rfl, hk_14_0, hz_14_0, hs_14_0, xk B14 [2] .sq rfl, xk B14 [1, 2] .sq rfl, show (nav B14 [1, 1, 2]) = Code.region 1 _ false from rfl, hk_14_1, hz_14_1, hs_14_1, fieldAddrV, u_24, i_24, is_24, ib_24, iz_24, u_3, i_3, is_3, ib_3, iz_3, callStep, CL, gv, List.contains, hc3]
    replace hF := cond_some hF
    rcases hF with ⟨h5, hF⟩ | ⟨h5, hF⟩
    · cases hF
      simp (maxSteps := 999999) (disch := first | exact D (by decide) | exact K (by kernel_rfl)) only [E, EE, ↓reduceIte, simprocAttr, xk B14 [2, 1, 2] (.cd 16) rfl, xk B14 [2, 2, 1, 2] .sq rfl, show (nav B14 [1, 2, 2, 1, 2]) = Code.region 2 _ false from rfl, hk_14_2, hz_14_2, hs_14_2, xk B14 [2, 2, 2, 1, 2] .rt rfl, finK_norm, finK_ret, fin14, R14_airz.st, hc3, h5]
    · simp (maxSteps := 999999) (disch := first | exact D (by decide) | exact K (by kernel_rfl)) only [E, EE, ↓reduceIte, simprocAttr, fieldAddrV, u_24, i_24, is_24, ib_24, iz_24, u_22, i_22, is_22, ib_22, iz_22, xk B14 [2, 1, 2] (.cd 16) rfl, hc3, h5]
      replace hF := cond_some hF
      rcases hF with ⟨h6, hF⟩ | ⟨h6, hF⟩
      · cases hF
        simp (maxSteps := 999999) (disch := first | exact D (by decide) | exact K (by kernel_rfl)) only [E, EE, ↓reduceIte, simprocAttr, xk B14 [2, 2, 1, 2] .sq rfl, show (nav B14 [1, 2, 2, 1, 2]) = Code.region 2 _ false from rfl, hk_14_2, hz_14_2, hs_14_2, xk B14 [2, 2, 2, 1, 2] .rt rfl, finK_norm, finK_ret, fin14, R14_airz.st, hc3, h5, h6]
      · have hJ := f14_airz_j1_ok k false a0 a0_1 _ hF
        simp (maxSteps := 999999) (disch := first | exact D (by decide) | exact K (by kernel_rfl)) only [E, EE, ↓reduceIte, simprocAttr, xk B14 [3, 2, 1, 2] .sk rfl, hc3, h5, h6]
        try simp only [NM, EE] at hJ
        exact hJ
noncomputable def f14_airz (k : Nat) (a0 : Int) (a0_1 : List T44) : Option R14_airz := match k with | 0 => none | k + 1 => f14_airz_e k a0 a0_1
theorem f14_airz_ok (k : Nat) (a0 : Int) (a0_1 : List T44) (r : R14_airz) (hF : f14_airz k a0 a0_1 = some r) : CV k 14 [V.agg [V.p (Value.int .i64 a0), V.sl 6 (rowsOf encT44 a0_1)]] [] = some r.st := by
  cases k with
  | zero => cases hF
  | succ k =>
    unfold CV
    rw [ev_call (F := Try.f14) (c := (nav B14 [])) rfl Try.func14 rfl rfl rfl rfl]
    exact f14_airz_e_ok k a0 a0_1 r hF
-- f26_ai6zppp_bibibi: f26 heliograph/plan.Open$1
inductive R26_ai6zppp_bibibi where
  | o0 (y : Bool) (y_1 y_2 y_3 : Int)
noncomputable def R26_ai6zppp_bibibi.st : R26_ai6zppp_bibibi → V × List O × List O
  | .o0 y y_1 y_2 y_3 => (V.p (Value.bool y), [O.box 3 [V.p (Value.int .i64 y_1)], O.box 3 [V.p (Value.int .i64 y_2)], O.box 3 [V.p (Value.int .i64 y_3)]], [])
noncomputable def f26_ai6zppp_bibibi_e (k : Nat) (a0 a0_1 a0_2 a0_3 a0_4 a0_5 e0 e1 e2 : Int) : Option R26_ai6zppp_bibibi :=
  cond ((a0 == e0))
    (
      cond ((a0_1 == e1))
        (
          cond ((decide (a0_2 ≤ e2)))
            (some (R26_ai6zppp_bibibi.o0 (decide (e2 < a0_3)) e0 e1 e2))
            (some (R26_ai6zppp_bibibi.o0 false e0 e1 e2)))
        (some (R26_ai6zppp_bibibi.o0 false e0 e1 e2)))
    (some (R26_ai6zppp_bibibi.o0 false e0 e1 e2))
theorem f26_ai6zppp_bibibi_e_ok (k : Nat) (a0 a0_1 a0_2 a0_3 a0_4 a0_5 e0 e1 e2 : Int) (r : R26_ai6zppp_bibibi) (hF : f26_ai6zppp_bibibi_e k a0 a0_1 a0_2 a0_3 a0_4 a0_5 e0 e1 e2 = some r) : finK Try.prog Try.f26 3 (EX 26 k (nav B26 []) ({ n := 28, F := [(0, V.agg [V.p (Value.int .i64 a0), V.p (Value.int .i64 a0_1), V.p (Value.int .i64 a0_2), V.p (Value.int .i64 a0_3), V.p (Value.int .i64 a0_4), V.p (Value.int .i64 a0_5)]), (1, V.ptr 1000000 0), (2, V.ptr 1000001 0), (3, V.ptr 1000002 0)], M := [(1000000, O.box 3 [V.p (Value.int .i64 e0)]), (1000001, O.box 3 [V.p (Value.int .i64 e1)]), (1000002, O.box 3 [V.p (Value.int .i64 e2)])] } : St)) = some r.st := by
  unfold f26_ai6zppp_bibibi_e at hF
  simp (maxSteps := 999999) (disch := first | exact D (by decide) | exact K (by kernel_rfl)) only [E, EE, ↓reduceIte, simprocAttr, xk B26 [] .sq rfl, show (nav B26 [1]) = Code.region 0 _ false from rfl, hk_26_0, hz_26_0, hs_26_0, xk B26 [2] .sq rfl, show (nav B26 [1, 2]) = Code.region 1 _ false from rfl, hk_26_1, hz_26_1, hs_26_1, fieldAddrV, u_44, i_44, is_44, ib_44, iz_44, u_3, i_3, is_3, ib_3, iz_3]
  replace hF := cond_some hF
  rcases hF with ⟨h1, hF⟩ | ⟨h1, hF⟩
  · simp (maxSteps := 999999) (disch := first | exact D (by decide) | exact K (by kernel_rfl)) only [E, EE, ↓reduceIte, simprocAttr, fieldAddrV, u_44, i_44, is_44, ib_44, iz_44, u_3, i_3, is_3, ib_3, iz_3, h1]
    replace hF := cond_some hF
    rcases hF with ⟨h2, hF⟩ | ⟨h2, hF⟩
    · simp (maxSteps := 999999) (disch := first | exact D (by decide) | exact K (by kernel_rfl)) only [E, EE, ↓reduceIte, simprocAttr, fieldAddrV, u_44, i_44, is_44, ib_44, iz_44, u_3, i_3, is_3, ib_3, iz_3, h1, h2]
      replace hF := cond_some hF
      rcases hF with ⟨h3, hF⟩ | ⟨h3, hF⟩
      · cases hF
        simp (maxSteps := 999999) (disch := first | exact D (by decide) | exact K (by kernel_rfl)) only [E, EE, ↓reduceIte, simprocAttr, u_3, i_3, is_3, ib_3, iz_3, fieldAddrV, u_44, i_44, is_44, ib_44, iz_44, xk B26 [2, 2] .rt rfl, finK_norm, finK_ret, fin26, R26_ai6zppp_bibibi.st, h1, h2, h3]
      · cases hF
        simp (maxSteps := 999999) (disch := first | exact D (by decide) | exact K (by kernel_rfl)) only [E, EE, ↓reduceIte, simprocAttr, xk B26 [2, 2] .rt rfl, finK_norm, finK_ret, fin26, R26_ai6zppp_bibibi.st, h1, h2, h3]
    · cases hF
      simp (maxSteps := 999999) (disch := first | exact D (by decide) | exact K (by kernel_rfl)) only [E, EE, ↓reduceIte, simprocAttr, xk B26 [2, 2] .rt rfl, finK_norm, finK_ret, fin26, R26_ai6zppp_bibibi.st, h1, h2]
  · cases hF
    simp (maxSteps := 999999) (disch := first | exact D (by decide) | exact K (by kernel_rfl)) only [E, EE, ↓reduceIte, simprocAttr, xk B26 [2, 2] .rt rfl, finK_norm, finK_ret, fin26, R26_ai6zppp_bibibi.st, h1]
noncomputable def f26_ai6zppp_bibibi (k : Nat) (a0 a0_1 a0_2 a0_3 a0_4 a0_5 e0 e1 e2 : Int) : Option R26_ai6zppp_bibibi := match k with | 0 => none | k + 1 => f26_ai6zppp_bibibi_e k a0 a0_1 a0_2 a0_3 a0_4 a0_5 e0 e1 e2
theorem f26_ai6zppp_bibibi_ok (k : Nat) (a0 a0_1 a0_2 a0_3 a0_4 a0_5 e0 e1 e2 : Int) (r : R26_ai6zppp_bibibi) (hF : f26_ai6zppp_bibibi k a0 a0_1 a0_2 a0_3 a0_4 a0_5 e0 e1 e2 = some r) : CV k 26 [V.agg [V.p (Value.int .i64 a0), V.p (Value.int .i64 a0_1), V.p (Value.int .i64 a0_2), V.p (Value.int .i64 a0_3), V.p (Value.int .i64 a0_4), V.p (Value.int .i64 a0_5)], V.ptr 1000000 0, V.ptr 1000001 0, V.ptr 1000002 0] [O.box 3 [V.p (Value.int .i64 e0)], O.box 3 [V.p (Value.int .i64 e1)], O.box 3 [V.p (Value.int .i64 e2)]] = some r.st := by
  cases k with
  | zero => cases hF
  | succ k =>
    unfold CV
    rw [ev_call (F := Try.f26) (c := (nav B26 [])) rfl Try.func26 rfl rfl rfl rfl]
    exact f26_ai6zppp_bibibi_e_ok k a0 a0_1 a0_2 a0_3 a0_4 a0_5 e0 e1 e2 r hF
-- f25_rF26ppp_bibibi: f25 slices.IndexFunc[[]heliograph/api.Contact,heliograph/api.Contact]
inductive R25_rF26ppp_bibibi where
  | o0 (y y_1 y_2 y_3 : Int)
noncomputable def R25_rF26ppp_bibibi.st : R25_rF26ppp_bibibi → V × List O × List O
  | .o0 y y_1 y_2 y_3 => (V.p (Value.int .i64 y), [O.box 3 [V.p (Value.int .i64 y_1)], O.box 3 [V.p (Value.int .i64 y_2)], O.box 3 [V.p (Value.int .i64 y_3)]], [])
inductive R25_rF26ppp_bibibi_l1 where
  | o0 (y y_1 y_2 y_3 : Int)
  | o1 (y : List T44) (y_1 y_2 y_3 y_4 y_5 : Int)
  | o2 (y : List T44) (y_1 y_2 : Int) (y_3 : Bool) (y_4 y_5 y_6 : Int)
noncomputable def R25_rF26ppp_bibibi_l1.st : R25_rF26ppp_bibibi_l1 → Out × St
  | .o0 y y_1 y_2 y_3 => (.ret, ({ n := 19, F := [(4, V.p (Value.int .i64 y))], M := [(1000000, O.box 3 [V.p (Value.int .i64 y_1)]), (1000001, O.box 3 [V.p (Value.int .i64 y_2)]), (1000002, O.box 3 [V.p (Value.int .i64 y_3)])] } : St))
  | .o1 y y_1 y_2 y_3 y_4 y_5 => (.norm, ({ n := 19, F := [(0, V.sl 6 (rowsOf encT44 y)), (1, V.fn 26 [V.ptr 1000000 0, V.ptr 1000001 0, V.ptr 1000002 0]), (7, V.p (Value.int .i64 y_1)), (8, V.p (Value.int .i64 y_2))], M := [(1000000, O.box 3 [V.p (Value.int .i64 y_3)]), (1000001, O.box 3 [V.p (Value.int .i64 y_4)]), (1000002, O.box 3 [V.p (Value.int .i64 y_5)])] } : St))
  | .o2 y y_1 y_2 y_3 y_4 y_5 y_6 => (.exit 0, ({ n := 19, F := [(0, V.sl 6 (rowsOf encT44 y)), (1, V.fn 26 [V.ptr 1000000 0, V.ptr 1000001 0, V.ptr 1000002 0]), (7, V.p (Value.int .i64 y_1)), (8, V.p (Value.int .i64 y_2)), (9, V.p (Value.bool y_3))], M := [(1000000, O.box 3 [V.p (Value.int .i64 y_4)]), (1000001, O.box 3 [V.p (Value.int .i64 y_5)]), (1000002, O.box 3 [V.p (Value.int .i64 y_6)])] } : St))
noncomputable def f25_rF26ppp_bibibi_l1_j2 (k : Nat) (x0 : List T44) (x5 x7 x8 : Int) (x16 : Bool) (e0 e1 e2 : Int) : Option R25_rF26ppp_bibibi_l1 :=
  some (R25_rF26ppp_bibibi_l1.o1 x0 x7 (IntKind.i64.wrap (x8 + (1 : Int))) e0 e1 e2)
theorem f25_rF26ppp_bibibi_l1_j2_ok (k : Nat) (x0 : List T44) (x5 x7 x8 : Int) (x16 : Bool) (e0 e1 e2 : Int) (r : R25_rF26ppp_bibibi_l1) (hF : f25_rF26ppp_bibibi_l1_j2 k x0 x5 x7 x8 x16 e0 e1 e2 = some r) : EX 25 k (nav B25 [2, 2, 2, 1, 2, 2, 1, 2]) ({ n := 19, F := [(0, V.sl 6 (rowsOf encT44 x0)), (1, V.fn 26 [V.ptr 1000000 0, V.ptr 1000001 0, V.ptr 1000002 0]), (5, V.p (Value.int .i64 x5)), (7, V.p (Value.int .i64 x7)), (8, V.p (Value.int .i64 x8)), (16, V.p (Value.bool x16))], M := [(1000000, O.box 3 [V.p (Value.int .i64 e0)]), (1000001, O.box 3 [V.p (Value.int .i64 e1)]), (1000002, O.box 3 [V.p (Value.int .i64 e2)])] } : St) = some r.st := by
  unfold f25_rF26ppp_bibibi_l1_j2 at hF
  cases hF
  simp (maxSteps := 999999) (disch := first | exact D (by decide) | exact K (by kernel_rfl)) only [E, EE, ↓reduceIte, simprocAttr, show (nav B25 [2, 2, 2, 1, 2, 2, 1, 2]) = Code.region 6 _ false from rfl, hk_25_6, hz_25_6, hs_25_6, R25_rF26ppp_bibibi_l1.st]
noncomputable def f25_rF26ppp_bibibi_l1_j1 (k : Nat) (x0 : List T44) (x7 x8 : Int) (x9 : Bool) (e0 e1 e2 : Int) : Option R25_rF26ppp_bibibi_l1 :=
  ifE ((0 : Int) ≤ x8) (
    Option.bind (x0[(Int.toNat x8)]?) fun v2 =>
      Option.bind (f26_ai6zppp_bibibi k v2.From v2.To v2.Start v2.End v2.Rate v2.Delay e0 e1 e2) fun o4 =>
        match o4 with
        | .o0 v7 v8 v9 v10 =>
          cond (v7)
            (some (R25_rF26ppp_bibibi_l1.o0 x8 v8 v9 v10))
            (f25_rF26ppp_bibibi_l1_j2 k x0 x8 x7 x8 false v8 v9 v10))
theorem f25_rF26ppp_bibibi_l1_j1_ok (k : Nat) (x0 : List T44) (x7 x8 : Int) (x9 : Bool) (e0 e1 e2 : Int) (r : R25_rF26ppp_bibibi_l1) (hF : f25_rF26ppp_bibibi_l1_j1 k x0 x7 x8 x9 e0 e1 e2 = some r) : EX 25 k (nav B25 [2, 2, 1, 2, 2, 1, 2]) ({ n := 19, F := [(0, V.sl 6 (rowsOf encT44 x0)), (1, V.fn 26 [V.ptr 1000000 0, V.ptr 1000001 0, V.ptr 1000002 0]), (7, V.p (Value.int .i64 x7)), (8, V.p (Value.int .i64 x8)), (9, V.p (Value.bool x9))], M := [(1000000, O.box 3 [V.p (Value.int .i64 e0)]), (1000001, O.box 3 [V.p (Value.int .i64 e1)]), (1000002, O.box 3 [V.p (Value.int .i64 e2)])] } : St) = some r.st := by
  unfold f25_rF26ppp_bibibi_l1_j1 at hF
  replace hF := ifE_some.1 hF
  obtain ⟨h1, hF⟩ := hF
  replace hF := Option.bind_eq_some_iff.1 hF
  obtain ⟨v2, h3, hF⟩ := hF
  replace hF := Option.bind_eq_some_iff.1 hF
  obtain ⟨o4, h5, hF⟩ := hF
  have hc6 := f26_ai6zppp_bibibi_ok k v2.From v2.To v2.Start v2.End v2.Rate v2.Delay e0 e1 e2 _ h5
  cases o4 with
  | o0 v7 v8 v9 v10 =>
    (try dsimp only at hF)
    (try simp only [NM, EE, R26_ai6zppp_bibibi.st] at hc6)
    simp (maxSteps := 999999) (disch := first | exact D (by decide) | exact K (by kernel_rfl)) only [E, EE, ↓reduceIte, simprocAttr, xk B25 [2, 2, 1, 2, 2, 1, 2] .sq rfl, xk B25 [1, 2, 2, 1, 2, 2, 1, 2] (.bk 1) rfl, xk B25 [2, 1, 2, 2, 1, 2, 2, 1, 2] .sq rfl, show (nav B25 [1, 2, 1, 2, 2, 1, 2, 2, 1, 2]) = Code.region 3 _ false from rfl, hk_25_3, hz_25_3, hs_25_3, xk B25 [2, 2, 1, 2, 2, 1, 2, 2, 1, 2] .sq rfl, show (nav B25 [1, 2, 2, 1, 2, 2, 1, 2, 2, 1, 2]) = Code.region 4 _ false from rfl, hk_25_4, hz_25_4, hs_25_4, indexAddrV, u_22, i_22, is_22, ib_22, iz_22, u_44, i_44, is_44, ib_44, iz_44, encT44_eq, callStep, CL, gv, List.contains, xk B25 [2, 2, 2, 1, 2, 2, 1, 2, 2, 1, 2] (.cd 16) rfl, h1, h3, hc6]
    replace hF := cond_some hF
    rcases hF with ⟨h11, hF⟩ | ⟨h11, hF⟩
    · cases hF
      simp (maxSteps := 999999) (disch := first | exact D (by decide) | exact K (by kernel_rfl)) only [E, EE, ↓reduceIte, simprocAttr, xk B25 [2, 2, 2, 2, 1, 2, 2, 1, 2, 2, 1, 2] .sq rfl, show (nav B25 [1, 2, 2, 2, 2, 1, 2, 2, 1, 2, 2, 1, 2]) = Code.region 5 _ false from rfl, hk_25_5, hz_25_5, hs_25_5, xk B25 [2, 2, 2, 2, 2, 1, 2, 2, 1, 2, 2, 1, 2] .rt rfl, R25_rF26ppp_bibibi_l1.st, h1, h3, hc6, h11]
    · have hJ := f25_rF26ppp_bibibi_l1_j2_ok k x0 x8 x7 x8 false v8 v9 v10 _ hF
      simp (maxSteps := 999999) (disch := first | exact D (by decide) | exact K (by kernel_rfl)) only [E, EE, ↓reduceIte, simprocAttr, xk B25 [3, 2, 2, 2, 1, 2, 2, 1, 2, 2, 1, 2] .sk rfl, h1, h3, hc6, h11]
      try simp only [NM, EE] at hJ
      exact hJ
noncomputable def f25_rF26ppp_bibibi_l1_b (k : Nat) (x0 : List T44) (x7 x8 e0 e1 e2 : Int) : Option R25_rF26ppp_bibibi_l1 :=
  cond ((decide (x8 < x7)))
    (f25_rF26ppp_bibibi_l1_j1 k x0 x7 x8 true e0 e1 e2)
    (some (R25_rF26ppp_bibibi_l1.o2 x0 x7 x8 false e0 e1 e2))
theorem f25_rF26ppp_bibibi_l1_b_ok (k : Nat) (x0 : List T44) (x7 x8 e0 e1 e2 : Int) (r : R25_rF26ppp_bibibi_l1) (hF : f25_rF26ppp_bibibi_l1_b k x0 x7 x8 e0 e1 e2 = some r) : EX 25 k (nav B25 [1, 2, 2, 1, 2]) ({ n := 19, F := [(0, V.sl 6 (rowsOf encT44 x0)), (1, V.fn 26 [V.ptr 1000000 0, V.ptr 1000001 0, V.ptr 1000002 0]), (7, V.p (Value.int .i64 x7)), (8, V.p (Value.int .i64 x8))], M := [(1000000, O.box 3 [V.p (Value.int .i64 e0)]), (1000001, O.box 3 [V.p (Value.int .i64 e1)]), (1000002, O.box 3 [V.p (Value.int .i64 e2)])] } : St) = some r.st := by
  unfold f25_rF26ppp_bibibi_l1_b at hF
  simp (maxSteps := 999999) (disch := first | exact D (by decide) | exact K (by kernel_rfl)) only [E, EE, ↓reduceIte, simprocAttr, xk B25 [1, 2, 2, 1, 2] .sq rfl, show (nav B25 [1, 1, 2, 2, 1, 2]) = Code.region 2 _ false from rfl, hk_25_2, hz_25_2, hs_25_2, xk B25 [2, 1, 2, 2, 1, 2] .sq rfl, xk B25 [1, 2, 1, 2, 2, 1, 2] (.cd 9) rfl]
  replace hF := cond_some hF
  rcases hF with ⟨h1, hF⟩ | ⟨h1, hF⟩
  · have hJ := f25_rF26ppp_bibibi_l1_j1_ok k x0 x7 x8 true e0 e1 e2 _ hF
    simp (maxSteps := 999999) (disch := first | exact D (by decide) | exact K (by kernel_rfl)) only [E, EE, ↓reduceIte, simprocAttr, xk B25 [2, 1, 2, 1, 2, 2, 1, 2] .sk rfl, h1]
    try simp only [NM, EE] at hJ
    exact hJ
  · cases hF
    simp (maxSteps := 999999) (disch := first | exact D (by decide) | exact K (by kernel_rfl)) only [E, EE, ↓reduceIte, simprocAttr, xk B25 [3, 1, 2, 1, 2, 2, 1, 2] (.ex 0) rfl, R25_rF26ppp_bibibi_l1.st, h1]
noncomputable def f25_rF26ppp_bibibi_l1 (k : Nat) : Nat → (List T44) → Int → Int → Int → Int → Int → Option R25_rF26ppp_bibibi_l1
  | 0, _, _, _, _, _, _ => none
  | n + 1, x0, x7, x8, e0, e1, e2 => Option.bind (f25_rF26ppp_bibibi_l1_b k x0 x7 x8 e0 e1 e2) fun o =>
    match o with
    | .o0 y y_1 y_2 y_3 => some (.o0 y y_1 y_2 y_3)
    | .o1 y y_1 y_2 y_3 y_4 y_5 => f25_rF26ppp_bibibi_l1 k n y y_1 y_2 y_3 y_4 y_5
    | .o2 y y_1 y_2 y_3 y_4 y_5 y_6 => some (.o2 y y_1 y_2 y_3 y_4 y_5 y_6)
theorem f25_rF26ppp_bibibi_l1_ok (k n : Nat) : ∀ (x0 : List T44) (x7 x8 e0 e1 e2 : Int) (r : R25_rF26ppp_bibibi_l1) (hF : f25_rF26ppp_bibibi_l1 k n x0 x7 x8 e0 e1 e2 = some r) (σ : St) (hσ : headR (hints.head 25 2) (hints.canon 25 2) σ = some ({ n := 19, F := [(0, V.sl 6 (rowsOf encT44 x0)), (1, V.fn 26 [V.ptr 1000000 0, V.ptr 1000001 0, V.ptr 1000002 0]), (7, V.p (Value.int .i64 x7)), (8, V.p (Value.int .i64 x8))], M := [(1000000, O.box 3 [V.p (Value.int .i64 e0)]), (1000001, O.box 3 [V.p (Value.int .i64 e1)]), (1000002, O.box 3 [V.p (Value.int .i64 e2)])] } : St)), LP 25 k (nav B25 [1, 2, 2, 1, 2]) n σ = some r.st := by
  induction n with
  | zero => intro x0 x7 x8 e0 e1 e2 r hF; cases hF
  | succ n ih =>
    intro x0 x7 x8 e0 e1 e2 r hF σ hσ
    rw [f25_rF26ppp_bibibi_l1] at hF
    obtain ⟨o, h, hF⟩ := Option.bind_eq_some_iff.1 hF
    have hB := f25_rF26ppp_bibibi_l1_b_ok k x0 x7 x8 e0 e1 e2 o h
    unfold LP at ih ⊢
    unfold EX at hB
    rw [loopK_succ, show firstReg (nav B25 [1, 2, 2, 1, 2]) = 2 from rfl, hσ, headK_some, hB]
    cases o with
    | o0 y y_1 y_2 y_3 => cases hF; rfl
    | o1 y y_1 y_2 y_3 y_4 y_5 =>
      refine ih y y_1 y_2 y_3 y_4 y_5 r hF _ ?_
      simp (maxSteps := 999999) (disch := first | exact D (by decide) | exact K (by kernel_rfl)) only [E, EE, ↓reduceIte, simprocAttr, hh_25_2, hc_25_2]
    | o2 y y_1 y_2 y_3 y_4 y_5 y_6 => cases hF; rfl
noncomputable def f25_rF26ppp_bibibi_j2 (k : Nat) (x0 : List T44) (x7 x8 : Int) (x9 : Bool) (e0 e1 e2 : Int) : Option R25_rF26ppp_bibibi :=
  some (R25_rF26ppp_bibibi.o0 (-1) e0 e1 e2)
theorem f25_rF26ppp_bibibi_j2_ok (k : Nat) (x0 : List T44) (x7 x8 : Int) (x9 : Bool) (e0 e1 e2 : Int) (r : R25_rF26ppp_bibibi) (hF : f25_rF26ppp_bibibi_j2 k x0 x7 x8 x9 e0 e1 e2 = some r) : finK Try.prog Try.f25 3 (EX 25 k (nav B25 [2, 2]) ({ n := 19, F := [(0, V.sl 6 (rowsOf encT44 x0)), (1, V.fn 26 [V.ptr 1000000 0, V.ptr 1000001 0, V.ptr 1000002 0]), (7, V.p (Value.int .i64 x7)), (8, V.p (Value.int .i64 x8)), (9, V.p (Value.bool x9))], M := [(1000000, O.box 3 [V.p (Value.int .i64 e0)]), (1000001, O.box 3 [V.p (Value.int .i64 e1)]), (1000002, O.box 3 [V.p (Value.int .i64 e2)])] } : St)) = some r.st := by
  unfold f25_rF26ppp_bibibi_j2 at hF
  cases hF
  simp (maxSteps := 999999) (disch := first | exact D (by decide) | exact K (by kernel_rfl)) only [E, EE, ↓reduceIte, simprocAttr, xk B25 [2, 2] .sq rfl, show (nav B25 [1, 2, 2]) = Code.region 7 _ false from rfl, hk_25_7, hz_25_7, hs_25_7, xk B25 [2, 2, 2] .rt rfl, finK_norm, finK_ret, fin25, R25_rF26ppp_bibibi.st]
noncomputable def f25_rF26ppp_bibibi_e (k : Nat) (a0 : List T44) (e0 e1 e2 : Int) : Option R25_rF26ppp_bibibi :=
  Option.bind (f25_rF26ppp_bibibi_l1 k k a0 ((List.length a0) : Int) 0 e0 e1 e2) fun o1 =>
    match o1 with
    | .o0 v4 v5 v6 v7 =>
      some (R25_rF26ppp_bibibi.o0 v4 v5 v6 v7)
    | .o1 _ _ _ _ _ _ =>
      none
    | .o2 v8 v9 v10 v11 v12 v13 v14 =>
      f25_rF26ppp_bibibi_j2 k v8 v9 v10 v11 v12 v13 v14
theorem f25_rF26ppp_bibibi_e_ok (k : Nat) (a0 : List T44) (e0 e1 e2 : Int) (r : R25_rF26ppp_bibibi) (hF : f25_rF26ppp_bibibi_e k a0 e0 e1 e2 = some r) : finK Try.prog Try.f25 3 (EX 25 k (nav B25 []) ({ n := 19, F := [(0, V.sl 6 (rowsOf encT44 a0)), (1, V.fn 26 [V.ptr 1000000 0, V.ptr 1000001 0, V.ptr 1000002 0])], M := [(1000000, O.box 3 [V.p (Value.int .i64 e0)]), (1000001, O.box 3 [V.p (Value.int .i64 e1)]), (1000002, O.box 3 [V.p (Value.int .i64 e2)])] } : St)) = some r.st := by
  unfold f25_rF26ppp_bibibi_e at hF
  replace hF := Option.bind_eq_some_iff.1 hF
  obtain ⟨o1, h2, hF⟩ := hF
  have hc3 := f25_rF26ppp_bibibi_l1_ok k k a0 ((List.length a0) : Int) 0 e0 e1 e2 _ h2
  simp (maxSteps := 999999) (disch := first | exact D (by decide) | exact K (by kernel_rfl)) only [E, EE, ↓reduceIte, simprocAttr, xk B25 [] .sq rfl, show (nav B25 [1]) = Code.region 0 _ false from rfl, hk_25_0, hz_25_0, hs_25_0, xk B25 [2] .sq rfl, xk B25 [1, 2] .sq rfl, show (nav B25 [1, 1, 2]) = Code.region 1 _ false from rfl, hk_25_1, hz_25_1, hs_25_1, u_22, i_22, is_22, ib_22, iz_22, xk B25 [2, 1, 2] (.bk 0) rfl, xk B25 [2, 2, 1, 2] .lp rfl, hh_25_2, hc_25_2]
  (try simp only [NM, EE] at hc3)
  rw [hc3 _ (by simp (maxSteps := 999999) (disch := first | exact D (by decide) | exact K (by kernel_rfl)) only [E, EE, ↓reduceIte, simprocAttr, hh_25_2, hc_25_2])]
  clear hc3
  cases o1 with
  | o0 v4 v5 v6 v7 =>
    (try dsimp only at hF)
    cases hF
    simp (maxSteps := 999999) (disch := first | exact D (by decide) | exact K (by kernel_rfl)) only [E, EE, ↓reduceIte, simprocAttr, R25_rF26ppp_bibibi_l1.st, finK_norm, finK_ret, fin25, R25_rF26ppp_bibibi.st]
  | o1 _ _ _ _ _ _ =>
    (try dsimp only at hF)
    cases hF
  | o2 v8 v9 v10 v11 v12 v13 v14 =>
    (try dsimp only at hF)
    have hJ := f25_rF26ppp_bibibi_j2_ok k v8 v9 v10 v11 v12 v13 v14 _ hF
    simp (maxSteps := 999999) (disch := first | exact D (by decide) | exact K (by kernel_rfl)) only [E, EE, ↓reduceIte, simprocAttr, R25_rF26ppp_bibibi_l1.st]
    try simp only [NM, EE] at hJ
    exact hJ
noncomputable def f25_rF26ppp_bibibi (k : Nat) (a0 : List T44) (e0 e1 e2 : Int) : Option R25_rF26ppp_bibibi := match k with | 0 => none | k + 1 => f25_rF26ppp_bibibi_e k a0 e0 e1 e2
theorem f25_rF26ppp_bibibi_ok (k : Nat) (a0 : List T44) (e0 e1 e2 : Int) (r : R25_rF26ppp_bibibi) (hF : f25_rF26ppp_bibibi k a0 e0 e1 e2 = some r) : CV k 25 [V.sl 6 (rowsOf encT44 a0), V.fn 26 [V.ptr 1000000 0, V.ptr 1000001 0, V.ptr 1000002 0]] [O.box 3 [V.p (Value.int .i64 e0)], O.box 3 [V.p (Value.int .i64 e1)], O.box 3 [V.p (Value.int .i64 e2)]] = some r.st := by
  cases k with
  | zero => cases hF
  | succ k =>
    unfold CV
    rw [ev_call (F := Try.f25) (c := (nav B25 [])) rfl Try.func25 rfl rfl rfl rfl]
    exact f25_rF26ppp_bibibi_e_ok k a0 e0 e1 e2 r hF
end Go.Proofs.YtmogplhglcodjaaV
