/- What the program's functions answer: plain functions, and that the interpreter answers what they do. Written by a program of this session, out of the translation. -/
import Derived.Test.YtmogplhglcodjaaVP6
namespace Go.Proofs.YtmogplhglcodjaaV
open Go
set_option linter.unusedVariables false
set_option linter.unusedSimpArgs false
set_option maxRecDepth 8000
set_option maxHeartbeats 4000000
-- f11_airzriiii: f11 heliograph/heliographref13.Route
inductive R11_airzriiii where
  | o0 (y y_1 : Int)
noncomputable def R11_airzriiii.st : R11_airzriiii → V × List O × List O
  | .o0 y y_1 => (V.tup [V.p (Value.int .i64 y), V.p (Value.int .i64 y_1)], [], [])
inductive R11_airzriiii_l1 where
  | o0 (y : List Int) (y_1 y_2 y_3 y_4 y_5 y_6 y_7 y_8 : Int) (y_9 : List T44)
  | o1 (y : List Int) (y_1 y_2 y_3 y_4 y_5 y_6 y_7 : Int) (y_8 : Bool) (y_9 : Int) (y_10 : List T44)
noncomputable def R11_airzriiii_l1.st : R11_airzriiii_l1 → Out × St
  | .o0 y y_1 y_2 y_3 y_4 y_5 y_6 y_7 y_8 y_9 => (.norm, ({ n := 79, F := [(1, V.sl 1 (rowsOf (encI .i64) y)), (2, V.p (Value.int .i64 y_1)), (3, V.p (Value.int .i64 y_2)), (4, V.p (Value.int .i64 y_3)), (5, V.p (Value.int .i64 y_4)), (6, V.ptr 30000 0), (14, V.p (Value.int .i64 y_5)), (15, V.p (Value.int .i64 y_6)), (16, V.p (Value.int .i64 y_7))], M := [(30000, O.box 24 [V.p (Value.int .i64 y_8), V.sl 6 (rowsOf encT44 y_9)])] } : St))
  | .o1 y y_1 y_2 y_3 y_4 y_5 y_6 y_7 y_8 y_9 y_10 => (.exit 0, ({ n := 79, F := [(1, V.sl 1 (rowsOf (encI .i64) y)), (2, V.p (Value.int .i64 y_1)), (3, V.p (Value.int .i64 y_2)), (4, V.p (Value.int .i64 y_3)), (5, V.p (Value.int .i64 y_4)), (6, V.ptr 30000 0), (14, V.p (Value.int .i64 y_5)), (15, V.p (Value.int .i64 y_6)), (16, V.p (Value.int .i64 y_7)), (24, V.p (Value.bool y_8))], M := [(30000, O.box 24 [V.p (Value.int .i64 y_9), V.sl 6 (rowsOf encT44 y_10)])] } : St))
noncomputable def f11_airzriiii_l1_j2 (k : Nat) (x1 : List Int) (x2 x3 x4 x5 x14 x15 x16 : Int) (x49 : Bool) (h0_ : Int) (h0__1 : List T44) (m17 m17_1 m17_2 m17_3 m17_4 m17_5 : Int) : Option R11_airzriiii_l1 :=
  some (R11_airzriiii_l1.o0 x1 x2 x3 x4 x5 x14 x15 (IntKind.i64.wrap (x16 + (1 : Int))) h0_ h0__1)
theorem f11_airzriiii_l1_j2_ok (k : Nat) (x1 : List Int) (x2 x3 x4 x5 x14 x15 x16 : Int) (x49 : Bool) (h0_ : Int) (h0__1 : List T44) (m17 m17_1 m17_2 m17_3 m17_4 m17_5 : Int) (r : R11_airzriiii_l1) (hF : f11_airzriiii_l1_j2 k x1 x2 x3 x4 x5 x14 x15 x16 x49 h0_ h0__1 m17 m17_1 m17_2 m17_3 m17_4 m17_5 = some r) : EX 11 k (nav B11 [2, 2, 1, 2, 2, 1, 2, 2]) ({ n := 79, F := [(1, V.sl 1 (rowsOf (encI .i64) x1)), (2, V.p (Value.int .i64 x2)), (3, V.p (Value.int .i64 x3)), (4, V.p (Value.int .i64 x4)), (5, V.p (Value.int .i64 x5)), (6, V.ptr 30000 0), (14, V.p (Value.int .i64 x14)), (15, V.p (Value.int .i64 x15)), (16, V.p (Value.int .i64 x16)), (17, V.ptr 17 0), (49, V.p (Value.bool x49))], M := [(30000, O.box 24 [V.p (Value.int .i64 h0_), V.sl 6 (rowsOf encT44 h0__1)]), (17, O.box 44 [V.p (Value.int .i64 m17), V.p (Value.int .i64 m17_1), V.p (Value.int .i64 m17_2), V.p (Value.int .i64 m17_3), V.p (Value.int .i64 m17_4), V.p (Value.int .i64 m17_5)])] } : St) = some r.st := by
  unfold f11_airzriiii_l1_j2 at hF
  cases hF
  simp (maxSteps := 999999) (disch := first | exact D (by decide) | exact K (by kernel_rfl)) only [E, EE, ↓reduceIte, simprocAttr, show (nav B11 [2, 2, 1, 2, 2, 1, 2, 2]) = Code.region 4 _ false from rfl, hk_11_4, hz_11_4, hs_11_4, R11_airzriiii_l1.st]
noncomputable def f11_airzriiii_l1_j5 (k : Nat) (x1 : List Int) (x2 x3 x4 x5 x14 x15 x16 h0_ : Int) (h0__1 : List T44) : Option R11_airzriiii_l1 :=
  some (R11_airzriiii_l1.o0 x1 x2 x3 x4 x5 x14 x15 (IntKind.i64.wrap (x16 + (1 : Int))) h0_ h0__1)
theorem f11_airzriiii_l1_j5_ok (k : Nat) (x1 : List Int) (x2 x3 x4 x5 x14 x15 x16 h0_ : Int) (h0__1 : List T44) (r : R11_airzriiii_l1) (hF : f11_airzriiii_l1_j5 k x1 x2 x3 x4 x5 x14 x15 x16 h0_ h0__1 = some r) : EX 11 k (nav B11 [2, 2, 1, 2, 2, 1, 2, 2]) ({ n := 79, F := [(1, V.sl 1 (rowsOf (encI .i64) x1)), (2, V.p (Value.int .i64 x2)), (3, V.p (Value.int .i64 x3)), (4, V.p (Value.int .i64 x4)), (5, V.p (Value.int .i64 x5)), (6, V.ptr 30000 0), (14, V.p (Value.int .i64 x14)), (15, V.p (Value.int .i64 x15)), (16, V.p (Value.int .i64 x16))], M := [(30000, O.box 24 [V.p (Value.int .i64 h0_), V.sl 6 (rowsOf encT44 h0__1)])] } : St) = some r.st := by
  unfold f11_airzriiii_l1_j5 at hF
  cases hF
  simp (maxSteps := 999999) (disch := first | exact D (by decide) | exact K (by kernel_rfl)) only [E, EE, ↓reduceIte, simprocAttr, show (nav B11 [2, 2, 1, 2, 2, 1, 2, 2]) = Code.region 4 _ false from rfl, hk_11_4, hz_11_4, hs_11_4, R11_airzriiii_l1.st]
noncomputable def f11_airzriiii_l1_j6 (k : Nat) (x1 : List Int) (x2 x3 x4 x5 x14 x15 x16 x19 : Int) (x72 : Bool) (h0_ : Int) (h0__1 : List T44) : Option R11_airzriiii_l1 :=
  some (R11_airzriiii_l1.o0 x1 x2 x3 x4 x5 x14 x15 (IntKind.i64.wrap (x16 + (1 : Int))) h0_ h0__1)
theorem f11_airzriiii_l1_j6_ok (k : Nat) (x1 : List Int) (x2 x3 x4 x5 x14 x15 x16 x19 : Int) (x72 : Bool) (h0_ : Int) (h0__1 : List T44) (r : R11_airzriiii_l1) (hF : f11_airzriiii_l1_j6 k x1 x2 x3 x4 x5 x14 x15 x16 x19 x72 h0_ h0__1 = some r) : EX 11 k (nav B11 [2, 2, 1, 2, 2, 1, 2, 2]) ({ n := 79, F := [(1, V.sl 1 (rowsOf (encI .i64) x1)), (2, V.p (Value.int .i64 x2)), (3, V.p (Value.int .i64 x3)), (4, V.p (Value.int .i64 x4)), (5, V.p (Value.int .i64 x5)), (6, V.ptr 30000 0), (14, V.p (Value.int .i64 x14)), (15, V.p (Value.int .i64 x15)), (16, V.p (Value.int .i64 x16)), (19, V.p (Value.int .i64 x19)), (72, V.p (Value.bool x72))], M := [(30000, O.box 24 [V.p (Value.int .i64 h0_), V.sl 6 (rowsOf encT44 h0__1)])] } : St) = some r.st := by
  unfold f11_airzriiii_l1_j6 at hF
  cases hF
  simp (maxSteps := 999999) (disch := first | exact D (by decide) | exact K (by kernel_rfl)) only [E, EE, ↓reduceIte, simprocAttr, show (nav B11 [2, 2, 1, 2, 2, 1, 2, 2]) = Code.region 4 _ false from rfl, hk_11_4, hz_11_4, hs_11_4, R11_airzriiii_l1.st]
noncomputable def f11_airzriiii_l1_j4 (k : Nat) (x1 : List Int) (x2 x3 x4 x5 x14 x15 x16 x18 h0_ : Int) (h0__1 : List T44) (m17 m17_1 m17_2 m17_3 m17_4 m17_5 : Int) : Option R11_airzriiii_l1 :=
  Option.bind (f24_airzriii k h0_ h0__1 x1 m17_1 ((IntKind.i64.wrap ((IntKind.i64.wrap (x18 + m17_5)) + (1 : Int)))) x5) fun o1 =>
    match o1 with
    | .o0 v4 =>
      ifE ((0 : Int) ≤ x3) (
        ifE (x3 < 7) (
          Option.bind (v4[(Int.toNat x3)]?) fun v7 =>
            cond ((decide (v7 < x15)))
              (f11_airzriiii_l1_j5 k x1 x2 x3 x4 x5 x16 v7 x16 h0_ h0__1)
              (f11_airzriiii_l1_j6 k x1 x2 x3 x4 x5 x14 x15 x16 v7 false h0_ h0__1)))
theorem f11_airzriiii_l1_j4_ok (k : Nat) (x1 : List Int) (x2 x3 x4 x5 x14 x15 x16 x18 h0_ : Int) (h0__1 : List T44) (m17 m17_1 m17_2 m17_3 m17_4 m17_5 : Int) (r : R11_airzriiii_l1) (hF : f11_airzriiii_l1_j4 k x1 x2 x3 x4 x5 x14 x15 x16 x18 h0_ h0__1 m17 m17_1 m17_2 m17_3 m17_4 m17_5 = some r) : SQ 11 k (nav B11 [2, 2, 1, 2, 2, 1, 2, 2]) (blockK 1 (EX 11 k (nav B11 [2, 2, 2, 2, 2, 1, 2, 1, 2, 2, 1, 2, 2]) ({ n := 79, F := [(1, V.sl 1 (rowsOf (encI .i64) x1)), (2, V.p (Value.int .i64 x2)), (3, V.p (Value.int .i64 x3)), (4, V.p (Value.int .i64 x4)), (5, V.p (Value.int .i64 x5)), (6, V.ptr 30000 0), (14, V.p (Value.int .i64 x14)), (15, V.p (Value.int .i64 x15)), (16, V.p (Value.int .i64 x16)), (17, V.ptr 17 0), (18, V.p (Value.int .i64 x18))], M := [(30000, O.box 24 [V.p (Value.int .i64 h0_), V.sl 6 (rowsOf encT44 h0__1)]), (17, O.box 44 [V.p (Value.int .i64 m17), V.p (Value.int .i64 m17_1), V.p (Value.int .i64 m17_2), V.p (Value.int .i64 m17_3), V.p (Value.int .i64 m17_4), V.p (Value.int .i64 m17_5)])] } : St))) = some r.st := by
  unfold f11_airzriiii_l1_j4 at hF
  replace hF := Option.bind_eq_some_iff.1 hF
  obtain ⟨o1, h2, hF⟩ := hF
  have hc3 := f24_airzriii_ok k h0_ h0__1 x1 m17_1 ((IntKind.i64.wrap ((IntKind.i64.wrap (x18 + m17_5)) + (1 : Int)))) x5 _ h2
  cases o1 with
  | o0 v4 =>
    (try dsimp only at hF)
    (try simp only [NM, EE, R24_airzriii.st] at hc3)
    replace hF := ifE_some.1 hF
    obtain ⟨h5, hF⟩ := hF
    replace hF := ifE_some.1 hF
    obtain ⟨h6, hF⟩ := hF
    replace hF := Option.bind_eq_some_iff.1 hF
    obtain ⟨v7, h8, hF⟩ := hF
    simp (maxSteps := 999999) (disch := first | exact D (by decide) | exact K (by kernel_rfl)) only [E, EE, ↓reduceIte, simprocAttr, xk B11 [2, 2, 2, 2, 2, 1, 2, 1, 2, 2, 1, 2, 2] .sq rfl, show (nav B11 [1, 2, 2, 2, 2, 2, 1, 2, 1, 2, 2, 1, 2, 2]) = Code.region 10 _ false from rfl, hk_11_10, hz_11_10, hs_11_10, u_24, i_24, is_24, ib_24, iz_24, fieldAddrV, u_44, i_44, is_44, ib_44, iz_44, u_3, i_3, is_3, ib_3, iz_3, callStep, CL, gv, List.contains, arrIdxV, u_60, i_60, is_60, ib_60, iz_60, xk B11 [2, 2, 2, 2, 2, 2, 1, 2, 1, 2, 2, 1, 2, 2] .sq rfl, show (nav B11 [1, 2, 2, 2, 2, 2, 2, 1, 2, 1, 2, 2, 1, 2, 2]) = Code.region 11 _ false from rfl, hk_11_11, hz_11_11, hs_11_11, xk B11 [2, 2, 2, 2, 2, 2, 2, 1, 2, 1, 2, 2, 1, 2, 2] (.cd 72) rfl, hc3, h5, h6, h8]
    replace hF := cond_some hF
    rcases hF with ⟨h9, hF⟩ | ⟨h9, hF⟩
    · have hJ := f11_airzriiii_l1_j5_ok k x1 x2 x3 x4 x5 x16 v7 x16 h0_ h0__1 _ hF
      simp (maxSteps := 999999) (disch := first | exact D (by decide) | exact K (by kernel_rfl)) only [E, EE, ↓reduceIte, simprocAttr, show (nav B11 [2, 2, 2, 2, 2, 2, 2, 2, 1, 2, 1, 2, 2, 1, 2, 2]) = Code.region 12 _ false from rfl, hk_11_12, hz_11_12, hs_11_12, hc3, h5, h6, h8, h9]
      try simp only [NM, EE] at hJ
      exact hJ
    · have hJ := f11_airzriiii_l1_j6_ok k x1 x2 x3 x4 x5 x14 x15 x16 v7 false h0_ h0__1 _ hF
      simp (maxSteps := 999999) (disch := first | exact D (by decide) | exact K (by kernel_rfl)) only [E, EE, ↓reduceIte, simprocAttr, xk B11 [3, 2, 2, 2, 2, 2, 2, 2, 1, 2, 1, 2, 2, 1, 2, 2] .sk rfl, hc3, h5, h6, h8, h9]
      try simp only [NM, EE] at hJ
      exact hJ
noncomputable def f11_airzriiii_l1_j7 (k : Nat) (x1 : List Int) (x2 x3 x4 x5 x14 x15 x16 x18 : Int) (x54 : Bool) (h0_ : Int) (h0__1 : List T44) (m17 m17_1 m17_2 m17_3 m17_4 m17_5 : Int) : Option R11_airzriiii_l1 :=
  Option.bind (f24_airzriii k h0_ h0__1 x1 m17_1 ((IntKind.i64.wrap ((IntKind.i64.wrap (x18 + m17_5)) + (1 : Int)))) x5) fun o1 =>
    match o1 with
    | .o0 v4 =>
      ifE ((0 : Int) ≤ x3) (
        ifE (x3 < 7) (
          Option.bind (v4[(Int.toNat x3)]?) fun v7 =>
            cond ((decide (v7 < x15)))
              (f11_airzriiii_l1_j5 k x1 x2 x3 x4 x5 x16 v7 x16 h0_ h0__1)
              (f11_airzriiii_l1_j6 k x1 x2 x3 x4 x5 x14 x15 x16 v7 false h0_ h0__1)))
theorem f11_airzriiii_l1_j7_ok (k : Nat) (x1 : List Int) (x2 x3 x4 x5 x14 x15 x16 x18 : Int) (x54 : Bool) (h0_ : Int) (h0__1 : List T44) (m17 m17_1 m17_2 m17_3 m17_4 m17_5 : Int) (r : R11_airzriiii_l1) (hF : f11_airzriiii_l1_j7 k x1 x2 x3 x4 x5 x14 x15 x16 x18 x54 h0_ h0__1 m17 m17_1 m17_2 m17_3 m17_4 m17_5 = some r) : SQ 11 k (nav B11 [2, 2, 1, 2, 2, 1, 2, 2]) (blockK 1 (EX 11 k (nav B11 [2, 2, 2, 2, 2, 1, 2, 1, 2, 2, 1, 2, 2]) ({ n := 79, F := [(1, V.sl 1 (rowsOf (encI .i64) x1)), (2, V.p (Value.int .i64 x2)), (3, V.p (Value.int .i64 x3)), (4, V.p (Value.int .i64 x4)), (5, V.p (Value.int .i64 x5)), (6, V.ptr 30000 0), (14, V.p (Value.int .i64 x14)), (15, V.p (Value.int .i64 x15)), (16, V.p (Value.int .i64 x16)), (17, V.ptr 17 0), (18, V.p (Value.int .i64 x18)), (54, V.p (Value.bool x54))], M := [(30000, O.box 24 [V.p (Value.int .i64 h0_), V.sl 6 (rowsOf encT44 h0__1)]), (17, O.box 44 [V.p (Value.int .i64 m17), V.p (Value.int .i64 m17_1), V.p (Value.int .i64 m17_2), V.p (Value.int .i64 m17_3), V.p (Value.int .i64 m17_4), V.p (Value.int .i64 m17_5)])] } : St))) = some r.st := by
  unfold f11_airzriiii_l1_j7 at hF
  replace hF := Option.bind_eq_some_iff.1 hF
  obtain ⟨o1, h2, hF⟩ := hF
  have hc3 := f24_airzriii_ok k h0_ h0__1 x1 m17_1 ((IntKind.i64.wrap ((IntKind.i64.wrap (x18 + m17_5)) + (1 : Int)))) x5 _ h2
  cases o1 with
  | o0 v4 =>
    (try dsimp only at hF)
    (try simp only [NM, EE, R24_airzriii.st] at hc3)
    replace hF := ifE_some.1 hF
    obtain ⟨h5, hF⟩ := hF
    replace hF := ifE_some.1 hF
    obtain ⟨h6, hF⟩ := hF
    replace hF := Option.bind_eq_some_iff.1 hF
    obtain ⟨v7, h8, hF⟩ := hF
    simp (maxSteps := 999999) (disch := first | exact D (by decide) | exact K (by kernel_rfl)) only [E, EE, ↓reduceIte, simprocAttr, xk B11 [2, 2, 2, 2, 2, 1, 2, 1, 2, 2, 1, 2, 2] .sq rfl, show (nav B11 [1, 2, 2, 2, 2, 2, 1, 2, 1, 2, 2, 1, 2, 2]) = Code.region 10 _ false from rfl, hk_11_10, hz_11_10, hs_11_10, u_24, i_24, is_24, ib_24, iz_24, fieldAddrV, u_44, i_44, is_44, ib_44, iz_44, u_3, i_3, is_3, ib_3, iz_3, callStep, CL, gv, List.contains, arrIdxV, u_60, i_60, is_60, ib_60, iz_60, xk B11 [2, 2, 2, 2, 2, 2, 1, 2, 1, 2, 2, 1, 2, 2] .sq rfl, show (nav B11 [1, 2, 2, 2, 2, 2, 2, 1, 2, 1, 2, 2, 1, 2, 2]) = Code.region 11 _ false from rfl, hk_11_11, hz_11_11, hs_11_11, xk B11 [2, 2, 2, 2, 2, 2, 2, 1, 2, 1, 2, 2, 1, 2, 2] (.cd 72) rfl, hc3, h5, h6, h8]
    replace hF := cond_some hF
    rcases hF with ⟨h9, hF⟩ | ⟨h9, hF⟩
    · have hJ := f11_airzriiii_l1_j5_ok k x1 x2 x3 x4 x5 x16 v7 x16 h0_ h0__1 _ hF
      simp (maxSteps := 999999) (disch := first | exact D (by decide) | exact K (by kernel_rfl)) only [E, EE, ↓reduceIte, simprocAttr, show (nav B11 [2, 2, 2, 2, 2, 2, 2, 2, 1, 2, 1, 2, 2, 1, 2, 2]) = Code.region 12 _ false from rfl, hk_11_12, hz_11_12, hs_11_12, hc3, h5, h6, h8, h9]
      try simp only [NM, EE] at hJ
      exact hJ
    · have hJ := f11_airzriiii_l1_j6_ok k x1 x2 x3 x4 x5 x14 x15 x16 v7 false h0_ h0__1 _ hF
      simp (maxSteps := 999999) (disch := first | exact D (by decide) | exact K (by kernel_rfl)) only [E, EE, ↓reduceIte, simprocAttr, xk B11 [3, 2, 2, 2, 2, 2, 2, 2, 1, 2, 1, 2, 2, 1, 2, 2] .sk rfl, hc3, h5, h6, h8, h9]
      try simp only [NM, EE] at hJ
      exact hJ
noncomputable def f11_airzriiii_l1_j3 (k : Nat) (x1 : List Int) (x2 x3 x4 x5 x14 x15 x16 : Int) (x49 : Bool) (h0_ : Int) (h0__1 : List T44) (m17 m17_1 m17_2 m17_3 m17_4 m17_5 : Int) : Option R11_airzriiii_l1 :=
  cond ((decide (x4 < m17_2)))
    (f11_airzriiii_l1_j4 k x1 x2 x3 x4 x5 x14 x15 x16 m17_2 h0_ h0__1 m17 m17_1 m17_2 m17_3 m17_4 m17_5)
    (f11_airzriiii_l1_j7 k x1 x2 x3 x4 x5 x14 x15 x16 x4 false h0_ h0__1 m17 m17_1 m17_2 m17_3 m17_4 m17_5)
theorem f11_airzriiii_l1_j3_ok (k : Nat) (x1 : List Int) (x2 x3 x4 x5 x14 x15 x16 : Int) (x49 : Bool) (h0_ : Int) (h0__1 : List T44) (m17 m17_1 m17_2 m17_3 m17_4 m17_5 : Int) (r : R11_airzriiii_l1) (hF : f11_airzriiii_l1_j3 k x1 x2 x3 x4 x5 x14 x15 x16 x49 h0_ h0__1 m17 m17_1 m17_2 m17_3 m17_4 m17_5 = some r) : SQ 11 k (nav B11 [2, 2, 1, 2, 2, 1, 2, 2]) (blockK 1 (EX 11 k (nav B11 [2, 2, 2, 1, 2, 1, 2, 2, 1, 2, 2]) ({ n := 79, F := [(1, V.sl 1 (rowsOf (encI .i64) x1)), (2, V.p (Value.int .i64 x2)), (3, V.p (Value.int .i64 x3)), (4, V.p (Value.int .i64 x4)), (5, V.p (Value.int .i64 x5)), (6, V.ptr 30000 0), (14, V.p (Value.int .i64 x14)), (15, V.p (Value.int .i64 x15)), (16, V.p (Value.int .i64 x16)), (17, V.ptr 17 0), (49, V.p (Value.bool x49))], M := [(30000, O.box 24 [V.p (Value.int .i64 h0_), V.sl 6 (rowsOf encT44 h0__1)]), (17, O.box 44 [V.p (Value.int .i64 m17), V.p (Value.int .i64 m17_1), V.p (Value.int .i64 m17_2), V.p (Value.int .i64 m17_3), V.p (Value.int .i64 m17_4), V.p (Value.int .i64 m17_5)])] } : St))) = some r.st := by
  unfold f11_airzriiii_l1_j3 at hF
  simp (maxSteps := 999999) (disch := first | exact D (by decide) | exact K (by kernel_rfl)) only [E, EE, ↓reduceIte, simprocAttr, xk B11 [2, 2, 2, 1, 2, 1, 2, 2, 1, 2, 2] .sq rfl, show (nav B11 [1, 2, 2, 2, 1, 2, 1, 2, 2, 1, 2, 2]) = Code.region 7 _ false from rfl, hk_11_7, hz_11_7, hs_11_7, xk B11 [2, 2, 2, 2, 1, 2, 1, 2, 2, 1, 2, 2] .sq rfl, xk B11 [1, 2, 2, 2, 2, 1, 2, 1, 2, 2, 1, 2, 2] .sq rfl, show (nav B11 [1, 1, 2, 2, 2, 2, 1, 2, 1, 2, 2, 1, 2, 2]) = Code.region 8 _ false from rfl, hk_11_8, hz_11_8, hs_11_8, fieldAddrV, u_44, i_44, is_44, ib_44, iz_44, u_3, i_3, is_3, ib_3, iz_3, xk B11 [2, 1, 2, 2, 2, 2, 1, 2, 1, 2, 2, 1, 2, 2] (.cd 54) rfl]
  replace hF := cond_some hF
  rcases hF with ⟨h1, hF⟩ | ⟨h1, hF⟩
  · have hJ := f11_airzriiii_l1_j4_ok k x1 x2 x3 x4 x5 x14 x15 x16 m17_2 h0_ h0__1 m17 m17_1 m17_2 m17_3 m17_4 m17_5 _ hF
    simp (maxSteps := 999999) (disch := first | exact D (by decide) | exact K (by kernel_rfl)) only [E, EE, ↓reduceIte, simprocAttr, show (nav B11 [2, 2, 1, 2, 2, 2, 2, 1, 2, 1, 2, 2, 1, 2, 2]) = Code.region 9 _ false from rfl, hk_11_9, hz_11_9, hs_11_9, fieldAddrV, u_44, i_44, is_44, ib_44, iz_44, u_3, i_3, is_3, ib_3, iz_3, h1]
    try simp only [NM, EE] at hJ
    exact hJ
  · have hJ := f11_airzriiii_l1_j7_ok k x1 x2 x3 x4 x5 x14 x15 x16 x4 false h0_ h0__1 m17 m17_1 m17_2 m17_3 m17_4 m17_5 _ hF
    simp (maxSteps := 999999) (disch := first | exact D (by decide) | exact K (by kernel_rfl)) only [E, EE, ↓reduceIte, simprocAttr, xk B11 [3, 2, 1, 2, 2, 2, 2, 1, 2, 1, 2, 2, 1, 2, 2] .sk rfl, h1]
    try simp only [NM, EE] at hJ
    exact hJ
noncomputable def f11_airzriiii_l1_j1 (k : Nat) (x1 : List Int) (x2 x3 x4 x5 x14 x15 x16 : Int) (x24 : Bool) (h0_ : Int) (h0__1 : List T44) : Option R11_airzriiii_l1 :=
  ifE ((0 : Int) ≤ x16) (
    Option.bind (h0__1[(Int.toNat x16)]?) fun v2 =>
      cond ((v2.From != x2))
        (f11_airzriiii_l1_j2 k x1 x2 x3 x4 x5 x14 x15 x16 true h0_ h0__1 v2.From v2.To v2.Start v2.End v2.Rate v2.Delay)
        (
          cond ((decide (x4 ≥ v2.End)))
            (f11_airzriiii_l1_j2 k x1 x2 x3 x4 x5 x14 x15 x16 true h0_ h0__1 v2.From v2.To v2.Start v2.End v2.Rate v2.Delay)
            (
              Option.bind (x1[(Int.toNat x16)]?) fun v6 =>
                cond ((decide (x5 > v6)))
                  (f11_airzriiii_l1_j2 k x1 x2 x3 x4 x5 x14 x15 x16 true h0_ h0__1 v2.From v2.To v2.Start v2.End v2.Rate v2.Delay)
                  (f11_airzriiii_l1_j3 k x1 x2 x3 x4 x5 x14 x15 x16 false h0_ h0__1 v2.From v2.To v2.Start v2.End v2.Rate v2.Delay))))
theorem f11_airzriiii_l1_j1_ok (k : Nat) (x1 : List Int) (x2 x3 x4 x5 x14 x15 x16 : Int) (x24 : Bool) (h0_ : Int) (h0__1 : List T44) (r : R11_airzriiii_l1) (hF : f11_airzriiii_l1_j1 k x1 x2 x3 x4 x5 x14 x15 x16 x24 h0_ h0__1 = some r) : EX 11 k (nav B11 [2, 1, 2, 2, 1, 2, 2]) ({ n := 79, F := [(1, V.sl 1 (rowsOf (encI .i64) x1)), (2, V.p (Value.int .i64 x2)), (3, V.p (Value.int .i64 x3)), (4, V.p (Value.int .i64 x4)), (5, V.p (Value.int .i64 x5)), (6, V.ptr 30000 0), (14, V.p (Value.int .i64 x14)), (15, V.p (Value.int .i64 x15)), (16, V.p (Value.int .i64 x16)), (24, V.p (Value.bool x24))], M := [(30000, O.box 24 [V.p (Value.int .i64 h0_), V.sl 6 (rowsOf encT44 h0__1)])] } : St) = some r.st := by
  unfold f11_airzriiii_l1_j1 at hF
  replace hF := ifE_some.1 hF
  obtain ⟨h1, hF⟩ := hF
  replace hF := Option.bind_eq_some_iff.1 hF
  obtain ⟨v2, h3, hF⟩ := hF
  simp (maxSteps := 999999) (disch := first | exact D (by decide) | exact K (by kernel_rfl)) only [E, EE, ↓reduceIte, simprocAttr, xk B11 [2, 1, 2, 2, 1, 2, 2] .sq rfl, xk B11 [1, 2, 1, 2, 2, 1, 2, 2] (.bk 1) rfl, xk B11 [2, 1, 2, 1, 2, 2, 1, 2, 2] .sq rfl, show (nav B11 [1, 2, 1, 2, 1, 2, 2, 1, 2, 2]) = Code.region 5 _ false from rfl, hk_11_5, hz_11_5, hs_11_5, fieldAddrV, u_24, i_24, is_24, ib_24, iz_24, u_22, i_22, is_22, ib_22, iz_22, indexAddrV, u_44, i_44, is_44, ib_44, iz_44, encT44_eq, xk B11 [2, 2, 1, 2, 1, 2, 2, 1, 2, 2] .sq rfl, xk B11 [1, 2, 2, 1, 2, 1, 2, 2, 1, 2, 2] .sq rfl, show (nav B11 [1, 1, 2, 2, 1, 2, 1, 2, 2, 1, 2, 2]) = Code.region 6 _ false from rfl, hk_11_6, hz_11_6, hs_11_6, u_3, i_3, is_3, ib_3, iz_3, h1, h3]
  replace hF := cond_some hF
  rcases hF with ⟨h4, hF⟩ | ⟨h4, hF⟩
  · have hJ := f11_airzriiii_l1_j2_ok k x1 x2 x3 x4 x5 x14 x15 x16 true h0_ h0__1 v2.From v2.To v2.Start v2.End v2.Rate v2.Delay _ hF
    simp (maxSteps := 999999) (disch := first | exact D (by decide) | exact K (by kernel_rfl)) only [E, EE, ↓reduceIte, simprocAttr, xk B11 [2, 1, 2, 2, 1, 2, 1, 2, 2, 1, 2, 2] (.cd 49) rfl, xk B11 [2, 2, 1, 2, 2, 1, 2, 1, 2, 2, 1, 2, 2] (.ex 1) rfl, h1, h3, h4]
    try simp only [NM, EE] at hJ
    exact hJ
  · simp (maxSteps := 999999) (disch := first | exact D (by decide) | exact K (by kernel_rfl)) only [E, EE, ↓reduceIte, simprocAttr, fieldAddrV, u_44, i_44, is_44, ib_44, iz_44, u_3, i_3, is_3, ib_3, iz_3, h1, h3, h4]
    replace hF := cond_some hF
    rcases hF with ⟨h5, hF⟩ | ⟨h5, hF⟩
    · have hJ := f11_airzriiii_l1_j2_ok k x1 x2 x3 x4 x5 x14 x15 x16 true h0_ h0__1 v2.From v2.To v2.Start v2.End v2.Rate v2.Delay _ hF
      simp (maxSteps := 999999) (disch := first | exact D (by decide) | exact K (by kernel_rfl)) only [E, EE, ↓reduceIte, simprocAttr, xk B11 [2, 1, 2, 2, 1, 2, 1, 2, 2, 1, 2, 2] (.cd 49) rfl, xk B11 [2, 2, 1, 2, 2, 1, 2, 1, 2, 2, 1, 2, 2] (.ex 1) rfl, h1, h3, h4, h5]
      try simp only [NM, EE] at hJ
      exact hJ
    · replace hF := Option.bind_eq_some_iff.1 hF
      obtain ⟨v6, h7, hF⟩ := hF
      simp (maxSteps := 999999) (disch := first | exact D (by decide) | exact K (by kernel_rfl)) only [E, EE, ↓reduceIte, simprocAttr, indexAddrV, u_25, i_25, is_25, ib_25, iz_25, u_3, i_3, is_3, ib_3, iz_3, encI_eq, xk B11 [2, 1, 2, 2, 1, 2, 1, 2, 2, 1, 2, 2] (.cd 49) rfl, h1, h3, h4, h5, h7]
      replace hF := cond_some hF
      rcases hF with ⟨h8, hF⟩ | ⟨h8, hF⟩
      · have hJ := f11_airzriiii_l1_j2_ok k x1 x2 x3 x4 x5 x14 x15 x16 true h0_ h0__1 v2.From v2.To v2.Start v2.End v2.Rate v2.Delay _ hF
        simp (maxSteps := 999999) (disch := first | exact D (by decide) | exact K (by kernel_rfl)) only [E, EE, ↓reduceIte, simprocAttr, xk B11 [2, 2, 1, 2, 2, 1, 2, 1, 2, 2, 1, 2, 2] (.ex 1) rfl, h1, h3, h4, h5, h7, h8]
        try simp only [NM, EE] at hJ
        exact hJ
      · have hJ := f11_airzriiii_l1_j3_ok k x1 x2 x3 x4 x5 x14 x15 x16 false h0_ h0__1 v2.From v2.To v2.Start v2.End v2.Rate v2.Delay _ hF
        simp (maxSteps := 999999) (disch := first | exact D (by decide) | exact K (by kernel_rfl)) only [E, EE, ↓reduceIte, simprocAttr, xk B11 [3, 2, 1, 2, 2, 1, 2, 1, 2, 2, 1, 2, 2] .sk rfl, h1, h3, h4, h5, h7, h8]
        try simp only [NM, EE] at hJ
        exact hJ
noncomputable def f11_airzriiii_l1_b (k : Nat) (x1 : List Int) (x2 x3 x4 x5 x14 x15 x16 h0_ : Int) (h0__1 : List T44) : Option R11_airzriiii_l1 :=
  cond ((decide (x16 < ((List.length h0__1) : Int))))
    (f11_airzriiii_l1_j1 k x1 x2 x3 x4 x5 x14 x15 x16 true h0_ h0__1)
    (some (R11_airzriiii_l1.o1 x1 x2 x3 x4 x5 x14 x15 x16 false h0_ h0__1))
theorem f11_airzriiii_l1_b_ok (k : Nat) (x1 : List Int) (x2 x3 x4 x5 x14 x15 x16 h0_ : Int) (h0__1 : List T44) (r : R11_airzriiii_l1) (hF : f11_airzriiii_l1_b k x1 x2 x3 x4 x5 x14 x15 x16 h0_ h0__1 = some r) : EX 11 k (nav B11 [1, 2, 2, 1, 2, 2]) ({ n := 79, F := [(1, V.sl 1 (rowsOf (encI .i64) x1)), (2, V.p (Value.int .i64 x2)), (3, V.p (Value.int .i64 x3)), (4, V.p (Value.int .i64 x4)), (5, V.p (Value.int .i64 x5)), (6, V.ptr 30000 0), (14, V.p (Value.int .i64 x14)), (15, V.p (Value.int .i64 x15)), (16, V.p (Value.int .i64 x16))], M := [(30000, O.box 24 [V.p (Value.int .i64 h0_), V.sl 6 (rowsOf encT44 h0__1)])] } : St) = some r.st := by
  unfold f11_airzriiii_l1_b at hF
  simp (maxSteps := 999999) (disch := first | exact D (by decide) | exact K (by kernel_rfl)) only [E, EE, ↓reduceIte, simprocAttr, xk B11 [1, 2, 2, 1, 2, 2] .sq rfl, xk B11 [1, 1, 2, 2, 1, 2, 2] .sq rfl, show (nav B11 [1, 1, 1, 2, 2, 1, 2, 2]) = Code.region 3 _ false from rfl, hk_11_3, hz_11_3, hs_11_3, fieldAddrV, u_24, i_24, is_24, ib_24, iz_24, u_22, i_22, is_22, ib_22, iz_22, xk B11 [2, 1, 1, 2, 2, 1, 2, 2] (.cd 24) rfl]
  replace hF := cond_some hF
  rcases hF with ⟨h1, hF⟩ | ⟨h1, hF⟩
  · have hJ := f11_airzriiii_l1_j1_ok k x1 x2 x3 x4 x5 x14 x15 x16 true h0_ h0__1 _ hF
    simp (maxSteps := 999999) (disch := first | exact D (by decide) | exact K (by kernel_rfl)) only [E, EE, ↓reduceIte, simprocAttr, xk B11 [2, 2, 1, 1, 2, 2, 1, 2, 2] .sk rfl, h1]
    try simp only [NM, EE] at hJ
    exact hJ
  · cases hF
    simp (maxSteps := 999999) (disch := first | exact D (by decide) | exact K (by kernel_rfl)) only [E, EE, ↓reduceIte, simprocAttr, xk B11 [3, 2, 1, 1, 2, 2, 1, 2, 2] (.ex 0) rfl, R11_airzriiii_l1.st, h1]
noncomputable def f11_airzriiii_l1 (k : Nat) : Nat → (List Int) → Int → Int → Int → Int → Int → Int → Int → Int → (List T44) → Option R11_airzriiii_l1
  | 0, _, _, _, _, _, _, _, _, _, _ => none
  | n + 1, x1, x2, x3, x4, x5, x14, x15, x16, h0_, h0__1 => Option.bind (f11_airzriiii_l1_b k x1 x2 x3 x4 x5 x14 x15 x16 h0_ h0__1) fun o =>
    match o with
    | .o0 y y_1 y_2 y_3 y_4 y_5 y_6 y_7 y_8 y_9 => f11_airzriiii_l1 k n y y_1 y_2 y_3 y_4 y_5 y_6 y_7 y_8 y_9
    | .o1 y y_1 y_2 y_3 y_4 y_5 y_6 y_7 y_8 y_9 y_10 => some (.o1 y y_1 y_2 y_3 y_4 y_5 y_6 y_7 y_8 y_9 y_10)
theorem f11_airzriiii_l1_ok (k n : Nat) : ∀ (x1 : List Int) (x2 x3 x4 x5 x14 x15 x16 h0_ : Int) (h0__1 : List T44) (r : R11_airzriiii_l1) (hF : f11_airzriiii_l1 k n x1 x2 x3 x4 x5 x14 x15 x16 h0_ h0__1 = some r) (σ : St) (hσ : headR (hints.head 11 3) (hints.canon 11 3) σ = some ({ n := 79, F := [(1, V.sl 1 (rowsOf (encI .i64) x1)), (2, V.p (Value.int .i64 x2)), (3, V.p (Value.int .i64 x3)), (4, V.p (Value.int .i64 x4)), (5, V.p (Value.int .i64 x5)), (6, V.ptr 30000 0), (14, V.p (Value.int .i64 x14)), (15, V.p (Value.int .i64 x15)), (16, V.p (Value.int .i64 x16))], M := [(30000, O.box 24 [V.p (Value.int .i64 h0_), V.sl 6 (rowsOf encT44 h0__1)])] } : St)), LP 11 k (nav B11 [1, 2, 2, 1, 2, 2]) n σ = some r.st := by
  induction n with
  | zero => intro x1 x2 x3 x4 x5 x14 x15 x16 h0_ h0__1 r hF; cases hF
  | succ n ih =>
    intro x1 x2 x3 x4 x5 x14 x15 x16 h0_ h0__1 r hF σ hσ
    rw [f11_airzriiii_l1] at hF
    obtain ⟨o, h, hF⟩ := Option.bind_eq_some_iff.1 hF
    have hB := f11_airzriiii_l1_b_ok k x1 x2 x3 x4 x5 x14 x15 x16 h0_ h0__1 o h
    unfold LP at ih ⊢
    unfold EX at hB
    rw [loopK_succ, show firstReg (nav B11 [1, 2, 2, 1, 2, 2]) = 3 from rfl, hσ, headK_some, hB]
    cases o with
    | o0 y y_1 y_2 y_3 y_4 y_5 y_6 y_7 y_8 y_9 =>
      refine ih y y_1 y_2 y_3 y_4 y_5 y_6 y_7 y_8 y_9 r hF _ ?_
      simp (maxSteps := 999999) (disch := first | exact D (by decide) | exact K (by kernel_rfl)) only [E, EE, ↓reduceIte, simprocAttr, hh_11_3, hc_11_3]
    | o1 y y_1 y_2 y_3 y_4 y_5 y_6 y_7 y_8 y_9 y_10 => cases hF; rfl
noncomputable def f11_airzriiii_j3 (k : Nat) (x14 x15 : Int) (x76 : Bool) : Option R11_airzriiii :=
  some (R11_airzriiii.o0 x14 x15)
theorem f11_airzriiii_j3_ok (k : Nat) (x14 x15 : Int) (x76 : Bool) (r : R11_airzriiii) (hF : f11_airzriiii_j3 k x14 x15 x76 = some r) : finK Try.prog Try.f11 0 (EX 11 k (nav B11 [2, 2, 2, 2]) ({ n := 79, F := [(14, V.p (Value.int .i64 x14)), (15, V.p (Value.int .i64 x15)), (76, V.p (Value.bool x76))], M := [] } : St)) = some r.st := by
  unfold f11_airzriiii_j3 at hF
  cases hF
  simp (maxSteps := 999999) (disch := first | exact D (by decide) | exact K (by kernel_rfl)) only [E, EE, ↓reduceIte, simprocAttr, xk B11 [2, 2, 2, 2] .sq rfl, show (nav B11 [1, 2, 2, 2, 2]) = Code.region 15 _ false from rfl, hk_11_15, hz_11_15, hs_11_15, xk B11 [2, 2, 2, 2, 2] .rt rfl, finK_norm, finK_ret, fin11, R11_airzriiii.st]
noncomputable def f11_airzriiii_j2 (k : Nat) (x1 : List Int) (x2 x3 x4 x5 x14 x15 x16 : Int) (x24 : Bool) (h0_ : Int) (h0__1 : List T44) : Option R11_airzriiii :=
  cond ((decide (x14 < 0)))
    (some (R11_airzriiii.o0 (-1) 0))
    (f11_airzriiii_j3 k x14 x15 false)
theorem f11_airzriiii_j2_ok (k : Nat) (x1 : List Int) (x2 x3 x4 x5 x14 x15 x16 : Int) (x24 : Bool) (h0_ : Int) (h0__1 : List T44) (r : R11_airzriiii) (hF : f11_airzriiii_j2 k x1 x2 x3 x4 x5 x14 x15 x16 x24 h0_ h0__1 = some r) : finK Try.prog Try.f11 0 (EX 11 k (nav B11 [2, 2, 2]) ({ n := 79, F := [(1, V.sl 1 (rowsOf (encI .i64) x1)), (2, V.p (Value.int .i64 x2)), (3, V.p (Value.int .i64 x3)), (4, V.p (Value.int .i64 x4)), (5, V.p (Value.int .i64 x5)), (6, V.ptr 30000 0), (14, V.p (Value.int .i64 x14)), (15, V.p (Value.int .i64 x15)), (16, V.p (Value.int .i64 x16)), (24, V.p (Value.bool x24))], M := [(30000, O.box 24 [V.p (Value.int .i64 h0_), V.sl 6 (rowsOf encT44 h0__1)])] } : St)) = some r.st := by
  unfold f11_airzriiii_j2 at hF
  simp (maxSteps := 999999) (disch := first | exact D (by decide) | exact K (by kernel_rfl)) only [E, EE, ↓reduceIte, simprocAttr, xk B11 [2, 2, 2] .sq rfl, xk B11 [1, 2, 2, 2] .sq rfl, show (nav B11 [1, 1, 2, 2, 2]) = Code.region 13 _ false from rfl, hk_11_13, hz_11_13, hs_11_13, xk B11 [2, 1, 2, 2, 2] (.cd 76) rfl]
  replace hF := cond_some hF
  rcases hF with ⟨h1, hF⟩ | ⟨h1, hF⟩
  · cases hF
    simp (maxSteps := 999999) (disch := first | exact D (by decide) | exact K (by kernel_rfl)) only [E, EE, ↓reduceIte, simprocAttr, xk B11 [2, 2, 1, 2, 2, 2] .sq rfl, show (nav B11 [1, 2, 2, 1, 2, 2, 2]) = Code.region 14 _ false from rfl, hk_11_14, hz_11_14, hs_11_14, xk B11 [2, 2, 2, 1, 2, 2, 2] .rt rfl, finK_norm, finK_ret, fin11, R11_airzriiii.st, h1]
  · have hJ := f11_airzriiii_j3_ok k x14 x15 false _ hF
    simp (maxSteps := 999999) (disch := first | exact D (by decide) | exact K (by kernel_rfl)) only [E, EE, ↓reduceIte, simprocAttr, xk B11 [3, 2, 1, 2, 2, 2] .sk rfl, h1]
    try simp only [NM, EE] at hJ
    exact hJ
noncomputable def f11_airzriiii_e (k : Nat) (a0 : Int) (a0_1 : List T44) (a1 : List Int) (a2 a3 a4 a5 : Int) : Option R11_airzriiii :=
  Option.bind (f11_airzriiii_l1 k k a1 a2 a3 a4 a5 (-1) 1099511627776 0 a0 a0_1) fun o1 =>
    match o1 with
    | .o0 _ _ _ _ _ _ _ _ _ _ =>
      none
    | .o1 v4 v5 v6 v7 v8 v9 v10 v11 v12 v13 v14 =>
      f11_airzriiii_j2 k v4 v5 v6 v7 v8 v9 v10 v11 v12 v13 v14
theorem f11_airzriiii_e_ok (k : Nat) (a0 : Int) (a0_1 : List T44) (a1 : List Int) (a2 a3 a4 a5 : Int) (r : R11_airzriiii) (hF : f11_airzriiii_e k a0 a0_1 a1 a2 a3 a4 a5 = some r) : finK Try.prog Try.f11 0 (EX 11 k (nav B11 []) ({ n := 79, F := [(0, V.agg [V.p (Value.int .i64 a0), V.sl 6 (rowsOf encT44 a0_1)]), (1, V.sl 1 (rowsOf (encI .i64) a1)), (2, V.p (Value.int .i64 a2)), (3, V.p (Value.int .i64 a3)), (4, V.p (Value.int .i64 a4)), (5, V.p (Value.int .i64 a5))], M := [] } : St)) = some r.st := by
  unfold f11_airzriiii_e at hF
  replace hF := Option.bind_eq_some_iff.1 hF
  obtain ⟨o1, h2, hF⟩ := hF
  have hc3 := f11_airzriiii_l1_ok k k a1 a2 a3 a4 a5 (-1) 1099511627776 0 a0 a0_1 _ h2
  simp (maxSteps := 999999) (disch := first | exact D (by decide) | exact K (by kernel_rfl)) only [E, EE, ↓reduceIte, simprocAttr, xk B11 [] .sq rfl, show (nav B11 [1]) = Code.region 0 _ false from rfl, hk_11_0, hz_11_0, hs_11_0, xk B11 [2] .sq rfl, show (nav B11 [1, 2]) = Code.region 1 _ false from rfl, hk_11_1, hz_11_1, hs_11_1, xk B11 [2, 2] .sq rfl, xk B11 [1, 2, 2] .sq rfl, show (nav B11 [1, 1, 2, 2]) = Code.region 2 _ false from rfl, hk_11_2, hz_11_2, hs_11_2, xk B11 [2, 1, 2, 2] (.bk 0) rfl, xk B11 [2, 2, 1, 2, 2] .lp rfl, hh_11_3, hc_11_3]
  (try simp only [NM, EE] at hc3)
  rw [hc3 _ (by simp (maxSteps := 999999) (disch := first | exact D (by decide) | exact K (by kernel_rfl)) only [E, EE, ↓reduceIte, simprocAttr, hh_11_3, hc_11_3])]
  clear hc3
  cases o1 with
  | o0 _ _ _ _ _ _ _ _ _ _ =>
    (try dsimp only at hF)
    cases hF
  | o1 v4 v5 v6 v7 v8 v9 v10 v11 v12 v13 v14 =>
    (try dsimp only at hF)
    have hJ := f11_airzriiii_j2_ok k v4 v5 v6 v7 v8 v9 v10 v11 v12 v13 v14 _ hF
    simp (maxSteps := 999999) (disch := first | exact D (by decide) | exact K (by kernel_rfl)) only [E, EE, ↓reduceIte, simprocAttr, R11_airzriiii_l1.st]
    try simp only [NM, EE] at hJ
    exact hJ
noncomputable def f11_airzriiii (k : Nat) (a0 : Int) (a0_1 : List T44) (a1 : List Int) (a2 a3 a4 a5 : Int) : Option R11_airzriiii := match k with | 0 => none | k + 1 => f11_airzriiii_e k a0 a0_1 a1 a2 a3 a4 a5
theorem f11_airzriiii_ok (k : Nat) (a0 : Int) (a0_1 : List T44) (a1 : List Int) (a2 a3 a4 a5 : Int) (r : R11_airzriiii) (hF : f11_airzriiii k a0 a0_1 a1 a2 a3 a4 a5 = some r) : CV k 11 [V.agg [V.p (Value.int .i64 a0), V.sl 6 (rowsOf encT44 a0_1)], V.sl 1 (rowsOf (encI .i64) a1), V.p (Value.int .i64 a2), V.p (Value.int .i64 a3), V.p (Value.int .i64 a4), V.p (Value.int .i64 a5)] [] = some r.st := by
  cases k with
  | zero => cases hF
  | succ k =>
    unfold CV
    rw [ev_call (F := Try.f11) (c := (nav B11 [])) rfl Try.func11 rfl rfl rfl rfl]
    exact f11_airzriiii_e_ok k a0 a0_1 a1 a2 a3 a4 a5 r hF
end Go.Proofs.YtmogplhglcodjaaV
