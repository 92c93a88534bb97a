/- What the program's functions answer: plain functions, and that the interpreter answers what they do. Written by a program of this session, out of the translation. -/
import Derived.Test.YtmogplhglcodjaaVP1
namespace Go.Proofs.YtmogplhglcodjaaV
open Go
set_option linter.unusedVariables false
set_option linter.unusedSimpArgs false
set_option maxRecDepth 8000
set_option maxHeartbeats 4000000
-- f13_airziii: f13 heliograph/plan.Open
inductive R13_airziii where
  | o0 (y y_1 : Int)
noncomputable def R13_airziii.st : R13_airziii → V × List O × List O
  | .o0 y y_1 => (V.tup [V.p (Value.int .i64 y), V.p (Value.int .i64 y_1)], [], [])
noncomputable def f13_airziii_j2 (k : Nat) (x11 : Int) (x22 : Bool) : Option R13_airziii :=
  some (R13_airziii.o0 x11 0)
theorem f13_airziii_j2_ok (k : Nat) (x11 : Int) (x22 : Bool) (r : R13_airziii) (hF : f13_airziii_j2 k x11 x22 = some r) : finK Try.prog Try.f13 0 (EX 13 k (nav B13 [2, 2, 2, 2]) ({ n := 24, F := [(11, V.p (Value.int .i64 x11)), (22, V.p (Value.bool x22))], M := [] } : St)) = some r.st := by
  unfold f13_airziii_j2 at hF
  cases hF
  simp (maxSteps := 999999) (disch := first | exact D (by decide) | exact K (by kernel_rfl)) only [E, EE, ↓reduceIte, simprocAttr, xk B13 [2, 2, 2, 2] .sq rfl, show (nav B13 [1, 2, 2, 2, 2]) = Code.region 7 _ false from rfl, hk_13_7, hz_13_7, hs_13_7, xk B13 [2, 2, 2, 2, 2] .rt rfl, finK_norm, finK_ret, fin13, R13_airziii.st]
noncomputable def f13_airziii_j1 (k : Nat) (x10 : Int) (x15 : Bool) (m4 : Int) (m4_1 : List T44) (m5 m6 m7 : Int) : Option R13_airziii :=
  Option.bind (f25_rF26ppp_bibibi k m4_1 m5 m6 m7) fun o1 =>
    match o1 with
    | .o0 v4 v5 v6 v7 =>
      cond ((decide (v4 < 0)))
        (some (R13_airziii.o0 0 4))
        (f13_airziii_j2 k v4 false)
theorem f13_airziii_j1_ok (k : Nat) (x10 : Int) (x15 : Bool) (m4 : Int) (m4_1 : List T44) (m5 m6 m7 : Int) (r : R13_airziii) (hF : f13_airziii_j1 k x10 x15 m4 m4_1 m5 m6 m7 = some r) : finK Try.prog Try.f13 0 (EX 13 k (nav B13 [2, 2]) ({ n := 24, F := [(4, V.ptr 4 0), (5, V.ptr 5 0), (6, V.ptr 6 0), (7, V.ptr 7 0), (10, V.p (Value.int .i64 x10)), (15, V.p (Value.bool x15))], M := [(4, O.box 24 [V.p (Value.int .i64 m4), V.sl 6 (rowsOf encT44 m4_1)]), (5, O.box 3 [V.p (Value.int .i64 m5)]), (6, O.box 3 [V.p (Value.int .i64 m6)]), (7, O.box 3 [V.p (Value.int .i64 m7)])] } : St)) = some r.st := by
  unfold f13_airziii_j1 at hF
  replace hF := Option.bind_eq_some_iff.1 hF
  obtain ⟨o1, h2, hF⟩ := hF
  have hc3 := f25_rF26ppp_bibibi_ok k m4_1 m5 m6 m7 _ h2
  cases o1 with
  | o0 v4 v5 v6 v7 =>
    (try dsimp only at hF)
    (try simp only [NM, EE, R25_rF26ppp_bibibi.st] at hc3)
    simp (maxSteps := 999999) (disch := first | exact D (by decide) | exact K (by kernel_rfl)) only [E, EE, ↓reduceIte, simprocAttr, xk B13 [2, 2] .sq rfl, show (nav B13 [1, 2, 2]) = Code.region 4 _ false from rfl, hk_13_4, hz_13_4, hs_13_4, fieldAddrV, u_24, i_24, is_24, ib_24, iz_24, u_22, i_22, is_22, ib_22, iz_22, callStep, CL, gv, List.contains, xk B13 [2, 2, 2] .sq rfl, xk B13 [1, 2, 2, 2] .sq rfl, show (nav B13 [1, 1, 2, 2, 2]) = Code.region 5 _ false from rfl, hk_13_5, hz_13_5, hs_13_5, xk B13 [2, 1, 2, 2, 2] (.cd 22) rfl, hc3]
    replace hF := cond_some hF
    rcases hF with ⟨h8, hF⟩ | ⟨h8, hF⟩
    · cases hF
      simp (maxSteps := 999999) (disch := first | exact D (by decide) | exact K (by kernel_rfl)) only [E, EE, ↓reduceIte, simprocAttr, xk B13 [2, 2, 1, 2, 2, 2] .sq rfl, show (nav B13 [1, 2, 2, 1, 2, 2, 2]) = Code.region 6 _ false from rfl, hk_13_6, hz_13_6, hs_13_6, xk B13 [2, 2, 2, 1, 2, 2, 2] .rt rfl, finK_norm, finK_ret, fin13, R13_airziii.st, hc3, h8]
    · have hJ := f13_airziii_j2_ok k v4 false _ hF
      simp (maxSteps := 999999) (disch := first | exact D (by decide) | exact K (by kernel_rfl)) only [E, EE, ↓reduceIte, simprocAttr, xk B13 [3, 2, 1, 2, 2, 2] .sk rfl, hc3, h8]
      try simp only [NM, EE] at hJ
      exact hJ
noncomputable def f13_airziii_e (k : Nat) (a0 : Int) (a0_1 : List T44) (a1 a2 a3 : Int) : Option R13_airziii :=
  Option.bind (f14_airz k a0 a0_1) fun o1 =>
    match o1 with
    | .o0 v4 =>
      cond ((v4 != 0))
        (some (R13_airziii.o0 0 v4))
        (f13_airziii_j1 k v4 false a0 a0_1 a1 a2 a3)
theorem f13_airziii_e_ok (k : Nat) (a0 : Int) (a0_1 : List T44) (a1 a2 a3 : Int) (r : R13_airziii) (hF : f13_airziii_e k a0 a0_1 a1 a2 a3 = some r) : finK Try.prog Try.f13 0 (EX 13 k (nav B13 []) ({ n := 24, F := [(0, V.agg [V.p (Value.int .i64 a0), V.sl 6 (rowsOf encT44 a0_1)]), (1, V.p (Value.int .i64 a1)), (2, V.p (Value.int .i64 a2)), (3, V.p (Value.int .i64 a3))], M := [] } : St)) = some r.st := by
  unfold f13_airziii_e at hF
  replace hF := Option.bind_eq_some_iff.1 hF
  obtain ⟨o1, h2, hF⟩ := hF
  have hc3 := f14_airz_ok k a0 a0_1 _ h2
  cases o1 with
  | o0 v4 =>
    (try dsimp only at hF)
    (try simp only [NM, EE, R14_airz.st] at hc3)
    simp (maxSteps := 999999) (disch := first | exact D (by decide) | exact K (by kernel_rfl)) only [E, EE, ↓reduceIte, simprocAttr, xk B13 [] .sq rfl, show (nav B13 [1]) = Code.region 0 _ false from rfl, hk_13_0, hz_13_0, hs_13_0, xk B13 [2] .sq rfl, xk B13 [1, 2] .sq rfl, show (nav B13 [1, 1, 2]) = Code.region 1 _ false from rfl, hk_13_1, hz_13_1, hs_13_1, u_24, i_24, is_24, ib_24, iz_24, callStep, CL, gv, List.contains, xk B13 [2, 1, 2] .sq rfl, show (nav B13 [1, 2, 1, 2]) = Code.region 2 _ false from rfl, hk_13_2, hz_13_2, hs_13_2, xk B13 [2, 2, 1, 2] (.cd 15) rfl, hc3]
    replace hF := cond_some hF
    rcases hF with ⟨h5, hF⟩ | ⟨h5, hF⟩
    · cases hF
      simp (maxSteps := 999999) (disch := first | exact D (by decide) | exact K (by kernel_rfl)) only [E, EE, ↓reduceIte, simprocAttr, xk B13 [2, 2, 2, 1, 2] .sq rfl, show (nav B13 [1, 2, 2, 2, 1, 2]) = Code.region 3 _ false from rfl, hk_13_3, hz_13_3, hs_13_3, xk B13 [2, 2, 2, 2, 1, 2] .rt rfl, finK_norm, finK_ret, fin13, R13_airziii.st, hc3, h5]
    · have hJ := f13_airziii_j1_ok k v4 false a0 a0_1 a1 a2 a3 _ hF
      simp (maxSteps := 999999) (disch := first | exact D (by decide) | exact K (by kernel_rfl)) only [E, EE, ↓reduceIte, simprocAttr, xk B13 [3, 2, 2, 1, 2] .sk rfl, hc3, h5]
      try simp only [NM, EE] at hJ
      exact hJ
noncomputable def f13_airziii (k : Nat) (a0 : Int) (a0_1 : List T44) (a1 a2 a3 : Int) : Option R13_airziii := match k with | 0 => none | k + 1 => f13_airziii_e k a0 a0_1 a1 a2 a3
theorem f13_airziii_ok (k : Nat) (a0 : Int) (a0_1 : List T44) (a1 a2 a3 : Int) (r : R13_airziii) (hF : f13_airziii k a0 a0_1 a1 a2 a3 = some r) : CV k 13 [V.agg [V.p (Value.int .i64 a0), V.sl 6 (rowsOf encT44 a0_1)], V.p (Value.int .i64 a1), V.p (Value.int .i64 a2), V.p (Value.int .i64 a3)] [] = some r.st := by
  cases k with
  | zero => cases hF
  | succ k =>
    unfold CV
    rw [ev_call (F := Try.f13) (c := (nav B13 [])) rfl Try.func13 rfl rfl rfl rfl]
    exact f13_airziii_e_ok k a0 a0_1 a1 a2 a3 r hF
-- f16_ai6z: f16 heliograph/plan.Volume
inductive R16_ai6z where
  | o0 (y : Int)
noncomputable def R16_ai6z.st : R16_ai6z → V × List O × List O
  | .o0 y => (V.p (Value.int .i64 y), [], [])
noncomputable def f16_ai6z_j1 (k : Nat) (x27 : Bool) (m1 m1_1 m1_2 m1_3 m1_4 m1_5 : Int) : Option R16_ai6z :=
  some (R16_ai6z.o0 (IntKind.i64.wrap (m1_4 * (IntKind.i64.wrap (m1_3 - m1_2)))))
theorem f16_ai6z_j1_ok (k : Nat) (x27 : Bool) (m1 m1_1 m1_2 m1_3 m1_4 m1_5 : Int) (r : R16_ai6z) (hF : f16_ai6z_j1 k x27 m1 m1_1 m1_2 m1_3 m1_4 m1_5 = some r) : finK Try.prog Try.f16 0 (EX 16 k (nav B16 [2, 2]) ({ n := 36, F := [(1, V.ptr 1 0), (27, V.p (Value.bool x27))], M := [(1, O.box 44 [V.p (Value.int .i64 m1), V.p (Value.int .i64 m1_1), V.p (Value.int .i64 m1_2), V.p (Value.int .i64 m1_3), V.p (Value.int .i64 m1_4), V.p (Value.int .i64 m1_5)])] } : St)) = some r.st := by
  unfold f16_ai6z_j1 at hF
  cases hF
  simp (maxSteps := 999999) (disch := first | exact D (by decide) | exact K (by kernel_rfl)) only [E, EE, ↓reduceIte, simprocAttr, xk B16 [2, 2] .sq rfl, show (nav B16 [1, 2, 2]) = Code.region 3 _ false from rfl, hk_16_3, hz_16_3, hs_16_3, fieldAddrV, u_44, i_44, is_44, ib_44, iz_44, u_3, i_3, is_3, ib_3, iz_3, xk B16 [2, 2, 2] .rt rfl, finK_norm, finK_ret, fin16, R16_ai6z.st]
noncomputable def f16_ai6z_e (k : Nat) (a0 a0_1 a0_2 a0_3 a0_4 a0_5 : Int) : Option R16_ai6z :=
  cond ((decide (a0_4 < 0)))
    (some (R16_ai6z.o0 0))
    (
      cond ((decide (a0_2 < 0)))
        (some (R16_ai6z.o0 0))
        (
          cond ((decide (a0_3 ≤ a0_2)))
            (some (R16_ai6z.o0 0))
            (
              cond ((decide (a0_4 > 1048576)))
                (some (R16_ai6z.o0 0))
                (
                  cond ((decide (a0_3 > 1048576)))
                    (some (R16_ai6z.o0 0))
                    (f16_ai6z_j1 k false a0 a0_1 a0_2 a0_3 a0_4 a0_5)))))
theorem f16_ai6z_e_ok (k : Nat) (a0 a0_1 a0_2 a0_3 a0_4 a0_5 : Int) (r : R16_ai6z) (hF : f16_ai6z_e k a0 a0_1 a0_2 a0_3 a0_4 a0_5 = some r) : finK Try.prog Try.f16 0 (EX 16 k (nav B16 []) ({ n := 36, F := [(0, V.agg [V.p (Value.int .i64 a0), V.p (Value.int .i64 a0_1), V.p (Value.int .i64 a0_2), V.p (Value.int .i64 a0_3), V.p (Value.int .i64 a0_4), V.p (Value.int .i64 a0_5)])], M := [] } : St)) = some r.st := by
  unfold f16_ai6z_e at hF
  simp (maxSteps := 999999) (disch := first | exact D (by decide) | exact K (by kernel_rfl)) only [E, EE, ↓reduceIte, simprocAttr, xk B16 [] .sq rfl, show (nav B16 [1]) = Code.region 0 _ false from rfl, hk_16_0, hz_16_0, hs_16_0, xk B16 [2] .sq rfl, xk B16 [1, 2] .sq rfl, show (nav B16 [1, 1, 2]) = Code.region 1 _ false from rfl, hk_16_1, hz_16_1, hs_16_1, fieldAddrV, u_44, i_44, is_44, ib_44, iz_44, u_3, i_3, is_3, ib_3, iz_3]
  replace hF := cond_some hF
  rcases hF with ⟨h1, hF⟩ | ⟨h1, hF⟩
  · cases hF
    simp (maxSteps := 999999) (disch := first | exact D (by decide) | exact K (by kernel_rfl)) only [E, EE, ↓reduceIte, simprocAttr, xk B16 [2, 1, 2] (.cd 27) rfl, xk B16 [2, 2, 1, 2] .sq rfl, show (nav B16 [1, 2, 2, 1, 2]) = Code.region 2 _ false from rfl, hk_16_2, hz_16_2, hs_16_2, xk B16 [2, 2, 2, 1, 2] .rt rfl, finK_norm, finK_ret, fin16, R16_ai6z.st, h1]
  · simp (maxSteps := 999999) (disch := first | exact D (by decide) | exact K (by kernel_rfl)) only [E, EE, ↓reduceIte, simprocAttr, fieldAddrV, u_44, i_44, is_44, ib_44, iz_44, u_3, i_3, is_3, ib_3, iz_3, h1]
    replace hF := cond_some hF
    rcases hF with ⟨h2, hF⟩ | ⟨h2, hF⟩
    · cases hF
      simp (maxSteps := 999999) (disch := first | exact D (by decide) | exact K (by kernel_rfl)) only [E, EE, ↓reduceIte, simprocAttr, xk B16 [2, 1, 2] (.cd 27) rfl, xk B16 [2, 2, 1, 2] .sq rfl, show (nav B16 [1, 2, 2, 1, 2]) = Code.region 2 _ false from rfl, hk_16_2, hz_16_2, hs_16_2, xk B16 [2, 2, 2, 1, 2] .rt rfl, finK_norm, finK_ret, fin16, R16_ai6z.st, h1, h2]
    · simp (maxSteps := 999999) (disch := first | exact D (by decide) | exact K (by kernel_rfl)) only [E, EE, ↓reduceIte, simprocAttr, fieldAddrV, u_44, i_44, is_44, ib_44, iz_44, u_3, i_3, is_3, ib_3, iz_3, h1, h2]
      replace hF := cond_some hF
      rcases hF with ⟨h3, hF⟩ | ⟨h3, hF⟩
      · cases hF
        simp (maxSteps := 999999) (disch := first | exact D (by decide) | exact K (by kernel_rfl)) only [E, EE, ↓reduceIte, simprocAttr, xk B16 [2, 1, 2] (.cd 27) rfl, xk B16 [2, 2, 1, 2] .sq rfl, show (nav B16 [1, 2, 2, 1, 2]) = Code.region 2 _ false from rfl, hk_16_2, hz_16_2, hs_16_2, xk B16 [2, 2, 2, 1, 2] .rt rfl, finK_norm, finK_ret, fin16, R16_ai6z.st, h1, h2, h3]
      · simp (maxSteps := 999999) (disch := first | exact D (by decide) | exact K (by kernel_rfl)) only [E, EE, ↓reduceIte, simprocAttr, fieldAddrV, u_44, i_44, is_44, ib_44, iz_44, u_3, i_3, is_3, ib_3, iz_3, h1, h2, h3]
        replace hF := cond_some hF
        rcases hF with ⟨h4, hF⟩ | ⟨h4, hF⟩
        · cases hF
          simp (maxSteps := 999999) (disch := first | exact D (by decide) | exact K (by kernel_rfl)) only [E, EE, ↓reduceIte, simprocAttr, xk B16 [2, 1, 2] (.cd 27) rfl, xk B16 [2, 2, 1, 2] .sq rfl, show (nav B16 [1, 2, 2, 1, 2]) = Code.region 2 _ false from rfl, hk_16_2, hz_16_2, hs_16_2, xk B16 [2, 2, 2, 1, 2] .rt rfl, finK_norm, finK_ret, fin16, R16_ai6z.st, h1, h2, h3, h4]
        · simp (maxSteps := 999999) (disch := first | exact D (by decide) | exact K (by kernel_rfl)) only [E, EE, ↓reduceIte, simprocAttr, fieldAddrV, u_44, i_44, is_44, ib_44, iz_44, u_3, i_3, is_3, ib_3, iz_3, xk B16 [2, 1, 2] (.cd 27) rfl, h1, h2, h3, h4]
          replace hF := cond_some hF
          rcases hF with ⟨h5, hF⟩ | ⟨h5, hF⟩
          · cases hF
            simp (maxSteps := 999999) (disch := first | exact D (by decide) | exact K (by kernel_rfl)) only [E, EE, ↓reduceIte, simprocAttr, xk B16 [2, 2, 1, 2] .sq rfl, show (nav B16 [1, 2, 2, 1, 2]) = Code.region 2 _ false from rfl, hk_16_2, hz_16_2, hs_16_2, xk B16 [2, 2, 2, 1, 2] .rt rfl, finK_norm, finK_ret, fin16, R16_ai6z.st, h1, h2, h3, h4, h5]
          · have hJ := f16_ai6z_j1_ok k false a0 a0_1 a0_2 a0_3 a0_4 a0_5 _ hF
            simp (maxSteps := 999999) (disch := first | exact D (by decide) | exact K (by kernel_rfl)) only [E, EE, ↓reduceIte, simprocAttr, xk B16 [3, 2, 1, 2] .sk rfl, h1, h2, h3, h4, h5]
            try simp only [NM, EE] at hJ
            exact hJ
noncomputable def f16_ai6z (k : Nat) (a0 a0_1 a0_2 a0_3 a0_4 a0_5 : Int) : Option R16_ai6z := match k with | 0 => none | k + 1 => f16_ai6z_e k a0 a0_1 a0_2 a0_3 a0_4 a0_5
theorem f16_ai6z_ok (k : Nat) (a0 a0_1 a0_2 a0_3 a0_4 a0_5 : Int) (r : R16_ai6z) (hF : f16_ai6z k a0 a0_1 a0_2 a0_3 a0_4 a0_5 = some r) : CV k 16 [V.agg [V.p (Value.int .i64 a0), V.p (Value.int .i64 a0_1), V.p (Value.int .i64 a0_2), V.p (Value.int .i64 a0_3), V.p (Value.int .i64 a0_4), V.p (Value.int .i64 a0_5)]] [] = some r.st := by
  cases k with
  | zero => cases hF
  | succ k =>
    unfold CV
    rw [ev_call (F := Try.f16) (c := (nav B16 [])) rfl Try.func16 rfl rfl rfl rfl]
    exact f16_ai6z_e_ok k a0 a0_1 a0_2 a0_3 a0_4 a0_5 r hF
-- f12_airz: f12 heliograph/plan.Volumes
inductive R12_airz where
  | o0 (y : List Int)
noncomputable def R12_airz.st : R12_airz → V × List O × List O
  | .o0 y => (V.own 2000000, [], [O.row true 1 3 (rowsOf (encI .i64) y)])
inductive R12_airz_l2 where
  | o0 (y : List T44) (y_1 y_2 : Int) (y_3 : List Int)
  | o1 (y : List T44) (y_1 y_2 : Int) (y_3 : Bool) (y_4 : List Int)
noncomputable def R12_airz_l2.st : R12_airz_l2 → Out × St
  | .o0 y y_1 y_2 y_3 => (.norm, ({ n := 23, F := [(3, V.own 20), (10, V.sl 6 (rowsOf encT44 y)), (11, V.p (Value.int .i64 y_1)), (12, V.p (Value.int .i64 y_2))], M := [(20, O.row true 1 3 (rowsOf (encI .i64) y_3))] } : St))
  | .o1 y y_1 y_2 y_3 y_4 => (.exit 0, ({ n := 23, F := [(3, V.own 30000), (10, V.sl 6 (rowsOf encT44 y)), (11, V.p (Value.int .i64 y_1)), (12, V.p (Value.int .i64 y_2)), (13, V.p (Value.bool y_3))], M := [(30000, O.row true 1 3 (rowsOf (encI .i64) y_4))] } : St))
noncomputable def f12_airz_l2_j2 (k : Nat) (x10 : List T44) (x11 x12 : Int) (m20 : List Int) : Option R12_airz_l2 :=
  some (R12_airz_l2.o0 x10 x11 (IntKind.i64.wrap (x12 + (1 : Int))) m20)
theorem f12_airz_l2_j2_ok (k : Nat) (x10 : List T44) (x11 x12 : Int) (m20 : List Int) (r : R12_airz_l2) (hF : f12_airz_l2_j2 k x10 x11 x12 m20 = some r) : EX 12 k (nav B12 [2, 2, 2, 1, 2, 2, 1, 2, 2, 2]) ({ n := 23, F := [(3, V.own 20), (10, V.sl 6 (rowsOf encT44 x10)), (11, V.p (Value.int .i64 x11)), (12, V.p (Value.int .i64 x12))], M := [(20, O.row true 1 3 (rowsOf (encI .i64) m20))] } : St) = some r.st := by
  unfold f12_airz_l2_j2 at hF
  cases hF
  simp (maxSteps := 999999) (disch := first | exact D (by decide) | exact K (by kernel_rfl)) only [E, EE, ↓reduceIte, simprocAttr, show (nav B12 [2, 2, 2, 1, 2, 2, 1, 2, 2, 2]) = Code.region 8 _ false from rfl, hk_12_8, hz_12_8, hs_12_8, R12_airz_l2.st]
noncomputable def f12_airz_l2_j1 (k : Nat) (x10 : List T44) (x11 x12 : Int) (x13 : Bool) (h0_ : List Int) : Option R12_airz_l2 :=
  ifE ((0 : Int) ≤ x12) (
    Option.bind (x10[(Int.toNat x12)]?) fun v2 =>
      Option.bind (f16_ai6z k v2.From v2.To v2.Start v2.End v2.Rate v2.Delay) fun o4 =>
        match o4 with
        | .o0 v7 =>
          ifE (((List.length h0_) + 1) * 8 ≤ roomy) (
            f12_airz_l2_j2 k x10 x11 x12 (h0_ ++ ([v7] : List Int))))
theorem f12_airz_l2_j1_ok (k : Nat) (x10 : List T44) (x11 x12 : Int) (x13 : Bool) (h0_ : List Int) (r : R12_airz_l2) (hF : f12_airz_l2_j1 k x10 x11 x12 x13 h0_ = some r) : EX 12 k (nav B12 [2, 2, 1, 2, 2, 1, 2, 2, 2]) ({ n := 23, F := [(3, V.own 30000), (10, V.sl 6 (rowsOf encT44 x10)), (11, V.p (Value.int .i64 x11)), (12, V.p (Value.int .i64 x12)), (13, V.p (Value.bool x13))], M := [(30000, O.row true 1 3 (rowsOf (encI .i64) h0_))] } : St) = some r.st := by
  unfold f12_airz_l2_j1 at hF
  replace hF := ifE_some.1 hF
  obtain ⟨h1, hF⟩ := hF
  replace hF := Option.bind_eq_some_iff.1 hF
  obtain ⟨v2, h3, hF⟩ := hF
  replace hF := Option.bind_eq_some_iff.1 hF
  obtain ⟨o4, h5, hF⟩ := hF
  have hc6 := f16_ai6z_ok k v2.From v2.To v2.Start v2.End v2.Rate v2.Delay _ h5
  cases o4 with
  | o0 v7 =>
    (try dsimp only at hF)
    (try simp only [NM, EE, R16_ai6z.st] at hc6)
    have q8 : [[V.p (Value.int .i64 v7)]] = rowsOf (encI .i64) ([v7] : List Int) := rfl
    have q9 : List.map (tell [0]) (rowsOf (encI .i64) ([v7] : List Int)) = rowsOf (encI .i64) ([v7] : List Int) := rfl
    replace hF := ifE_some.1 hF
    obtain ⟨h10, hF⟩ := hF
    have hJ := f12_airz_l2_j2_ok k x10 x11 x12 (h0_ ++ ([v7] : List Int)) _ hF
    simp (maxSteps := 999999) (disch := first | exact D (by decide) | exact K (by kernel_rfl)) only [E, EE, ↓reduceIte, simprocAttr, xk B12 [2, 2, 1, 2, 2, 1, 2, 2, 2] .sq rfl, xk B12 [1, 2, 2, 1, 2, 2, 1, 2, 2, 2] (.bk 1) rfl, xk B12 [2, 1, 2, 2, 1, 2, 2, 1, 2, 2, 2] .sq rfl, show (nav B12 [1, 2, 1, 2, 2, 1, 2, 2, 1, 2, 2, 2]) = Code.region 6 _ false from rfl, hk_12_6, hz_12_6, hs_12_6, indexAddrV, u_22, i_22, is_22, ib_22, iz_22, u_44, i_44, is_44, ib_44, iz_44, encT44_eq, show (nav B12 [2, 2, 1, 2, 2, 1, 2, 2, 1, 2, 2, 2]) = Code.region 7 _ false from rfl, hk_12_7, hz_12_7, hs_12_7, callStep, CL, gv, List.contains, buildSliceV, fillRows, sm_3, u_25, i_25, is_25, ib_25, iz_25, u_3, i_3, is_3, ib_3, iz_3, appendV, content, h1, h3, hc6, q8, q9, h10]
    try simp only [NM, EE] at hJ
    exact hJ
noncomputable def f12_airz_l2_b (k : Nat) (x10 : List T44) (x11 x12 : Int) (h0_ : List Int) : Option R12_airz_l2 :=
  cond ((decide (x12 < x11)))
    (f12_airz_l2_j1 k x10 x11 x12 true h0_)
    (some (R12_airz_l2.o1 x10 x11 x12 false h0_))
theorem f12_airz_l2_b_ok (k : Nat) (x10 : List T44) (x11 x12 : Int) (h0_ : List Int) (r : R12_airz_l2) (hF : f12_airz_l2_b k x10 x11 x12 h0_ = some r) : EX 12 k (nav B12 [1, 2, 2, 1, 2, 2, 2]) ({ n := 23, F := [(3, V.own 30000), (10, V.sl 6 (rowsOf encT44 x10)), (11, V.p (Value.int .i64 x11)), (12, V.p (Value.int .i64 x12))], M := [(30000, O.row true 1 3 (rowsOf (encI .i64) h0_))] } : St) = some r.st := by
  unfold f12_airz_l2_b at hF
  simp (maxSteps := 999999) (disch := first | exact D (by decide) | exact K (by kernel_rfl)) only [E, EE, ↓reduceIte, simprocAttr, xk B12 [1, 2, 2, 1, 2, 2, 2] .sq rfl, show (nav B12 [1, 1, 2, 2, 1, 2, 2, 2]) = Code.region 5 _ false from rfl, hk_12_5, hz_12_5, hs_12_5, xk B12 [2, 1, 2, 2, 1, 2, 2, 2] .sq rfl, xk B12 [1, 2, 1, 2, 2, 1, 2, 2, 2] (.cd 13) rfl]
  replace hF := cond_some hF
  rcases hF with ⟨h1, hF⟩ | ⟨h1, hF⟩
  · have hJ := f12_airz_l2_j1_ok k x10 x11 x12 true h0_ _ hF
    simp (maxSteps := 999999) (disch := first | exact D (by decide) | exact K (by kernel_rfl)) only [E, EE, ↓reduceIte, simprocAttr, xk B12 [2, 1, 2, 1, 2, 2, 1, 2, 2, 2] .sk rfl, h1]
    try simp only [NM, EE] at hJ
    exact hJ
  · cases hF
    simp (maxSteps := 999999) (disch := first | exact D (by decide) | exact K (by kernel_rfl)) only [E, EE, ↓reduceIte, simprocAttr, xk B12 [3, 1, 2, 1, 2, 2, 1, 2, 2, 2] (.ex 0) rfl, R12_airz_l2.st, h1]
noncomputable def f12_airz_l2 (k : Nat) : Nat → (List T44) → Int → Int → (List Int) → Option R12_airz_l2
  | 0, _, _, _, _ => none
  | n + 1, x10, x11, x12, h0_ => Option.bind (f12_airz_l2_b k x10 x11 x12 h0_) fun o =>
    match o with
    | .o0 y y_1 y_2 y_3 => f12_airz_l2 k n y y_1 y_2 y_3
    | .o1 y y_1 y_2 y_3 y_4 => some (.o1 y y_1 y_2 y_3 y_4)
theorem f12_airz_l2_ok (k n : Nat) : ∀ (x10 : List T44) (x11 x12 : Int) (h0_ : List Int) (r : R12_airz_l2) (hF : f12_airz_l2 k n x10 x11 x12 h0_ = some r) (σ : St) (hσ : headR (hints.head 12 5) (hints.canon 12 5) σ = some ({ n := 23, F := [(3, V.own 30000), (10, V.sl 6 (rowsOf encT44 x10)), (11, V.p (Value.int .i64 x11)), (12, V.p (Value.int .i64 x12))], M := [(30000, O.row true 1 3 (rowsOf (encI .i64) h0_))] } : St)), LP 12 k (nav B12 [1, 2, 2, 1, 2, 2, 2]) n σ = some r.st := by
  induction n with
  | zero => intro x10 x11 x12 h0_ r hF; cases hF
  | succ n ih =>
    intro x10 x11 x12 h0_ r hF σ hσ
    rw [f12_airz_l2] at hF
    obtain ⟨o, h, hF⟩ := Option.bind_eq_some_iff.1 hF
    have hB := f12_airz_l2_b_ok k x10 x11 x12 h0_ o h
    unfold LP at ih ⊢
    unfold EX at hB
    rw [loopK_succ, show firstReg (nav B12 [1, 2, 2, 1, 2, 2, 2]) = 5 from rfl, hσ, headK_some, hB]
    cases o with
    | o0 y y_1 y_2 y_3 =>
      refine ih y y_1 y_2 y_3 r hF _ ?_
      simp (maxSteps := 999999) (disch := first | exact D (by decide) | exact K (by kernel_rfl)) only [E, EE, ↓reduceIte, simprocAttr, hh_12_5, hc_12_5]
    | o1 y y_1 y_2 y_3 y_4 => cases hF; rfl
noncomputable def f12_airz_j3 (k : Nat) (x10 : List T44) (x11 x12 : Int) (x13 : Bool) (h0_ : List Int) : Option R12_airz :=
  some (R12_airz.o0 h0_)
theorem f12_airz_j3_ok (k : Nat) (x10 : List T44) (x11 x12 : Int) (x13 : Bool) (h0_ : List Int) (r : R12_airz) (hF : f12_airz_j3 k x10 x11 x12 x13 h0_ = some r) : finK Try.prog Try.f12 0 (EX 12 k (nav B12 [2, 2, 2, 2]) ({ n := 23, F := [(3, V.own 30000), (10, V.sl 6 (rowsOf encT44 x10)), (11, V.p (Value.int .i64 x11)), (12, V.p (Value.int .i64 x12)), (13, V.p (Value.bool x13))], M := [(30000, O.row true 1 3 (rowsOf (encI .i64) h0_))] } : St)) = some r.st := by
  unfold f12_airz_j3 at hF
  cases hF
  simp (maxSteps := 999999) (disch := first | exact D (by decide) | exact K (by kernel_rfl)) only [E, EE, ↓reduceIte, simprocAttr, xk B12 [2, 2, 2, 2] .sq rfl, show (nav B12 [1, 2, 2, 2, 2]) = Code.region 9 _ false from rfl, hk_12_9, hz_12_9, hs_12_9, xk B12 [2, 2, 2, 2, 2] .rt rfl, finK_norm, finK_ret, fin12, R12_airz.st]
noncomputable def f12_airz_j1 (k : Nat) (x8 : Bool) (m1 : Int) (m1_1 : List T44) : Option R12_airz :=
  Option.bind (f12_airz_l2 k k m1_1 ((List.length m1_1) : Int) 0 []) fun o1 =>
    match o1 with
    | .o0 _ _ _ _ =>
      none
    | .o1 v4 v5 v6 v7 v8 =>
      f12_airz_j3 k v4 v5 v6 v7 v8
theorem f12_airz_j1_ok (k : Nat) (x8 : Bool) (m1 : Int) (m1_1 : List T44) (r : R12_airz) (hF : f12_airz_j1 k x8 m1 m1_1 = some r) : finK Try.prog Try.f12 0 (EX 12 k (nav B12 [2, 2]) ({ n := 23, F := [(1, V.ptr 1 0), (8, V.p (Value.bool x8))], M := [(1, O.box 24 [V.p (Value.int .i64 m1), V.sl 6 (rowsOf encT44 m1_1)])] } : St)) = some r.st := by
  unfold f12_airz_j1 at hF
  replace hF := Option.bind_eq_some_iff.1 hF
  obtain ⟨o1, h2, hF⟩ := hF
  have hc3 := f12_airz_l2_ok k k m1_1 ((List.length m1_1) : Int) 0 [] _ h2
  simp (maxSteps := 999999) (disch := first | exact D (by decide) | exact K (by kernel_rfl)) only [E, EE, ↓reduceIte, simprocAttr, xk B12 [2, 2] .sq rfl, show (nav B12 [1, 2, 2]) = Code.region 3 _ false from rfl, hk_12_3, hz_12_3, hs_12_3, xk B12 [2, 2, 2] .sq rfl, xk B12 [1, 2, 2, 2] .sq rfl, show (nav B12 [1, 1, 2, 2, 2]) = Code.region 4 _ false from rfl, hk_12_4, hz_12_4, hs_12_4, fieldAddrV, u_24, i_24, is_24, ib_24, iz_24, u_22, i_22, is_22, ib_22, iz_22, xk B12 [2, 1, 2, 2, 2] (.bk 0) rfl, xk B12 [2, 2, 1, 2, 2, 2] .lp rfl, hh_12_5, hc_12_5]
  (try simp only [NM, EE] at hc3)
  rw [hc3 _ (by simp (maxSteps := 999999) (disch := first | exact D (by decide) | exact K (by kernel_rfl)) only [E, EE, ↓reduceIte, simprocAttr, hh_12_5, hc_12_5])]
  clear hc3
  cases o1 with
  | o0 _ _ _ _ =>
    (try dsimp only at hF)
    cases hF
  | o1 v4 v5 v6 v7 v8 =>
    (try dsimp only at hF)
    have hJ := f12_airz_j3_ok k v4 v5 v6 v7 v8 _ hF
    simp (maxSteps := 999999) (disch := first | exact D (by decide) | exact K (by kernel_rfl)) only [E, EE, ↓reduceIte, simprocAttr, R12_airz_l2.st]
    try simp only [NM, EE] at hJ
    exact hJ
noncomputable def f12_airz_e (k : Nat) (a0 : Int) (a0_1 : List T44) : Option R12_airz :=
  Option.bind (f14_airz k a0 a0_1) fun o1 =>
    match o1 with
    | .o0 v4 =>
      cond ((v4 != 0))
        (some (R12_airz.o0 []))
        (f12_airz_j1 k false a0 a0_1)
theorem f12_airz_e_ok (k : Nat) (a0 : Int) (a0_1 : List T44) (r : R12_airz) (hF : f12_airz_e k a0 a0_1 = some r) : finK Try.prog Try.f12 0 (EX 12 k (nav B12 []) ({ n := 23, F := [(0, V.agg [V.p (Value.int .i64 a0), V.sl 6 (rowsOf encT44 a0_1)])], M := [] } : St)) = some r.st := by
  unfold f12_airz_e at hF
  replace hF := Option.bind_eq_some_iff.1 hF
  obtain ⟨o1, h2, hF⟩ := hF
  have hc3 := f14_airz_ok k a0 a0_1 _ h2
  cases o1 with
  | o0 v4 =>
    (try dsimp only at hF)
    (try simp only [NM, EE, R14_airz.st] at hc3)
    simp (maxSteps := 999999) (disch := first | exact D (by decide) | exact K (by kernel_rfl)) only [E, EE, ↓reduceIte, simprocAttr, xk B12 [] .sq rfl, show (nav B12 [1]) = Code.region 0 _ false from rfl, hk_12_0, hz_12_0, hs_12_0, xk B12 [2] .sq rfl, xk B12 [1, 2] .sq rfl, show (nav B12 [1, 1, 2]) = Code.region 1 _ false from rfl, hk_12_1, hz_12_1, hs_12_1, u_24, i_24, is_24, ib_24, iz_24, callStep, CL, gv, List.contains, xk B12 [2, 1, 2] (.cd 8) rfl, hc3]
    replace hF := cond_some hF
    rcases hF with ⟨h5, hF⟩ | ⟨h5, hF⟩
    · cases hF
      simp (maxSteps := 999999) (disch := first | exact D (by decide) | exact K (by kernel_rfl)) only [E, EE, ↓reduceIte, simprocAttr, xk B12 [2, 2, 1, 2] .sq rfl, show (nav B12 [1, 2, 2, 1, 2]) = Code.region 2 _ false from rfl, hk_12_2, hz_12_2, hs_12_2, xk B12 [2, 2, 2, 1, 2] .rt rfl, finK_norm, finK_ret, fin12, R12_airz.st, hc3, h5]
    · have hJ := f12_airz_j1_ok k false a0 a0_1 _ hF
      simp (maxSteps := 999999) (disch := first | exact D (by decide) | exact K (by kernel_rfl)) only [E, EE, ↓reduceIte, simprocAttr, xk B12 [3, 2, 1, 2] .sk rfl, hc3, h5]
      try simp only [NM, EE] at hJ
      exact hJ
noncomputable def f12_airz (k : Nat) (a0 : Int) (a0_1 : List T44) : Option R12_airz := match k with | 0 => none | k + 1 => f12_airz_e k a0 a0_1
theorem f12_airz_ok (k : Nat) (a0 : Int) (a0_1 : List T44) (r : R12_airz) (hF : f12_airz k a0 a0_1 = some r) : CV k 12 [V.agg [V.p (Value.int .i64 a0), V.sl 6 (rowsOf encT44 a0_1)]] [] = some r.st := by
  cases k with
  | zero => cases hF
  | succ k =>
    unfold CV
    rw [ev_call (F := Try.f12) (c := (nav B12 [])) rfl Try.func12 rfl rfl rfl rfl]
    exact f12_airz_e_ok k a0 a0_1 r hF
-- f10_airz: f10 heliograph/heliographref13.Right
inductive R10_airz where
  | o0 (y : Bool)
noncomputable def R10_airz.st : R10_airz → V × List O × List O
  | .o0 y => (V.p (Value.bool y), [], [])
inductive R10_airz_l2_l3 where
  | o0 (y y_1 y_2 : Int) (y_3 : List T44) (y_4 y_5 y_6 y_7 y_8 y_9 : Int)
  | o1 (y : Bool)
  | o2 (y y_1 : Int) (y_2 : Bool) (y_3 : Int) (y_4 : List T44) (y_5 y_6 y_7 y_8 y_9 y_10 : Int)
noncomputable def R10_airz_l2_l3.st : R10_airz_l2_l3 → Out × St
  | .o0 y y_1 y_2 y_3 y_4 y_5 y_6 y_7 y_8 y_9 => (.norm, ({ n := 136, F := [(1, V.ptr 30000 0), (3, V.p (Value.int .i64 y)), (4, V.ptr 30001 0), (5, V.p (Value.int .i64 y_1))], M := [(30000, O.box 24 [V.p (Value.int .i64 y_2), V.sl 6 (rowsOf encT44 y_3)]), (30001, O.box 44 [V.p (Value.int .i64 y_4), V.p (Value.int .i64 y_5), V.p (Value.int .i64 y_6), V.p (Value.int .i64 y_7), V.p (Value.int .i64 y_8), V.p (Value.int .i64 y_9)])] } : St))
  | .o1 y => (.ret, ({ n := 136, F := [(2, V.p (Value.bool y))], M := [] } : St))
  | .o2 y y_1 y_2 y_3 y_4 y_5 y_6 y_7 y_8 y_9 y_10 => (.exit 2, ({ n := 136, F := [(1, V.ptr 30000 0), (3, V.p (Value.int .i64 y)), (4, V.ptr 30001 0), (5, V.p (Value.int .i64 y_1)), (101, V.p (Value.bool y_2))], M := [(30000, O.box 24 [V.p (Value.int .i64 y_3), V.sl 6 (rowsOf encT44 y_4)]), (30001, O.box 44 [V.p (Value.int .i64 y_5), V.p (Value.int .i64 y_6), V.p (Value.int .i64 y_7), V.p (Value.int .i64 y_8), V.p (Value.int .i64 y_9), V.p (Value.int .i64 y_10)])] } : St))
noncomputable def f10_airz_l2_l3_j2 (k : Nat) (x3 x5 : Int) (x135 : Bool) (h0_ : Int) (h0__1 : List T44) (h1_ h1__1 h1__2 h1__3 h1__4 h1__5 : Int) : Option R10_airz_l2_l3 :=
  some (R10_airz_l2_l3.o0 x3 (IntKind.i64.wrap (x5 + (1 : Int))) h0_ h0__1 h1_ h1__1 h1__2 h1__3 h1__4 h1__5)
theorem f10_airz_l2_l3_j2_ok (k : Nat) (x3 x5 : Int) (x135 : Bool) (h0_ : Int) (h0__1 : List T44) (h1_ h1__1 h1__2 h1__3 h1__4 h1__5 : Int) (r : R10_airz_l2_l3) (hF : f10_airz_l2_l3_j2 k x3 x5 x135 h0_ h0__1 h1_ h1__1 h1__2 h1__3 h1__4 h1__5 = some r) : EX 10 k (nav B10 [2, 2, 1, 2, 2, 2, 2, 2, 1, 2, 1, 2, 2, 1, 2, 2]) ({ n := 136, F := [(1, V.ptr 30000 0), (3, V.p (Value.int .i64 x3)), (4, V.ptr 30001 0), (5, V.p (Value.int .i64 x5)), (135, V.p (Value.bool x135))], M := [(30000, O.box 24 [V.p (Value.int .i64 h0_), V.sl 6 (rowsOf encT44 h0__1)]), (30001, O.box 44 [V.p (Value.int .i64 h1_), V.p (Value.int .i64 h1__1), V.p (Value.int .i64 h1__2), V.p (Value.int .i64 h1__3), V.p (Value.int .i64 h1__4), V.p (Value.int .i64 h1__5)])] } : St) = some r.st := by
  unfold f10_airz_l2_l3_j2 at hF
  cases hF
  simp (maxSteps := 999999) (disch := first | exact D (by decide) | exact K (by kernel_rfl)) only [E, EE, ↓reduceIte, simprocAttr, show (nav B10 [2, 2, 1, 2, 2, 2, 2, 2, 1, 2, 1, 2, 2, 1, 2, 2]) = Code.region 11 _ false from rfl, hk_10_11, hz_10_11, hs_10_11, R10_airz_l2_l3.st]
noncomputable def f10_airz_l2_l3_j1 (k : Nat) (x3 x5 : Int) (x101 : Bool) (h0_ : Int) (h0__1 : List T44) (h1_ h1__1 h1__2 h1__3 h1__4 h1__5 : Int) : Option R10_airz_l2_l3 :=
  ifE ((0 : Int) ≤ x5) (
    Option.bind (h0__1[(Int.toNat x5)]?) fun v2 =>
      cond ((v2.From == h1_))
        (
          cond ((v2.To == h1__1))
            (
              cond ((decide (v2.End ≤ h1__2)))
                (f10_airz_l2_l3_j2 k x3 x5 false h0_ h0__1 h1_ h1__1 h1__2 h1__3 h1__4 h1__5)
                (
                  cond ((!(decide (h1__3 ≤ v2.Start))))
                    (some (R10_airz_l2_l3.o1 false))
                    (f10_airz_l2_l3_j2 k x3 x5 false h0_ h0__1 h1_ h1__1 h1__2 h1__3 h1__4 h1__5)))
            (f10_airz_l2_l3_j2 k x3 x5 false h0_ h0__1 h1_ h1__1 h1__2 h1__3 h1__4 h1__5))
        (f10_airz_l2_l3_j2 k x3 x5 false h0_ h0__1 h1_ h1__1 h1__2 h1__3 h1__4 h1__5))
theorem f10_airz_l2_l3_j1_ok (k : Nat) (x3 x5 : Int) (x101 : Bool) (h0_ : Int) (h0__1 : List T44) (h1_ h1__1 h1__2 h1__3 h1__4 h1__5 : Int) (r : R10_airz_l2_l3) (hF : f10_airz_l2_l3_j1 k x3 x5 x101 h0_ h0__1 h1_ h1__1 h1__2 h1__3 h1__4 h1__5 = some r) : EX 10 k (nav B10 [2, 1, 2, 2, 2, 2, 2, 1, 2, 1, 2, 2, 1, 2, 2]) ({ n := 136, F := [(1, V.ptr 30000 0), (3, V.p (Value.int .i64 x3)), (4, V.ptr 30001 0), (5, V.p (Value.int .i64 x5)), (101, V.p (Value.bool x101))], M := [(30000, O.box 24 [V.p (Value.int .i64 h0_), V.sl 6 (rowsOf encT44 h0__1)]), (30001, O.box 44 [V.p (Value.int .i64 h1_), V.p (Value.int .i64 h1__1), V.p (Value.int .i64 h1__2), V.p (Value.int .i64 h1__3), V.p (Value.int .i64 h1__4), V.p (Value.int .i64 h1__5)])] } : St) = some r.st := by
  unfold f10_airz_l2_l3_j1 at hF
  replace hF := ifE_some.1 hF
  obtain ⟨h1, hF⟩ := hF
  replace hF := Option.bind_eq_some_iff.1 hF
  obtain ⟨v2, h3, hF⟩ := hF
  simp (maxSteps := 999999) (disch := first | exact D (by decide) | exact K (by kernel_rfl)) only [E, EE, ↓reduceIte, simprocAttr, xk B10 [2, 1, 2, 2, 2, 2, 2, 1, 2, 1, 2, 2, 1, 2, 2] .sq rfl, xk B10 [1, 2, 1, 2, 2, 2, 2, 2, 1, 2, 1, 2, 2, 1, 2, 2] (.bk 3) rfl, xk B10 [2, 1, 2, 1, 2, 2, 2, 2, 2, 1, 2, 1, 2, 2, 1, 2, 2] .sq rfl, show (nav B10 [1, 2, 1, 2, 1, 2, 2, 2, 2, 2, 1, 2, 1, 2, 2, 1, 2, 2]) = Code.region 12 _ false from rfl, hk_10_12, hz_10_12, hs_10_12, fieldAddrV, u_24, i_24, is_24, ib_24, iz_24, u_22, i_22, is_22, ib_22, iz_22, indexAddrV, u_44, i_44, is_44, ib_44, iz_44, encT44_eq, xk B10 [2, 2, 1, 2, 1, 2, 2, 2, 2, 2, 1, 2, 1, 2, 2, 1, 2, 2] .sq rfl, show (nav B10 [1, 2, 2, 1, 2, 1, 2, 2, 2, 2, 2, 1, 2, 1, 2, 2, 1, 2, 2]) = Code.region 13 _ false from rfl, hk_10_13, hz_10_13, hs_10_13, u_3, i_3, is_3, ib_3, iz_3, h1, h3]
  replace hF := cond_some hF
  rcases hF with ⟨h4, hF⟩ | ⟨h4, hF⟩
  · simp (maxSteps := 999999) (disch := first | exact D (by decide) | exact K (by kernel_rfl)) only [E, EE, ↓reduceIte, simprocAttr, fieldAddrV, u_44, i_44, is_44, ib_44, iz_44, u_3, i_3, is_3, ib_3, iz_3, h1, h3, h4]
    replace hF := cond_some hF
    rcases hF with ⟨h5, hF⟩ | ⟨h5, hF⟩
    · simp (maxSteps := 999999) (disch := first | exact D (by decide) | exact K (by kernel_rfl)) only [E, EE, ↓reduceIte, simprocAttr, fieldAddrV, u_44, i_44, is_44, ib_44, iz_44, u_3, i_3, is_3, ib_3, iz_3, h1, h3, h4, h5]
      replace hF := cond_some hF
      rcases hF with ⟨h6, hF⟩ | ⟨h6, hF⟩
      · have hJ := f10_airz_l2_l3_j2_ok k x3 x5 false h0_ h0__1 h1_ h1__1 h1__2 h1__3 h1__4 h1__5 _ hF
        simp (maxSteps := 999999) (disch := first | exact D (by decide) | exact K (by kernel_rfl)) only [E, EE, ↓reduceIte, simprocAttr, xk B10 [2, 2, 2, 1, 2, 1, 2, 2, 2, 2, 2, 1, 2, 1, 2, 2, 1, 2, 2] (.cd 135) rfl, xk B10 [3, 2, 2, 2, 1, 2, 1, 2, 2, 2, 2, 2, 1, 2, 1, 2, 2, 1, 2, 2] .sk rfl, h1, h3, h4, h5, h6]
        try simp only [NM, EE] at hJ
        exact hJ
      · simp (maxSteps := 999999) (disch := first | exact D (by decide) | exact K (by kernel_rfl)) only [E, EE, ↓reduceIte, simprocAttr, fieldAddrV, u_44, i_44, is_44, ib_44, iz_44, u_3, i_3, is_3, ib_3, iz_3, xk B10 [2, 2, 2, 1, 2, 1, 2, 2, 2, 2, 2, 1, 2, 1, 2, 2, 1, 2, 2] (.cd 135) rfl, h1, h3, h4, h5, h6]
        replace hF := cond_some hF
        rcases hF with ⟨h7, hF⟩ | ⟨h7, hF⟩
        · cases hF
          simp (maxSteps := 999999) (disch := first | exact D (by decide) | exact K (by kernel_rfl)) only [E, EE, ↓reduceIte, simprocAttr, xk B10 [2, 2, 2, 2, 1, 2, 1, 2, 2, 2, 2, 2, 1, 2, 1, 2, 2, 1, 2, 2] .sq rfl, show (nav B10 [1, 2, 2, 2, 2, 1, 2, 1, 2, 2, 2, 2, 2, 1, 2, 1, 2, 2, 1, 2, 2]) = Code.region 14 _ false from rfl, hk_10_14, hz_10_14, hs_10_14, xk B10 [2, 2, 2, 2, 2, 1, 2, 1, 2, 2, 2, 2, 2, 1, 2, 1, 2, 2, 1, 2, 2] .rt rfl, R10_airz_l2_l3.st, h1, h3, h4, h5, h6, h7]
        · have hJ := f10_airz_l2_l3_j2_ok k x3 x5 false h0_ h0__1 h1_ h1__1 h1__2 h1__3 h1__4 h1__5 _ hF
          simp (maxSteps := 999999) (disch := first | exact D (by decide) | exact K (by kernel_rfl)) only [E, EE, ↓reduceIte, simprocAttr, xk B10 [3, 2, 2, 2, 1, 2, 1, 2, 2, 2, 2, 2, 1, 2, 1, 2, 2, 1, 2, 2] .sk rfl, h1, h3, h4, h5, h6, h7]
          try simp only [NM, EE] at hJ
          exact hJ
    · have hJ := f10_airz_l2_l3_j2_ok k x3 x5 false h0_ h0__1 h1_ h1__1 h1__2 h1__3 h1__4 h1__5 _ hF
      simp (maxSteps := 999999) (disch := first | exact D (by decide) | exact K (by kernel_rfl)) only [E, EE, ↓reduceIte, simprocAttr, xk B10 [2, 2, 2, 1, 2, 1, 2, 2, 2, 2, 2, 1, 2, 1, 2, 2, 1, 2, 2] (.cd 135) rfl, xk B10 [3, 2, 2, 2, 1, 2, 1, 2, 2, 2, 2, 2, 1, 2, 1, 2, 2, 1, 2, 2] .sk rfl, h1, h3, h4, h5]
      try simp only [NM, EE] at hJ
      exact hJ
  · have hJ := f10_airz_l2_l3_j2_ok k x3 x5 false h0_ h0__1 h1_ h1__1 h1__2 h1__3 h1__4 h1__5 _ hF
    simp (maxSteps := 999999) (disch := first | exact D (by decide) | exact K (by kernel_rfl)) only [E, EE, ↓reduceIte, simprocAttr, xk B10 [2, 2, 2, 1, 2, 1, 2, 2, 2, 2, 2, 1, 2, 1, 2, 2, 1, 2, 2] (.cd 135) rfl, xk B10 [3, 2, 2, 2, 1, 2, 1, 2, 2, 2, 2, 2, 1, 2, 1, 2, 2, 1, 2, 2] .sk rfl, h1, h3, h4]
    try simp only [NM, EE] at hJ
    exact hJ
noncomputable def f10_airz_l2_l3_b (k : Nat) (x3 x5 h0_ : Int) (h0__1 : List T44) (h1_ h1__1 h1__2 h1__3 h1__4 h1__5 : Int) : Option R10_airz_l2_l3 :=
  cond ((decide (x5 < x3)))
    (f10_airz_l2_l3_j1 k x3 x5 true h0_ h0__1 h1_ h1__1 h1__2 h1__3 h1__4 h1__5)
    (some (R10_airz_l2_l3.o2 x3 x5 false h0_ h0__1 h1_ h1__1 h1__2 h1__3 h1__4 h1__5))
theorem f10_airz_l2_l3_b_ok (k : Nat) (x3 x5 h0_ : Int) (h0__1 : List T44) (h1_ h1__1 h1__2 h1__3 h1__4 h1__5 : Int) (r : R10_airz_l2_l3) (hF : f10_airz_l2_l3_b k x3 x5 h0_ h0__1 h1_ h1__1 h1__2 h1__3 h1__4 h1__5 = some r) : EX 10 k (nav B10 [1, 2, 2, 2, 2, 2, 1, 2, 1, 2, 2, 1, 2, 2]) ({ n := 136, F := [(1, V.ptr 30000 0), (3, V.p (Value.int .i64 x3)), (4, V.ptr 30001 0), (5, V.p (Value.int .i64 x5))], M := [(30000, O.box 24 [V.p (Value.int .i64 h0_), V.sl 6 (rowsOf encT44 h0__1)]), (30001, O.box 44 [V.p (Value.int .i64 h1_), V.p (Value.int .i64 h1__1), V.p (Value.int .i64 h1__2), V.p (Value.int .i64 h1__3), V.p (Value.int .i64 h1__4), V.p (Value.int .i64 h1__5)])] } : St) = some r.st := by
  unfold f10_airz_l2_l3_b at hF
  simp (maxSteps := 999999) (disch := first | exact D (by decide) | exact K (by kernel_rfl)) only [E, EE, ↓reduceIte, simprocAttr, xk B10 [1, 2, 2, 2, 2, 2, 1, 2, 1, 2, 2, 1, 2, 2] .sq rfl, xk B10 [1, 1, 2, 2, 2, 2, 2, 1, 2, 1, 2, 2, 1, 2, 2] .sq rfl, show (nav B10 [1, 1, 1, 2, 2, 2, 2, 2, 1, 2, 1, 2, 2, 1, 2, 2]) = Code.region 10 _ false from rfl, hk_10_10, hz_10_10, hs_10_10, xk B10 [2, 1, 1, 2, 2, 2, 2, 2, 1, 2, 1, 2, 2, 1, 2, 2] (.cd 101) rfl]
  replace hF := cond_some hF
  rcases hF with ⟨h1, hF⟩ | ⟨h1, hF⟩
  · have hJ := f10_airz_l2_l3_j1_ok k x3 x5 true h0_ h0__1 h1_ h1__1 h1__2 h1__3 h1__4 h1__5 _ hF
    simp (maxSteps := 999999) (disch := first | exact D (by decide) | exact K (by kernel_rfl)) only [E, EE, ↓reduceIte, simprocAttr, xk B10 [2, 2, 1, 1, 2, 2, 2, 2, 2, 1, 2, 1, 2, 2, 1, 2, 2] .sk rfl, h1]
    try simp only [NM, EE] at hJ
    exact hJ
  · cases hF
    simp (maxSteps := 999999) (disch := first | exact D (by decide) | exact K (by kernel_rfl)) only [E, EE, ↓reduceIte, simprocAttr, xk B10 [3, 2, 1, 1, 2, 2, 2, 2, 2, 1, 2, 1, 2, 2, 1, 2, 2] (.ex 2) rfl, R10_airz_l2_l3.st, h1]
noncomputable def f10_airz_l2_l3 (k : Nat) : Nat → Int → Int → Int → (List T44) → Int → Int → Int → Int → Int → Int → Option R10_airz_l2_l3
  | 0, _, _, _, _, _, _, _, _, _, _ => none
  | n + 1, x3, x5, h0_, h0__1, h1_, h1__1, h1__2, h1__3, h1__4, h1__5 => Option.bind (f10_airz_l2_l3_b k x3 x5 h0_ h0__1 h1_ h1__1 h1__2 h1__3 h1__4 h1__5) fun o =>
    match o with
    | .o0 y y_1 y_2 y_3 y_4 y_5 y_6 y_7 y_8 y_9 => f10_airz_l2_l3 k n y y_1 y_2 y_3 y_4 y_5 y_6 y_7 y_8 y_9
    | .o1 y => some (.o1 y)
    | .o2 y y_1 y_2 y_3 y_4 y_5 y_6 y_7 y_8 y_9 y_10 => some (.o2 y y_1 y_2 y_3 y_4 y_5 y_6 y_7 y_8 y_9 y_10)
theorem f10_airz_l2_l3_ok (k n : Nat) : ∀ (x3 x5 h0_ : Int) (h0__1 : List T44) (h1_ h1__1 h1__2 h1__3 h1__4 h1__5 : Int) (r : R10_airz_l2_l3) (hF : f10_airz_l2_l3 k n x3 x5 h0_ h0__1 h1_ h1__1 h1__2 h1__3 h1__4 h1__5 = some r) (σ : St) (hσ : headR (hints.head 10 10) (hints.canon 10 10) σ = some ({ n := 136, F := [(1, V.ptr 30000 0), (3, V.p (Value.int .i64 x3)), (4, V.ptr 30001 0), (5, V.p (Value.int .i64 x5))], M := [(30000, O.box 24 [V.p (Value.int .i64 h0_), V.sl 6 (rowsOf encT44 h0__1)]), (30001, O.box 44 [V.p (Value.int .i64 h1_), V.p (Value.int .i64 h1__1), V.p (Value.int .i64 h1__2), V.p (Value.int .i64 h1__3), V.p (Value.int .i64 h1__4), V.p (Value.int .i64 h1__5)])] } : St)), LP 10 k (nav B10 [1, 2, 2, 2, 2, 2, 1, 2, 1, 2, 2, 1, 2, 2]) n σ = some r.st := by
  induction n with
  | zero => intro x3 x5 h0_ h0__1 h1_ h1__1 h1__2 h1__3 h1__4 h1__5 r hF; cases hF
  | succ n ih =>
    intro x3 x5 h0_ h0__1 h1_ h1__1 h1__2 h1__3 h1__4 h1__5 r hF σ hσ
    rw [f10_airz_l2_l3] at hF
    obtain ⟨o, h, hF⟩ := Option.bind_eq_some_iff.1 hF
    have hB := f10_airz_l2_l3_b_ok k x3 x5 h0_ h0__1 h1_ h1__1 h1__2 h1__3 h1__4 h1__5 o h
    unfold LP at ih ⊢
    unfold EX at hB
    rw [loopK_succ, show firstReg (nav B10 [1, 2, 2, 2, 2, 2, 1, 2, 1, 2, 2, 1, 2, 2]) = 10 from rfl, hσ, headK_some, hB]
    cases o with
    | o0 y y_1 y_2 y_3 y_4 y_5 y_6 y_7 y_8 y_9 =>
      refine ih y y_1 y_2 y_3 y_4 y_5 y_6 y_7 y_8 y_9 r hF _ ?_
      simp (maxSteps := 999999) (disch := first | exact D (by decide) | exact K (by kernel_rfl)) only [E, EE, ↓reduceIte, simprocAttr, hh_10_10, hc_10_10]
    | o1 y => cases hF; rfl
    | o2 y y_1 y_2 y_3 y_4 y_5 y_6 y_7 y_8 y_9 y_10 => cases hF; rfl
inductive R10_airz_l2 where
  | o0 (y : Bool)
  | o1 (y y_1 : Int) (y_2 : List T44)
  | o2 (y : Int) (y_1 : Bool) (y_2 : Int) (y_3 : List T44)
noncomputable def R10_airz_l2.st : R10_airz_l2 → Out × St
  | .o0 y => (.ret, ({ n := 136, F := [(2, V.p (Value.bool y))], M := [] } : St))
  | .o1 y y_1 y_2 => (.norm, ({ n := 136, F := [(1, V.ptr 30000 0), (3, V.p (Value.int .i64 y))], M := [(30000, O.box 24 [V.p (Value.int .i64 y_1), V.sl 6 (rowsOf encT44 y_2)])] } : St))
  | .o2 y y_1 y_2 y_3 => (.exit 0, ({ n := 136, F := [(1, V.ptr 30000 0), (3, V.p (Value.int .i64 y)), (25, V.p (Value.bool y_1))], M := [(30000, O.box 24 [V.p (Value.int .i64 y_2), V.sl 6 (rowsOf encT44 y_3)])] } : St))
noncomputable def f10_airz_l2_j4 (k : Nat) (x3 x5 : Int) (x101 : Bool) (h0_ : Int) (h0__1 : List T44) (h1_ h1__1 h1__2 h1__3 h1__4 h1__5 : Int) : Option R10_airz_l2 :=
  some (R10_airz_l2.o1 (IntKind.i64.wrap (x3 + (1 : Int))) h0_ h0__1)
theorem f10_airz_l2_j4_ok (k : Nat) (x3 x5 : Int) (x101 : Bool) (h0_ : Int) (h0__1 : List T44) (h1_ h1__1 h1__2 h1__3 h1__4 h1__5 : Int) (r : R10_airz_l2) (hF : f10_airz_l2_j4 k x3 x5 x101 h0_ h0__1 h1_ h1__1 h1__2 h1__3 h1__4 h1__5 = some r) : EX 10 k (nav B10 [2, 2, 1, 2, 2, 1, 2, 2]) ({ n := 136, F := [(1, V.ptr 30000 0), (3, V.p (Value.int .i64 x3)), (4, V.ptr 30001 0), (5, V.p (Value.int .i64 x5)), (101, V.p (Value.bool x101))], M := [(30000, O.box 24 [V.p (Value.int .i64 h0_), V.sl 6 (rowsOf encT44 h0__1)]), (30001, O.box 44 [V.p (Value.int .i64 h1_), V.p (Value.int .i64 h1__1), V.p (Value.int .i64 h1__2), V.p (Value.int .i64 h1__3), V.p (Value.int .i64 h1__4), V.p (Value.int .i64 h1__5)])] } : St) = some r.st := by
  unfold f10_airz_l2_j4 at hF
  cases hF
  simp (maxSteps := 999999) (disch := first | exact D (by decide) | exact K (by kernel_rfl)) only [E, EE, ↓reduceIte, simprocAttr, show (nav B10 [2, 2, 1, 2, 2, 1, 2, 2]) = Code.region 5 _ false from rfl, hk_10_5, hz_10_5, hs_10_5, R10_airz_l2.st]
noncomputable def f10_airz_l2_j2 (k : Nat) (x3 : Int) (x98 : Bool) (h0_ : Int) (h0__1 : List T44) (m4 m4_1 m4_2 m4_3 m4_4 m4_5 : Int) : Option R10_airz_l2 :=
  Option.bind (f10_airz_l2_l3 k k x3 0 h0_ h0__1 m4 m4_1 m4_2 m4_3 m4_4 m4_5) fun o1 =>
    match o1 with
    | .o0 _ _ _ _ _ _ _ _ _ _ =>
      none
    | .o1 v4 =>
      some (R10_airz_l2.o0 v4)
    | .o2 v5 v6 v7 v8 v9 v10 v11 v12 v13 v14 v15 =>
      f10_airz_l2_j4 k v5 v6 v7 v8 v9 v10 v11 v12 v13 v14 v15
theorem f10_airz_l2_j2_ok (k : Nat) (x3 : Int) (x98 : Bool) (h0_ : Int) (h0__1 : List T44) (m4 m4_1 m4_2 m4_3 m4_4 m4_5 : Int) (r : R10_airz_l2) (hF : f10_airz_l2_j2 k x3 x98 h0_ h0__1 m4 m4_1 m4_2 m4_3 m4_4 m4_5 = some r) : SQ 10 k (nav B10 [2, 2, 1, 2, 2, 1, 2, 2]) (blockK 1 (EX 10 k (nav B10 [2, 2, 2, 1, 2, 1, 2, 2, 1, 2, 2]) ({ n := 136, F := [(1, V.ptr 30000 0), (3, V.p (Value.int .i64 x3)), (4, V.ptr 4 0), (98, V.p (Value.bool x98))], M := [(30000, O.box 24 [V.p (Value.int .i64 h0_), V.sl 6 (rowsOf encT44 h0__1)]), (4, O.box 44 [V.p (Value.int .i64 m4), V.p (Value.int .i64 m4_1), V.p (Value.int .i64 m4_2), V.p (Value.int .i64 m4_3), V.p (Value.int .i64 m4_4), V.p (Value.int .i64 m4_5)])] } : St))) = some r.st := by
  unfold f10_airz_l2_j2 at hF
  replace hF := Option.bind_eq_some_iff.1 hF
  obtain ⟨o1, h2, hF⟩ := hF
  have hc3 := f10_airz_l2_l3_ok k k x3 0 h0_ h0__1 m4 m4_1 m4_2 m4_3 m4_4 m4_5 _ h2
  simp (maxSteps := 999999) (disch := first | exact D (by decide) | exact K (by kernel_rfl)) only [E, EE, ↓reduceIte, simprocAttr, xk B10 [2, 2, 2, 1, 2, 1, 2, 2, 1, 2, 2] .sq rfl, show (nav B10 [1, 2, 2, 2, 1, 2, 1, 2, 2, 1, 2, 2]) = Code.region 9 _ false from rfl, hk_10_9, hz_10_9, hs_10_9, xk B10 [2, 2, 2, 2, 1, 2, 1, 2, 2, 1, 2, 2] (.bk 2) rfl, xk B10 [2, 2, 2, 2, 2, 1, 2, 1, 2, 2, 1, 2, 2] .lp rfl, hh_10_10, hc_10_10]
  (try simp only [NM, EE] at hc3)
  rw [hc3 _ (by simp (maxSteps := 999999) (disch := first | exact D (by decide) | exact K (by kernel_rfl)) only [E, EE, ↓reduceIte, simprocAttr, hh_10_10, hc_10_10])]
  clear hc3
  cases o1 with
  | o0 _ _ _ _ _ _ _ _ _ _ =>
    (try dsimp only at hF)
    cases hF
  | o1 v4 =>
    (try dsimp only at hF)
    cases hF
    simp (maxSteps := 999999) (disch := first | exact D (by decide) | exact K (by kernel_rfl)) only [E, EE, ↓reduceIte, simprocAttr, R10_airz_l2_l3.st, R10_airz_l2.st]
  | o2 v5 v6 v7 v8 v9 v10 v11 v12 v13 v14 v15 =>
    (try dsimp only at hF)
    have hJ := f10_airz_l2_j4_ok k v5 v6 v7 v8 v9 v10 v11 v12 v13 v14 v15 _ hF
    simp (maxSteps := 999999) (disch := first | exact D (by decide) | exact K (by kernel_rfl)) only [E, EE, ↓reduceIte, simprocAttr, R10_airz_l2_l3.st]
    try simp only [NM, EE] at hJ
    exact hJ
noncomputable def f10_airz_l2_j1 (k : Nat) (x3 : Int) (x25 : Bool) (h0_ : Int) (h0__1 : List T44) : Option R10_airz_l2 :=
  ifE ((0 : Int) ≤ x3) (
    Option.bind (h0__1[(Int.toNat x3)]?) fun v2 =>
      cond ((decide (v2.From < 1)))
        (some (R10_airz_l2.o0 false))
        (
          cond ((decide (v2.From > h0_)))
            (some (R10_airz_l2.o0 false))
            (
              cond ((decide (v2.To < 1)))
                (some (R10_airz_l2.o0 false))
                (
                  cond ((decide (v2.To > h0_)))
                    (some (R10_airz_l2.o0 false))
                    (
                      cond ((v2.From == v2.To))
                        (some (R10_airz_l2.o0 false))
                        (
                          cond ((decide (v2.Start < 0)))
                            (some (R10_airz_l2.o0 false))
                            (
                              cond ((decide (v2.End ≤ v2.Start)))
                                (some (R10_airz_l2.o0 false))
                                (
                                  cond ((decide (v2.End > 1048576)))
                                    (some (R10_airz_l2.o0 false))
                                    (
                                      cond ((decide (v2.Rate < 1)))
                                        (some (R10_airz_l2.o0 false))
                                        (
                                          cond ((decide (v2.Rate > 4096)))
                                            (some (R10_airz_l2.o0 false))
                                            (
                                              cond ((decide (v2.Delay < 0)))
                                                (some (R10_airz_l2.o0 false))
                                                (
                                                  cond ((decide (v2.Delay > 4096)))
                                                    (some (R10_airz_l2.o0 false))
                                                    (f10_airz_l2_j2 k x3 false h0_ h0__1 v2.From v2.To v2.Start v2.End v2.Rate v2.Delay)))))))))))))
theorem f10_airz_l2_j1_ok (k : Nat) (x3 : Int) (x25 : Bool) (h0_ : Int) (h0__1 : List T44) (r : R10_airz_l2) (hF : f10_airz_l2_j1 k x3 x25 h0_ h0__1 = some r) : EX 10 k (nav B10 [2, 1, 2, 2, 1, 2, 2]) ({ n := 136, F := [(1, V.ptr 30000 0), (3, V.p (Value.int .i64 x3)), (25, V.p (Value.bool x25))], M := [(30000, O.box 24 [V.p (Value.int .i64 h0_), V.sl 6 (rowsOf encT44 h0__1)])] } : St) = some r.st := by
  unfold f10_airz_l2_j1 at hF
  replace hF := ifE_some.1 hF
  obtain ⟨h1, hF⟩ := hF
  replace hF := Option.bind_eq_some_iff.1 hF
  obtain ⟨v2, h3, hF⟩ := hF
  simp (maxSteps := 999999) (disch := first | exact D (by decide) | exact K (by kernel_rfl)) only [E, EE, ↓reduceIte, simprocAttr, xk B10 [2, 1, 2, 2, 1, 2, 2] .sq rfl, xk B10 [1, 2, 1, 2, 2, 1, 2, 2] (.bk 1) rfl, xk B10 [2, 1, 2, 1, 2, 2, 1, 2, 2] .sq rfl, show (nav B10 [1, 2, 1, 2, 1, 2, 2, 1, 2, 2]) = Code.region 6 _ false from rfl, hk_10_6, hz_10_6, hs_10_6, fieldAddrV, u_24, i_24, is_24, ib_24, iz_24, u_22, i_22, is_22, ib_22, iz_22, indexAddrV, u_44, i_44, is_44, ib_44, iz_44, encT44_eq, xk B10 [2, 2, 1, 2, 1, 2, 2, 1, 2, 2] .sq rfl, xk B10 [1, 2, 2, 1, 2, 1, 2, 2, 1, 2, 2] .sq rfl, show (nav B10 [1, 1, 2, 2, 1, 2, 1, 2, 2, 1, 2, 2]) = Code.region 7 _ false from rfl, hk_10_7, hz_10_7, hs_10_7, u_3, i_3, is_3, ib_3, iz_3, h1, h3]
  replace hF := cond_some hF
  rcases hF with ⟨h4, hF⟩ | ⟨h4, hF⟩
  · cases hF
    simp (maxSteps := 999999) (disch := first | exact D (by decide) | exact K (by kernel_rfl)) only [E, EE, ↓reduceIte, simprocAttr, xk B10 [2, 1, 2, 2, 1, 2, 1, 2, 2, 1, 2, 2] (.cd 98) rfl, xk B10 [2, 2, 1, 2, 2, 1, 2, 1, 2, 2, 1, 2, 2] .sq rfl, show (nav B10 [1, 2, 2, 1, 2, 2, 1, 2, 1, 2, 2, 1, 2, 2]) = Code.region 8 _ false from rfl, hk_10_8, hz_10_8, hs_10_8, xk B10 [2, 2, 2, 1, 2, 2, 1, 2, 1, 2, 2, 1, 2, 2] .rt rfl, R10_airz_l2.st, h1, h3, h4]
  · simp (maxSteps := 999999) (disch := first | exact D (by decide) | exact K (by kernel_rfl)) only [E, EE, ↓reduceIte, simprocAttr, fieldAddrV, u_44, i_44, is_44, ib_44, iz_44, u_3, i_3, is_3, ib_3, iz_3, u_24, i_24, is_24, ib_24, iz_24, h1, h3, h4]
    replace hF := cond_some hF
    rcases hF with ⟨h5, hF⟩ | ⟨h5, hF⟩
    · cases hF
      simp (maxSteps := 999999) (disch := first | exact D (by decide) | exact K (by kernel_rfl)) only [E, EE, ↓reduceIte, simprocAttr, xk B10 [2, 1, 2, 2, 1, 2, 1, 2, 2, 1, 2, 2] (.cd 98) rfl, xk B10 [2, 2, 1, 2, 2, 1, 2, 1, 2, 2, 1, 2, 2] .sq rfl, show (nav B10 [1, 2, 2, 1, 2, 2, 1, 2, 1, 2, 2, 1, 2, 2]) = Code.region 8 _ false from rfl, hk_10_8, hz_10_8, hs_10_8, xk B10 [2, 2, 2, 1, 2, 2, 1, 2, 1, 2, 2, 1, 2, 2] .rt rfl, R10_airz_l2.st, h1, h3, h4, h5]
    · simp (maxSteps := 999999) (disch := first | exact D (by decide) | exact K (by kernel_rfl)) only [E, EE, ↓reduceIte, simprocAttr, fieldAddrV, u_44, i_44, is_44, ib_44, iz_44, u_3, i_3, is_3, ib_3, iz_3, h1, h3, h4, h5]
      replace hF := cond_some hF
      rcases hF with ⟨h6, hF⟩ | ⟨h6, hF⟩
      · cases hF
        simp (maxSteps := 999999) (disch := first | exact D (by decide) | exact K (by kernel_rfl)) only [E, EE, ↓reduceIte, simprocAttr, xk B10 [2, 1, 2, 2, 1, 2, 1, 2, 2, 1, 2, 2] (.cd 98) rfl, xk B10 [2, 2, 1, 2, 2, 1, 2, 1, 2, 2, 1, 2, 2] .sq rfl, show (nav B10 [1, 2, 2, 1, 2, 2, 1, 2, 1, 2, 2, 1, 2, 2]) = Code.region 8 _ false from rfl, hk_10_8, hz_10_8, hs_10_8, xk B10 [2, 2, 2, 1, 2, 2, 1, 2, 1, 2, 2, 1, 2, 2] .rt rfl, R10_airz_l2.st, h1, h3, h4, h5, h6]
      · simp (maxSteps := 999999) (disch := first | exact D (by decide) | exact K (by kernel_rfl)) only [E, EE, ↓reduceIte, simprocAttr, fieldAddrV, u_44, i_44, is_44, ib_44, iz_44, u_3, i_3, is_3, ib_3, iz_3, u_24, i_24, is_24, ib_24, iz_24, h1, h3, h4, h5, h6]
        replace hF := cond_some hF
        rcases hF with ⟨h7, hF⟩ | ⟨h7, hF⟩
        · cases hF
          simp (maxSteps := 999999) (disch := first | exact D (by decide) | exact K (by kernel_rfl)) only [E, EE, ↓reduceIte, simprocAttr, xk B10 [2, 1, 2, 2, 1, 2, 1, 2, 2, 1, 2, 2] (.cd 98) rfl, xk B10 [2, 2, 1, 2, 2, 1, 2, 1, 2, 2, 1, 2, 2] .sq rfl, show (nav B10 [1, 2, 2, 1, 2, 2, 1, 2, 1, 2, 2, 1, 2, 2]) = Code.region 8 _ false from rfl, hk_10_8, hz_10_8, hs_10_8, xk B10 [2, 2, 2, 1, 2, 2, 1, 2, 1, 2, 2, 1, 2, 2] .rt rfl, R10_airz_l2.st, h1, h3, h4, h5, h6, h7]
        · simp (maxSteps := 999999) (disch := first | exact D (by decide) | exact K (by kernel_rfl)) only [E, EE, ↓reduceIte, simprocAttr, fieldAddrV, u_44, i_44, is_44, ib_44, iz_44, u_3, i_3, is_3, ib_3, iz_3, h1, h3, h4, h5, h6, h7]
          replace hF := cond_some hF
          rcases hF with ⟨h8, hF⟩ | ⟨h8, hF⟩
          · cases hF
            simp (maxSteps := 999999) (disch := first | exact D (by decide) | exact K (by kernel_rfl)) only [E, EE, ↓reduceIte, simprocAttr, xk B10 [2, 1, 2, 2, 1, 2, 1, 2, 2, 1, 2, 2] (.cd 98) rfl, xk B10 [2, 2, 1, 2, 2, 1, 2, 1, 2, 2, 1, 2, 2] .sq rfl, show (nav B10 [1, 2, 2, 1, 2, 2, 1, 2, 1, 2, 2, 1, 2, 2]) = Code.region 8 _ false from rfl, hk_10_8, hz_10_8, hs_10_8, xk B10 [2, 2, 2, 1, 2, 2, 1, 2, 1, 2, 2, 1, 2, 2] .rt rfl, R10_airz_l2.st, h1, h3, h4, h5, h6, h7, h8]
          · simp (maxSteps := 999999) (disch := first | exact D (by decide) | exact K (by kernel_rfl)) only [E, EE, ↓reduceIte, simprocAttr, fieldAddrV, u_44, i_44, is_44, ib_44, iz_44, u_3, i_3, is_3, ib_3, iz_3, h1, h3, h4, h5, h6, h7, h8]
            replace hF := cond_some hF
            rcases hF with ⟨h9, hF⟩ | ⟨h9, hF⟩
            · cases hF
              simp (maxSteps := 999999) (disch := first | exact D (by decide) | exact K (by kernel_rfl)) only [E, EE, ↓reduceIte, simprocAttr, xk B10 [2, 1, 2, 2, 1, 2, 1, 2, 2, 1, 2, 2] (.cd 98) rfl, xk B10 [2, 2, 1, 2, 2, 1, 2, 1, 2, 2, 1, 2, 2] .sq rfl, show (nav B10 [1, 2, 2, 1, 2, 2, 1, 2, 1, 2, 2, 1, 2, 2]) = Code.region 8 _ false from rfl, hk_10_8, hz_10_8, hs_10_8, xk B10 [2, 2, 2, 1, 2, 2, 1, 2, 1, 2, 2, 1, 2, 2] .rt rfl, R10_airz_l2.st, h1, h3, h4, h5, h6, h7, h8, h9]
            · simp (maxSteps := 999999) (disch := first | exact D (by decide) | exact K (by kernel_rfl)) only [E, EE, ↓reduceIte, simprocAttr, fieldAddrV, u_44, i_44, is_44, ib_44, iz_44, u_3, i_3, is_3, ib_3, iz_3, h1, h3, h4, h5, h6, h7, h8, h9]
              replace hF := cond_some hF
              rcases hF with ⟨h10, hF⟩ | ⟨h10, hF⟩
              · cases hF
                simp (maxSteps := 999999) (disch := first | exact D (by decide) | exact K (by kernel_rfl)) only [E, EE, ↓reduceIte, simprocAttr, xk B10 [2, 1, 2, 2, 1, 2, 1, 2, 2, 1, 2, 2] (.cd 98) rfl, xk B10 [2, 2, 1, 2, 2, 1, 2, 1, 2, 2, 1, 2, 2] .sq rfl, show (nav B10 [1, 2, 2, 1, 2, 2, 1, 2, 1, 2, 2, 1, 2, 2]) = Code.region 8 _ false from rfl, hk_10_8, hz_10_8, hs_10_8, xk B10 [2, 2, 2, 1, 2, 2, 1, 2, 1, 2, 2, 1, 2, 2] .rt rfl, R10_airz_l2.st, h1, h3, h4, h5, h6, h7, h8, h9, h10]
              · simp (maxSteps := 999999) (disch := first | exact D (by decide) | exact K (by kernel_rfl)) only [E, EE, ↓reduceIte, simprocAttr, fieldAddrV, u_44, i_44, is_44, ib_44, iz_44, u_3, i_3, is_3, ib_3, iz_3, h1, h3, h4, h5, h6, h7, h8, h9, h10]
                replace hF := cond_some hF
                rcases hF with ⟨h11, hF⟩ | ⟨h11, hF⟩
                · cases hF
                  simp (maxSteps := 999999) (disch := first | exact D (by decide) | exact K (by kernel_rfl)) only [E, EE, ↓reduceIte, simprocAttr, xk B10 [2, 1, 2, 2, 1, 2, 1, 2, 2, 1, 2, 2] (.cd 98) rfl, xk B10 [2, 2, 1, 2, 2, 1, 2, 1, 2, 2, 1, 2, 2] .sq rfl, show (nav B10 [1, 2, 2, 1, 2, 2, 1, 2, 1, 2, 2, 1, 2, 2]) = Code.region 8 _ false from rfl, hk_10_8, hz_10_8, hs_10_8, xk B10 [2, 2, 2, 1, 2, 2, 1, 2, 1, 2, 2, 1, 2, 2] .rt rfl, R10_airz_l2.st, h1, h3, h4, h5, h6, h7, h8, h9, h10, h11]
                · simp (maxSteps := 999999) (disch := first | exact D (by decide) | exact K (by kernel_rfl)) only [E, EE, ↓reduceIte, simprocAttr, fieldAddrV, u_44, i_44, is_44, ib_44, iz_44, u_3, i_3, is_3, ib_3, iz_3, h1, h3, h4, h5, h6, h7, h8, h9, h10, h11]
                  replace hF := cond_some hF
                  rcases hF with ⟨h12, hF⟩ | ⟨h12, hF⟩
                  · cases hF
                    simp (maxSteps := 999999) (disch := first | exact D (by decide) | exact K (by kernel_rfl)) only [E, EE, ↓reduceIte, simprocAttr, xk B10 [2, 1, 2, 2, 1, 2, 1, 2, 2, 1, 2, 2] (.cd 98) rfl, xk B10 [2, 2, 1, 2, 2, 1, 2, 1, 2, 2, 1, 2, 2] .sq rfl, show (nav B10 [1, 2, 2, 1, 2, 2, 1, 2, 1, 2, 2, 1, 2, 2]) = Code.region 8 _ false from rfl, hk_10_8, hz_10_8, hs_10_8, xk B10 [2, 2, 2, 1, 2, 2, 1, 2, 1, 2, 2, 1, 2, 2] .rt rfl, R10_airz_l2.st, h1, h3, h4, h5, h6, h7, h8, h9, h10, h11, h12]
                  · simp (maxSteps := 999999) (disch := first | exact D (by decide) | exact K (by kernel_rfl)) only [E, EE, ↓reduceIte, simprocAttr, fieldAddrV, u_44, i_44, is_44, ib_44, iz_44, u_3, i_3, is_3, ib_3, iz_3, h1, h3, h4, h5, h6, h7, h8, h9, h10, h11, h12]
                    replace hF := cond_some hF
                    rcases hF with ⟨h13, hF⟩ | ⟨h13, hF⟩
                    · cases hF
                      simp (maxSteps := 999999) (disch := first | exact D (by decide) | exact K (by kernel_rfl)) only [E, EE, ↓reduceIte, simprocAttr, xk B10 [2, 1, 2, 2, 1, 2, 1, 2, 2, 1, 2, 2] (.cd 98) rfl, xk B10 [2, 2, 1, 2, 2, 1, 2, 1, 2, 2, 1, 2, 2] .sq rfl, show (nav B10 [1, 2, 2, 1, 2, 2, 1, 2, 1, 2, 2, 1, 2, 2]) = Code.region 8 _ false from rfl, hk_10_8, hz_10_8, hs_10_8, xk B10 [2, 2, 2, 1, 2, 2, 1, 2, 1, 2, 2, 1, 2, 2] .rt rfl, R10_airz_l2.st, h1, h3, h4, h5, h6, h7, h8, h9, h10, h11, h12, h13]
                    · simp (maxSteps := 999999) (disch := first | exact D (by decide) | exact K (by kernel_rfl)) only [E, EE, ↓reduceIte, simprocAttr, fieldAddrV, u_44, i_44, is_44, ib_44, iz_44, u_3, i_3, is_3, ib_3, iz_3, h1, h3, h4, h5, h6, h7, h8, h9, h10, h11, h12, h13]
                      replace hF := cond_some hF
                      rcases hF with ⟨h14, hF⟩ | ⟨h14, hF⟩
                      · cases hF
                        simp (maxSteps := 999999) (disch := first | exact D (by decide) | exact K (by kernel_rfl)) only [E, EE, ↓reduceIte, simprocAttr, xk B10 [2, 1, 2, 2, 1, 2, 1, 2, 2, 1, 2, 2] (.cd 98) rfl, xk B10 [2, 2, 1, 2, 2, 1, 2, 1, 2, 2, 1, 2, 2] .sq rfl, show (nav B10 [1, 2, 2, 1, 2, 2, 1, 2, 1, 2, 2, 1, 2, 2]) = Code.region 8 _ false from rfl, hk_10_8, hz_10_8, hs_10_8, xk B10 [2, 2, 2, 1, 2, 2, 1, 2, 1, 2, 2, 1, 2, 2] .rt rfl, R10_airz_l2.st, h1, h3, h4, h5, h6, h7, h8, h9, h10, h11, h12, h13, h14]
                      · simp (maxSteps := 999999) (disch := first | exact D (by decide) | exact K (by kernel_rfl)) only [E, EE, ↓reduceIte, simprocAttr, fieldAddrV, u_44, i_44, is_44, ib_44, iz_44, u_3, i_3, is_3, ib_3, iz_3, xk B10 [2, 1, 2, 2, 1, 2, 1, 2, 2, 1, 2, 2] (.cd 98) rfl, h1, h3, h4, h5, h6, h7, h8, h9, h10, h11, h12, h13, h14]
                        replace hF := cond_some hF
                        rcases hF with ⟨h15, hF⟩ | ⟨h15, hF⟩
                        · cases hF
                          simp (maxSteps := 999999) (disch := first | exact D (by decide) | exact K (by kernel_rfl)) only [E, EE, ↓reduceIte, simprocAttr, xk B10 [2, 2, 1, 2, 2, 1, 2, 1, 2, 2, 1, 2, 2] .sq rfl, show (nav B10 [1, 2, 2, 1, 2, 2, 1, 2, 1, 2, 2, 1, 2, 2]) = Code.region 8 _ false from rfl, hk_10_8, hz_10_8, hs_10_8, xk B10 [2, 2, 2, 1, 2, 2, 1, 2, 1, 2, 2, 1, 2, 2] .rt rfl, R10_airz_l2.st, h1, h3, h4, h5, h6, h7, h8, h9, h10, h11, h12, h13, h14, h15]
                        · have hJ := f10_airz_l2_j2_ok k x3 false h0_ h0__1 v2.From v2.To v2.Start v2.End v2.Rate v2.Delay _ hF
                          simp (maxSteps := 999999) (disch := first | exact D (by decide) | exact K (by kernel_rfl)) only [E, EE, ↓reduceIte, simprocAttr, xk B10 [3, 2, 1, 2, 2, 1, 2, 1, 2, 2, 1, 2, 2] .sk rfl, h1, h3, h4, h5, h6, h7, h8, h9, h10, h11, h12, h13, h14, h15]
                          try simp only [NM, EE] at hJ
                          exact hJ
noncomputable def f10_airz_l2_b (k : Nat) (x3 h0_ : Int) (h0__1 : List T44) : Option R10_airz_l2 :=
  cond ((decide (x3 < ((List.length h0__1) : Int))))
    (f10_airz_l2_j1 k x3 true h0_ h0__1)
    (some (R10_airz_l2.o2 x3 false h0_ h0__1))
theorem f10_airz_l2_b_ok (k : Nat) (x3 h0_ : Int) (h0__1 : List T44) (r : R10_airz_l2) (hF : f10_airz_l2_b k x3 h0_ h0__1 = some r) : EX 10 k (nav B10 [1, 2, 2, 1, 2, 2]) ({ n := 136, F := [(1, V.ptr 30000 0), (3, V.p (Value.int .i64 x3))], M := [(30000, O.box 24 [V.p (Value.int .i64 h0_), V.sl 6 (rowsOf encT44 h0__1)])] } : St) = some r.st := by
  unfold f10_airz_l2_b at hF
  simp (maxSteps := 999999) (disch := first | exact D (by decide) | exact K (by kernel_rfl)) only [E, EE, ↓reduceIte, simprocAttr, xk B10 [1, 2, 2, 1, 2, 2] .sq rfl, xk B10 [1, 1, 2, 2, 1, 2, 2] .sq rfl, show (nav B10 [1, 1, 1, 2, 2, 1, 2, 2]) = Code.region 4 _ false from rfl, hk_10_4, hz_10_4, hs_10_4, fieldAddrV, u_24, i_24, is_24, ib_24, iz_24, u_22, i_22, is_22, ib_22, iz_22, xk B10 [2, 1, 1, 2, 2, 1, 2, 2] (.cd 25) rfl]
  replace hF := cond_some hF
  rcases hF with ⟨h1, hF⟩ | ⟨h1, hF⟩
  · have hJ := f10_airz_l2_j1_ok k x3 true h0_ h0__1 _ hF
    simp (maxSteps := 999999) (disch := first | exact D (by decide) | exact K (by kernel_rfl)) only [E, EE, ↓reduceIte, simprocAttr, xk B10 [2, 2, 1, 1, 2, 2, 1, 2, 2] .sk rfl, h1]
    try simp only [NM, EE] at hJ
    exact hJ
  · cases hF
    simp (maxSteps := 999999) (disch := first | exact D (by decide) | exact K (by kernel_rfl)) only [E, EE, ↓reduceIte, simprocAttr, xk B10 [3, 2, 1, 1, 2, 2, 1, 2, 2] (.ex 0) rfl, R10_airz_l2.st, h1]
noncomputable def f10_airz_l2 (k : Nat) : Nat → Int → Int → (List T44) → Option R10_airz_l2
  | 0, _, _, _ => none
  | n + 1, x3, h0_, h0__1 => Option.bind (f10_airz_l2_b k x3 h0_ h0__1) fun o =>
    match o with
    | .o0 y => some (.o0 y)
    | .o1 y y_1 y_2 => f10_airz_l2 k n y y_1 y_2
    | .o2 y y_1 y_2 y_3 => some (.o2 y y_1 y_2 y_3)
theorem f10_airz_l2_ok (k n : Nat) : ∀ (x3 h0_ : Int) (h0__1 : List T44) (r : R10_airz_l2) (hF : f10_airz_l2 k n x3 h0_ h0__1 = some r) (σ : St) (hσ : headR (hints.head 10 4) (hints.canon 10 4) σ = some ({ n := 136, F := [(1, V.ptr 30000 0), (3, V.p (Value.int .i64 x3))], M := [(30000, O.box 24 [V.p (Value.int .i64 h0_), V.sl 6 (rowsOf encT44 h0__1)])] } : St)), LP 10 k (nav B10 [1, 2, 2, 1, 2, 2]) n σ = some r.st := by
  induction n with
  | zero => intro x3 h0_ h0__1 r hF; cases hF
  | succ n ih =>
    intro x3 h0_ h0__1 r hF σ hσ
    rw [f10_airz_l2] at hF
    obtain ⟨o, h, hF⟩ := Option.bind_eq_some_iff.1 hF
    have hB := f10_airz_l2_b_ok k x3 h0_ h0__1 o h
    unfold LP at ih ⊢
    unfold EX at hB
    rw [loopK_succ, show firstReg (nav B10 [1, 2, 2, 1, 2, 2]) = 4 from rfl, hσ, headK_some, hB]
    cases o with
    | o0 y => cases hF; rfl
    | o1 y y_1 y_2 =>
      refine ih y y_1 y_2 r hF _ ?_
      simp (maxSteps := 999999) (disch := first | exact D (by decide) | exact K (by kernel_rfl)) only [E, EE, ↓reduceIte, simprocAttr, hh_10_4, hc_10_4]
    | o2 y y_1 y_2 y_3 => cases hF; rfl
noncomputable def f10_airz_j3 (k : Nat) (x3 : Int) (x25 : Bool) (h0_ : Int) (h0__1 : List T44) : Option R10_airz :=
  some (R10_airz.o0 true)
theorem f10_airz_j3_ok (k : Nat) (x3 : Int) (x25 : Bool) (h0_ : Int) (h0__1 : List T44) (r : R10_airz) (hF : f10_airz_j3 k x3 x25 h0_ h0__1 = some r) : finK Try.prog Try.f10 0 (EX 10 k (nav B10 [2, 2, 2]) ({ n := 136, F := [(1, V.ptr 30000 0), (3, V.p (Value.int .i64 x3)), (25, V.p (Value.bool x25))], M := [(30000, O.box 24 [V.p (Value.int .i64 h0_), V.sl 6 (rowsOf encT44 h0__1)])] } : St)) = some r.st := by
  unfold f10_airz_j3 at hF
  cases hF
  simp (maxSteps := 999999) (disch := first | exact D (by decide) | exact K (by kernel_rfl)) only [E, EE, ↓reduceIte, simprocAttr, xk B10 [2, 2, 2] .sq rfl, show (nav B10 [1, 2, 2, 2]) = Code.region 15 _ false from rfl, hk_10_15, hz_10_15, hs_10_15, xk B10 [2, 2, 2, 2] .rt rfl, finK_norm, finK_ret, fin10, R10_airz.st]
noncomputable def f10_airz_j1 (k : Nat) (x20 : Bool) (m1 : Int) (m1_1 : List T44) : Option R10_airz :=
  Option.bind (f10_airz_l2 k k 0 m1 m1_1) fun o1 =>
    match o1 with
    | .o0 v4 =>
      some (R10_airz.o0 v4)
    | .o1 _ _ _ =>
      none
    | .o2 v5 v6 v7 v8 =>
      f10_airz_j3 k v5 v6 v7 v8
theorem f10_airz_j1_ok (k : Nat) (x20 : Bool) (m1 : Int) (m1_1 : List T44) (r : R10_airz) (hF : f10_airz_j1 k x20 m1 m1_1 = some r) : finK Try.prog Try.f10 0 (EX 10 k (nav B10 [2, 2]) ({ n := 136, F := [(1, V.ptr 1 0), (20, V.p (Value.bool x20))], M := [(1, O.box 24 [V.p (Value.int .i64 m1), V.sl 6 (rowsOf encT44 m1_1)])] } : St)) = some r.st := by
  unfold f10_airz_j1 at hF
  replace hF := Option.bind_eq_some_iff.1 hF
  obtain ⟨o1, h2, hF⟩ := hF
  have hc3 := f10_airz_l2_ok k k 0 m1 m1_1 _ h2
  simp (maxSteps := 999999) (disch := first | exact D (by decide) | exact K (by kernel_rfl)) only [E, EE, ↓reduceIte, simprocAttr, xk B10 [2, 2] .sq rfl, xk B10 [1, 2, 2] .sq rfl, show (nav B10 [1, 1, 2, 2]) = Code.region 3 _ false from rfl, hk_10_3, hz_10_3, hs_10_3, xk B10 [2, 1, 2, 2] (.bk 0) rfl, xk B10 [2, 2, 1, 2, 2] .lp rfl, hh_10_4, hc_10_4]
  (try simp only [NM, EE] at hc3)
  rw [hc3 _ (by simp (maxSteps := 999999) (disch := first | exact D (by decide) | exact K (by kernel_rfl)) only [E, EE, ↓reduceIte, simprocAttr, hh_10_4, hc_10_4])]
  clear hc3
  cases o1 with
  | o0 v4 =>
    (try dsimp only at hF)
    cases hF
    simp (maxSteps := 999999) (disch := first | exact D (by decide) | exact K (by kernel_rfl)) only [E, EE, ↓reduceIte, simprocAttr, R10_airz_l2.st, finK_norm, finK_ret, fin10, R10_airz.st]
  | o1 _ _ _ =>
    (try dsimp only at hF)
    cases hF
  | o2 v5 v6 v7 v8 =>
    (try dsimp only at hF)
    have hJ := f10_airz_j3_ok k v5 v6 v7 v8 _ hF
    simp (maxSteps := 999999) (disch := first | exact D (by decide) | exact K (by kernel_rfl)) only [E, EE, ↓reduceIte, simprocAttr, R10_airz_l2.st]
    try simp only [NM, EE] at hJ
    exact hJ
noncomputable def f10_airz_e (k : Nat) (a0 : Int) (a0_1 : List T44) : Option R10_airz :=
  cond ((decide (a0 < 2)))
    (some (R10_airz.o0 false))
    (
      cond ((decide (a0 > 6)))
        (some (R10_airz.o0 false))
        (
          cond ((decide (((List.length a0_1) : Int) > 24)))
            (some (R10_airz.o0 false))
            (f10_airz_j1 k false a0 a0_1)))
theorem f10_airz_e_ok (k : Nat) (a0 : Int) (a0_1 : List T44) (r : R10_airz) (hF : f10_airz_e k a0 a0_1 = some r) : finK Try.prog Try.f10 0 (EX 10 k (nav B10 []) ({ n := 136, F := [(0, V.agg [V.p (Value.int .i64 a0), V.sl 6 (rowsOf encT44 a0_1)])], M := [] } : St)) = some r.st := by
  unfold f10_airz_e at hF
  simp (maxSteps := 999999) (disch := first | exact D (by decide) | exact K (by kernel_rfl)) only [E, EE, ↓reduceIte, simprocAttr, xk B10 [] .sq rfl, show (nav B10 [1]) = Code.region 0 _ false from rfl, hk_10_0, hz_10_0, hs_10_0, xk B10 [2] .sq rfl, xk B10 [1, 2] .sq rfl, show (nav B10 [1, 1, 2]) = Code.region 1 _ false from rfl, hk_10_1, hz_10_1, hs_10_1, fieldAddrV, u_24, i_24, is_24, ib_24, iz_24, u_3, i_3, is_3, ib_3, iz_3]
  replace hF := cond_some hF
  rcases hF with ⟨h1, hF⟩ | ⟨h1, hF⟩
  · cases hF
    simp (maxSteps := 999999) (disch := first | exact D (by decide) | exact K (by kernel_rfl)) only [E, EE, ↓reduceIte, simprocAttr, xk B10 [2, 1, 2] (.cd 20) rfl, xk B10 [2, 2, 1, 2] .sq rfl, show (nav B10 [1, 2, 2, 1, 2]) = Code.region 2 _ false from rfl, hk_10_2, hz_10_2, hs_10_2, xk B10 [2, 2, 2, 1, 2] .rt rfl, finK_norm, finK_ret, fin10, R10_airz.st, h1]
  · simp (maxSteps := 999999) (disch := first | exact D (by decide) | exact K (by kernel_rfl)) only [E, EE, ↓reduceIte, simprocAttr, fieldAddrV, u_24, i_24, is_24, ib_24, iz_24, u_3, i_3, is_3, ib_3, iz_3, h1]
    replace hF := cond_some hF
    rcases hF with ⟨h2, hF⟩ | ⟨h2, hF⟩
    · cases hF
      simp (maxSteps := 999999) (disch := first | exact D (by decide) | exact K (by kernel_rfl)) only [E, EE, ↓reduceIte, simprocAttr, xk B10 [2, 1, 2] (.cd 20) rfl, xk B10 [2, 2, 1, 2] .sq rfl, show (nav B10 [1, 2, 2, 1, 2]) = Code.region 2 _ false from rfl, hk_10_2, hz_10_2, hs_10_2, xk B10 [2, 2, 2, 1, 2] .rt rfl, finK_norm, finK_ret, fin10, R10_airz.st, h1, h2]
    · simp (maxSteps := 999999) (disch := first | exact D (by decide) | exact K (by kernel_rfl)) only [E, EE, ↓reduceIte, simprocAttr, fieldAddrV, u_24, i_24, is_24, ib_24, iz_24, u_22, i_22, is_22, ib_22, iz_22, xk B10 [2, 1, 2] (.cd 20) rfl, h1, h2]
      replace hF := cond_some hF
      rcases hF with ⟨h3, hF⟩ | ⟨h3, hF⟩
      · cases hF
        simp (maxSteps := 999999) (disch := first | exact D (by decide) | exact K (by kernel_rfl)) only [E, EE, ↓reduceIte, simprocAttr, xk B10 [2, 2, 1, 2] .sq rfl, show (nav B10 [1, 2, 2, 1, 2]) = Code.region 2 _ false from rfl, hk_10_2, hz_10_2, hs_10_2, xk B10 [2, 2, 2, 1, 2] .rt rfl, finK_norm, finK_ret, fin10, R10_airz.st, h1, h2, h3]
      · have hJ := f10_airz_j1_ok k false a0 a0_1 _ hF
        simp (maxSteps := 999999) (disch := first | exact D (by decide) | exact K (by kernel_rfl)) only [E, EE, ↓reduceIte, simprocAttr, xk B10 [3, 2, 1, 2] .sk rfl, h1, h2, h3]
        try simp only [NM, EE] at hJ
        exact hJ
noncomputable def f10_airz (k : Nat) (a0 : Int) (a0_1 : List T44) : Option R10_airz := match k with | 0 => none | k + 1 => f10_airz_e k a0 a0_1
theorem f10_airz_ok (k : Nat) (a0 : Int) (a0_1 : List T44) (r : R10_airz) (hF : f10_airz k a0 a0_1 = some r) : CV k 10 [V.agg [V.p (Value.int .i64 a0), V.sl 6 (rowsOf encT44 a0_1)]] [] = some r.st := by
  cases k with
  | zero => cases hF
  | succ k =>
    unfold CV
    rw [ev_call (F := Try.f10) (c := (nav B10 [])) rfl Try.func10 rfl rfl rfl rfl]
    exact f10_airz_e_ok k a0 a0_1 r hF
end Go.Proofs.YtmogplhglcodjaaV
