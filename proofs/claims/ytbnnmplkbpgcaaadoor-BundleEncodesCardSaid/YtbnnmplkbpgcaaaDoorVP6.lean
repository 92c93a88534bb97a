/- What the program's functions answer: plain functions, and that the interpreter answers what they do. Written by a program of this session, out of the translation. -/
import Derived.Test.YtbnnmplkbpgcaaaDoorVP5
namespace Go.Proofs.YtbnnmplkbpgcaaaDoorV
open Go
set_option linter.unusedVariables false
set_option linter.unusedSimpArgs false
set_option maxRecDepth 8000
set_option maxHeartbeats 4000000
-- f15_ai10rz: f15 heliograph/heliographref09.Right
inductive R15_ai10rz where
  | o0 (y : Bool)
noncomputable def R15_ai10rz.st : R15_ai10rz → V × List O × List O
  | .o0 y => (V.p (Value.bool y), [], [])
noncomputable def f15_ai10rz_j2 (k : Nat) (x85 : Bool) (m1 m1_1 m1_2 m1_3 m1_4 m1_5 m1_6 m1_7 m1_8 m1_9 : Int) (m1_10 : List Int) : Option R15_ai10rz :=
  cond ((decide (((List.length m1_10) : Int) ≥ 1)))
    (
      cond ((decide (((List.length m1_10) : Int) ≤ m1_9)))
        (
          cond ((decide (m1_8 ≥ 0)))
            (some (R15_ai10rz.o0 (decide (m1_8 ≤ (IntKind.i64.wrap (m1_9 - ((List.length m1_10) : Int)))))))
            (some (R15_ai10rz.o0 false)))
        (some (R15_ai10rz.o0 false)))
    (some (R15_ai10rz.o0 false))
theorem f15_ai10rz_j2_ok (k : Nat) (x85 : Bool) (m1 m1_1 m1_2 m1_3 m1_4 m1_5 m1_6 m1_7 m1_8 m1_9 : Int) (m1_10 : List Int) (r : R15_ai10rz) (hF : f15_ai10rz_j2 k x85 m1 m1_1 m1_2 m1_3 m1_4 m1_5 m1_6 m1_7 m1_8 m1_9 m1_10 = some r) : finK Tryd.prog Tryd.f15 0 (EX 15 k (nav B15 [2, 2, 2]) ({ n := 114, F := [(1, V.ptr 1 0), (85, V.p (Value.bool x85))], M := [(1, O.box 26 [V.p (Value.int .i64 m1), V.p (Value.int .i64 m1_1), V.p (Value.int .u32 m1_2), V.p (Value.int .i64 m1_3), V.p (Value.int .i64 m1_4), V.p (Value.int .i64 m1_5), V.p (Value.int .i64 m1_6), V.p (Value.int .i64 m1_7), V.p (Value.int .i64 m1_8), V.p (Value.int .i64 m1_9), V.sl 1 (rowsOf (encI .u8) m1_10)])] } : St)) = some r.st := by
  unfold f15_ai10rz_j2 at hF
  simp (maxSteps := 999999) (disch := first | exact D (by decide) | exact K (by kernel_rfl)) only [E, EE, ↓reduceIte, simprocAttr, xk B15 [2, 2, 2] .sq rfl, show (nav B15 [1, 2, 2, 2]) = Code.region 5 _ false from rfl, hk_15_5, hz_15_5, hs_15_5, fieldAddrV, u_26, i_26, is_26, ib_26, iz_26, u_22, i_22, is_22, ib_22, iz_22]
  replace hF := cond_some hF
  rcases hF with ⟨h1, hF⟩ | ⟨h1, hF⟩
  · simp (maxSteps := 999999) (disch := first | exact D (by decide) | exact K (by kernel_rfl)) only [E, EE, ↓reduceIte, simprocAttr, fieldAddrV, u_26, i_26, is_26, ib_26, iz_26, u_22, i_22, is_22, ib_22, iz_22, u_3, i_3, is_3, ib_3, iz_3, h1]
    replace hF := cond_some hF
    rcases hF with ⟨h2, hF⟩ | ⟨h2, hF⟩
    · simp (maxSteps := 999999) (disch := first | exact D (by decide) | exact K (by kernel_rfl)) only [E, EE, ↓reduceIte, simprocAttr, fieldAddrV, u_26, i_26, is_26, ib_26, iz_26, u_3, i_3, is_3, ib_3, iz_3, h1, h2]
      replace hF := cond_some hF
      rcases hF with ⟨h3, hF⟩ | ⟨h3, hF⟩
      · cases hF
        simp (maxSteps := 999999) (disch := first | exact D (by decide) | exact K (by kernel_rfl)) only [E, EE, ↓reduceIte, simprocAttr, fieldAddrV, u_26, i_26, is_26, ib_26, iz_26, u_3, i_3, is_3, ib_3, iz_3, u_22, i_22, is_22, ib_22, iz_22, xk B15 [2, 2, 2, 2] .rt rfl, finK_norm, finK_ret, fin15, R15_ai10rz.st, h1, h2, h3]
      · cases hF
        simp (maxSteps := 999999) (disch := first | exact D (by decide) | exact K (by kernel_rfl)) only [E, EE, ↓reduceIte, simprocAttr, xk B15 [2, 2, 2, 2] .rt rfl, finK_norm, finK_ret, fin15, R15_ai10rz.st, h1, h2, h3]
    · cases hF
      simp (maxSteps := 999999) (disch := first | exact D (by decide) | exact K (by kernel_rfl)) only [E, EE, ↓reduceIte, simprocAttr, xk B15 [2, 2, 2, 2] .rt rfl, finK_norm, finK_ret, fin15, R15_ai10rz.st, h1, h2]
  · cases hF
    simp (maxSteps := 999999) (disch := first | exact D (by decide) | exact K (by kernel_rfl)) only [E, EE, ↓reduceIte, simprocAttr, xk B15 [2, 2, 2, 2] .rt rfl, finK_norm, finK_ret, fin15, R15_ai10rz.st, h1]
noncomputable def f15_ai10rz_j1 (k : Nat) (x45 : Bool) (m1 m1_1 m1_2 m1_3 m1_4 m1_5 m1_6 m1_7 m1_8 m1_9 : Int) (m1_10 : List Int) : Option R15_ai10rz :=
  cond ((decide (m1_5 < 1)))
    (some (R15_ai10rz.o0 false))
    (
      cond ((decide (m1_5 > 16)))
        (some (R15_ai10rz.o0 false))
        (
          cond ((decide (m1_6 < 0)))
            (some (R15_ai10rz.o0 false))
            (
              cond ((decide (m1_6 > m1_5)))
                (some (R15_ai10rz.o0 false))
                (
                  cond ((decide (m1_7 < 0)))
                    (some (R15_ai10rz.o0 false))
                    (
                      cond ((decide (m1_7 > 2)))
                        (some (R15_ai10rz.o0 false))
                        (
                          cond ((decide (m1_9 < 1)))
                            (some (R15_ai10rz.o0 false))
                            (
                              cond ((decide (m1_9 > 400)))
                                (some (R15_ai10rz.o0 false))
                                (f15_ai10rz_j2 k false m1 m1_1 m1_2 m1_3 m1_4 m1_5 m1_6 m1_7 m1_8 m1_9 m1_10))))))))
theorem f15_ai10rz_j1_ok (k : Nat) (x45 : Bool) (m1 m1_1 m1_2 m1_3 m1_4 m1_5 m1_6 m1_7 m1_8 m1_9 : Int) (m1_10 : List Int) (r : R15_ai10rz) (hF : f15_ai10rz_j1 k x45 m1 m1_1 m1_2 m1_3 m1_4 m1_5 m1_6 m1_7 m1_8 m1_9 m1_10 = some r) : finK Tryd.prog Tryd.f15 0 (EX 15 k (nav B15 [2, 2]) ({ n := 114, F := [(1, V.ptr 1 0), (45, V.p (Value.bool x45))], M := [(1, O.box 26 [V.p (Value.int .i64 m1), V.p (Value.int .i64 m1_1), V.p (Value.int .u32 m1_2), V.p (Value.int .i64 m1_3), V.p (Value.int .i64 m1_4), V.p (Value.int .i64 m1_5), V.p (Value.int .i64 m1_6), V.p (Value.int .i64 m1_7), V.p (Value.int .i64 m1_8), V.p (Value.int .i64 m1_9), V.sl 1 (rowsOf (encI .u8) m1_10)])] } : St)) = some r.st := by
  unfold f15_ai10rz_j1 at hF
  simp (maxSteps := 999999) (disch := first | exact D (by decide) | exact K (by kernel_rfl)) only [E, EE, ↓reduceIte, simprocAttr, xk B15 [2, 2] .sq rfl, xk B15 [1, 2, 2] .sq rfl, show (nav B15 [1, 1, 2, 2]) = Code.region 3 _ false from rfl, hk_15_3, hz_15_3, hs_15_3, fieldAddrV, u_26, i_26, is_26, ib_26, iz_26, u_3, i_3, is_3, ib_3, iz_3]
  replace hF := cond_some hF
  rcases hF with ⟨h1, hF⟩ | ⟨h1, hF⟩
  · cases hF
    simp (maxSteps := 999999) (disch := first | exact D (by decide) | exact K (by kernel_rfl)) only [E, EE, ↓reduceIte, simprocAttr, xk B15 [2, 1, 2, 2] (.cd 85) rfl, xk B15 [2, 2, 1, 2, 2] .sq rfl, show (nav B15 [1, 2, 2, 1, 2, 2]) = Code.region 4 _ false from rfl, hk_15_4, hz_15_4, hs_15_4, xk B15 [2, 2, 2, 1, 2, 2] .rt rfl, finK_norm, finK_ret, fin15, R15_ai10rz.st, h1]
  · simp (maxSteps := 999999) (disch := first | exact D (by decide) | exact K (by kernel_rfl)) only [E, EE, ↓reduceIte, simprocAttr, fieldAddrV, u_26, i_26, is_26, ib_26, iz_26, u_3, i_3, is_3, ib_3, iz_3, h1]
    replace hF := cond_some hF
    rcases hF with ⟨h2, hF⟩ | ⟨h2, hF⟩
    · cases hF
      simp (maxSteps := 999999) (disch := first | exact D (by decide) | exact K (by kernel_rfl)) only [E, EE, ↓reduceIte, simprocAttr, xk B15 [2, 1, 2, 2] (.cd 85) rfl, xk B15 [2, 2, 1, 2, 2] .sq rfl, show (nav B15 [1, 2, 2, 1, 2, 2]) = Code.region 4 _ false from rfl, hk_15_4, hz_15_4, hs_15_4, xk B15 [2, 2, 2, 1, 2, 2] .rt rfl, finK_norm, finK_ret, fin15, R15_ai10rz.st, h1, h2]
    · simp (maxSteps := 999999) (disch := first | exact D (by decide) | exact K (by kernel_rfl)) only [E, EE, ↓reduceIte, simprocAttr, fieldAddrV, u_26, i_26, is_26, ib_26, iz_26, u_3, i_3, is_3, ib_3, iz_3, h1, h2]
      replace hF := cond_some hF
      rcases hF with ⟨h3, hF⟩ | ⟨h3, hF⟩
      · cases hF
        simp (maxSteps := 999999) (disch := first | exact D (by decide) | exact K (by kernel_rfl)) only [E, EE, ↓reduceIte, simprocAttr, xk B15 [2, 1, 2, 2] (.cd 85) rfl, xk B15 [2, 2, 1, 2, 2] .sq rfl, show (nav B15 [1, 2, 2, 1, 2, 2]) = Code.region 4 _ false from rfl, hk_15_4, hz_15_4, hs_15_4, xk B15 [2, 2, 2, 1, 2, 2] .rt rfl, finK_norm, finK_ret, fin15, R15_ai10rz.st, h1, h2, h3]
      · simp (maxSteps := 999999) (disch := first | exact D (by decide) | exact K (by kernel_rfl)) only [E, EE, ↓reduceIte, simprocAttr, fieldAddrV, u_26, i_26, is_26, ib_26, iz_26, u_3, i_3, is_3, ib_3, iz_3, h1, h2, h3]
        replace hF := cond_some hF
        rcases hF with ⟨h4, hF⟩ | ⟨h4, hF⟩
        · cases hF
          simp (maxSteps := 999999) (disch := first | exact D (by decide) | exact K (by kernel_rfl)) only [E, EE, ↓reduceIte, simprocAttr, xk B15 [2, 1, 2, 2] (.cd 85) rfl, xk B15 [2, 2, 1, 2, 2] .sq rfl, show (nav B15 [1, 2, 2, 1, 2, 2]) = Code.region 4 _ false from rfl, hk_15_4, hz_15_4, hs_15_4, xk B15 [2, 2, 2, 1, 2, 2] .rt rfl, finK_norm, finK_ret, fin15, R15_ai10rz.st, h1, h2, h3, h4]
        · simp (maxSteps := 999999) (disch := first | exact D (by decide) | exact K (by kernel_rfl)) only [E, EE, ↓reduceIte, simprocAttr, fieldAddrV, u_26, i_26, is_26, ib_26, iz_26, u_3, i_3, is_3, ib_3, iz_3, h1, h2, h3, h4]
          replace hF := cond_some hF
          rcases hF with ⟨h5, hF⟩ | ⟨h5, hF⟩
          · cases hF
            simp (maxSteps := 999999) (disch := first | exact D (by decide) | exact K (by kernel_rfl)) only [E, EE, ↓reduceIte, simprocAttr, xk B15 [2, 1, 2, 2] (.cd 85) rfl, xk B15 [2, 2, 1, 2, 2] .sq rfl, show (nav B15 [1, 2, 2, 1, 2, 2]) = Code.region 4 _ false from rfl, hk_15_4, hz_15_4, hs_15_4, xk B15 [2, 2, 2, 1, 2, 2] .rt rfl, finK_norm, finK_ret, fin15, R15_ai10rz.st, h1, h2, h3, h4, h5]
          · simp (maxSteps := 999999) (disch := first | exact D (by decide) | exact K (by kernel_rfl)) only [E, EE, ↓reduceIte, simprocAttr, fieldAddrV, u_26, i_26, is_26, ib_26, iz_26, u_3, i_3, is_3, ib_3, iz_3, h1, h2, h3, h4, h5]
            replace hF := cond_some hF
            rcases hF with ⟨h6, hF⟩ | ⟨h6, hF⟩
            · cases hF
              simp (maxSteps := 999999) (disch := first | exact D (by decide) | exact K (by kernel_rfl)) only [E, EE, ↓reduceIte, simprocAttr, xk B15 [2, 1, 2, 2] (.cd 85) rfl, xk B15 [2, 2, 1, 2, 2] .sq rfl, show (nav B15 [1, 2, 2, 1, 2, 2]) = Code.region 4 _ false from rfl, hk_15_4, hz_15_4, hs_15_4, xk B15 [2, 2, 2, 1, 2, 2] .rt rfl, finK_norm, finK_ret, fin15, R15_ai10rz.st, h1, h2, h3, h4, h5, h6]
            · simp (maxSteps := 999999) (disch := first | exact D (by decide) | exact K (by kernel_rfl)) only [E, EE, ↓reduceIte, simprocAttr, fieldAddrV, u_26, i_26, is_26, ib_26, iz_26, u_3, i_3, is_3, ib_3, iz_3, h1, h2, h3, h4, h5, h6]
              replace hF := cond_some hF
              rcases hF with ⟨h7, hF⟩ | ⟨h7, hF⟩
              · cases hF
                simp (maxSteps := 999999) (disch := first | exact D (by decide) | exact K (by kernel_rfl)) only [E, EE, ↓reduceIte, simprocAttr, xk B15 [2, 1, 2, 2] (.cd 85) rfl, xk B15 [2, 2, 1, 2, 2] .sq rfl, show (nav B15 [1, 2, 2, 1, 2, 2]) = Code.region 4 _ false from rfl, hk_15_4, hz_15_4, hs_15_4, xk B15 [2, 2, 2, 1, 2, 2] .rt rfl, finK_norm, finK_ret, fin15, R15_ai10rz.st, h1, h2, h3, h4, h5, h6, h7]
              · simp (maxSteps := 999999) (disch := first | exact D (by decide) | exact K (by kernel_rfl)) only [E, EE, ↓reduceIte, simprocAttr, fieldAddrV, u_26, i_26, is_26, ib_26, iz_26, u_3, i_3, is_3, ib_3, iz_3, xk B15 [2, 1, 2, 2] (.cd 85) rfl, h1, h2, h3, h4, h5, h6, h7]
                replace hF := cond_some hF
                rcases hF with ⟨h8, hF⟩ | ⟨h8, hF⟩
                · cases hF
                  simp (maxSteps := 999999) (disch := first | exact D (by decide) | exact K (by kernel_rfl)) only [E, EE, ↓reduceIte, simprocAttr, xk B15 [2, 2, 1, 2, 2] .sq rfl, show (nav B15 [1, 2, 2, 1, 2, 2]) = Code.region 4 _ false from rfl, hk_15_4, hz_15_4, hs_15_4, xk B15 [2, 2, 2, 1, 2, 2] .rt rfl, finK_norm, finK_ret, fin15, R15_ai10rz.st, h1, h2, h3, h4, h5, h6, h7, h8]
                · have hJ := f15_ai10rz_j2_ok k false m1 m1_1 m1_2 m1_3 m1_4 m1_5 m1_6 m1_7 m1_8 m1_9 m1_10 _ hF
                  simp (maxSteps := 999999) (disch := first | exact D (by decide) | exact K (by kernel_rfl)) only [E, EE, ↓reduceIte, simprocAttr, xk B15 [3, 2, 1, 2, 2] .sk rfl, h1, h2, h3, h4, h5, h6, h7, h8]
                  try simp only [NM, EE] at hJ
                  exact hJ
noncomputable def f15_ai10rz_e (k : Nat) (a0 a0_1 a0_2 a0_3 a0_4 a0_5 a0_6 a0_7 a0_8 a0_9 : Int) (a0_10 : List Int) : Option R15_ai10rz :=
  cond ((decide (a0 < 1)))
    (some (R15_ai10rz.o0 false))
    (
      cond ((decide (a0 > 6)))
        (some (R15_ai10rz.o0 false))
        (
          cond ((decide (a0_1 < 1)))
            (some (R15_ai10rz.o0 false))
            (
              cond ((decide (a0_1 > 6)))
                (some (R15_ai10rz.o0 false))
                (
                  cond ((a0_2 == 0))
                    (some (R15_ai10rz.o0 false))
                    (
                      cond ((decide (a0_3 < 0)))
                        (some (R15_ai10rz.o0 false))
                        (
                          cond ((decide (a0_3 > 1048576)))
                            (some (R15_ai10rz.o0 false))
                            (
                              cond ((decide (a0_4 < 1)))
                                (some (R15_ai10rz.o0 false))
                                (
                                  cond ((decide (a0_4 > 1048576)))
                                    (some (R15_ai10rz.o0 false))
                                    (f15_ai10rz_j1 k false a0 a0_1 a0_2 a0_3 a0_4 a0_5 a0_6 a0_7 a0_8 a0_9 a0_10)))))))))
theorem f15_ai10rz_e_ok (k : Nat) (a0 a0_1 a0_2 a0_3 a0_4 a0_5 a0_6 a0_7 a0_8 a0_9 : Int) (a0_10 : List Int) (r : R15_ai10rz) (hF : f15_ai10rz_e k a0 a0_1 a0_2 a0_3 a0_4 a0_5 a0_6 a0_7 a0_8 a0_9 a0_10 = some r) : finK Tryd.prog Tryd.f15 0 (EX 15 k (nav B15 []) ({ n := 114, F := [(0, V.agg [V.p (Value.int .i64 a0), V.p (Value.int .i64 a0_1), V.p (Value.int .u32 a0_2), V.p (Value.int .i64 a0_3), V.p (Value.int .i64 a0_4), V.p (Value.int .i64 a0_5), V.p (Value.int .i64 a0_6), V.p (Value.int .i64 a0_7), V.p (Value.int .i64 a0_8), V.p (Value.int .i64 a0_9), V.sl 1 (rowsOf (encI .u8) a0_10)])], M := [] } : St)) = some r.st := by
  unfold f15_ai10rz_e at hF
  simp (maxSteps := 999999) (disch := first | exact D (by decide) | exact K (by kernel_rfl)) only [E, EE, ↓reduceIte, simprocAttr, xk B15 [] .sq rfl, show (nav B15 [1]) = Code.region 0 _ false from rfl, hk_15_0, hz_15_0, hs_15_0, xk B15 [2] .sq rfl, xk B15 [1, 2] .sq rfl, show (nav B15 [1, 1, 2]) = Code.region 1 _ false from rfl, hk_15_1, hz_15_1, hs_15_1, fieldAddrV, u_26, i_26, is_26, ib_26, iz_26, u_3, i_3, is_3, ib_3, iz_3]
  replace hF := cond_some hF
  rcases hF with ⟨h1, hF⟩ | ⟨h1, hF⟩
  · cases hF
    simp (maxSteps := 999999) (disch := first | exact D (by decide) | exact K (by kernel_rfl)) only [E, EE, ↓reduceIte, simprocAttr, xk B15 [2, 1, 2] (.cd 45) rfl, xk B15 [2, 2, 1, 2] .sq rfl, show (nav B15 [1, 2, 2, 1, 2]) = Code.region 2 _ false from rfl, hk_15_2, hz_15_2, hs_15_2, xk B15 [2, 2, 2, 1, 2] .rt rfl, finK_norm, finK_ret, fin15, R15_ai10rz.st, h1]
  · simp (maxSteps := 999999) (disch := first | exact D (by decide) | exact K (by kernel_rfl)) only [E, EE, ↓reduceIte, simprocAttr, fieldAddrV, u_26, i_26, is_26, ib_26, iz_26, u_3, i_3, is_3, ib_3, iz_3, h1]
    replace hF := cond_some hF
    rcases hF with ⟨h2, hF⟩ | ⟨h2, hF⟩
    · cases hF
      simp (maxSteps := 999999) (disch := first | exact D (by decide) | exact K (by kernel_rfl)) only [E, EE, ↓reduceIte, simprocAttr, xk B15 [2, 1, 2] (.cd 45) rfl, xk B15 [2, 2, 1, 2] .sq rfl, show (nav B15 [1, 2, 2, 1, 2]) = Code.region 2 _ false from rfl, hk_15_2, hz_15_2, hs_15_2, xk B15 [2, 2, 2, 1, 2] .rt rfl, finK_norm, finK_ret, fin15, R15_ai10rz.st, h1, h2]
    · simp (maxSteps := 999999) (disch := first | exact D (by decide) | exact K (by kernel_rfl)) only [E, EE, ↓reduceIte, simprocAttr, fieldAddrV, u_26, i_26, is_26, ib_26, iz_26, u_3, i_3, is_3, ib_3, iz_3, h1, h2]
      replace hF := cond_some hF
      rcases hF with ⟨h3, hF⟩ | ⟨h3, hF⟩
      · cases hF
        simp (maxSteps := 999999) (disch := first | exact D (by decide) | exact K (by kernel_rfl)) only [E, EE, ↓reduceIte, simprocAttr, xk B15 [2, 1, 2] (.cd 45) rfl, xk B15 [2, 2, 1, 2] .sq rfl, show (nav B15 [1, 2, 2, 1, 2]) = Code.region 2 _ false from rfl, hk_15_2, hz_15_2, hs_15_2, xk B15 [2, 2, 2, 1, 2] .rt rfl, finK_norm, finK_ret, fin15, R15_ai10rz.st, h1, h2, h3]
      · simp (maxSteps := 999999) (disch := first | exact D (by decide) | exact K (by kernel_rfl)) only [E, EE, ↓reduceIte, simprocAttr, fieldAddrV, u_26, i_26, is_26, ib_26, iz_26, u_3, i_3, is_3, ib_3, iz_3, h1, h2, h3]
        replace hF := cond_some hF
        rcases hF with ⟨h4, hF⟩ | ⟨h4, hF⟩
        · cases hF
          simp (maxSteps := 999999) (disch := first | exact D (by decide) | exact K (by kernel_rfl)) only [E, EE, ↓reduceIte, simprocAttr, xk B15 [2, 1, 2] (.cd 45) rfl, xk B15 [2, 2, 1, 2] .sq rfl, show (nav B15 [1, 2, 2, 1, 2]) = Code.region 2 _ false from rfl, hk_15_2, hz_15_2, hs_15_2, xk B15 [2, 2, 2, 1, 2] .rt rfl, finK_norm, finK_ret, fin15, R15_ai10rz.st, h1, h2, h3, h4]
        · simp (maxSteps := 999999) (disch := first | exact D (by decide) | exact K (by kernel_rfl)) only [E, EE, ↓reduceIte, simprocAttr, fieldAddrV, u_26, i_26, is_26, ib_26, iz_26, u_24, i_24, is_24, ib_24, iz_24, h1, h2, h3, h4]
          replace hF := cond_some hF
          rcases hF with ⟨h5, hF⟩ | ⟨h5, hF⟩
          · cases hF
            simp (maxSteps := 999999) (disch := first | exact D (by decide) | exact K (by kernel_rfl)) only [E, EE, ↓reduceIte, simprocAttr, xk B15 [2, 1, 2] (.cd 45) rfl, xk B15 [2, 2, 1, 2] .sq rfl, show (nav B15 [1, 2, 2, 1, 2]) = Code.region 2 _ false from rfl, hk_15_2, hz_15_2, hs_15_2, xk B15 [2, 2, 2, 1, 2] .rt rfl, finK_norm, finK_ret, fin15, R15_ai10rz.st, h1, h2, h3, h4, h5]
          · simp (maxSteps := 999999) (disch := first | exact D (by decide) | exact K (by kernel_rfl)) only [E, EE, ↓reduceIte, simprocAttr, fieldAddrV, u_26, i_26, is_26, ib_26, iz_26, u_3, i_3, is_3, ib_3, iz_3, h1, h2, h3, h4, h5]
            replace hF := cond_some hF
            rcases hF with ⟨h6, hF⟩ | ⟨h6, hF⟩
            · cases hF
              simp (maxSteps := 999999) (disch := first | exact D (by decide) | exact K (by kernel_rfl)) only [E, EE, ↓reduceIte, simprocAttr, xk B15 [2, 1, 2] (.cd 45) rfl, xk B15 [2, 2, 1, 2] .sq rfl, show (nav B15 [1, 2, 2, 1, 2]) = Code.region 2 _ false from rfl, hk_15_2, hz_15_2, hs_15_2, xk B15 [2, 2, 2, 1, 2] .rt rfl, finK_norm, finK_ret, fin15, R15_ai10rz.st, h1, h2, h3, h4, h5, h6]
            · simp (maxSteps := 999999) (disch := first | exact D (by decide) | exact K (by kernel_rfl)) only [E, EE, ↓reduceIte, simprocAttr, fieldAddrV, u_26, i_26, is_26, ib_26, iz_26, u_3, i_3, is_3, ib_3, iz_3, h1, h2, h3, h4, h5, h6]
              replace hF := cond_some hF
              rcases hF with ⟨h7, hF⟩ | ⟨h7, hF⟩
              · cases hF
                simp (maxSteps := 999999) (disch := first | exact D (by decide) | exact K (by kernel_rfl)) only [E, EE, ↓reduceIte, simprocAttr, xk B15 [2, 1, 2] (.cd 45) rfl, xk B15 [2, 2, 1, 2] .sq rfl, show (nav B15 [1, 2, 2, 1, 2]) = Code.region 2 _ false from rfl, hk_15_2, hz_15_2, hs_15_2, xk B15 [2, 2, 2, 1, 2] .rt rfl, finK_norm, finK_ret, fin15, R15_ai10rz.st, h1, h2, h3, h4, h5, h6, h7]
              · simp (maxSteps := 999999) (disch := first | exact D (by decide) | exact K (by kernel_rfl)) only [E, EE, ↓reduceIte, simprocAttr, fieldAddrV, u_26, i_26, is_26, ib_26, iz_26, u_3, i_3, is_3, ib_3, iz_3, h1, h2, h3, h4, h5, h6, h7]
                replace hF := cond_some hF
                rcases hF with ⟨h8, hF⟩ | ⟨h8, hF⟩
                · cases hF
                  simp (maxSteps := 999999) (disch := first | exact D (by decide) | exact K (by kernel_rfl)) only [E, EE, ↓reduceIte, simprocAttr, xk B15 [2, 1, 2] (.cd 45) rfl, xk B15 [2, 2, 1, 2] .sq rfl, show (nav B15 [1, 2, 2, 1, 2]) = Code.region 2 _ false from rfl, hk_15_2, hz_15_2, hs_15_2, xk B15 [2, 2, 2, 1, 2] .rt rfl, finK_norm, finK_ret, fin15, R15_ai10rz.st, h1, h2, h3, h4, h5, h6, h7, h8]
                · simp (maxSteps := 999999) (disch := first | exact D (by decide) | exact K (by kernel_rfl)) only [E, EE, ↓reduceIte, simprocAttr, fieldAddrV, u_26, i_26, is_26, ib_26, iz_26, u_3, i_3, is_3, ib_3, iz_3, xk B15 [2, 1, 2] (.cd 45) rfl, h1, h2, h3, h4, h5, h6, h7, h8]
                  replace hF := cond_some hF
                  rcases hF with ⟨h9, hF⟩ | ⟨h9, hF⟩
                  · cases hF
                    simp (maxSteps := 999999) (disch := first | exact D (by decide) | exact K (by kernel_rfl)) only [E, EE, ↓reduceIte, simprocAttr, xk B15 [2, 2, 1, 2] .sq rfl, show (nav B15 [1, 2, 2, 1, 2]) = Code.region 2 _ false from rfl, hk_15_2, hz_15_2, hs_15_2, xk B15 [2, 2, 2, 1, 2] .rt rfl, finK_norm, finK_ret, fin15, R15_ai10rz.st, h1, h2, h3, h4, h5, h6, h7, h8, h9]
                  · have hJ := f15_ai10rz_j1_ok k false a0 a0_1 a0_2 a0_3 a0_4 a0_5 a0_6 a0_7 a0_8 a0_9 a0_10 _ hF
                    simp (maxSteps := 999999) (disch := first | exact D (by decide) | exact K (by kernel_rfl)) only [E, EE, ↓reduceIte, simprocAttr, xk B15 [3, 2, 1, 2] .sk rfl, h1, h2, h3, h4, h5, h6, h7, h8, h9]
                    try simp only [NM, EE] at hJ
                    exact hJ
noncomputable def f15_ai10rz (k : Nat) (a0 a0_1 a0_2 a0_3 a0_4 a0_5 a0_6 a0_7 a0_8 a0_9 : Int) (a0_10 : List Int) : Option R15_ai10rz := match k with | 0 => none | k + 1 => f15_ai10rz_e k a0 a0_1 a0_2 a0_3 a0_4 a0_5 a0_6 a0_7 a0_8 a0_9 a0_10
theorem f15_ai10rz_ok (k : Nat) (a0 a0_1 a0_2 a0_3 a0_4 a0_5 a0_6 a0_7 a0_8 a0_9 : Int) (a0_10 : List Int) (r : R15_ai10rz) (hF : f15_ai10rz k a0 a0_1 a0_2 a0_3 a0_4 a0_5 a0_6 a0_7 a0_8 a0_9 a0_10 = some r) : CV k 15 [V.agg [V.p (Value.int .i64 a0), V.p (Value.int .i64 a0_1), V.p (Value.int .u32 a0_2), V.p (Value.int .i64 a0_3), V.p (Value.int .i64 a0_4), V.p (Value.int .i64 a0_5), V.p (Value.int .i64 a0_6), V.p (Value.int .i64 a0_7), V.p (Value.int .i64 a0_8), V.p (Value.int .i64 a0_9), V.sl 1 (rowsOf (encI .u8) a0_10)]] [] = some r.st := by
  cases k with
  | zero => cases hF
  | succ k =>
    unfold CV
    rw [ev_call (F := Tryd.f15) (c := (nav B15 [])) rfl Tryd.func15 rfl rfl rfl rfl]
    exact f15_ai10rz_e_ok k a0 a0_1 a0_2 a0_3 a0_4 a0_5 a0_6 a0_7 a0_8 a0_9 a0_10 r hF
-- f17_ai10rz: f17 heliograph/bundle.Size
inductive R17_ai10rz where
  | o0 (y : Int)
noncomputable def R17_ai10rz.st : R17_ai10rz → V × List O × List O
  | .o0 y => (V.p (Value.int .i64 y), [], [])
noncomputable def f17_ai10rz_e (k : Nat) (a0 a0_1 a0_2 a0_3 a0_4 a0_5 a0_6 a0_7 a0_8 a0_9 : Int) (a0_10 : List Int) : Option R17_ai10rz :=
  Option.bind (f14_ai10rz k a0 a0_1 a0_2 a0_3 a0_4 a0_5 a0_6 a0_7 a0_8 a0_9 a0_10) fun o1 =>
    match o1 with
    | .o0 v4 v5 =>
      some (R17_ai10rz.o0 ((List.length v4) : Int))
    | .o1 v6 v7 =>
      some (R17_ai10rz.o0 ((List.length v7) : Int))
theorem f17_ai10rz_e_ok (k : Nat) (a0 a0_1 a0_2 a0_3 a0_4 a0_5 a0_6 a0_7 a0_8 a0_9 : Int) (a0_10 : List Int) (r : R17_ai10rz) (hF : f17_ai10rz_e k a0 a0_1 a0_2 a0_3 a0_4 a0_5 a0_6 a0_7 a0_8 a0_9 a0_10 = some r) : finK Tryd.prog Tryd.f17 0 (EX 17 k (nav B17 []) ({ n := 12, F := [(0, V.agg [V.p (Value.int .i64 a0), V.p (Value.int .i64 a0_1), V.p (Value.int .u32 a0_2), V.p (Value.int .i64 a0_3), V.p (Value.int .i64 a0_4), V.p (Value.int .i64 a0_5), V.p (Value.int .i64 a0_6), V.p (Value.int .i64 a0_7), V.p (Value.int .i64 a0_8), V.p (Value.int .i64 a0_9), V.sl 1 (rowsOf (encI .u8) a0_10)])], M := [] } : St)) = some r.st := by
  unfold f17_ai10rz_e at hF
  simp (maxSteps := 999999) (disch := first | exact D (by decide) | exact K (by kernel_rfl)) only [E, EE, ↓reduceIte, simprocAttr, xk B17 [] .sq rfl, show (nav B17 [1]) = Code.region 0 _ false from rfl, hk_17_0, hz_17_0, hs_17_0, xk B17 [2] .sq rfl, show (nav B17 [1, 2]) = Code.region 1 _ false from rfl, hk_17_1, hz_17_1, hs_17_1, u_26, i_26, is_26, ib_26, iz_26, callStep, CL, gv, List.contains]
  replace hF := Option.bind_eq_some_iff.1 hF
  obtain ⟨o1, h2, hF⟩ := hF
  have hc3 := f14_ai10rz_ok k a0 a0_1 a0_2 a0_3 a0_4 a0_5 a0_6 a0_7 a0_8 a0_9 a0_10 _ h2
  cases o1 with
  | o0 v4 v5 =>
    (try dsimp only at hF)
    (try simp only [NM, EE, R14_ai10rz.st] at hc3)
    cases hF
    simp (maxSteps := 999999) (disch := first | exact D (by decide) | exact K (by kernel_rfl)) only [E, EE, ↓reduceIte, simprocAttr, xk B17 [2, 2] .sq rfl, show (nav B17 [1, 2, 2]) = Code.region 2 _ false from rfl, hk_17_2, hz_17_2, hs_17_2, u_22, i_22, is_22, ib_22, iz_22, xk B17 [2, 2, 2] .rt rfl, finK_norm, finK_ret, fin17, R17_ai10rz.st, hc3]
  | o1 v6 v7 =>
    (try dsimp only at hF)
    (try simp only [NM, EE, R14_ai10rz.st] at hc3)
    cases hF
    simp (maxSteps := 999999) (disch := first | exact D (by decide) | exact K (by kernel_rfl)) only [E, EE, ↓reduceIte, simprocAttr, xk B17 [2, 2] .sq rfl, show (nav B17 [1, 2, 2]) = Code.region 2 _ false from rfl, hk_17_2, hz_17_2, hs_17_2, u_22, i_22, is_22, ib_22, iz_22, xk B17 [2, 2, 2] .rt rfl, finK_norm, finK_ret, fin17, R17_ai10rz.st, hc3]
noncomputable def f17_ai10rz (k : Nat) (a0 a0_1 a0_2 a0_3 a0_4 a0_5 a0_6 a0_7 a0_8 a0_9 : Int) (a0_10 : List Int) : Option R17_ai10rz := match k with | 0 => none | k + 1 => f17_ai10rz_e k a0 a0_1 a0_2 a0_3 a0_4 a0_5 a0_6 a0_7 a0_8 a0_9 a0_10
theorem f17_ai10rz_ok (k : Nat) (a0 a0_1 a0_2 a0_3 a0_4 a0_5 a0_6 a0_7 a0_8 a0_9 : Int) (a0_10 : List Int) (r : R17_ai10rz) (hF : f17_ai10rz k a0 a0_1 a0_2 a0_3 a0_4 a0_5 a0_6 a0_7 a0_8 a0_9 a0_10 = some r) : CV k 17 [V.agg [V.p (Value.int .i64 a0), V.p (Value.int .i64 a0_1), V.p (Value.int .u32 a0_2), V.p (Value.int .i64 a0_3), V.p (Value.int .i64 a0_4), V.p (Value.int .i64 a0_5), V.p (Value.int .i64 a0_6), V.p (Value.int .i64 a0_7), V.p (Value.int .i64 a0_8), V.p (Value.int .i64 a0_9), V.sl 1 (rowsOf (encI .u8) a0_10)]] [] = some r.st := by
  cases k with
  | zero => cases hF
  | succ k =>
    unfold CV
    rw [ev_call (F := Tryd.f17) (c := (nav B17 [])) rfl Tryd.func17 rfl rfl rfl rfl]
    exact f17_ai10rz_e_ok k a0 a0_1 a0_2 a0_3 a0_4 a0_5 a0_6 a0_7 a0_8 a0_9 a0_10 r hF
-- f57_ii: f57 heliograph/heliographref01.High
inductive R57_ii where
  | o0 (y : List Int)
noncomputable def R57_ii.st : R57_ii → V × List O × List O
  | .o0 y => (V.own 2000000, [], [O.row true 1 5 (rowsOf (encI .u8) y)])
inductive R57_ii_l1 where
  | o0 (y y_1 : Int) (y_2 : List Int)
  | o1 (y y_1 : Int) (y_2 : Bool) (y_3 : List Int)
noncomputable def R57_ii_l1.st : R57_ii_l1 → Out × St
  | .o0 y y_1 y_2 => (.norm, ({ n := 24, F := [(0, V.p (Value.int .u64 y)), (5, V.own 30000), (6, V.p (Value.int .i64 y_1))], M := [(30000, O.row true 1 5 (rowsOf (encI .u8) y_2))] } : St))
  | .o1 y y_1 y_2 y_3 => (.exit 0, ({ n := 24, F := [(0, V.p (Value.int .u64 y)), (5, V.own 30000), (6, V.p (Value.int .i64 y_1)), (12, V.p (Value.bool y_2))], M := [(30000, O.row true 1 5 (rowsOf (encI .u8) y_3))] } : St))
noncomputable def f57_ii_l1_j2 (k : Nat) (x0 x6 : Int) (h0_ : List Int) : Option R57_ii_l1 :=
  some (R57_ii_l1.o0 x0 (IntKind.i64.wrap (x6 - (1 : Int))) h0_)
theorem f57_ii_l1_j2_ok (k : Nat) (x0 x6 : Int) (h0_ : List Int) (r : R57_ii_l1) (hF : f57_ii_l1_j2 k x0 x6 h0_ = some r) : EX 57 k (nav B57 [2, 2, 1, 2, 2, 1, 2, 2]) ({ n := 24, F := [(0, V.p (Value.int .u64 x0)), (5, V.own 30000), (6, V.p (Value.int .i64 x6))], M := [(30000, O.row true 1 5 (rowsOf (encI .u8) h0_))] } : St) = some r.st := by
  unfold f57_ii_l1_j2 at hF
  cases hF
  simp (maxSteps := 999999) (disch := first | exact D (by decide) | exact K (by kernel_rfl)) only [E, EE, ↓reduceIte, simprocAttr, show (nav B57 [2, 2, 1, 2, 2, 1, 2, 2]) = Code.region 4 _ false from rfl, hk_57_4, hz_57_4, hs_57_4, R57_ii_l1.st]
noncomputable def f57_ii_l1_j1 (k : Nat) (x0 x6 : Int) (x12 : Bool) (h0_ : List Int) : Option R57_ii_l1 :=
  ifE ((0 : Int) ≤ x6) (
    ifE (x6 < ((List.length h0_) : Int)) (
      Option.bind (h0_[(Int.toNat x6)]?) fun v3 =>
        f57_ii_l1_j2 k (IntKind.u64.wrap (Int.tdiv x0 (256 : Int))) x6 ((List.set h0_ (Int.toNat x6) (IntKind.u8.wrap (Int.tmod x0 (256 : Int)))))))
theorem f57_ii_l1_j1_ok (k : Nat) (x0 x6 : Int) (x12 : Bool) (h0_ : List Int) (r : R57_ii_l1) (hF : f57_ii_l1_j1 k x0 x6 x12 h0_ = some r) : EX 57 k (nav B57 [2, 1, 2, 2, 1, 2, 2]) ({ n := 24, F := [(0, V.p (Value.int .u64 x0)), (5, V.own 30000), (6, V.p (Value.int .i64 x6)), (12, V.p (Value.bool x12))], M := [(30000, O.row true 1 5 (rowsOf (encI .u8) h0_))] } : St) = some r.st := by
  unfold f57_ii_l1_j1 at hF
  replace hF := ifE_some.1 hF
  obtain ⟨h1, hF⟩ := hF
  replace hF := ifE_some.1 hF
  obtain ⟨h2, hF⟩ := hF
  replace hF := Option.bind_eq_some_iff.1 hF
  obtain ⟨v3, h4, hF⟩ := hF
  have q5 : List.set (rowsOf (encI .u8) h0_) (Int.toNat x6) [V.p (Value.int .u8 (IntKind.u8.wrap (Int.tmod x0 (256 : Int))))] = rowsOf (encI .u8) (List.set h0_ (Int.toNat x6) (IntKind.u8.wrap (Int.tmod x0 (256 : Int)))) := (rowsOf_set (enc := (encI .u8)) (l := h0_) (i := (Int.toNat x6)) (x := (IntKind.u8.wrap (Int.tmod x0 (256 : Int))))).symm
  have hJ := f57_ii_l1_j2_ok k (IntKind.u64.wrap (Int.tdiv x0 (256 : Int))) x6 ((List.set h0_ (Int.toNat x6) (IntKind.u8.wrap (Int.tmod x0 (256 : Int))))) _ hF
  simp (maxSteps := 999999) (disch := first | exact D (by decide) | exact K (by kernel_rfl)) only [E, EE, ↓reduceIte, simprocAttr, xk B57 [2, 1, 2, 2, 1, 2, 2] .sq rfl, xk B57 [1, 2, 1, 2, 2, 1, 2, 2] (.bk 1) rfl, xk B57 [2, 1, 2, 1, 2, 2, 1, 2, 2] .sq rfl, show (nav B57 [1, 2, 1, 2, 1, 2, 2, 1, 2, 2]) = Code.region 5 _ false from rfl, hk_57_5, hz_57_5, hs_57_5, u_47, i_47, is_47, ib_47, iz_47, u_5, i_5, is_5, ib_5, iz_5, convV, indexAddrV, u_22, i_22, is_22, ib_22, iz_22, sm_5, encI_eq, show (nav B57 [2, 2, 1, 2, 1, 2, 2, 1, 2, 2]) = Code.region 6 _ false from rfl, hk_57_6, hz_57_6, hs_57_6, h1, h2, h4, q5]
  try simp only [NM, EE] at hJ
  exact hJ
noncomputable def f57_ii_l1_b (k : Nat) (x0 x6 : Int) (h0_ : List Int) : Option R57_ii_l1 :=
  cond ((decide (x6 ≥ 0)))
    (f57_ii_l1_j1 k x0 x6 true h0_)
    (some (R57_ii_l1.o1 x0 x6 false h0_))
theorem f57_ii_l1_b_ok (k : Nat) (x0 x6 : Int) (h0_ : List Int) (r : R57_ii_l1) (hF : f57_ii_l1_b k x0 x6 h0_ = some r) : EX 57 k (nav B57 [1, 2, 2, 1, 2, 2]) ({ n := 24, F := [(0, V.p (Value.int .u64 x0)), (5, V.own 30000), (6, V.p (Value.int .i64 x6))], M := [(30000, O.row true 1 5 (rowsOf (encI .u8) h0_))] } : St) = some r.st := by
  unfold f57_ii_l1_b at hF
  simp (maxSteps := 999999) (disch := first | exact D (by decide) | exact K (by kernel_rfl)) only [E, EE, ↓reduceIte, simprocAttr, xk B57 [1, 2, 2, 1, 2, 2] .sq rfl, xk B57 [1, 1, 2, 2, 1, 2, 2] .sq rfl, show (nav B57 [1, 1, 1, 2, 2, 1, 2, 2]) = Code.region 3 _ false from rfl, hk_57_3, hz_57_3, hs_57_3, xk B57 [2, 1, 1, 2, 2, 1, 2, 2] (.cd 12) rfl]
  replace hF := cond_some hF
  rcases hF with ⟨h1, hF⟩ | ⟨h1, hF⟩
  · have hJ := f57_ii_l1_j1_ok k x0 x6 true h0_ _ hF
    simp (maxSteps := 999999) (disch := first | exact D (by decide) | exact K (by kernel_rfl)) only [E, EE, ↓reduceIte, simprocAttr, xk B57 [2, 2, 1, 1, 2, 2, 1, 2, 2] .sk rfl, h1]
    try simp only [NM, EE] at hJ
    exact hJ
  · cases hF
    simp (maxSteps := 999999) (disch := first | exact D (by decide) | exact K (by kernel_rfl)) only [E, EE, ↓reduceIte, simprocAttr, xk B57 [3, 2, 1, 1, 2, 2, 1, 2, 2] (.ex 0) rfl, R57_ii_l1.st, h1]
noncomputable def f57_ii_l1 (k : Nat) : Nat → Int → Int → (List Int) → Option R57_ii_l1
  | 0, _, _, _ => none
  | n + 1, x0, x6, h0_ => Option.bind (f57_ii_l1_b k x0 x6 h0_) fun o =>
    match o with
    | .o0 y y_1 y_2 => f57_ii_l1 k n y y_1 y_2
    | .o1 y y_1 y_2 y_3 => some (.o1 y y_1 y_2 y_3)
theorem f57_ii_l1_ok (k n : Nat) : ∀ (x0 x6 : Int) (h0_ : List Int) (r : R57_ii_l1) (hF : f57_ii_l1 k n x0 x6 h0_ = some r) (σ : St) (hσ : headR (hints.head 57 3) (hints.canon 57 3) σ = some ({ n := 24, F := [(0, V.p (Value.int .u64 x0)), (5, V.own 30000), (6, V.p (Value.int .i64 x6))], M := [(30000, O.row true 1 5 (rowsOf (encI .u8) h0_))] } : St)), LP 57 k (nav B57 [1, 2, 2, 1, 2, 2]) n σ = some r.st := by
  induction n with
  | zero => intro x0 x6 h0_ r hF; cases hF
  | succ n ih =>
    intro x0 x6 h0_ r hF σ hσ
    rw [f57_ii_l1] at hF
    obtain ⟨o, h, hF⟩ := Option.bind_eq_some_iff.1 hF
    have hB := f57_ii_l1_b_ok k x0 x6 h0_ o h
    unfold LP at ih ⊢
    unfold EX at hB
    rw [loopK_succ, show firstReg (nav B57 [1, 2, 2, 1, 2, 2]) = 3 from rfl, hσ, headK_some, hB]
    cases o with
    | o0 y y_1 y_2 =>
      refine ih y y_1 y_2 r hF _ ?_
      simp (maxSteps := 999999) (disch := first | exact D (by decide) | exact K (by kernel_rfl)) only [E, EE, ↓reduceIte, simprocAttr, hh_57_3, hc_57_3]
    | o1 y y_1 y_2 y_3 => cases hF; rfl
noncomputable def f57_ii_j2 (k : Nat) (x0 x6 : Int) (x12 : Bool) (h0_ : List Int) : Option R57_ii :=
  some (R57_ii.o0 h0_)
theorem f57_ii_j2_ok (k : Nat) (x0 x6 : Int) (x12 : Bool) (h0_ : List Int) (r : R57_ii) (hF : f57_ii_j2 k x0 x6 x12 h0_ = some r) : finK Tryd.prog Tryd.f57 0 (EX 57 k (nav B57 [2, 2, 2]) ({ n := 24, F := [(0, V.p (Value.int .u64 x0)), (5, V.own 30000), (6, V.p (Value.int .i64 x6)), (12, V.p (Value.bool x12))], M := [(30000, O.row true 1 5 (rowsOf (encI .u8) h0_))] } : St)) = some r.st := by
  unfold f57_ii_j2 at hF
  cases hF
  simp (maxSteps := 999999) (disch := first | exact D (by decide) | exact K (by kernel_rfl)) only [E, EE, ↓reduceIte, simprocAttr, xk B57 [2, 2, 2] .sq rfl, show (nav B57 [1, 2, 2, 2]) = Code.region 7 _ false from rfl, hk_57_7, hz_57_7, hs_57_7, xk B57 [2, 2, 2, 2] .rt rfl, finK_norm, finK_ret, fin57, R57_ii.st]
noncomputable def f57_ii_e (k : Nat) (a0 a1 : Int) : Option R57_ii :=
  ifE ((0 : Int) ≤ a1) (
    ifE (a1 ≤ a1) (
      ifE ((a1 : Int) * 1 ≤ (roomy : Int)) (
        Option.bind (f57_ii_l1 k k a0 (IntKind.i64.wrap (a1 - (1 : Int))) ((List.replicate (Int.toNat a1) (0 : Int)))) fun o5 =>
          match o5 with
          | .o0 _ _ _ =>
            none
          | .o1 v8 v9 v10 v11 =>
            f57_ii_j2 k v8 v9 v10 v11)))
theorem f57_ii_e_ok (k : Nat) (a0 a1 : Int) (r : R57_ii) (hF : f57_ii_e k a0 a1 = some r) : finK Tryd.prog Tryd.f57 0 (EX 57 k (nav B57 []) ({ n := 24, F := [(0, V.p (Value.int .u64 a0)), (1, V.p (Value.int .i64 a1))], M := [] } : St)) = some r.st := by
  unfold f57_ii_e at hF
  replace hF := ifE_some.1 hF
  obtain ⟨h1, hF⟩ := hF
  replace hF := ifE_some.1 hF
  obtain ⟨h2, hF⟩ := hF
  replace hF := ifE_some.1 hF
  obtain ⟨h3, hF⟩ := hF
  have q4 : List.replicate (Int.toNat a1) [V.p (Value.int .u8 0)] = rowsOf (encI .u8) (List.replicate (Int.toNat a1) (0 : Int)) := (rowsOf_replicate (enc := (encI .u8)) (n := (Int.toNat a1)) (x := (0 : Int))).symm
  replace hF := Option.bind_eq_some_iff.1 hF
  obtain ⟨o5, h6, hF⟩ := hF
  have hc7 := f57_ii_l1_ok k k a0 (IntKind.i64.wrap (a1 - (1 : Int))) ((List.replicate (Int.toNat a1) (0 : Int))) _ h6
  simp (maxSteps := 999999) (disch := first | exact D (by decide) | exact K (by kernel_rfl)) only [E, EE, ↓reduceIte, simprocAttr, xk B57 [] .sq rfl, show (nav B57 [1]) = Code.region 0 _ false from rfl, hk_57_0, hz_57_0, hs_57_0, xk B57 [2] .sq rfl, show (nav B57 [1, 2]) = Code.region 1 _ false from rfl, hk_57_1, hz_57_1, hs_57_1, makeV, intArg, sm_5, u_22, i_22, is_22, ib_22, iz_22, u_5, i_5, is_5, ib_5, iz_5, xk B57 [2, 2] .sq rfl, xk B57 [1, 2, 2] .sq rfl, show (nav B57 [1, 1, 2, 2]) = Code.region 2 _ false from rfl, hk_57_2, hz_57_2, hs_57_2, xk B57 [2, 1, 2, 2] (.bk 0) rfl, xk B57 [2, 2, 1, 2, 2] .lp rfl, hh_57_3, hc_57_3, h1, h2, h3, q4]
  (try simp only [NM, EE] at hc7)
  rw [hc7 _ (by simp (maxSteps := 999999) (disch := first | exact D (by decide) | exact K (by kernel_rfl)) only [E, EE, ↓reduceIte, simprocAttr, hh_57_3, hc_57_3, h1, h2, h3, q4])]
  clear hc7
  cases o5 with
  | o0 _ _ _ =>
    (try dsimp only at hF)
    cases hF
  | o1 v8 v9 v10 v11 =>
    (try dsimp only at hF)
    have hJ := f57_ii_j2_ok k v8 v9 v10 v11 _ hF
    simp (maxSteps := 999999) (disch := first | exact D (by decide) | exact K (by kernel_rfl)) only [E, EE, ↓reduceIte, simprocAttr, R57_ii_l1.st, h1, h2, h3, q4]
    try simp only [NM, EE] at hJ
    exact hJ
noncomputable def f57_ii (k : Nat) (a0 a1 : Int) : Option R57_ii := match k with | 0 => none | k + 1 => f57_ii_e k a0 a1
theorem f57_ii_ok (k : Nat) (a0 a1 : Int) (r : R57_ii) (hF : f57_ii k a0 a1 = some r) : CV k 57 [V.p (Value.int .u64 a0), V.p (Value.int .i64 a1)] [] = some r.st := by
  cases k with
  | zero => cases hF
  | succ k =>
    unfold CV
    rw [ev_call (F := Tryd.f57) (c := (nav B57 [])) rfl Tryd.func57 rfl rfl rfl rfl]
    exact f57_ii_e_ok k a0 a1 r hF
-- f40_rr: f40 heliograph/heliographref01.Both
inductive R40_rr where
  | o0 (y : List Int)
noncomputable def R40_rr.st : R40_rr → V × List O × List O
  | .o0 y => (V.own 2000000, [], [O.row true 1 5 (rowsOf (encI .u8) y)])
inductive R40_rr_l1 where
  | o0 (y y_1 : List Int) (y_2 : Int) (y_3 : List Int)
  | o1 (y y_1 : List Int) (y_2 : Int) (y_3 : Bool) (y_4 : List Int)
noncomputable def R40_rr_l1.st : R40_rr_l1 → Out × St
  | .o0 y y_1 y_2 y_3 => (.norm, ({ n := 41, F := [(0, V.sl 1 (rowsOf (encI .u8) y)), (1, V.sl 1 (rowsOf (encI .u8) y_1)), (5, V.own 26), (6, V.p (Value.int .i64 y_2))], M := [(26, O.row true 1 5 (rowsOf (encI .u8) y_3))] } : St))
  | .o1 y y_1 y_2 y_3 y_4 => (.exit 0, ({ n := 41, F := [(0, V.sl 1 (rowsOf (encI .u8) y)), (1, V.sl 1 (rowsOf (encI .u8) y_1)), (5, V.own 30000), (6, V.p (Value.int .i64 y_2)), (17, V.p (Value.bool y_3))], M := [(30000, O.row true 1 5 (rowsOf (encI .u8) y_4))] } : St))
noncomputable def f40_rr_l1_j2 (k : Nat) (x0 x1 : List Int) (x6 : Int) (m26 : List Int) : Option R40_rr_l1 :=
  some (R40_rr_l1.o0 x0 x1 (IntKind.i64.wrap (x6 + (1 : Int))) m26)
theorem f40_rr_l1_j2_ok (k : Nat) (x0 x1 : List Int) (x6 : Int) (m26 : List Int) (r : R40_rr_l1) (hF : f40_rr_l1_j2 k x0 x1 x6 m26 = some r) : EX 40 k (nav B40 [2, 2, 1, 2, 2, 1, 2, 2]) ({ n := 41, F := [(0, V.sl 1 (rowsOf (encI .u8) x0)), (1, V.sl 1 (rowsOf (encI .u8) x1)), (5, V.own 26), (6, V.p (Value.int .i64 x6))], M := [(26, O.row true 1 5 (rowsOf (encI .u8) m26))] } : St) = some r.st := by
  unfold f40_rr_l1_j2 at hF
  cases hF
  simp (maxSteps := 999999) (disch := first | exact D (by decide) | exact K (by kernel_rfl)) only [E, EE, ↓reduceIte, simprocAttr, show (nav B40 [2, 2, 1, 2, 2, 1, 2, 2]) = Code.region 4 _ false from rfl, hk_40_4, hz_40_4, hs_40_4, R40_rr_l1.st]
noncomputable def f40_rr_l1_j1 (k : Nat) (x0 x1 : List Int) (x6 : Int) (x17 : Bool) (h0_ : List Int) : Option R40_rr_l1 :=
  ifE ((0 : Int) ≤ x6) (
    Option.bind (x0[(Int.toNat x6)]?) fun v2 =>
      ifE (((List.length h0_) + 1) ≤ roomy) (
        f40_rr_l1_j2 k x0 x1 x6 (h0_ ++ ([v2] : List Int))))
theorem f40_rr_l1_j1_ok (k : Nat) (x0 x1 : List Int) (x6 : Int) (x17 : Bool) (h0_ : List Int) (r : R40_rr_l1) (hF : f40_rr_l1_j1 k x0 x1 x6 x17 h0_ = some r) : EX 40 k (nav B40 [2, 1, 2, 2, 1, 2, 2]) ({ n := 41, F := [(0, V.sl 1 (rowsOf (encI .u8) x0)), (1, V.sl 1 (rowsOf (encI .u8) x1)), (5, V.own 30000), (6, V.p (Value.int .i64 x6)), (17, V.p (Value.bool x17))], M := [(30000, O.row true 1 5 (rowsOf (encI .u8) h0_))] } : St) = some r.st := by
  unfold f40_rr_l1_j1 at hF
  replace hF := ifE_some.1 hF
  obtain ⟨h1, hF⟩ := hF
  replace hF := Option.bind_eq_some_iff.1 hF
  obtain ⟨v2, h3, hF⟩ := hF
  have q4 : [[V.p (Value.int .u8 v2)]] = rowsOf (encI .u8) ([v2] : List Int) := rfl
  have q5 : List.map (tell [0]) (rowsOf (encI .u8) ([v2] : List Int)) = rowsOf (encI .u8) ([v2] : List Int) := rfl
  replace hF := ifE_some.1 hF
  obtain ⟨h6, hF⟩ := hF
  have hJ := f40_rr_l1_j2_ok k x0 x1 x6 (h0_ ++ ([v2] : List Int)) _ hF
  simp (maxSteps := 999999) (disch := first | exact D (by decide) | exact K (by kernel_rfl)) only [E, EE, ↓reduceIte, simprocAttr, xk B40 [2, 1, 2, 2, 1, 2, 2] .sq rfl, xk B40 [1, 2, 1, 2, 2, 1, 2, 2] (.bk 1) rfl, show (nav B40 [2, 1, 2, 1, 2, 2, 1, 2, 2]) = Code.region 5 _ false from rfl, hk_40_5, hz_40_5, hs_40_5, indexAddrV, u_22, i_22, is_22, ib_22, iz_22, u_5, i_5, is_5, ib_5, iz_5, encI_eq, buildSliceV, fillRows, sm_5, appendV, content, h1, h3, q4, q5, h6]
  try simp only [NM, EE] at hJ
  exact hJ
noncomputable def f40_rr_l1_b (k : Nat) (x0 x1 : List Int) (x6 : Int) (h0_ : List Int) : Option R40_rr_l1 :=
  cond ((decide (x6 < ((List.length x0) : Int))))
    (f40_rr_l1_j1 k x0 x1 x6 true h0_)
    (some (R40_rr_l1.o1 x0 x1 x6 false h0_))
theorem f40_rr_l1_b_ok (k : Nat) (x0 x1 : List Int) (x6 : Int) (h0_ : List Int) (r : R40_rr_l1) (hF : f40_rr_l1_b k x0 x1 x6 h0_ = some r) : EX 40 k (nav B40 [1, 2, 2, 1, 2, 2]) ({ n := 41, F := [(0, V.sl 1 (rowsOf (encI .u8) x0)), (1, V.sl 1 (rowsOf (encI .u8) x1)), (5, V.own 30000), (6, V.p (Value.int .i64 x6))], M := [(30000, O.row true 1 5 (rowsOf (encI .u8) h0_))] } : St) = some r.st := by
  unfold f40_rr_l1_b at hF
  simp (maxSteps := 999999) (disch := first | exact D (by decide) | exact K (by kernel_rfl)) only [E, EE, ↓reduceIte, simprocAttr, xk B40 [1, 2, 2, 1, 2, 2] .sq rfl, xk B40 [1, 1, 2, 2, 1, 2, 2] .sq rfl, show (nav B40 [1, 1, 1, 2, 2, 1, 2, 2]) = Code.region 3 _ false from rfl, hk_40_3, hz_40_3, hs_40_3, u_22, i_22, is_22, ib_22, iz_22, xk B40 [2, 1, 1, 2, 2, 1, 2, 2] (.cd 17) rfl]
  replace hF := cond_some hF
  rcases hF with ⟨h1, hF⟩ | ⟨h1, hF⟩
  · have hJ := f40_rr_l1_j1_ok k x0 x1 x6 true h0_ _ hF
    simp (maxSteps := 999999) (disch := first | exact D (by decide) | exact K (by kernel_rfl)) only [E, EE, ↓reduceIte, simprocAttr, xk B40 [2, 2, 1, 1, 2, 2, 1, 2, 2] .sk rfl, h1]
    try simp only [NM, EE] at hJ
    exact hJ
  · cases hF
    simp (maxSteps := 999999) (disch := first | exact D (by decide) | exact K (by kernel_rfl)) only [E, EE, ↓reduceIte, simprocAttr, xk B40 [3, 2, 1, 1, 2, 2, 1, 2, 2] (.ex 0) rfl, R40_rr_l1.st, h1]
noncomputable def f40_rr_l1 (k : Nat) : Nat → (List Int) → (List Int) → Int → (List Int) → Option R40_rr_l1
  | 0, _, _, _, _ => none
  | n + 1, x0, x1, x6, h0_ => Option.bind (f40_rr_l1_b k x0 x1 x6 h0_) fun o =>
    match o with
    | .o0 y y_1 y_2 y_3 => f40_rr_l1 k n y y_1 y_2 y_3
    | .o1 y y_1 y_2 y_3 y_4 => some (.o1 y y_1 y_2 y_3 y_4)
theorem f40_rr_l1_ok (k n : Nat) : ∀ (x0 x1 : List Int) (x6 : Int) (h0_ : List Int) (r : R40_rr_l1) (hF : f40_rr_l1 k n x0 x1 x6 h0_ = some r) (σ : St) (hσ : headR (hints.head 40 3) (hints.canon 40 3) σ = some ({ n := 41, F := [(0, V.sl 1 (rowsOf (encI .u8) x0)), (1, V.sl 1 (rowsOf (encI .u8) x1)), (5, V.own 30000), (6, V.p (Value.int .i64 x6))], M := [(30000, O.row true 1 5 (rowsOf (encI .u8) h0_))] } : St)), LP 40 k (nav B40 [1, 2, 2, 1, 2, 2]) n σ = some r.st := by
  induction n with
  | zero => intro x0 x1 x6 h0_ r hF; cases hF
  | succ n ih =>
    intro x0 x1 x6 h0_ r hF σ hσ
    rw [f40_rr_l1] at hF
    obtain ⟨o, h, hF⟩ := Option.bind_eq_some_iff.1 hF
    have hB := f40_rr_l1_b_ok k x0 x1 x6 h0_ o h
    unfold LP at ih ⊢
    unfold EX at hB
    rw [loopK_succ, show firstReg (nav B40 [1, 2, 2, 1, 2, 2]) = 3 from rfl, hσ, headK_some, hB]
    cases o with
    | o0 y y_1 y_2 y_3 =>
      refine ih y y_1 y_2 y_3 r hF _ ?_
      simp (maxSteps := 999999) (disch := first | exact D (by decide) | exact K (by kernel_rfl)) only [E, EE, ↓reduceIte, simprocAttr, hh_40_3, hc_40_3]
    | o1 y y_1 y_2 y_3 y_4 => cases hF; rfl
inductive R40_rr_l3 where
  | o0 (y : List Int) (y_1 : Int) (y_2 : List Int)
  | o1 (y : List Int) (y_1 : Int) (y_2 : Bool) (y_3 : List Int)
noncomputable def R40_rr_l3.st : R40_rr_l3 → Out × St
  | .o0 y y_1 y_2 => (.norm, ({ n := 41, F := [(1, V.sl 1 (rowsOf (encI .u8) y)), (5, V.own 39), (7, V.p (Value.int .i64 y_1))], M := [(39, O.row true 1 5 (rowsOf (encI .u8) y_2))] } : St))
  | .o1 y y_1 y_2 y_3 => (.exit 2, ({ n := 41, F := [(1, V.sl 1 (rowsOf (encI .u8) y)), (5, V.own 30000), (7, V.p (Value.int .i64 y_1)), (30, V.p (Value.bool y_2))], M := [(30000, O.row true 1 5 (rowsOf (encI .u8) y_3))] } : St))
noncomputable def f40_rr_l3_j2 (k : Nat) (x1 : List Int) (x7 : Int) (m39 : List Int) : Option R40_rr_l3 :=
  some (R40_rr_l3.o0 x1 (IntKind.i64.wrap (x7 + (1 : Int))) m39)
theorem f40_rr_l3_j2_ok (k : Nat) (x1 : List Int) (x7 : Int) (m39 : List Int) (r : R40_rr_l3) (hF : f40_rr_l3_j2 k x1 x7 m39 = some r) : EX 40 k (nav B40 [2, 2, 1, 2, 2, 1, 2, 2, 2]) ({ n := 41, F := [(1, V.sl 1 (rowsOf (encI .u8) x1)), (5, V.own 39), (7, V.p (Value.int .i64 x7))], M := [(39, O.row true 1 5 (rowsOf (encI .u8) m39))] } : St) = some r.st := by
  unfold f40_rr_l3_j2 at hF
  cases hF
  simp (maxSteps := 999999) (disch := first | exact D (by decide) | exact K (by kernel_rfl)) only [E, EE, ↓reduceIte, simprocAttr, show (nav B40 [2, 2, 1, 2, 2, 1, 2, 2, 2]) = Code.region 8 _ false from rfl, hk_40_8, hz_40_8, hs_40_8, R40_rr_l3.st]
noncomputable def f40_rr_l3_j1 (k : Nat) (x1 : List Int) (x7 : Int) (x30 : Bool) (h0_ : List Int) : Option R40_rr_l3 :=
  ifE ((0 : Int) ≤ x7) (
    Option.bind (x1[(Int.toNat x7)]?) fun v2 =>
      ifE (((List.length h0_) + 1) ≤ roomy) (
        f40_rr_l3_j2 k x1 x7 (h0_ ++ ([v2] : List Int))))
theorem f40_rr_l3_j1_ok (k : Nat) (x1 : List Int) (x7 : Int) (x30 : Bool) (h0_ : List Int) (r : R40_rr_l3) (hF : f40_rr_l3_j1 k x1 x7 x30 h0_ = some r) : EX 40 k (nav B40 [2, 1, 2, 2, 1, 2, 2, 2]) ({ n := 41, F := [(1, V.sl 1 (rowsOf (encI .u8) x1)), (5, V.own 30000), (7, V.p (Value.int .i64 x7)), (30, V.p (Value.bool x30))], M := [(30000, O.row true 1 5 (rowsOf (encI .u8) h0_))] } : St) = some r.st := by
  unfold f40_rr_l3_j1 at hF
  replace hF := ifE_some.1 hF
  obtain ⟨h1, hF⟩ := hF
  replace hF := Option.bind_eq_some_iff.1 hF
  obtain ⟨v2, h3, hF⟩ := hF
  have q4 : [[V.p (Value.int .u8 v2)]] = rowsOf (encI .u8) ([v2] : List Int) := rfl
  have q5 : List.map (tell [0]) (rowsOf (encI .u8) ([v2] : List Int)) = rowsOf (encI .u8) ([v2] : List Int) := rfl
  replace hF := ifE_some.1 hF
  obtain ⟨h6, hF⟩ := hF
  have hJ := f40_rr_l3_j2_ok k x1 x7 (h0_ ++ ([v2] : List Int)) _ hF
  simp (maxSteps := 999999) (disch := first | exact D (by decide) | exact K (by kernel_rfl)) only [E, EE, ↓reduceIte, simprocAttr, xk B40 [2, 1, 2, 2, 1, 2, 2, 2] .sq rfl, xk B40 [1, 2, 1, 2, 2, 1, 2, 2, 2] (.bk 3) rfl, show (nav B40 [2, 1, 2, 1, 2, 2, 1, 2, 2, 2]) = Code.region 9 _ false from rfl, hk_40_9, hz_40_9, hs_40_9, indexAddrV, u_22, i_22, is_22, ib_22, iz_22, u_5, i_5, is_5, ib_5, iz_5, encI_eq, buildSliceV, fillRows, sm_5, appendV, content, h1, h3, q4, q5, h6]
  try simp only [NM, EE] at hJ
  exact hJ
noncomputable def f40_rr_l3_b (k : Nat) (x1 : List Int) (x7 : Int) (h0_ : List Int) : Option R40_rr_l3 :=
  cond ((decide (x7 < ((List.length x1) : Int))))
    (f40_rr_l3_j1 k x1 x7 true h0_)
    (some (R40_rr_l3.o1 x1 x7 false h0_))
theorem f40_rr_l3_b_ok (k : Nat) (x1 : List Int) (x7 : Int) (h0_ : List Int) (r : R40_rr_l3) (hF : f40_rr_l3_b k x1 x7 h0_ = some r) : EX 40 k (nav B40 [1, 2, 2, 1, 2, 2, 2]) ({ n := 41, F := [(1, V.sl 1 (rowsOf (encI .u8) x1)), (5, V.own 30000), (7, V.p (Value.int .i64 x7))], M := [(30000, O.row true 1 5 (rowsOf (encI .u8) h0_))] } : St) = some r.st := by
  unfold f40_rr_l3_b at hF
  simp (maxSteps := 999999) (disch := first | exact D (by decide) | exact K (by kernel_rfl)) only [E, EE, ↓reduceIte, simprocAttr, xk B40 [1, 2, 2, 1, 2, 2, 2] .sq rfl, xk B40 [1, 1, 2, 2, 1, 2, 2, 2] .sq rfl, show (nav B40 [1, 1, 1, 2, 2, 1, 2, 2, 2]) = Code.region 7 _ false from rfl, hk_40_7, hz_40_7, hs_40_7, u_22, i_22, is_22, ib_22, iz_22, xk B40 [2, 1, 1, 2, 2, 1, 2, 2, 2] (.cd 30) rfl]
  replace hF := cond_some hF
  rcases hF with ⟨h1, hF⟩ | ⟨h1, hF⟩
  · have hJ := f40_rr_l3_j1_ok k x1 x7 true h0_ _ hF
    simp (maxSteps := 999999) (disch := first | exact D (by decide) | exact K (by kernel_rfl)) only [E, EE, ↓reduceIte, simprocAttr, xk B40 [2, 2, 1, 1, 2, 2, 1, 2, 2, 2] .sk rfl, h1]
    try simp only [NM, EE] at hJ
    exact hJ
  · cases hF
    simp (maxSteps := 999999) (disch := first | exact D (by decide) | exact K (by kernel_rfl)) only [E, EE, ↓reduceIte, simprocAttr, xk B40 [3, 2, 1, 1, 2, 2, 1, 2, 2, 2] (.ex 2) rfl, R40_rr_l3.st, h1]
noncomputable def f40_rr_l3 (k : Nat) : Nat → (List Int) → Int → (List Int) → Option R40_rr_l3
  | 0, _, _, _ => none
  | n + 1, x1, x7, h0_ => Option.bind (f40_rr_l3_b k x1 x7 h0_) fun o =>
    match o with
    | .o0 y y_1 y_2 => f40_rr_l3 k n y y_1 y_2
    | .o1 y y_1 y_2 y_3 => some (.o1 y y_1 y_2 y_3)
theorem f40_rr_l3_ok (k n : Nat) : ∀ (x1 : List Int) (x7 : Int) (h0_ : List Int) (r : R40_rr_l3) (hF : f40_rr_l3 k n x1 x7 h0_ = some r) (σ : St) (hσ : headR (hints.head 40 7) (hints.canon 40 7) σ = some ({ n := 41, F := [(1, V.sl 1 (rowsOf (encI .u8) x1)), (5, V.own 30000), (7, V.p (Value.int .i64 x7))], M := [(30000, O.row true 1 5 (rowsOf (encI .u8) h0_))] } : St)), LP 40 k (nav B40 [1, 2, 2, 1, 2, 2, 2]) n σ = some r.st := by
  induction n with
  | zero => intro x1 x7 h0_ r hF; cases hF
  | succ n ih =>
    intro x1 x7 h0_ r hF σ hσ
    rw [f40_rr_l3] at hF
    obtain ⟨o, h, hF⟩ := Option.bind_eq_some_iff.1 hF
    have hB := f40_rr_l3_b_ok k x1 x7 h0_ o h
    unfold LP at ih ⊢
    unfold EX at hB
    rw [loopK_succ, show firstReg (nav B40 [1, 2, 2, 1, 2, 2, 2]) = 7 from rfl, hσ, headK_some, hB]
    cases o with
    | o0 y y_1 y_2 =>
      refine ih y y_1 y_2 r hF _ ?_
      simp (maxSteps := 999999) (disch := first | exact D (by decide) | exact K (by kernel_rfl)) only [E, EE, ↓reduceIte, simprocAttr, hh_40_7, hc_40_7]
    | o1 y y_1 y_2 y_3 => cases hF; rfl
noncomputable def f40_rr_j4 (k : Nat) (x1 : List Int) (x7 : Int) (x30 : Bool) (h0_ : List Int) : Option R40_rr :=
  some (R40_rr.o0 h0_)
theorem f40_rr_j4_ok (k : Nat) (x1 : List Int) (x7 : Int) (x30 : Bool) (h0_ : List Int) (r : R40_rr) (hF : f40_rr_j4 k x1 x7 x30 h0_ = some r) : finK Tryd.prog Tryd.f40 0 (EX 40 k (nav B40 [2, 2, 2, 2]) ({ n := 41, F := [(1, V.sl 1 (rowsOf (encI .u8) x1)), (5, V.own 30000), (7, V.p (Value.int .i64 x7)), (30, V.p (Value.bool x30))], M := [(30000, O.row true 1 5 (rowsOf (encI .u8) h0_))] } : St)) = some r.st := by
  unfold f40_rr_j4 at hF
  cases hF
  simp (maxSteps := 999999) (disch := first | exact D (by decide) | exact K (by kernel_rfl)) only [E, EE, ↓reduceIte, simprocAttr, xk B40 [2, 2, 2, 2] .sq rfl, show (nav B40 [1, 2, 2, 2, 2]) = Code.region 10 _ false from rfl, hk_40_10, hz_40_10, hs_40_10, xk B40 [2, 2, 2, 2, 2] .rt rfl, finK_norm, finK_ret, fin40, R40_rr.st]
noncomputable def f40_rr_j2 (k : Nat) (x0 x1 : List Int) (x6 : Int) (x17 : Bool) (h0_ : List Int) : Option R40_rr :=
  Option.bind (f40_rr_l3 k k x1 0 h0_) fun o1 =>
    match o1 with
    | .o0 _ _ _ =>
      none
    | .o1 v4 v5 v6 v7 =>
      f40_rr_j4 k v4 v5 v6 v7
theorem f40_rr_j2_ok (k : Nat) (x0 x1 : List Int) (x6 : Int) (x17 : Bool) (h0_ : List Int) (r : R40_rr) (hF : f40_rr_j2 k x0 x1 x6 x17 h0_ = some r) : finK Tryd.prog Tryd.f40 0 (EX 40 k (nav B40 [2, 2, 2]) ({ n := 41, F := [(0, V.sl 1 (rowsOf (encI .u8) x0)), (1, V.sl 1 (rowsOf (encI .u8) x1)), (5, V.own 30000), (6, V.p (Value.int .i64 x6)), (17, V.p (Value.bool x17))], M := [(30000, O.row true 1 5 (rowsOf (encI .u8) h0_))] } : St)) = some r.st := by
  unfold f40_rr_j2 at hF
  replace hF := Option.bind_eq_some_iff.1 hF
  obtain ⟨o1, h2, hF⟩ := hF
  have hc3 := f40_rr_l3_ok k k x1 0 h0_ _ h2
  simp (maxSteps := 999999) (disch := first | exact D (by decide) | exact K (by kernel_rfl)) only [E, EE, ↓reduceIte, simprocAttr, xk B40 [2, 2, 2] .sq rfl, xk B40 [1, 2, 2, 2] .sq rfl, show (nav B40 [1, 1, 2, 2, 2]) = Code.region 6 _ false from rfl, hk_40_6, hz_40_6, hs_40_6, xk B40 [2, 1, 2, 2, 2] (.bk 2) rfl, xk B40 [2, 2, 1, 2, 2, 2] .lp rfl, hh_40_7, hc_40_7]
  (try simp only [NM, EE] at hc3)
  rw [hc3 _ (by simp (maxSteps := 999999) (disch := first | exact D (by decide) | exact K (by kernel_rfl)) only [E, EE, ↓reduceIte, simprocAttr, hh_40_7, hc_40_7])]
  clear hc3
  cases o1 with
  | o0 _ _ _ =>
    (try dsimp only at hF)
    cases hF
  | o1 v4 v5 v6 v7 =>
    (try dsimp only at hF)
    have hJ := f40_rr_j4_ok k v4 v5 v6 v7 _ hF
    simp (maxSteps := 999999) (disch := first | exact D (by decide) | exact K (by kernel_rfl)) only [E, EE, ↓reduceIte, simprocAttr, R40_rr_l3.st]
    try simp only [NM, EE] at hJ
    exact hJ
noncomputable def f40_rr_e (k : Nat) (a0 a1 : List Int) : Option R40_rr :=
  ifE ((0 : Int) ≤ (IntKind.i64.wrap (((List.length a0) : Int) + ((List.length a1) : Int)))) (
    ifE (((IntKind.i64.wrap (((List.length a0) : Int) + ((List.length a1) : Int))) : Int) * 1 ≤ (roomy : Int)) (
      Option.bind (f40_rr_l1 k k a0 a1 0 []) fun o3 =>
        match o3 with
        | .o0 _ _ _ _ =>
          none
        | .o1 v6 v7 v8 v9 v10 =>
          f40_rr_j2 k v6 v7 v8 v9 v10))
theorem f40_rr_e_ok (k : Nat) (a0 a1 : List Int) (r : R40_rr) (hF : f40_rr_e k a0 a1 = some r) : finK Tryd.prog Tryd.f40 0 (EX 40 k (nav B40 []) ({ n := 41, F := [(0, V.sl 1 (rowsOf (encI .u8) a0)), (1, V.sl 1 (rowsOf (encI .u8) a1))], M := [] } : St)) = some r.st := by
  unfold f40_rr_e at hF
  replace hF := ifE_some.1 hF
  obtain ⟨h1, hF⟩ := hF
  replace hF := ifE_some.1 hF
  obtain ⟨h2, hF⟩ := hF
  replace hF := Option.bind_eq_some_iff.1 hF
  obtain ⟨o3, h4, hF⟩ := hF
  have hc5 := f40_rr_l1_ok k k a0 a1 0 [] _ h4
  simp (maxSteps := 999999) (disch := first | exact D (by decide) | exact K (by kernel_rfl)) only [E, EE, ↓reduceIte, simprocAttr, xk B40 [] .sq rfl, show (nav B40 [1]) = Code.region 0 _ false from rfl, hk_40_0, hz_40_0, hs_40_0, xk B40 [2] .sq rfl, show (nav B40 [1, 2]) = Code.region 1 _ false from rfl, hk_40_1, hz_40_1, hs_40_1, u_22, i_22, is_22, ib_22, iz_22, makeV, intArg, sm_5, u_5, i_5, is_5, ib_5, iz_5, List.replicate_zero, xk B40 [2, 2] .sq rfl, xk B40 [1, 2, 2] .sq rfl, show (nav B40 [1, 1, 2, 2]) = Code.region 2 _ false from rfl, hk_40_2, hz_40_2, hs_40_2, xk B40 [2, 1, 2, 2] (.bk 0) rfl, xk B40 [2, 2, 1, 2, 2] .lp rfl, hh_40_3, hc_40_3, h1, h2]
  (try simp only [NM, EE] at hc5)
  rw [hc5 _ (by simp (maxSteps := 999999) (disch := first | exact D (by decide) | exact K (by kernel_rfl)) only [E, EE, ↓reduceIte, simprocAttr, hh_40_3, hc_40_3, h1, h2])]
  clear hc5
  cases o3 with
  | o0 _ _ _ _ =>
    (try dsimp only at hF)
    cases hF
  | o1 v6 v7 v8 v9 v10 =>
    (try dsimp only at hF)
    have hJ := f40_rr_j2_ok k v6 v7 v8 v9 v10 _ hF
    simp (maxSteps := 999999) (disch := first | exact D (by decide) | exact K (by kernel_rfl)) only [E, EE, ↓reduceIte, simprocAttr, R40_rr_l1.st, h1, h2]
    try simp only [NM, EE] at hJ
    exact hJ
noncomputable def f40_rr (k : Nat) (a0 a1 : List Int) : Option R40_rr := match k with | 0 => none | k + 1 => f40_rr_e k a0 a1
theorem f40_rr_ok (k : Nat) (a0 a1 : List Int) (r : R40_rr) (hF : f40_rr k a0 a1 = some r) : CV k 40 [V.sl 1 (rowsOf (encI .u8) a0), V.sl 1 (rowsOf (encI .u8) a1)] [] = some r.st := by
  cases k with
  | zero => cases hF
  | succ k =>
    unfold CV
    rw [ev_call (F := Tryd.f40) (c := (nav B40 [])) rfl Tryd.func40 rfl rfl rfl rfl]
    exact f40_rr_e_ok k a0 a1 r hF
-- f39_ii: f39 heliograph/heliographref07.Head
inductive R39_ii where
  | o0 (y : List Int)
noncomputable def R39_ii.st : R39_ii → V × List O × List O
  | .o0 y => (V.own 2000000, [], [O.row true 1 5 (rowsOf (encI .u8) y)])
noncomputable def f39_ii_j4 (k : Nat) (x0 x1 : Int) (x34 : Bool) : Option R39_ii :=
  Option.bind (f57_ii k x1 8) fun o3 =>
    match o3 with
    | .o0 v6 =>
      Option.bind (f40_rr k (([(IntKind.u8.wrap (IntKind.i64.wrap ((IntKind.i64.wrap ((32 : Int) * x0)) + (27 : Int))))] : List Int)) v6) fun o7 =>
        match o7 with
        | .o0 v10 =>
          some (R39_ii.o0 v10)
theorem f39_ii_j4_ok (k : Nat) (x0 x1 : Int) (x34 : Bool) (r : R39_ii) (hF : f39_ii_j4 k x0 x1 x34 = some r) : finK Tryd.prog Tryd.f39 0 (EX 39 k (nav B39 [2, 2, 2, 2, 2]) ({ n := 51, F := [(0, V.p (Value.int .i64 x0)), (1, V.p (Value.int .u64 x1)), (34, V.p (Value.bool x34))], M := [] } : St)) = some r.st := by
  unfold f39_ii_j4 at hF
  have q1 : [[V.p (Value.int .u8 (IntKind.u8.wrap (IntKind.i64.wrap ((IntKind.i64.wrap ((32 : Int) * x0)) + (27 : Int)))))]] = rowsOf (encI .u8) ([(IntKind.u8.wrap (IntKind.i64.wrap ((IntKind.i64.wrap ((32 : Int) * x0)) + (27 : Int))))] : List Int) := rfl
  have q2 : List.map (tell [0]) (rowsOf (encI .u8) ([(IntKind.u8.wrap (IntKind.i64.wrap ((IntKind.i64.wrap ((32 : Int) * x0)) + (27 : Int))))] : List Int)) = rowsOf (encI .u8) ([(IntKind.u8.wrap (IntKind.i64.wrap ((IntKind.i64.wrap ((32 : Int) * x0)) + (27 : Int))))] : List Int) := rfl
  replace hF := Option.bind_eq_some_iff.1 hF
  obtain ⟨o3, h4, hF⟩ := hF
  have hc5 := f57_ii_ok k x1 8 _ h4
  cases o3 with
  | o0 v6 =>
    (try dsimp only at hF)
    (try simp only [NM, EE, R57_ii.st] at hc5)
    replace hF := Option.bind_eq_some_iff.1 hF
    obtain ⟨o7, h8, hF⟩ := hF
    have hc9 := f40_rr_ok k (([(IntKind.u8.wrap (IntKind.i64.wrap ((IntKind.i64.wrap ((32 : Int) * x0)) + (27 : Int))))] : List Int)) v6 _ h8
    cases o7 with
    | o0 v10 =>
      (try dsimp only at hF)
      (try simp only [NM, EE, R40_rr.st] at hc9)
      cases hF
      simp (maxSteps := 999999) (disch := first | exact D (by decide) | exact K (by kernel_rfl)) only [E, EE, ↓reduceIte, simprocAttr, xk B39 [2, 2, 2, 2, 2] .sq rfl, show (nav B39 [1, 2, 2, 2, 2, 2]) = Code.region 9 _ false from rfl, hk_39_9, hz_39_9, hs_39_9, u_3, i_3, is_3, ib_3, iz_3, u_5, i_5, is_5, ib_5, iz_5, convV, buildSliceV, fillRows, sm_5, u_22, i_22, is_22, ib_22, iz_22, callStep, CL, gv, List.contains, xk B39 [2, 2, 2, 2, 2, 2] .rt rfl, finK_norm, finK_ret, fin39, R39_ii.st, q1, q2, hc5, hc9]
noncomputable def f39_ii_j3 (k : Nat) (x0 x1 : Int) (x24 : Bool) : Option R39_ii :=
  cond ((decide (x1 < 4294967296)))
    (
      Option.bind (f57_ii k x1 4) fun o4 =>
        match o4 with
        | .o0 v7 =>
          Option.bind (f40_rr k (([(IntKind.u8.wrap (IntKind.i64.wrap ((IntKind.i64.wrap ((32 : Int) * x0)) + (26 : Int))))] : List Int)) v7) fun o8 =>
            match o8 with
            | .o0 v11 =>
              some (R39_ii.o0 v11))
    (f39_ii_j4 k x0 x1 false)
theorem f39_ii_j3_ok (k : Nat) (x0 x1 : Int) (x24 : Bool) (r : R39_ii) (hF : f39_ii_j3 k x0 x1 x24 = some r) : finK Tryd.prog Tryd.f39 0 (EX 39 k (nav B39 [2, 2, 2, 2]) ({ n := 51, F := [(0, V.p (Value.int .i64 x0)), (1, V.p (Value.int .u64 x1)), (24, V.p (Value.bool x24))], M := [] } : St)) = some r.st := by
  unfold f39_ii_j3 at hF
  simp (maxSteps := 999999) (disch := first | exact D (by decide) | exact K (by kernel_rfl)) only [E, EE, ↓reduceIte, simprocAttr, xk B39 [2, 2, 2, 2] .sq rfl, xk B39 [1, 2, 2, 2, 2] .sq rfl, show (nav B39 [1, 1, 2, 2, 2, 2]) = Code.region 7 _ false from rfl, hk_39_7, hz_39_7, hs_39_7, xk B39 [2, 1, 2, 2, 2, 2] (.cd 34) rfl]
  replace hF := cond_some hF
  rcases hF with ⟨h1, hF⟩ | ⟨h1, hF⟩
  · have q2 : [[V.p (Value.int .u8 (IntKind.u8.wrap (IntKind.i64.wrap ((IntKind.i64.wrap ((32 : Int) * x0)) + (26 : Int)))))]] = rowsOf (encI .u8) ([(IntKind.u8.wrap (IntKind.i64.wrap ((IntKind.i64.wrap ((32 : Int) * x0)) + (26 : Int))))] : List Int) := rfl
    have q3 : List.map (tell [0]) (rowsOf (encI .u8) ([(IntKind.u8.wrap (IntKind.i64.wrap ((IntKind.i64.wrap ((32 : Int) * x0)) + (26 : Int))))] : List Int)) = rowsOf (encI .u8) ([(IntKind.u8.wrap (IntKind.i64.wrap ((IntKind.i64.wrap ((32 : Int) * x0)) + (26 : Int))))] : List Int) := rfl
    replace hF := Option.bind_eq_some_iff.1 hF
    obtain ⟨o4, h5, hF⟩ := hF
    have hc6 := f57_ii_ok k x1 4 _ h5
    cases o4 with
    | o0 v7 =>
      (try dsimp only at hF)
      (try simp only [NM, EE, R57_ii.st] at hc6)
      replace hF := Option.bind_eq_some_iff.1 hF
      obtain ⟨o8, h9, hF⟩ := hF
      have hc10 := f40_rr_ok k (([(IntKind.u8.wrap (IntKind.i64.wrap ((IntKind.i64.wrap ((32 : Int) * x0)) + (26 : Int))))] : List Int)) v7 _ h9
      cases o8 with
      | o0 v11 =>
        (try dsimp only at hF)
        (try simp only [NM, EE, R40_rr.st] at hc10)
        cases hF
        simp (maxSteps := 999999) (disch := first | exact D (by decide) | exact K (by kernel_rfl)) only [E, EE, ↓reduceIte, simprocAttr, xk B39 [2, 2, 1, 2, 2, 2, 2] .sq rfl, show (nav B39 [1, 2, 2, 1, 2, 2, 2, 2]) = Code.region 8 _ false from rfl, hk_39_8, hz_39_8, hs_39_8, u_3, i_3, is_3, ib_3, iz_3, u_5, i_5, is_5, ib_5, iz_5, convV, buildSliceV, fillRows, sm_5, u_22, i_22, is_22, ib_22, iz_22, callStep, CL, gv, List.contains, xk B39 [2, 2, 2, 1, 2, 2, 2, 2] .rt rfl, finK_norm, finK_ret, fin39, R39_ii.st, h1, q2, q3, hc6, hc10]
  · have hJ := f39_ii_j4_ok k x0 x1 false _ hF
    simp (maxSteps := 999999) (disch := first | exact D (by decide) | exact K (by kernel_rfl)) only [E, EE, ↓reduceIte, simprocAttr, xk B39 [3, 2, 1, 2, 2, 2, 2] .sk rfl, h1]
    try simp only [NM, EE] at hJ
    exact hJ
noncomputable def f39_ii_j2 (k : Nat) (x0 x1 : Int) (x15 : Bool) : Option R39_ii :=
  cond ((decide (x1 < 65536)))
    (
      Option.bind (f57_ii k x1 2) fun o4 =>
        match o4 with
        | .o0 v7 =>
          Option.bind (f40_rr k (([(IntKind.u8.wrap (IntKind.i64.wrap ((IntKind.i64.wrap ((32 : Int) * x0)) + (25 : Int))))] : List Int)) v7) fun o8 =>
            match o8 with
            | .o0 v11 =>
              some (R39_ii.o0 v11))
    (f39_ii_j3 k x0 x1 false)
theorem f39_ii_j2_ok (k : Nat) (x0 x1 : Int) (x15 : Bool) (r : R39_ii) (hF : f39_ii_j2 k x0 x1 x15 = some r) : finK Tryd.prog Tryd.f39 0 (EX 39 k (nav B39 [2, 2, 2]) ({ n := 51, F := [(0, V.p (Value.int .i64 x0)), (1, V.p (Value.int .u64 x1)), (15, V.p (Value.bool x15))], M := [] } : St)) = some r.st := by
  unfold f39_ii_j2 at hF
  simp (maxSteps := 999999) (disch := first | exact D (by decide) | exact K (by kernel_rfl)) only [E, EE, ↓reduceIte, simprocAttr, xk B39 [2, 2, 2] .sq rfl, xk B39 [1, 2, 2, 2] .sq rfl, show (nav B39 [1, 1, 2, 2, 2]) = Code.region 5 _ false from rfl, hk_39_5, hz_39_5, hs_39_5, xk B39 [2, 1, 2, 2, 2] (.cd 24) rfl]
  replace hF := cond_some hF
  rcases hF with ⟨h1, hF⟩ | ⟨h1, hF⟩
  · have q2 : [[V.p (Value.int .u8 (IntKind.u8.wrap (IntKind.i64.wrap ((IntKind.i64.wrap ((32 : Int) * x0)) + (25 : Int)))))]] = rowsOf (encI .u8) ([(IntKind.u8.wrap (IntKind.i64.wrap ((IntKind.i64.wrap ((32 : Int) * x0)) + (25 : Int))))] : List Int) := rfl
    have q3 : List.map (tell [0]) (rowsOf (encI .u8) ([(IntKind.u8.wrap (IntKind.i64.wrap ((IntKind.i64.wrap ((32 : Int) * x0)) + (25 : Int))))] : List Int)) = rowsOf (encI .u8) ([(IntKind.u8.wrap (IntKind.i64.wrap ((IntKind.i64.wrap ((32 : Int) * x0)) + (25 : Int))))] : List Int) := rfl
    replace hF := Option.bind_eq_some_iff.1 hF
    obtain ⟨o4, h5, hF⟩ := hF
    have hc6 := f57_ii_ok k x1 2 _ h5
    cases o4 with
    | o0 v7 =>
      (try dsimp only at hF)
      (try simp only [NM, EE, R57_ii.st] at hc6)
      replace hF := Option.bind_eq_some_iff.1 hF
      obtain ⟨o8, h9, hF⟩ := hF
      have hc10 := f40_rr_ok k (([(IntKind.u8.wrap (IntKind.i64.wrap ((IntKind.i64.wrap ((32 : Int) * x0)) + (25 : Int))))] : List Int)) v7 _ h9
      cases o8 with
      | o0 v11 =>
        (try dsimp only at hF)
        (try simp only [NM, EE, R40_rr.st] at hc10)
        cases hF
        simp (maxSteps := 999999) (disch := first | exact D (by decide) | exact K (by kernel_rfl)) only [E, EE, ↓reduceIte, simprocAttr, xk B39 [2, 2, 1, 2, 2, 2] .sq rfl, show (nav B39 [1, 2, 2, 1, 2, 2, 2]) = Code.region 6 _ false from rfl, hk_39_6, hz_39_6, hs_39_6, u_3, i_3, is_3, ib_3, iz_3, u_5, i_5, is_5, ib_5, iz_5, convV, buildSliceV, fillRows, sm_5, u_22, i_22, is_22, ib_22, iz_22, callStep, CL, gv, List.contains, xk B39 [2, 2, 2, 1, 2, 2, 2] .rt rfl, finK_norm, finK_ret, fin39, R39_ii.st, h1, q2, q3, hc6, hc10]
  · have hJ := f39_ii_j3_ok k x0 x1 false _ hF
    simp (maxSteps := 999999) (disch := first | exact D (by decide) | exact K (by kernel_rfl)) only [E, EE, ↓reduceIte, simprocAttr, xk B39 [3, 2, 1, 2, 2, 2] .sk rfl, h1]
    try simp only [NM, EE] at hJ
    exact hJ
noncomputable def f39_ii_j1 (k : Nat) (x0 x1 : Int) (x6 : Bool) : Option R39_ii :=
  cond ((decide (x1 < 256)))
    (some (R39_ii.o0 (([(IntKind.u8.wrap (IntKind.i64.wrap ((IntKind.i64.wrap ((32 : Int) * x0)) + (24 : Int)))), (IntKind.u8.wrap x1)] : List Int))))
    (f39_ii_j2 k x0 x1 false)
theorem f39_ii_j1_ok (k : Nat) (x0 x1 : Int) (x6 : Bool) (r : R39_ii) (hF : f39_ii_j1 k x0 x1 x6 = some r) : finK Tryd.prog Tryd.f39 0 (EX 39 k (nav B39 [2, 2]) ({ n := 51, F := [(0, V.p (Value.int .i64 x0)), (1, V.p (Value.int .u64 x1)), (6, V.p (Value.bool x6))], M := [] } : St)) = some r.st := by
  unfold f39_ii_j1 at hF
  simp (maxSteps := 999999) (disch := first | exact D (by decide) | exact K (by kernel_rfl)) only [E, EE, ↓reduceIte, simprocAttr, xk B39 [2, 2] .sq rfl, xk B39 [1, 2, 2] .sq rfl, show (nav B39 [1, 1, 2, 2]) = Code.region 3 _ false from rfl, hk_39_3, hz_39_3, hs_39_3, xk B39 [2, 1, 2, 2] (.cd 15) rfl]
  replace hF := cond_some hF
  rcases hF with ⟨h1, hF⟩ | ⟨h1, hF⟩
  · have q2 : [[V.p (Value.int .u8 (IntKind.u8.wrap (IntKind.i64.wrap ((IntKind.i64.wrap ((32 : Int) * x0)) + (24 : Int)))))], [V.p (Value.int .u8 (IntKind.u8.wrap x1))]] = rowsOf (encI .u8) ([(IntKind.u8.wrap (IntKind.i64.wrap ((IntKind.i64.wrap ((32 : Int) * x0)) + (24 : Int)))), (IntKind.u8.wrap x1)] : List Int) := rfl
    have q3 : List.map (tell [0]) (rowsOf (encI .u8) ([(IntKind.u8.wrap (IntKind.i64.wrap ((IntKind.i64.wrap ((32 : Int) * x0)) + (24 : Int)))), (IntKind.u8.wrap x1)] : List Int)) = rowsOf (encI .u8) ([(IntKind.u8.wrap (IntKind.i64.wrap ((IntKind.i64.wrap ((32 : Int) * x0)) + (24 : Int)))), (IntKind.u8.wrap x1)] : List Int) := rfl
    cases hF
    simp (maxSteps := 999999) (disch := first | exact D (by decide) | exact K (by kernel_rfl)) only [E, EE, ↓reduceIte, simprocAttr, xk B39 [2, 2, 1, 2, 2] .sq rfl, show (nav B39 [1, 2, 2, 1, 2, 2]) = Code.region 4 _ false from rfl, hk_39_4, hz_39_4, hs_39_4, u_3, i_3, is_3, ib_3, iz_3, u_5, i_5, is_5, ib_5, iz_5, convV, u_47, i_47, is_47, ib_47, iz_47, buildSliceV, fillRows, sm_5, u_22, i_22, is_22, ib_22, iz_22, xk B39 [2, 2, 2, 1, 2, 2] .rt rfl, finK_norm, finK_ret, fin39, R39_ii.st, h1, q2, q3]
  · have hJ := f39_ii_j2_ok k x0 x1 false _ hF
    simp (maxSteps := 999999) (disch := first | exact D (by decide) | exact K (by kernel_rfl)) only [E, EE, ↓reduceIte, simprocAttr, xk B39 [3, 2, 1, 2, 2] .sk rfl, h1]
    try simp only [NM, EE] at hJ
    exact hJ
noncomputable def f39_ii_e (k : Nat) (a0 a1 : Int) : Option R39_ii :=
  cond ((decide (a1 < 24)))
    (some (R39_ii.o0 (([(IntKind.u8.wrap (IntKind.i64.wrap ((IntKind.i64.wrap ((32 : Int) * a0)) + (IntKind.i64.wrap a1))))] : List Int))))
    (f39_ii_j1 k a0 a1 false)
theorem f39_ii_e_ok (k : Nat) (a0 a1 : Int) (r : R39_ii) (hF : f39_ii_e k a0 a1 = some r) : finK Tryd.prog Tryd.f39 0 (EX 39 k (nav B39 []) ({ n := 51, F := [(0, V.p (Value.int .i64 a0)), (1, V.p (Value.int .u64 a1))], M := [] } : St)) = some r.st := by
  unfold f39_ii_e at hF
  simp (maxSteps := 999999) (disch := first | exact D (by decide) | exact K (by kernel_rfl)) only [E, EE, ↓reduceIte, simprocAttr, xk B39 [] .sq rfl, show (nav B39 [1]) = Code.region 0 _ false from rfl, hk_39_0, hz_39_0, hs_39_0, xk B39 [2] .sq rfl, xk B39 [1, 2] .sq rfl, show (nav B39 [1, 1, 2]) = Code.region 1 _ false from rfl, hk_39_1, hz_39_1, hs_39_1, xk B39 [2, 1, 2] (.cd 6) rfl]
  replace hF := cond_some hF
  rcases hF with ⟨h1, hF⟩ | ⟨h1, hF⟩
  · have q2 : [[V.p (Value.int .u8 (IntKind.u8.wrap (IntKind.i64.wrap ((IntKind.i64.wrap ((32 : Int) * a0)) + (IntKind.i64.wrap a1)))))]] = rowsOf (encI .u8) ([(IntKind.u8.wrap (IntKind.i64.wrap ((IntKind.i64.wrap ((32 : Int) * a0)) + (IntKind.i64.wrap a1))))] : List Int) := rfl
    have q3 : List.map (tell [0]) (rowsOf (encI .u8) ([(IntKind.u8.wrap (IntKind.i64.wrap ((IntKind.i64.wrap ((32 : Int) * a0)) + (IntKind.i64.wrap a1))))] : List Int)) = rowsOf (encI .u8) ([(IntKind.u8.wrap (IntKind.i64.wrap ((IntKind.i64.wrap ((32 : Int) * a0)) + (IntKind.i64.wrap a1))))] : List Int) := rfl
    cases hF
    simp (maxSteps := 999999) (disch := first | exact D (by decide) | exact K (by kernel_rfl)) only [E, EE, ↓reduceIte, simprocAttr, xk B39 [2, 2, 1, 2] .sq rfl, show (nav B39 [1, 2, 2, 1, 2]) = Code.region 2 _ false from rfl, hk_39_2, hz_39_2, hs_39_2, u_47, i_47, is_47, ib_47, iz_47, u_3, i_3, is_3, ib_3, iz_3, convV, u_5, i_5, is_5, ib_5, iz_5, buildSliceV, fillRows, sm_5, u_22, i_22, is_22, ib_22, iz_22, xk B39 [2, 2, 2, 1, 2] .rt rfl, finK_norm, finK_ret, fin39, R39_ii.st, h1, q2, q3]
  · have hJ := f39_ii_j1_ok k a0 a1 false _ hF
    simp (maxSteps := 999999) (disch := first | exact D (by decide) | exact K (by kernel_rfl)) only [E, EE, ↓reduceIte, simprocAttr, xk B39 [3, 2, 1, 2] .sk rfl, h1]
    try simp only [NM, EE] at hJ
    exact hJ
noncomputable def f39_ii (k : Nat) (a0 a1 : Int) : Option R39_ii := match k with | 0 => none | k + 1 => f39_ii_e k a0 a1
theorem f39_ii_ok (k : Nat) (a0 a1 : Int) (r : R39_ii) (hF : f39_ii k a0 a1 = some r) : CV k 39 [V.p (Value.int .i64 a0), V.p (Value.int .u64 a1)] [] = some r.st := by
  cases k with
  | zero => cases hF
  | succ k =>
    unfold CV
    rw [ev_call (F := Tryd.f39) (c := (nav B39 [])) rfl Tryd.func39 rfl rfl rfl rfl]
    exact f39_ii_e_ok k a0 a1 r hF
end Go.Proofs.YtbnnmplkbpgcaaaDoorV
