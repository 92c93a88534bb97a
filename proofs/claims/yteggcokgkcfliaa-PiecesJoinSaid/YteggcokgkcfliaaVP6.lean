/- What the program's functions answer: plain functions, and that the interpreter answers what they do. Written by a program of this session, out of the translation. -/
import Derived.Test.YteggcokgkcfliaaVP5
namespace Go.Proofs.YteggcokgkcfliaaV
open Go
set_option linter.unusedVariables false
set_option linter.unusedSimpArgs false
set_option maxRecDepth 8000
set_option maxHeartbeats 4000000
-- f12_ai10rz: f12 heliograph/heliographref09.Right
inductive R12_ai10rz where
  | o0 (y : Bool)
noncomputable def R12_ai10rz.st : R12_ai10rz → V × List O × List O
  | .o0 y => (V.p (Value.bool y), [], [])
noncomputable def f12_ai10rz_j2 (k : Nat) (x85 : Bool) (m1 m1_1 m1_2 m1_3 m1_4 m1_5 m1_6 m1_7 m1_8 m1_9 : Int) (m1_10 : List Int) : Option R12_ai10rz :=
  cond ((decide (((List.length m1_10) : Int) ≥ 1)))
    (
      cond ((decide (((List.length m1_10) : Int) ≤ m1_9)))
        (
          cond ((decide (m1_8 ≥ 0)))
            (some (R12_ai10rz.o0 (decide (m1_8 ≤ (IntKind.i64.wrap (m1_9 - ((List.length m1_10) : Int)))))))
            (some (R12_ai10rz.o0 false)))
        (some (R12_ai10rz.o0 false)))
    (some (R12_ai10rz.o0 false))
theorem f12_ai10rz_j2_ok (k : Nat) (x85 : Bool) (m1 m1_1 m1_2 m1_3 m1_4 m1_5 m1_6 m1_7 m1_8 m1_9 : Int) (m1_10 : List Int) (r : R12_ai10rz) (hF : f12_ai10rz_j2 k x85 m1 m1_1 m1_2 m1_3 m1_4 m1_5 m1_6 m1_7 m1_8 m1_9 m1_10 = some r) : finK Try.prog Try.f12 0 (EX 12 k (nav B12 [2, 2, 2]) ({ n := 114, F := [(1, V.ptr 1 0), (85, V.p (Value.bool x85))], M := [(1, O.box 25 [V.p (Value.int .i64 m1), V.p (Value.int .i64 m1_1), V.p (Value.int .u32 m1_2), V.p (Value.int .i64 m1_3), V.p (Value.int .i64 m1_4), V.p (Value.int .i64 m1_5), V.p (Value.int .i64 m1_6), V.p (Value.int .i64 m1_7), V.p (Value.int .i64 m1_8), V.p (Value.int .i64 m1_9), V.sl 1 (rowsOf (encI .u8) m1_10)])] } : St)) = some r.st := by
  unfold f12_ai10rz_j2 at hF
  simp (maxSteps := 999999) (disch := first | exact D (by decide) | exact K (by kernel_rfl)) only [E, EE, ↓reduceIte, simprocAttr, xk B12 [2, 2, 2] .sq rfl, show (nav B12 [1, 2, 2, 2]) = Code.region 5 _ false from rfl, hk_12_5, hz_12_5, hs_12_5, fieldAddrV, u_25, i_25, is_25, ib_25, iz_25, u_23, i_23, is_23, ib_23, iz_23]
  replace hF := cond_some hF
  rcases hF with ⟨h1, hF⟩ | ⟨h1, hF⟩
  · simp (maxSteps := 999999) (disch := first | exact D (by decide) | exact K (by kernel_rfl)) only [E, EE, ↓reduceIte, simprocAttr, fieldAddrV, u_25, i_25, is_25, ib_25, iz_25, u_23, i_23, is_23, ib_23, iz_23, u_3, i_3, is_3, ib_3, iz_3, h1]
    replace hF := cond_some hF
    rcases hF with ⟨h2, hF⟩ | ⟨h2, hF⟩
    · simp (maxSteps := 999999) (disch := first | exact D (by decide) | exact K (by kernel_rfl)) only [E, EE, ↓reduceIte, simprocAttr, fieldAddrV, u_25, i_25, is_25, ib_25, iz_25, u_3, i_3, is_3, ib_3, iz_3, h1, h2]
      replace hF := cond_some hF
      rcases hF with ⟨h3, hF⟩ | ⟨h3, hF⟩
      · cases hF
        simp (maxSteps := 999999) (disch := first | exact D (by decide) | exact K (by kernel_rfl)) only [E, EE, ↓reduceIte, simprocAttr, fieldAddrV, u_25, i_25, is_25, ib_25, iz_25, u_3, i_3, is_3, ib_3, iz_3, u_23, i_23, is_23, ib_23, iz_23, xk B12 [2, 2, 2, 2] .rt rfl, finK_norm, finK_ret, fin12, R12_ai10rz.st, h1, h2, h3]
      · cases hF
        simp (maxSteps := 999999) (disch := first | exact D (by decide) | exact K (by kernel_rfl)) only [E, EE, ↓reduceIte, simprocAttr, xk B12 [2, 2, 2, 2] .rt rfl, finK_norm, finK_ret, fin12, R12_ai10rz.st, h1, h2, h3]
    · cases hF
      simp (maxSteps := 999999) (disch := first | exact D (by decide) | exact K (by kernel_rfl)) only [E, EE, ↓reduceIte, simprocAttr, xk B12 [2, 2, 2, 2] .rt rfl, finK_norm, finK_ret, fin12, R12_ai10rz.st, h1, h2]
  · cases hF
    simp (maxSteps := 999999) (disch := first | exact D (by decide) | exact K (by kernel_rfl)) only [E, EE, ↓reduceIte, simprocAttr, xk B12 [2, 2, 2, 2] .rt rfl, finK_norm, finK_ret, fin12, R12_ai10rz.st, h1]
noncomputable def f12_ai10rz_j1 (k : Nat) (x45 : Bool) (m1 m1_1 m1_2 m1_3 m1_4 m1_5 m1_6 m1_7 m1_8 m1_9 : Int) (m1_10 : List Int) : Option R12_ai10rz :=
  cond ((decide (m1_5 < 1)))
    (some (R12_ai10rz.o0 false))
    (
      cond ((decide (m1_5 > 16)))
        (some (R12_ai10rz.o0 false))
        (
          cond ((decide (m1_6 < 0)))
            (some (R12_ai10rz.o0 false))
            (
              cond ((decide (m1_6 > m1_5)))
                (some (R12_ai10rz.o0 false))
                (
                  cond ((decide (m1_7 < 0)))
                    (some (R12_ai10rz.o0 false))
                    (
                      cond ((decide (m1_7 > 2)))
                        (some (R12_ai10rz.o0 false))
                        (
                          cond ((decide (m1_9 < 1)))
                            (some (R12_ai10rz.o0 false))
                            (
                              cond ((decide (m1_9 > 400)))
                                (some (R12_ai10rz.o0 false))
                                (f12_ai10rz_j2 k false m1 m1_1 m1_2 m1_3 m1_4 m1_5 m1_6 m1_7 m1_8 m1_9 m1_10))))))))
theorem f12_ai10rz_j1_ok (k : Nat) (x45 : Bool) (m1 m1_1 m1_2 m1_3 m1_4 m1_5 m1_6 m1_7 m1_8 m1_9 : Int) (m1_10 : List Int) (r : R12_ai10rz) (hF : f12_ai10rz_j1 k x45 m1 m1_1 m1_2 m1_3 m1_4 m1_5 m1_6 m1_7 m1_8 m1_9 m1_10 = some r) : finK Try.prog Try.f12 0 (EX 12 k (nav B12 [2, 2]) ({ n := 114, F := [(1, V.ptr 1 0), (45, V.p (Value.bool x45))], M := [(1, O.box 25 [V.p (Value.int .i64 m1), V.p (Value.int .i64 m1_1), V.p (Value.int .u32 m1_2), V.p (Value.int .i64 m1_3), V.p (Value.int .i64 m1_4), V.p (Value.int .i64 m1_5), V.p (Value.int .i64 m1_6), V.p (Value.int .i64 m1_7), V.p (Value.int .i64 m1_8), V.p (Value.int .i64 m1_9), V.sl 1 (rowsOf (encI .u8) m1_10)])] } : St)) = some r.st := by
  unfold f12_ai10rz_j1 at hF
  simp (maxSteps := 999999) (disch := first | exact D (by decide) | exact K (by kernel_rfl)) only [E, EE, ↓reduceIte, simprocAttr, xk B12 [2, 2] .sq rfl, xk B12 [1, 2, 2] .sq rfl, show (nav B12 [1, 1, 2, 2]) = Code.region 3 _ false from rfl, hk_12_3, hz_12_3, hs_12_3, fieldAddrV, u_25, i_25, is_25, ib_25, iz_25, u_3, i_3, is_3, ib_3, iz_3]
  replace hF := cond_some hF
  rcases hF with ⟨h1, hF⟩ | ⟨h1, hF⟩
  · cases hF
    simp (maxSteps := 999999) (disch := first | exact D (by decide) | exact K (by kernel_rfl)) only [E, EE, ↓reduceIte, simprocAttr, xk B12 [2, 1, 2, 2] (.cd 85) rfl, xk B12 [2, 2, 1, 2, 2] .sq rfl, show (nav B12 [1, 2, 2, 1, 2, 2]) = Code.region 4 _ false from rfl, hk_12_4, hz_12_4, hs_12_4, xk B12 [2, 2, 2, 1, 2, 2] .rt rfl, finK_norm, finK_ret, fin12, R12_ai10rz.st, h1]
  · simp (maxSteps := 999999) (disch := first | exact D (by decide) | exact K (by kernel_rfl)) only [E, EE, ↓reduceIte, simprocAttr, fieldAddrV, u_25, i_25, is_25, ib_25, iz_25, u_3, i_3, is_3, ib_3, iz_3, h1]
    replace hF := cond_some hF
    rcases hF with ⟨h2, hF⟩ | ⟨h2, hF⟩
    · cases hF
      simp (maxSteps := 999999) (disch := first | exact D (by decide) | exact K (by kernel_rfl)) only [E, EE, ↓reduceIte, simprocAttr, xk B12 [2, 1, 2, 2] (.cd 85) rfl, xk B12 [2, 2, 1, 2, 2] .sq rfl, show (nav B12 [1, 2, 2, 1, 2, 2]) = Code.region 4 _ false from rfl, hk_12_4, hz_12_4, hs_12_4, xk B12 [2, 2, 2, 1, 2, 2] .rt rfl, finK_norm, finK_ret, fin12, R12_ai10rz.st, h1, h2]
    · simp (maxSteps := 999999) (disch := first | exact D (by decide) | exact K (by kernel_rfl)) only [E, EE, ↓reduceIte, simprocAttr, fieldAddrV, u_25, i_25, is_25, ib_25, iz_25, u_3, i_3, is_3, ib_3, iz_3, h1, h2]
      replace hF := cond_some hF
      rcases hF with ⟨h3, hF⟩ | ⟨h3, hF⟩
      · cases hF
        simp (maxSteps := 999999) (disch := first | exact D (by decide) | exact K (by kernel_rfl)) only [E, EE, ↓reduceIte, simprocAttr, xk B12 [2, 1, 2, 2] (.cd 85) rfl, xk B12 [2, 2, 1, 2, 2] .sq rfl, show (nav B12 [1, 2, 2, 1, 2, 2]) = Code.region 4 _ false from rfl, hk_12_4, hz_12_4, hs_12_4, xk B12 [2, 2, 2, 1, 2, 2] .rt rfl, finK_norm, finK_ret, fin12, R12_ai10rz.st, h1, h2, h3]
      · simp (maxSteps := 999999) (disch := first | exact D (by decide) | exact K (by kernel_rfl)) only [E, EE, ↓reduceIte, simprocAttr, fieldAddrV, u_25, i_25, is_25, ib_25, iz_25, u_3, i_3, is_3, ib_3, iz_3, h1, h2, h3]
        replace hF := cond_some hF
        rcases hF with ⟨h4, hF⟩ | ⟨h4, hF⟩
        · cases hF
          simp (maxSteps := 999999) (disch := first | exact D (by decide) | exact K (by kernel_rfl)) only [E, EE, ↓reduceIte, simprocAttr, xk B12 [2, 1, 2, 2] (.cd 85) rfl, xk B12 [2, 2, 1, 2, 2] .sq rfl, show (nav B12 [1, 2, 2, 1, 2, 2]) = Code.region 4 _ false from rfl, hk_12_4, hz_12_4, hs_12_4, xk B12 [2, 2, 2, 1, 2, 2] .rt rfl, finK_norm, finK_ret, fin12, R12_ai10rz.st, h1, h2, h3, h4]
        · simp (maxSteps := 999999) (disch := first | exact D (by decide) | exact K (by kernel_rfl)) only [E, EE, ↓reduceIte, simprocAttr, fieldAddrV, u_25, i_25, is_25, ib_25, iz_25, u_3, i_3, is_3, ib_3, iz_3, h1, h2, h3, h4]
          replace hF := cond_some hF
          rcases hF with ⟨h5, hF⟩ | ⟨h5, hF⟩
          · cases hF
            simp (maxSteps := 999999) (disch := first | exact D (by decide) | exact K (by kernel_rfl)) only [E, EE, ↓reduceIte, simprocAttr, xk B12 [2, 1, 2, 2] (.cd 85) rfl, xk B12 [2, 2, 1, 2, 2] .sq rfl, show (nav B12 [1, 2, 2, 1, 2, 2]) = Code.region 4 _ false from rfl, hk_12_4, hz_12_4, hs_12_4, xk B12 [2, 2, 2, 1, 2, 2] .rt rfl, finK_norm, finK_ret, fin12, R12_ai10rz.st, h1, h2, h3, h4, h5]
          · simp (maxSteps := 999999) (disch := first | exact D (by decide) | exact K (by kernel_rfl)) only [E, EE, ↓reduceIte, simprocAttr, fieldAddrV, u_25, i_25, is_25, ib_25, iz_25, u_3, i_3, is_3, ib_3, iz_3, h1, h2, h3, h4, h5]
            replace hF := cond_some hF
            rcases hF with ⟨h6, hF⟩ | ⟨h6, hF⟩
            · cases hF
              simp (maxSteps := 999999) (disch := first | exact D (by decide) | exact K (by kernel_rfl)) only [E, EE, ↓reduceIte, simprocAttr, xk B12 [2, 1, 2, 2] (.cd 85) rfl, xk B12 [2, 2, 1, 2, 2] .sq rfl, show (nav B12 [1, 2, 2, 1, 2, 2]) = Code.region 4 _ false from rfl, hk_12_4, hz_12_4, hs_12_4, xk B12 [2, 2, 2, 1, 2, 2] .rt rfl, finK_norm, finK_ret, fin12, R12_ai10rz.st, h1, h2, h3, h4, h5, h6]
            · simp (maxSteps := 999999) (disch := first | exact D (by decide) | exact K (by kernel_rfl)) only [E, EE, ↓reduceIte, simprocAttr, fieldAddrV, u_25, i_25, is_25, ib_25, iz_25, u_3, i_3, is_3, ib_3, iz_3, h1, h2, h3, h4, h5, h6]
              replace hF := cond_some hF
              rcases hF with ⟨h7, hF⟩ | ⟨h7, hF⟩
              · cases hF
                simp (maxSteps := 999999) (disch := first | exact D (by decide) | exact K (by kernel_rfl)) only [E, EE, ↓reduceIte, simprocAttr, xk B12 [2, 1, 2, 2] (.cd 85) rfl, xk B12 [2, 2, 1, 2, 2] .sq rfl, show (nav B12 [1, 2, 2, 1, 2, 2]) = Code.region 4 _ false from rfl, hk_12_4, hz_12_4, hs_12_4, xk B12 [2, 2, 2, 1, 2, 2] .rt rfl, finK_norm, finK_ret, fin12, R12_ai10rz.st, h1, h2, h3, h4, h5, h6, h7]
              · simp (maxSteps := 999999) (disch := first | exact D (by decide) | exact K (by kernel_rfl)) only [E, EE, ↓reduceIte, simprocAttr, fieldAddrV, u_25, i_25, is_25, ib_25, iz_25, u_3, i_3, is_3, ib_3, iz_3, xk B12 [2, 1, 2, 2] (.cd 85) rfl, h1, h2, h3, h4, h5, h6, h7]
                replace hF := cond_some hF
                rcases hF with ⟨h8, hF⟩ | ⟨h8, hF⟩
                · cases hF
                  simp (maxSteps := 999999) (disch := first | exact D (by decide) | exact K (by kernel_rfl)) only [E, EE, ↓reduceIte, simprocAttr, xk B12 [2, 2, 1, 2, 2] .sq rfl, show (nav B12 [1, 2, 2, 1, 2, 2]) = Code.region 4 _ false from rfl, hk_12_4, hz_12_4, hs_12_4, xk B12 [2, 2, 2, 1, 2, 2] .rt rfl, finK_norm, finK_ret, fin12, R12_ai10rz.st, h1, h2, h3, h4, h5, h6, h7, h8]
                · have hJ := f12_ai10rz_j2_ok k false m1 m1_1 m1_2 m1_3 m1_4 m1_5 m1_6 m1_7 m1_8 m1_9 m1_10 _ hF
                  simp (maxSteps := 999999) (disch := first | exact D (by decide) | exact K (by kernel_rfl)) only [E, EE, ↓reduceIte, simprocAttr, xk B12 [3, 2, 1, 2, 2] .sk rfl, h1, h2, h3, h4, h5, h6, h7, h8]
                  try simp only [NM, EE] at hJ
                  exact hJ
noncomputable def f12_ai10rz_e (k : Nat) (a0 a0_1 a0_2 a0_3 a0_4 a0_5 a0_6 a0_7 a0_8 a0_9 : Int) (a0_10 : List Int) : Option R12_ai10rz :=
  cond ((decide (a0 < 1)))
    (some (R12_ai10rz.o0 false))
    (
      cond ((decide (a0 > 6)))
        (some (R12_ai10rz.o0 false))
        (
          cond ((decide (a0_1 < 1)))
            (some (R12_ai10rz.o0 false))
            (
              cond ((decide (a0_1 > 6)))
                (some (R12_ai10rz.o0 false))
                (
                  cond ((a0_2 == 0))
                    (some (R12_ai10rz.o0 false))
                    (
                      cond ((decide (a0_3 < 0)))
                        (some (R12_ai10rz.o0 false))
                        (
                          cond ((decide (a0_3 > 1048576)))
                            (some (R12_ai10rz.o0 false))
                            (
                              cond ((decide (a0_4 < 1)))
                                (some (R12_ai10rz.o0 false))
                                (
                                  cond ((decide (a0_4 > 1048576)))
                                    (some (R12_ai10rz.o0 false))
                                    (f12_ai10rz_j1 k false a0 a0_1 a0_2 a0_3 a0_4 a0_5 a0_6 a0_7 a0_8 a0_9 a0_10)))))))))
theorem f12_ai10rz_e_ok (k : Nat) (a0 a0_1 a0_2 a0_3 a0_4 a0_5 a0_6 a0_7 a0_8 a0_9 : Int) (a0_10 : List Int) (r : R12_ai10rz) (hF : f12_ai10rz_e k a0 a0_1 a0_2 a0_3 a0_4 a0_5 a0_6 a0_7 a0_8 a0_9 a0_10 = some r) : finK Try.prog Try.f12 0 (EX 12 k (nav B12 []) ({ n := 114, F := [(0, V.agg [V.p (Value.int .i64 a0), V.p (Value.int .i64 a0_1), V.p (Value.int .u32 a0_2), V.p (Value.int .i64 a0_3), V.p (Value.int .i64 a0_4), V.p (Value.int .i64 a0_5), V.p (Value.int .i64 a0_6), V.p (Value.int .i64 a0_7), V.p (Value.int .i64 a0_8), V.p (Value.int .i64 a0_9), V.sl 1 (rowsOf (encI .u8) a0_10)])], M := [] } : St)) = some r.st := by
  unfold f12_ai10rz_e at hF
  simp (maxSteps := 999999) (disch := first | exact D (by decide) | exact K (by kernel_rfl)) only [E, EE, ↓reduceIte, simprocAttr, xk B12 [] .sq rfl, show (nav B12 [1]) = Code.region 0 _ false from rfl, hk_12_0, hz_12_0, hs_12_0, xk B12 [2] .sq rfl, xk B12 [1, 2] .sq rfl, show (nav B12 [1, 1, 2]) = Code.region 1 _ false from rfl, hk_12_1, hz_12_1, hs_12_1, fieldAddrV, u_25, i_25, is_25, ib_25, iz_25, u_3, i_3, is_3, ib_3, iz_3]
  replace hF := cond_some hF
  rcases hF with ⟨h1, hF⟩ | ⟨h1, hF⟩
  · cases hF
    simp (maxSteps := 999999) (disch := first | exact D (by decide) | exact K (by kernel_rfl)) only [E, EE, ↓reduceIte, simprocAttr, xk B12 [2, 1, 2] (.cd 45) rfl, xk B12 [2, 2, 1, 2] .sq rfl, show (nav B12 [1, 2, 2, 1, 2]) = Code.region 2 _ false from rfl, hk_12_2, hz_12_2, hs_12_2, xk B12 [2, 2, 2, 1, 2] .rt rfl, finK_norm, finK_ret, fin12, R12_ai10rz.st, h1]
  · simp (maxSteps := 999999) (disch := first | exact D (by decide) | exact K (by kernel_rfl)) only [E, EE, ↓reduceIte, simprocAttr, fieldAddrV, u_25, i_25, is_25, ib_25, iz_25, u_3, i_3, is_3, ib_3, iz_3, h1]
    replace hF := cond_some hF
    rcases hF with ⟨h2, hF⟩ | ⟨h2, hF⟩
    · cases hF
      simp (maxSteps := 999999) (disch := first | exact D (by decide) | exact K (by kernel_rfl)) only [E, EE, ↓reduceIte, simprocAttr, xk B12 [2, 1, 2] (.cd 45) rfl, xk B12 [2, 2, 1, 2] .sq rfl, show (nav B12 [1, 2, 2, 1, 2]) = Code.region 2 _ false from rfl, hk_12_2, hz_12_2, hs_12_2, xk B12 [2, 2, 2, 1, 2] .rt rfl, finK_norm, finK_ret, fin12, R12_ai10rz.st, h1, h2]
    · simp (maxSteps := 999999) (disch := first | exact D (by decide) | exact K (by kernel_rfl)) only [E, EE, ↓reduceIte, simprocAttr, fieldAddrV, u_25, i_25, is_25, ib_25, iz_25, u_3, i_3, is_3, ib_3, iz_3, h1, h2]
      replace hF := cond_some hF
      rcases hF with ⟨h3, hF⟩ | ⟨h3, hF⟩
      · cases hF
        simp (maxSteps := 999999) (disch := first | exact D (by decide) | exact K (by kernel_rfl)) only [E, EE, ↓reduceIte, simprocAttr, xk B12 [2, 1, 2] (.cd 45) rfl, xk B12 [2, 2, 1, 2] .sq rfl, show (nav B12 [1, 2, 2, 1, 2]) = Code.region 2 _ false from rfl, hk_12_2, hz_12_2, hs_12_2, xk B12 [2, 2, 2, 1, 2] .rt rfl, finK_norm, finK_ret, fin12, R12_ai10rz.st, h1, h2, h3]
      · simp (maxSteps := 999999) (disch := first | exact D (by decide) | exact K (by kernel_rfl)) only [E, EE, ↓reduceIte, simprocAttr, fieldAddrV, u_25, i_25, is_25, ib_25, iz_25, u_3, i_3, is_3, ib_3, iz_3, h1, h2, h3]
        replace hF := cond_some hF
        rcases hF with ⟨h4, hF⟩ | ⟨h4, hF⟩
        · cases hF
          simp (maxSteps := 999999) (disch := first | exact D (by decide) | exact K (by kernel_rfl)) only [E, EE, ↓reduceIte, simprocAttr, xk B12 [2, 1, 2] (.cd 45) rfl, xk B12 [2, 2, 1, 2] .sq rfl, show (nav B12 [1, 2, 2, 1, 2]) = Code.region 2 _ false from rfl, hk_12_2, hz_12_2, hs_12_2, xk B12 [2, 2, 2, 1, 2] .rt rfl, finK_norm, finK_ret, fin12, R12_ai10rz.st, h1, h2, h3, h4]
        · simp (maxSteps := 999999) (disch := first | exact D (by decide) | exact K (by kernel_rfl)) only [E, EE, ↓reduceIte, simprocAttr, fieldAddrV, u_25, i_25, is_25, ib_25, iz_25, u_22, i_22, is_22, ib_22, iz_22, h1, h2, h3, h4]
          replace hF := cond_some hF
          rcases hF with ⟨h5, hF⟩ | ⟨h5, hF⟩
          · cases hF
            simp (maxSteps := 999999) (disch := first | exact D (by decide) | exact K (by kernel_rfl)) only [E, EE, ↓reduceIte, simprocAttr, xk B12 [2, 1, 2] (.cd 45) rfl, xk B12 [2, 2, 1, 2] .sq rfl, show (nav B12 [1, 2, 2, 1, 2]) = Code.region 2 _ false from rfl, hk_12_2, hz_12_2, hs_12_2, xk B12 [2, 2, 2, 1, 2] .rt rfl, finK_norm, finK_ret, fin12, R12_ai10rz.st, h1, h2, h3, h4, h5]
          · simp (maxSteps := 999999) (disch := first | exact D (by decide) | exact K (by kernel_rfl)) only [E, EE, ↓reduceIte, simprocAttr, fieldAddrV, u_25, i_25, is_25, ib_25, iz_25, u_3, i_3, is_3, ib_3, iz_3, h1, h2, h3, h4, h5]
            replace hF := cond_some hF
            rcases hF with ⟨h6, hF⟩ | ⟨h6, hF⟩
            · cases hF
              simp (maxSteps := 999999) (disch := first | exact D (by decide) | exact K (by kernel_rfl)) only [E, EE, ↓reduceIte, simprocAttr, xk B12 [2, 1, 2] (.cd 45) rfl, xk B12 [2, 2, 1, 2] .sq rfl, show (nav B12 [1, 2, 2, 1, 2]) = Code.region 2 _ false from rfl, hk_12_2, hz_12_2, hs_12_2, xk B12 [2, 2, 2, 1, 2] .rt rfl, finK_norm, finK_ret, fin12, R12_ai10rz.st, h1, h2, h3, h4, h5, h6]
            · simp (maxSteps := 999999) (disch := first | exact D (by decide) | exact K (by kernel_rfl)) only [E, EE, ↓reduceIte, simprocAttr, fieldAddrV, u_25, i_25, is_25, ib_25, iz_25, u_3, i_3, is_3, ib_3, iz_3, h1, h2, h3, h4, h5, h6]
              replace hF := cond_some hF
              rcases hF with ⟨h7, hF⟩ | ⟨h7, hF⟩
              · cases hF
                simp (maxSteps := 999999) (disch := first | exact D (by decide) | exact K (by kernel_rfl)) only [E, EE, ↓reduceIte, simprocAttr, xk B12 [2, 1, 2] (.cd 45) rfl, xk B12 [2, 2, 1, 2] .sq rfl, show (nav B12 [1, 2, 2, 1, 2]) = Code.region 2 _ false from rfl, hk_12_2, hz_12_2, hs_12_2, xk B12 [2, 2, 2, 1, 2] .rt rfl, finK_norm, finK_ret, fin12, R12_ai10rz.st, h1, h2, h3, h4, h5, h6, h7]
              · simp (maxSteps := 999999) (disch := first | exact D (by decide) | exact K (by kernel_rfl)) only [E, EE, ↓reduceIte, simprocAttr, fieldAddrV, u_25, i_25, is_25, ib_25, iz_25, u_3, i_3, is_3, ib_3, iz_3, h1, h2, h3, h4, h5, h6, h7]
                replace hF := cond_some hF
                rcases hF with ⟨h8, hF⟩ | ⟨h8, hF⟩
                · cases hF
                  simp (maxSteps := 999999) (disch := first | exact D (by decide) | exact K (by kernel_rfl)) only [E, EE, ↓reduceIte, simprocAttr, xk B12 [2, 1, 2] (.cd 45) rfl, xk B12 [2, 2, 1, 2] .sq rfl, show (nav B12 [1, 2, 2, 1, 2]) = Code.region 2 _ false from rfl, hk_12_2, hz_12_2, hs_12_2, xk B12 [2, 2, 2, 1, 2] .rt rfl, finK_norm, finK_ret, fin12, R12_ai10rz.st, h1, h2, h3, h4, h5, h6, h7, h8]
                · simp (maxSteps := 999999) (disch := first | exact D (by decide) | exact K (by kernel_rfl)) only [E, EE, ↓reduceIte, simprocAttr, fieldAddrV, u_25, i_25, is_25, ib_25, iz_25, u_3, i_3, is_3, ib_3, iz_3, xk B12 [2, 1, 2] (.cd 45) rfl, h1, h2, h3, h4, h5, h6, h7, h8]
                  replace hF := cond_some hF
                  rcases hF with ⟨h9, hF⟩ | ⟨h9, hF⟩
                  · cases hF
                    simp (maxSteps := 999999) (disch := first | exact D (by decide) | exact K (by kernel_rfl)) only [E, EE, ↓reduceIte, simprocAttr, xk B12 [2, 2, 1, 2] .sq rfl, show (nav B12 [1, 2, 2, 1, 2]) = Code.region 2 _ false from rfl, hk_12_2, hz_12_2, hs_12_2, xk B12 [2, 2, 2, 1, 2] .rt rfl, finK_norm, finK_ret, fin12, R12_ai10rz.st, h1, h2, h3, h4, h5, h6, h7, h8, h9]
                  · have hJ := f12_ai10rz_j1_ok k false a0 a0_1 a0_2 a0_3 a0_4 a0_5 a0_6 a0_7 a0_8 a0_9 a0_10 _ hF
                    simp (maxSteps := 999999) (disch := first | exact D (by decide) | exact K (by kernel_rfl)) only [E, EE, ↓reduceIte, simprocAttr, xk B12 [3, 2, 1, 2] .sk rfl, h1, h2, h3, h4, h5, h6, h7, h8, h9]
                    try simp only [NM, EE] at hJ
                    exact hJ
noncomputable def f12_ai10rz (k : Nat) (a0 a0_1 a0_2 a0_3 a0_4 a0_5 a0_6 a0_7 a0_8 a0_9 : Int) (a0_10 : List Int) : Option R12_ai10rz := match k with | 0 => none | k + 1 => f12_ai10rz_e k a0 a0_1 a0_2 a0_3 a0_4 a0_5 a0_6 a0_7 a0_8 a0_9 a0_10
theorem f12_ai10rz_ok (k : Nat) (a0 a0_1 a0_2 a0_3 a0_4 a0_5 a0_6 a0_7 a0_8 a0_9 : Int) (a0_10 : List Int) (r : R12_ai10rz) (hF : f12_ai10rz k a0 a0_1 a0_2 a0_3 a0_4 a0_5 a0_6 a0_7 a0_8 a0_9 a0_10 = some r) : CV k 12 [V.agg [V.p (Value.int .i64 a0), V.p (Value.int .i64 a0_1), V.p (Value.int .u32 a0_2), V.p (Value.int .i64 a0_3), V.p (Value.int .i64 a0_4), V.p (Value.int .i64 a0_5), V.p (Value.int .i64 a0_6), V.p (Value.int .i64 a0_7), V.p (Value.int .i64 a0_8), V.p (Value.int .i64 a0_9), V.sl 1 (rowsOf (encI .u8) a0_10)]] [] = some r.st := by
  cases k with
  | zero => cases hF
  | succ k =>
    unfold CV
    rw [ev_call (F := Try.f12) (c := (nav B12 [])) rfl Try.func12 rfl rfl rfl rfl]
    exact f12_ai10rz_e_ok k a0 a0_1 a0_2 a0_3 a0_4 a0_5 a0_6 a0_7 a0_8 a0_9 a0_10 r hF
-- f29_rr: f29 heliograph/heliographref01.Same
inductive R29_rr where
  | o0 (y : Bool)
noncomputable def R29_rr.st : R29_rr → V × List O × List O
  | .o0 y => (V.p (Value.bool y), [], [])
inductive R29_rr_l2 where
  | o0 (y : Bool)
  | o1 (y y_1 : List Int) (y_2 : Int)
  | o2 (y y_1 : List Int) (y_2 : Int) (y_3 : Bool)
noncomputable def R29_rr_l2.st : R29_rr_l2 → Out × St
  | .o0 y => (.ret, ({ n := 26, F := [(4, V.p (Value.bool y))], M := [] } : St))
  | .o1 y y_1 y_2 => (.norm, ({ n := 26, F := [(0, V.sl 1 (rowsOf (encI .u8) y)), (1, V.sl 1 (rowsOf (encI .u8) y_1)), (5, V.p (Value.int .i64 y_2))], M := [] } : St))
  | .o2 y y_1 y_2 y_3 => (.exit 0, ({ n := 26, F := [(0, V.sl 1 (rowsOf (encI .u8) y)), (1, V.sl 1 (rowsOf (encI .u8) y_1)), (5, V.p (Value.int .i64 y_2)), (14, V.p (Value.bool y_3))], M := [] } : St))
noncomputable def f29_rr_l2_j2 (k : Nat) (x0 x1 : List Int) (x5 : Int) (x25 : Bool) : Option R29_rr_l2 :=
  some (R29_rr_l2.o1 x0 x1 (IntKind.i64.wrap (x5 + (1 : Int))))
theorem f29_rr_l2_j2_ok (k : Nat) (x0 x1 : List Int) (x5 : Int) (x25 : Bool) (r : R29_rr_l2) (hF : f29_rr_l2_j2 k x0 x1 x5 x25 = some r) : EX 29 k (nav B29 [2, 2, 1, 2, 2, 1, 2, 2]) ({ n := 26, F := [(0, V.sl 1 (rowsOf (encI .u8) x0)), (1, V.sl 1 (rowsOf (encI .u8) x1)), (5, V.p (Value.int .i64 x5)), (25, V.p (Value.bool x25))], M := [] } : St) = some r.st := by
  unfold f29_rr_l2_j2 at hF
  cases hF
  simp (maxSteps := 999999) (disch := first | exact D (by decide) | exact K (by kernel_rfl)) only [E, EE, ↓reduceIte, simprocAttr, show (nav B29 [2, 2, 1, 2, 2, 1, 2, 2]) = Code.region 5 _ false from rfl, hk_29_5, hz_29_5, hs_29_5, R29_rr_l2.st]
noncomputable def f29_rr_l2_j1 (k : Nat) (x0 x1 : List Int) (x5 : Int) (x14 : Bool) : Option R29_rr_l2 :=
  ifE ((0 : Int) ≤ x5) (
    Option.bind (x0[(Int.toNat x5)]?) fun v2 =>
      Option.bind (x1[(Int.toNat x5)]?) fun v4 =>
        cond ((v2 != v4))
          (some (R29_rr_l2.o0 false))
          (f29_rr_l2_j2 k x0 x1 x5 false))
theorem f29_rr_l2_j1_ok (k : Nat) (x0 x1 : List Int) (x5 : Int) (x14 : Bool) (r : R29_rr_l2) (hF : f29_rr_l2_j1 k x0 x1 x5 x14 = some r) : EX 29 k (nav B29 [2, 1, 2, 2, 1, 2, 2]) ({ n := 26, F := [(0, V.sl 1 (rowsOf (encI .u8) x0)), (1, V.sl 1 (rowsOf (encI .u8) x1)), (5, V.p (Value.int .i64 x5)), (14, V.p (Value.bool x14))], M := [] } : St) = some r.st := by
  unfold f29_rr_l2_j1 at hF
  replace hF := ifE_some.1 hF
  obtain ⟨h1, hF⟩ := hF
  replace hF := Option.bind_eq_some_iff.1 hF
  obtain ⟨v2, h3, hF⟩ := hF
  replace hF := Option.bind_eq_some_iff.1 hF
  obtain ⟨v4, h5, hF⟩ := hF
  simp (maxSteps := 999999) (disch := first | exact D (by decide) | exact K (by kernel_rfl)) only [E, EE, ↓reduceIte, simprocAttr, xk B29 [2, 1, 2, 2, 1, 2, 2] .sq rfl, xk B29 [1, 2, 1, 2, 2, 1, 2, 2] (.bk 1) rfl, xk B29 [2, 1, 2, 1, 2, 2, 1, 2, 2] .sq rfl, show (nav B29 [1, 2, 1, 2, 1, 2, 2, 1, 2, 2]) = Code.region 6 _ true from rfl, hk_29_6, hz_29_6, hs_29_6, indexAddrV, u_23, i_23, is_23, ib_23, iz_23, u_5, i_5, is_5, ib_5, iz_5, encI_eq, xk B29 [2, 2, 1, 2, 1, 2, 2, 1, 2, 2] (.cd 25) rfl, h1, h3, h5]
  replace hF := cond_some hF
  rcases hF with ⟨h6, hF⟩ | ⟨h6, hF⟩
  · cases hF
    simp (maxSteps := 999999) (disch := first | exact D (by decide) | exact K (by kernel_rfl)) only [E, EE, ↓reduceIte, simprocAttr, xk B29 [2, 2, 2, 1, 2, 1, 2, 2, 1, 2, 2] .sq rfl, show (nav B29 [1, 2, 2, 2, 1, 2, 1, 2, 2, 1, 2, 2]) = Code.region 7 _ false from rfl, hk_29_7, hz_29_7, hs_29_7, xk B29 [2, 2, 2, 2, 1, 2, 1, 2, 2, 1, 2, 2] .rt rfl, R29_rr_l2.st, h1, h3, h5, h6]
  · have hJ := f29_rr_l2_j2_ok k x0 x1 x5 false _ hF
    simp (maxSteps := 999999) (disch := first | exact D (by decide) | exact K (by kernel_rfl)) only [E, EE, ↓reduceIte, simprocAttr, xk B29 [3, 2, 2, 1, 2, 1, 2, 2, 1, 2, 2] .sk rfl, h1, h3, h5, h6]
    try simp only [NM, EE] at hJ
    exact hJ
noncomputable def f29_rr_l2_b (k : Nat) (x0 x1 : List Int) (x5 : Int) : Option R29_rr_l2 :=
  cond ((decide (x5 < ((List.length x0) : Int))))
    (f29_rr_l2_j1 k x0 x1 x5 true)
    (some (R29_rr_l2.o2 x0 x1 x5 false))
theorem f29_rr_l2_b_ok (k : Nat) (x0 x1 : List Int) (x5 : Int) (r : R29_rr_l2) (hF : f29_rr_l2_b k x0 x1 x5 = some r) : EX 29 k (nav B29 [1, 2, 2, 1, 2, 2]) ({ n := 26, F := [(0, V.sl 1 (rowsOf (encI .u8) x0)), (1, V.sl 1 (rowsOf (encI .u8) x1)), (5, V.p (Value.int .i64 x5))], M := [] } : St) = some r.st := by
  unfold f29_rr_l2_b at hF
  simp (maxSteps := 999999) (disch := first | exact D (by decide) | exact K (by kernel_rfl)) only [E, EE, ↓reduceIte, simprocAttr, xk B29 [1, 2, 2, 1, 2, 2] .sq rfl, xk B29 [1, 1, 2, 2, 1, 2, 2] .sq rfl, show (nav B29 [1, 1, 1, 2, 2, 1, 2, 2]) = Code.region 4 _ false from rfl, hk_29_4, hz_29_4, hs_29_4, u_23, i_23, is_23, ib_23, iz_23, xk B29 [2, 1, 1, 2, 2, 1, 2, 2] (.cd 14) rfl]
  replace hF := cond_some hF
  rcases hF with ⟨h1, hF⟩ | ⟨h1, hF⟩
  · have hJ := f29_rr_l2_j1_ok k x0 x1 x5 true _ hF
    simp (maxSteps := 999999) (disch := first | exact D (by decide) | exact K (by kernel_rfl)) only [E, EE, ↓reduceIte, simprocAttr, xk B29 [2, 2, 1, 1, 2, 2, 1, 2, 2] .sk rfl, h1]
    try simp only [NM, EE] at hJ
    exact hJ
  · cases hF
    simp (maxSteps := 999999) (disch := first | exact D (by decide) | exact K (by kernel_rfl)) only [E, EE, ↓reduceIte, simprocAttr, xk B29 [3, 2, 1, 1, 2, 2, 1, 2, 2] (.ex 0) rfl, R29_rr_l2.st, h1]
noncomputable def f29_rr_l2 (k : Nat) : Nat → (List Int) → (List Int) → Int → Option R29_rr_l2
  | 0, _, _, _ => none
  | n + 1, x0, x1, x5 => Option.bind (f29_rr_l2_b k x0 x1 x5) fun o =>
    match o with
    | .o0 y => some (.o0 y)
    | .o1 y y_1 y_2 => f29_rr_l2 k n y y_1 y_2
    | .o2 y y_1 y_2 y_3 => some (.o2 y y_1 y_2 y_3)
theorem f29_rr_l2_ok (k n : Nat) : ∀ (x0 x1 : List Int) (x5 : Int) (r : R29_rr_l2) (hF : f29_rr_l2 k n x0 x1 x5 = some r) (σ : St) (hσ : headR (hints.head 29 4) (hints.canon 29 4) σ = some ({ n := 26, F := [(0, V.sl 1 (rowsOf (encI .u8) x0)), (1, V.sl 1 (rowsOf (encI .u8) x1)), (5, V.p (Value.int .i64 x5))], M := [] } : St)), LP 29 k (nav B29 [1, 2, 2, 1, 2, 2]) n σ = some r.st := by
  induction n with
  | zero => intro x0 x1 x5 r hF; cases hF
  | succ n ih =>
    intro x0 x1 x5 r hF σ hσ
    rw [f29_rr_l2] at hF
    obtain ⟨o, h, hF⟩ := Option.bind_eq_some_iff.1 hF
    have hB := f29_rr_l2_b_ok k x0 x1 x5 o h
    unfold LP at ih ⊢
    unfold EX at hB
    rw [loopK_succ, show firstReg (nav B29 [1, 2, 2, 1, 2, 2]) = 4 from rfl, hσ, headK_some, hB]
    cases o with
    | o0 y => cases hF; rfl
    | o1 y y_1 y_2 =>
      refine ih y y_1 y_2 r hF _ ?_
      simp (maxSteps := 999999) (disch := first | exact D (by decide) | exact K (by kernel_rfl)) only [E, EE, ↓reduceIte, simprocAttr, hh_29_4, hc_29_4]
    | o2 y y_1 y_2 y_3 => cases hF; rfl
noncomputable def f29_rr_j3 (k : Nat) (x0 x1 : List Int) (x5 : Int) (x14 : Bool) : Option R29_rr :=
  some (R29_rr.o0 true)
theorem f29_rr_j3_ok (k : Nat) (x0 x1 : List Int) (x5 : Int) (x14 : Bool) (r : R29_rr) (hF : f29_rr_j3 k x0 x1 x5 x14 = some r) : finK Try.prog Try.f29 0 (EX 29 k (nav B29 [2, 2, 2]) ({ n := 26, F := [(0, V.sl 1 (rowsOf (encI .u8) x0)), (1, V.sl 1 (rowsOf (encI .u8) x1)), (5, V.p (Value.int .i64 x5)), (14, V.p (Value.bool x14))], M := [] } : St)) = some r.st := by
  unfold f29_rr_j3 at hF
  cases hF
  simp (maxSteps := 999999) (disch := first | exact D (by decide) | exact K (by kernel_rfl)) only [E, EE, ↓reduceIte, simprocAttr, xk B29 [2, 2, 2] .sq rfl, show (nav B29 [1, 2, 2, 2]) = Code.region 8 _ false from rfl, hk_29_8, hz_29_8, hs_29_8, xk B29 [2, 2, 2, 2] .rt rfl, finK_norm, finK_ret, fin29, R29_rr.st]
noncomputable def f29_rr_j1 (k : Nat) (x0 x1 : List Int) (x10 : Bool) : Option R29_rr :=
  Option.bind (f29_rr_l2 k k x0 x1 0) fun o1 =>
    match o1 with
    | .o0 v4 =>
      some (R29_rr.o0 v4)
    | .o1 _ _ _ =>
      none
    | .o2 v5 v6 v7 v8 =>
      f29_rr_j3 k v5 v6 v7 v8
theorem f29_rr_j1_ok (k : Nat) (x0 x1 : List Int) (x10 : Bool) (r : R29_rr) (hF : f29_rr_j1 k x0 x1 x10 = some r) : finK Try.prog Try.f29 0 (EX 29 k (nav B29 [2, 2]) ({ n := 26, F := [(0, V.sl 1 (rowsOf (encI .u8) x0)), (1, V.sl 1 (rowsOf (encI .u8) x1)), (10, V.p (Value.bool x10))], M := [] } : St)) = some r.st := by
  unfold f29_rr_j1 at hF
  replace hF := Option.bind_eq_some_iff.1 hF
  obtain ⟨o1, h2, hF⟩ := hF
  have hc3 := f29_rr_l2_ok k k x0 x1 0 _ h2
  simp (maxSteps := 999999) (disch := first | exact D (by decide) | exact K (by kernel_rfl)) only [E, EE, ↓reduceIte, simprocAttr, xk B29 [2, 2] .sq rfl, xk B29 [1, 2, 2] .sq rfl, show (nav B29 [1, 1, 2, 2]) = Code.region 3 _ false from rfl, hk_29_3, hz_29_3, hs_29_3, xk B29 [2, 1, 2, 2] (.bk 0) rfl, xk B29 [2, 2, 1, 2, 2] .lp rfl, hh_29_4, hc_29_4]
  (try simp only [NM, EE] at hc3)
  rw [hc3 _ (by simp (maxSteps := 999999) (disch := first | exact D (by decide) | exact K (by kernel_rfl)) only [E, EE, ↓reduceIte, simprocAttr, hh_29_4, hc_29_4])]
  clear hc3
  cases o1 with
  | o0 v4 =>
    (try dsimp only at hF)
    cases hF
    simp (maxSteps := 999999) (disch := first | exact D (by decide) | exact K (by kernel_rfl)) only [E, EE, ↓reduceIte, simprocAttr, R29_rr_l2.st, finK_norm, finK_ret, fin29, R29_rr.st]
  | o1 _ _ _ =>
    (try dsimp only at hF)
    cases hF
  | o2 v5 v6 v7 v8 =>
    (try dsimp only at hF)
    have hJ := f29_rr_j3_ok k v5 v6 v7 v8 _ hF
    simp (maxSteps := 999999) (disch := first | exact D (by decide) | exact K (by kernel_rfl)) only [E, EE, ↓reduceIte, simprocAttr, R29_rr_l2.st]
    try simp only [NM, EE] at hJ
    exact hJ
noncomputable def f29_rr_e (k : Nat) (a0 a1 : List Int) : Option R29_rr :=
  cond ((((List.length a0) : Int) != ((List.length a1) : Int)))
    (some (R29_rr.o0 false))
    (f29_rr_j1 k a0 a1 false)
theorem f29_rr_e_ok (k : Nat) (a0 a1 : List Int) (r : R29_rr) (hF : f29_rr_e k a0 a1 = some r) : finK Try.prog Try.f29 0 (EX 29 k (nav B29 []) ({ n := 26, F := [(0, V.sl 1 (rowsOf (encI .u8) a0)), (1, V.sl 1 (rowsOf (encI .u8) a1))], M := [] } : St)) = some r.st := by
  unfold f29_rr_e at hF
  simp (maxSteps := 999999) (disch := first | exact D (by decide) | exact K (by kernel_rfl)) only [E, EE, ↓reduceIte, simprocAttr, xk B29 [] .sq rfl, show (nav B29 [1]) = Code.region 0 _ false from rfl, hk_29_0, hz_29_0, hs_29_0, xk B29 [2] .sq rfl, xk B29 [1, 2] .sq rfl, show (nav B29 [1, 1, 2]) = Code.region 1 _ false from rfl, hk_29_1, hz_29_1, hs_29_1, u_23, i_23, is_23, ib_23, iz_23, xk B29 [2, 1, 2] (.cd 10) rfl]
  replace hF := cond_some hF
  rcases hF with ⟨h1, hF⟩ | ⟨h1, hF⟩
  · cases hF
    simp (maxSteps := 999999) (disch := first | exact D (by decide) | exact K (by kernel_rfl)) only [E, EE, ↓reduceIte, simprocAttr, xk B29 [2, 2, 1, 2] .sq rfl, show (nav B29 [1, 2, 2, 1, 2]) = Code.region 2 _ false from rfl, hk_29_2, hz_29_2, hs_29_2, xk B29 [2, 2, 2, 1, 2] .rt rfl, finK_norm, finK_ret, fin29, R29_rr.st, h1]
  · have hJ := f29_rr_j1_ok k a0 a1 false _ hF
    simp (maxSteps := 999999) (disch := first | exact D (by decide) | exact K (by kernel_rfl)) only [E, EE, ↓reduceIte, simprocAttr, xk B29 [3, 2, 1, 2] .sk rfl, h1]
    try simp only [NM, EE] at hJ
    exact hJ
noncomputable def f29_rr (k : Nat) (a0 a1 : List Int) : Option R29_rr := match k with | 0 => none | k + 1 => f29_rr_e k a0 a1
theorem f29_rr_ok (k : Nat) (a0 a1 : List Int) (r : R29_rr) (hF : f29_rr k a0 a1 = some r) : CV k 29 [V.sl 1 (rowsOf (encI .u8) a0), V.sl 1 (rowsOf (encI .u8) a1)] [] = some r.st := by
  cases k with
  | zero => cases hF
  | succ k =>
    unfold CV
    rw [ev_call (F := Try.f29) (c := (nav B29 [])) rfl Try.func29 rfl rfl rfl rfl]
    exact f29_rr_e_ok k a0 a1 r hF
-- f15_ai10rzai10rz: f15 heliograph/heliographref09.Same
inductive R15_ai10rzai10rz where
  | o0 (y : Bool)
noncomputable def R15_ai10rzai10rz.st : R15_ai10rzai10rz → V × List O × List O
  | .o0 y => (V.p (Value.bool y), [], [])
noncomputable def f15_ai10rzai10rz_e (k : Nat) (a0 a0_1 a0_2 a0_3 a0_4 a0_5 a0_6 a0_7 a0_8 a0_9 : Int) (a0_10 : List Int) (a1 a1_1 a1_2 a1_3 a1_4 a1_5 a1_6 a1_7 a1_8 a1_9 : Int) (a1_10 : List Int) : Option R15_ai10rzai10rz :=
  cond ((a0 == a1))
    (
      cond ((a0_1 == a1_1))
        (
          cond ((a0_2 == a1_2))
            (
              cond ((a0_3 == a1_3))
                (
                  cond ((a0_4 == a1_4))
                    (
                      cond ((a0_5 == a1_5))
                        (
                          cond ((a0_6 == a1_6))
                            (
                              cond ((a0_7 == a1_7))
                                (
                                  cond ((a0_8 == a1_8))
                                    (
                                      cond ((a0_9 == a1_9))
                                        (
                                          Option.bind (f29_rr k a0_10 a1_10) fun o11 =>
                                            match o11 with
                                            | .o0 v14 =>
                                              some (R15_ai10rzai10rz.o0 v14))
                                        (some (R15_ai10rzai10rz.o0 false)))
                                    (some (R15_ai10rzai10rz.o0 false)))
                                (some (R15_ai10rzai10rz.o0 false)))
                            (some (R15_ai10rzai10rz.o0 false)))
                        (some (R15_ai10rzai10rz.o0 false)))
                    (some (R15_ai10rzai10rz.o0 false)))
                (some (R15_ai10rzai10rz.o0 false)))
            (some (R15_ai10rzai10rz.o0 false)))
        (some (R15_ai10rzai10rz.o0 false)))
    (some (R15_ai10rzai10rz.o0 false))
theorem f15_ai10rzai10rz_e_ok (k : Nat) (a0 a0_1 a0_2 a0_3 a0_4 a0_5 a0_6 a0_7 a0_8 a0_9 : Int) (a0_10 : List Int) (a1 a1_1 a1_2 a1_3 a1_4 a1_5 a1_6 a1_7 a1_8 a1_9 : Int) (a1_10 : List Int) (r : R15_ai10rzai10rz) (hF : f15_ai10rzai10rz_e k a0 a0_1 a0_2 a0_3 a0_4 a0_5 a0_6 a0_7 a0_8 a0_9 a0_10 a1 a1_1 a1_2 a1_3 a1_4 a1_5 a1_6 a1_7 a1_8 a1_9 a1_10 = some r) : finK Try.prog Try.f15 0 (EX 15 k (nav B15 []) ({ n := 80, F := [(0, V.agg [V.p (Value.int .i64 a0), V.p (Value.int .i64 a0_1), V.p (Value.int .u32 a0_2), V.p (Value.int .i64 a0_3), V.p (Value.int .i64 a0_4), V.p (Value.int .i64 a0_5), V.p (Value.int .i64 a0_6), V.p (Value.int .i64 a0_7), V.p (Value.int .i64 a0_8), V.p (Value.int .i64 a0_9), V.sl 1 (rowsOf (encI .u8) a0_10)]), (1, V.agg [V.p (Value.int .i64 a1), V.p (Value.int .i64 a1_1), V.p (Value.int .u32 a1_2), V.p (Value.int .i64 a1_3), V.p (Value.int .i64 a1_4), V.p (Value.int .i64 a1_5), V.p (Value.int .i64 a1_6), V.p (Value.int .i64 a1_7), V.p (Value.int .i64 a1_8), V.p (Value.int .i64 a1_9), V.sl 1 (rowsOf (encI .u8) a1_10)])], M := [] } : St)) = some r.st := by
  unfold f15_ai10rzai10rz_e at hF
  simp (maxSteps := 999999) (disch := first | exact D (by decide) | exact K (by kernel_rfl)) only [E, EE, ↓reduceIte, simprocAttr, xk B15 [] .sq rfl, show (nav B15 [1]) = Code.region 0 _ false from rfl, hk_15_0, hz_15_0, hs_15_0, xk B15 [2] .sq rfl, show (nav B15 [1, 2]) = Code.region 1 _ false from rfl, hk_15_1, hz_15_1, hs_15_1, fieldAddrV, u_25, i_25, is_25, ib_25, iz_25, u_3, i_3, is_3, ib_3, iz_3]
  replace hF := cond_some hF
  rcases hF with ⟨h1, hF⟩ | ⟨h1, hF⟩
  · simp (maxSteps := 999999) (disch := first | exact D (by decide) | exact K (by kernel_rfl)) only [E, EE, ↓reduceIte, simprocAttr, fieldAddrV, u_25, i_25, is_25, ib_25, iz_25, u_3, i_3, is_3, ib_3, iz_3, h1]
    replace hF := cond_some hF
    rcases hF with ⟨h2, hF⟩ | ⟨h2, hF⟩
    · simp (maxSteps := 999999) (disch := first | exact D (by decide) | exact K (by kernel_rfl)) only [E, EE, ↓reduceIte, simprocAttr, fieldAddrV, u_25, i_25, is_25, ib_25, iz_25, u_22, i_22, is_22, ib_22, iz_22, h1, h2]
      replace hF := cond_some hF
      rcases hF with ⟨h3, hF⟩ | ⟨h3, hF⟩
      · simp (maxSteps := 999999) (disch := first | exact D (by decide) | exact K (by kernel_rfl)) only [E, EE, ↓reduceIte, simprocAttr, fieldAddrV, u_25, i_25, is_25, ib_25, iz_25, u_3, i_3, is_3, ib_3, iz_3, h1, h2, h3]
        replace hF := cond_some hF
        rcases hF with ⟨h4, hF⟩ | ⟨h4, hF⟩
        · simp (maxSteps := 999999) (disch := first | exact D (by decide) | exact K (by kernel_rfl)) only [E, EE, ↓reduceIte, simprocAttr, fieldAddrV, u_25, i_25, is_25, ib_25, iz_25, u_3, i_3, is_3, ib_3, iz_3, h1, h2, h3, h4]
          replace hF := cond_some hF
          rcases hF with ⟨h5, hF⟩ | ⟨h5, hF⟩
          · simp (maxSteps := 999999) (disch := first | exact D (by decide) | exact K (by kernel_rfl)) only [E, EE, ↓reduceIte, simprocAttr, fieldAddrV, u_25, i_25, is_25, ib_25, iz_25, u_3, i_3, is_3, ib_3, iz_3, h1, h2, h3, h4, h5]
            replace hF := cond_some hF
            rcases hF with ⟨h6, hF⟩ | ⟨h6, hF⟩
            · simp (maxSteps := 999999) (disch := first | exact D (by decide) | exact K (by kernel_rfl)) only [E, EE, ↓reduceIte, simprocAttr, fieldAddrV, u_25, i_25, is_25, ib_25, iz_25, u_3, i_3, is_3, ib_3, iz_3, h1, h2, h3, h4, h5, h6]
              replace hF := cond_some hF
              rcases hF with ⟨h7, hF⟩ | ⟨h7, hF⟩
              · simp (maxSteps := 999999) (disch := first | exact D (by decide) | exact K (by kernel_rfl)) only [E, EE, ↓reduceIte, simprocAttr, fieldAddrV, u_25, i_25, is_25, ib_25, iz_25, u_3, i_3, is_3, ib_3, iz_3, h1, h2, h3, h4, h5, h6, h7]
                replace hF := cond_some hF
                rcases hF with ⟨h8, hF⟩ | ⟨h8, hF⟩
                · simp (maxSteps := 999999) (disch := first | exact D (by decide) | exact K (by kernel_rfl)) only [E, EE, ↓reduceIte, simprocAttr, fieldAddrV, u_25, i_25, is_25, ib_25, iz_25, u_3, i_3, is_3, ib_3, iz_3, h1, h2, h3, h4, h5, h6, h7, h8]
                  replace hF := cond_some hF
                  rcases hF with ⟨h9, hF⟩ | ⟨h9, hF⟩
                  · simp (maxSteps := 999999) (disch := first | exact D (by decide) | exact K (by kernel_rfl)) only [E, EE, ↓reduceIte, simprocAttr, fieldAddrV, u_25, i_25, is_25, ib_25, iz_25, u_3, i_3, is_3, ib_3, iz_3, h1, h2, h3, h4, h5, h6, h7, h8, h9]
                    replace hF := cond_some hF
                    rcases hF with ⟨h10, hF⟩ | ⟨h10, hF⟩
                    · replace hF := Option.bind_eq_some_iff.1 hF
                      obtain ⟨o11, h12, hF⟩ := hF
                      have hc13 := f29_rr_ok k a0_10 a1_10 _ h12
                      cases o11 with
                      | o0 v14 =>
                        (try dsimp only at hF)
                        (try simp only [NM, EE, R29_rr.st] at hc13)
                        cases hF
                        simp (maxSteps := 999999) (disch := first | exact D (by decide) | exact K (by kernel_rfl)) only [E, EE, ↓reduceIte, simprocAttr, fieldAddrV, u_25, i_25, is_25, ib_25, iz_25, u_23, i_23, is_23, ib_23, iz_23, callStep, CL, gv, List.contains, xk B15 [2, 2] .rt rfl, finK_norm, finK_ret, fin15, R15_ai10rzai10rz.st, h1, h2, h3, h4, h5, h6, h7, h8, h9, h10, hc13]
                    · cases hF
                      simp (maxSteps := 999999) (disch := first | exact D (by decide) | exact K (by kernel_rfl)) only [E, EE, ↓reduceIte, simprocAttr, xk B15 [2, 2] .rt rfl, finK_norm, finK_ret, fin15, R15_ai10rzai10rz.st, h1, h2, h3, h4, h5, h6, h7, h8, h9, h10]
                  · cases hF
                    simp (maxSteps := 999999) (disch := first | exact D (by decide) | exact K (by kernel_rfl)) only [E, EE, ↓reduceIte, simprocAttr, xk B15 [2, 2] .rt rfl, finK_norm, finK_ret, fin15, R15_ai10rzai10rz.st, h1, h2, h3, h4, h5, h6, h7, h8, h9]
                · cases hF
                  simp (maxSteps := 999999) (disch := first | exact D (by decide) | exact K (by kernel_rfl)) only [E, EE, ↓reduceIte, simprocAttr, xk B15 [2, 2] .rt rfl, finK_norm, finK_ret, fin15, R15_ai10rzai10rz.st, h1, h2, h3, h4, h5, h6, h7, h8]
              · cases hF
                simp (maxSteps := 999999) (disch := first | exact D (by decide) | exact K (by kernel_rfl)) only [E, EE, ↓reduceIte, simprocAttr, xk B15 [2, 2] .rt rfl, finK_norm, finK_ret, fin15, R15_ai10rzai10rz.st, h1, h2, h3, h4, h5, h6, h7]
            · cases hF
              simp (maxSteps := 999999) (disch := first | exact D (by decide) | exact K (by kernel_rfl)) only [E, EE, ↓reduceIte, simprocAttr, xk B15 [2, 2] .rt rfl, finK_norm, finK_ret, fin15, R15_ai10rzai10rz.st, h1, h2, h3, h4, h5, h6]
          · cases hF
            simp (maxSteps := 999999) (disch := first | exact D (by decide) | exact K (by kernel_rfl)) only [E, EE, ↓reduceIte, simprocAttr, xk B15 [2, 2] .rt rfl, finK_norm, finK_ret, fin15, R15_ai10rzai10rz.st, h1, h2, h3, h4, h5]
        · cases hF
          simp (maxSteps := 999999) (disch := first | exact D (by decide) | exact K (by kernel_rfl)) only [E, EE, ↓reduceIte, simprocAttr, xk B15 [2, 2] .rt rfl, finK_norm, finK_ret, fin15, R15_ai10rzai10rz.st, h1, h2, h3, h4]
      · cases hF
        simp (maxSteps := 999999) (disch := first | exact D (by decide) | exact K (by kernel_rfl)) only [E, EE, ↓reduceIte, simprocAttr, xk B15 [2, 2] .rt rfl, finK_norm, finK_ret, fin15, R15_ai10rzai10rz.st, h1, h2, h3]
    · cases hF
      simp (maxSteps := 999999) (disch := first | exact D (by decide) | exact K (by kernel_rfl)) only [E, EE, ↓reduceIte, simprocAttr, xk B15 [2, 2] .rt rfl, finK_norm, finK_ret, fin15, R15_ai10rzai10rz.st, h1, h2]
  · cases hF
    simp (maxSteps := 999999) (disch := first | exact D (by decide) | exact K (by kernel_rfl)) only [E, EE, ↓reduceIte, simprocAttr, xk B15 [2, 2] .rt rfl, finK_norm, finK_ret, fin15, R15_ai10rzai10rz.st, h1]
noncomputable def f15_ai10rzai10rz (k : Nat) (a0 a0_1 a0_2 a0_3 a0_4 a0_5 a0_6 a0_7 a0_8 a0_9 : Int) (a0_10 : List Int) (a1 a1_1 a1_2 a1_3 a1_4 a1_5 a1_6 a1_7 a1_8 a1_9 : Int) (a1_10 : List Int) : Option R15_ai10rzai10rz := match k with | 0 => none | k + 1 => f15_ai10rzai10rz_e k a0 a0_1 a0_2 a0_3 a0_4 a0_5 a0_6 a0_7 a0_8 a0_9 a0_10 a1 a1_1 a1_2 a1_3 a1_4 a1_5 a1_6 a1_7 a1_8 a1_9 a1_10
theorem f15_ai10rzai10rz_ok (k : Nat) (a0 a0_1 a0_2 a0_3 a0_4 a0_5 a0_6 a0_7 a0_8 a0_9 : Int) (a0_10 : List Int) (a1 a1_1 a1_2 a1_3 a1_4 a1_5 a1_6 a1_7 a1_8 a1_9 : Int) (a1_10 : List Int) (r : R15_ai10rzai10rz) (hF : f15_ai10rzai10rz k a0 a0_1 a0_2 a0_3 a0_4 a0_5 a0_6 a0_7 a0_8 a0_9 a0_10 a1 a1_1 a1_2 a1_3 a1_4 a1_5 a1_6 a1_7 a1_8 a1_9 a1_10 = some r) : CV k 15 [V.agg [V.p (Value.int .i64 a0), V.p (Value.int .i64 a0_1), V.p (Value.int .u32 a0_2), V.p (Value.int .i64 a0_3), V.p (Value.int .i64 a0_4), V.p (Value.int .i64 a0_5), V.p (Value.int .i64 a0_6), V.p (Value.int .i64 a0_7), V.p (Value.int .i64 a0_8), V.p (Value.int .i64 a0_9), V.sl 1 (rowsOf (encI .u8) a0_10)], V.agg [V.p (Value.int .i64 a1), V.p (Value.int .i64 a1_1), V.p (Value.int .u32 a1_2), V.p (Value.int .i64 a1_3), V.p (Value.int .i64 a1_4), V.p (Value.int .i64 a1_5), V.p (Value.int .i64 a1_6), V.p (Value.int .i64 a1_7), V.p (Value.int .i64 a1_8), V.p (Value.int .i64 a1_9), V.sl 1 (rowsOf (encI .u8) a1_10)]] [] = some r.st := by
  cases k with
  | zero => cases hF
  | succ k =>
    unfold CV
    rw [ev_call (F := Try.f15) (c := (nav B15 [])) rfl Try.func15 rfl rfl rfl rfl]
    exact f15_ai10rzai10rz_e_ok k a0 a0_1 a0_2 a0_3 a0_4 a0_5 a0_6 a0_7 a0_8 a0_9 a0_10 a1 a1_1 a1_2 a1_3 a1_4 a1_5 a1_6 a1_7 a1_8 a1_9 a1_10 r hF
end Go.Proofs.YteggcokgkcfliaaV
