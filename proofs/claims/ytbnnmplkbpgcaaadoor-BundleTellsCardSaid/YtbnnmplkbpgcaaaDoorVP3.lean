/- What the program's functions answer: plain functions, and that the interpreter answers what they do. Written by a program of this session, out of the translation. -/
import Derived.Test.YtbnnmplkbpgcaaaDoorVP2
namespace Go.Proofs.YtbnnmplkbpgcaaaDoorV
open Go
set_option linter.unusedVariables false
set_option linter.unusedSimpArgs false
set_option maxRecDepth 8000
set_option maxHeartbeats 4000000
-- f8_ai10rzai10rzi: f8 heliograph/heliographlaw09.BundleTells
inductive R8_ai10rzai10rzi where
  | o0 (y : Bool)
noncomputable def R8_ai10rzai10rzi.st : R8_ai10rzai10rzi → V × List O × List O
  | .o0 y => (V.p (Value.bool y), [], [])
noncomputable def f8_ai10rzai10rzi_j4 (k : Nat) (x2 : Int) (x51 : Bool) (m3 m3_1 m3_2 m3_3 m3_4 m3_5 m3_6 m3_7 m3_8 m3_9 : Int) (m3_10 : List Int) : Option R8_ai10rzai10rzi :=
  Option.bind (f24_ai10rzi k m3 m3_1 m3_2 m3_3 m3_4 m3_5 m3_6 m3_7 m3_8 m3_9 m3_10 x2) fun o1 =>
    match o1 with
    | .o0 v4 =>
      Option.bind (f15_ai10rz k m3 m3_1 m3_2 m3_3 m3_4 m3_5 m3_6 m3_7 m3_8 m3_9 m3_10) fun o5 =>
        match o5 with
        | .o0 v8 =>
          cond (v8)
            (some (R8_ai10rzai10rzi.o0 (v4 == (decide (x2 ≥ (IntKind.i64.wrap (m3_3 + m3_4)))))))
            (some (R8_ai10rzai10rzi.o0 (v4 == false)))
theorem f8_ai10rzai10rzi_j4_ok (k : Nat) (x2 : Int) (x51 : Bool) (m3 m3_1 m3_2 m3_3 m3_4 m3_5 m3_6 m3_7 m3_8 m3_9 : Int) (m3_10 : List Int) (r : R8_ai10rzai10rzi) (hF : f8_ai10rzai10rzi_j4 k x2 x51 m3 m3_1 m3_2 m3_3 m3_4 m3_5 m3_6 m3_7 m3_8 m3_9 m3_10 = some r) : finK Tryd.prog Tryd.f8 0 (EX 8 k (nav B8 [2, 2, 2, 2, 2]) ({ n := 67, F := [(2, V.p (Value.int .i64 x2)), (3, V.ptr 3 0), (51, V.p (Value.bool x51))], M := [(3, O.box 26 [V.p (Value.int .i64 m3), V.p (Value.int .i64 m3_1), V.p (Value.int .u32 m3_2), V.p (Value.int .i64 m3_3), V.p (Value.int .i64 m3_4), V.p (Value.int .i64 m3_5), V.p (Value.int .i64 m3_6), V.p (Value.int .i64 m3_7), V.p (Value.int .i64 m3_8), V.p (Value.int .i64 m3_9), V.sl 1 (rowsOf (encI .u8) m3_10)])] } : St)) = some r.st := by
  unfold f8_ai10rzai10rzi_j4 at hF
  replace hF := Option.bind_eq_some_iff.1 hF
  obtain ⟨o1, h2, hF⟩ := hF
  have hc3 := f24_ai10rzi_ok k m3 m3_1 m3_2 m3_3 m3_4 m3_5 m3_6 m3_7 m3_8 m3_9 m3_10 x2 _ h2
  cases o1 with
  | o0 v4 =>
    (try dsimp only at hF)
    (try simp only [NM, EE, R24_ai10rzi.st] at hc3)
    replace hF := Option.bind_eq_some_iff.1 hF
    obtain ⟨o5, h6, hF⟩ := hF
    have hc7 := f15_ai10rz_ok k m3 m3_1 m3_2 m3_3 m3_4 m3_5 m3_6 m3_7 m3_8 m3_9 m3_10 _ h6
    cases o5 with
    | o0 v8 =>
      (try dsimp only at hF)
      (try simp only [NM, EE, R15_ai10rz.st] at hc7)
      simp (maxSteps := 999999) (disch := first | exact D (by decide) | exact K (by kernel_rfl)) only [E, EE, ↓reduceIte, simprocAttr, xk B8 [2, 2, 2, 2, 2] .sq rfl, show (nav B8 [1, 2, 2, 2, 2, 2]) = Code.region 9 _ true from rfl, hk_8_9, hz_8_9, hs_8_9, u_26, i_26, is_26, ib_26, iz_26, callStep, CL, gv, List.contains, hc3, hc7]
      replace hF := cond_some hF
      rcases hF with ⟨h9, hF⟩ | ⟨h9, hF⟩
      · cases hF
        simp (maxSteps := 999999) (disch := first | exact D (by decide) | exact K (by kernel_rfl)) only [E, EE, ↓reduceIte, simprocAttr, fieldAddrV, u_26, i_26, is_26, ib_26, iz_26, u_3, i_3, is_3, ib_3, iz_3, u_4, i_4, is_4, ib_4, iz_4, xk B8 [2, 2, 2, 2, 2, 2] .rt rfl, finK_norm, finK_ret, fin8, R8_ai10rzai10rzi.st, hc3, hc7, h9]
      · cases hF
        simp (maxSteps := 999999) (disch := first | exact D (by decide) | exact K (by kernel_rfl)) only [E, EE, ↓reduceIte, simprocAttr, u_4, i_4, is_4, ib_4, iz_4, xk B8 [2, 2, 2, 2, 2, 2] .rt rfl, finK_norm, finK_ret, fin8, R8_ai10rzai10rzi.st, hc3, hc7, h9]
noncomputable def f8_ai10rzai10rzi_j3 (k : Nat) (x2 : Int) (x32 : Bool) (m3 m3_1 m3_2 m3_3 m3_4 m3_5 m3_6 m3_7 m3_8 m3_9 : Int) (m3_10 : List Int) : Option R8_ai10rzai10rzi :=
  Option.bind (f22_ai10rz k m3 m3_1 m3_2 m3_3 m3_4 m3_5 m3_6 m3_7 m3_8 m3_9 m3_10) fun o1 =>
    match o1 with
    | .o0 v4 v5 =>
      cond ((!((v4 == m3) && (v5 == m3_2))))
        (some (R8_ai10rzai10rzi.o0 false))
        (
          Option.bind (f23_ai10rz k m3 m3_1 m3_2 m3_3 m3_4 m3_5 m3_6 m3_7 m3_8 m3_9 m3_10) fun o7 =>
            match o7 with
            | .o0 v10 =>
              cond ((!(v10 == (((List.length m3_10) : Int) == m3_9))))
                (some (R8_ai10rzai10rzi.o0 false))
                (f8_ai10rzai10rzi_j4 k x2 false m3 m3_1 m3_2 m3_3 m3_4 m3_5 m3_6 m3_7 m3_8 m3_9 m3_10))
theorem f8_ai10rzai10rzi_j3_ok (k : Nat) (x2 : Int) (x32 : Bool) (m3 m3_1 m3_2 m3_3 m3_4 m3_5 m3_6 m3_7 m3_8 m3_9 : Int) (m3_10 : List Int) (r : R8_ai10rzai10rzi) (hF : f8_ai10rzai10rzi_j3 k x2 x32 m3 m3_1 m3_2 m3_3 m3_4 m3_5 m3_6 m3_7 m3_8 m3_9 m3_10 = some r) : finK Tryd.prog Tryd.f8 0 (EX 8 k (nav B8 [2, 2, 2, 2]) ({ n := 67, F := [(2, V.p (Value.int .i64 x2)), (3, V.ptr 3 0), (32, V.p (Value.bool x32))], M := [(3, O.box 26 [V.p (Value.int .i64 m3), V.p (Value.int .i64 m3_1), V.p (Value.int .u32 m3_2), V.p (Value.int .i64 m3_3), V.p (Value.int .i64 m3_4), V.p (Value.int .i64 m3_5), V.p (Value.int .i64 m3_6), V.p (Value.int .i64 m3_7), V.p (Value.int .i64 m3_8), V.p (Value.int .i64 m3_9), V.sl 1 (rowsOf (encI .u8) m3_10)])] } : St)) = some r.st := by
  unfold f8_ai10rzai10rzi_j3 at hF
  replace hF := Option.bind_eq_some_iff.1 hF
  obtain ⟨o1, h2, hF⟩ := hF
  have hc3 := f22_ai10rz_ok k m3 m3_1 m3_2 m3_3 m3_4 m3_5 m3_6 m3_7 m3_8 m3_9 m3_10 _ h2
  cases o1 with
  | o0 v4 v5 =>
    (try dsimp only at hF)
    (try simp only [NM, EE, R22_ai10rz.st] at hc3)
    simp (maxSteps := 999999) (disch := first | exact D (by decide) | exact K (by kernel_rfl)) only [E, EE, ↓reduceIte, simprocAttr, xk B8 [2, 2, 2, 2] .sq rfl, xk B8 [1, 2, 2, 2, 2] .sq rfl, show (nav B8 [1, 1, 2, 2, 2, 2]) = Code.region 7 _ true from rfl, hk_8_7, hz_8_7, hs_8_7, u_26, i_26, is_26, ib_26, iz_26, callStep, CL, gv, List.contains, fieldAddrV, u_3, i_3, is_3, ib_3, iz_3, u_24, i_24, is_24, ib_24, iz_24, bl_43, u_43, i_43, is_43, ib_43, iz_43, ag_43, hc3]
    replace hF := cond_some hF
    rcases hF with ⟨h6, hF⟩ | ⟨h6, hF⟩
    · cases hF
      simp (maxSteps := 999999) (disch := first | exact D (by decide) | exact K (by kernel_rfl)) only [E, EE, ↓reduceIte, simprocAttr, xk B8 [2, 1, 2, 2, 2, 2] (.cd 51) rfl, xk B8 [2, 2, 1, 2, 2, 2, 2] .sq rfl, show (nav B8 [1, 2, 2, 1, 2, 2, 2, 2]) = Code.region 8 _ false from rfl, hk_8_8, hz_8_8, hs_8_8, xk B8 [2, 2, 2, 1, 2, 2, 2, 2] .rt rfl, finK_norm, finK_ret, fin8, R8_ai10rzai10rzi.st, hc3, h6]
    · replace hF := Option.bind_eq_some_iff.1 hF
      obtain ⟨o7, h8, hF⟩ := hF
      have hc9 := f23_ai10rz_ok k m3 m3_1 m3_2 m3_3 m3_4 m3_5 m3_6 m3_7 m3_8 m3_9 m3_10 _ h8
      cases o7 with
      | o0 v10 =>
        (try dsimp only at hF)
        (try simp only [NM, EE, R23_ai10rz.st] at hc9)
        simp (maxSteps := 999999) (disch := first | exact D (by decide) | exact K (by kernel_rfl)) only [E, EE, ↓reduceIte, simprocAttr, u_26, i_26, is_26, ib_26, iz_26, callStep, CL, gv, List.contains, fieldAddrV, u_22, i_22, is_22, ib_22, iz_22, u_3, i_3, is_3, ib_3, iz_3, u_4, i_4, is_4, ib_4, iz_4, xk B8 [2, 1, 2, 2, 2, 2] (.cd 51) rfl, hc3, h6, hc9]
        replace hF := cond_some hF
        rcases hF with ⟨h11, hF⟩ | ⟨h11, hF⟩
        · cases hF
          simp (maxSteps := 999999) (disch := first | exact D (by decide) | exact K (by kernel_rfl)) only [E, EE, ↓reduceIte, simprocAttr, xk B8 [2, 2, 1, 2, 2, 2, 2] .sq rfl, show (nav B8 [1, 2, 2, 1, 2, 2, 2, 2]) = Code.region 8 _ false from rfl, hk_8_8, hz_8_8, hs_8_8, xk B8 [2, 2, 2, 1, 2, 2, 2, 2] .rt rfl, finK_norm, finK_ret, fin8, R8_ai10rzai10rzi.st, hc3, h6, hc9, h11]
        · have hJ := f8_ai10rzai10rzi_j4_ok k x2 false m3 m3_1 m3_2 m3_3 m3_4 m3_5 m3_6 m3_7 m3_8 m3_9 m3_10 _ hF
          simp (maxSteps := 999999) (disch := first | exact D (by decide) | exact K (by kernel_rfl)) only [E, EE, ↓reduceIte, simprocAttr, xk B8 [3, 2, 1, 2, 2, 2, 2] .sk rfl, hc3, h6, hc9, h11]
          try simp only [NM, EE] at hJ
          exact hJ
noncomputable def f8_ai10rzai10rzi_j2 (k : Nat) (x2 : Int) (x18 : Bool) (m3 m3_1 m3_2 m3_3 m3_4 m3_5 m3_6 m3_7 m3_8 m3_9 : Int) (m3_10 : List Int) (m4 m4_1 m4_2 m4_3 m4_4 m4_5 m4_6 m4_7 m4_8 m4_9 : Int) (m4_10 : List Int) : Option R8_ai10rzai10rzi :=
  Option.bind (f20_ai10rzai10rz k m3 m3_1 m3_2 m3_3 m3_4 m3_5 m3_6 m3_7 m3_8 m3_9 m3_10 m4 m4_1 m4_2 m4_3 m4_4 m4_5 m4_6 m4_7 m4_8 m4_9 m4_10) fun o1 =>
    match o1 with
    | .o0 v4 =>
      Option.bind (f12_ai10rzai10rz k m3 m3_1 m3_2 m3_3 m3_4 m3_5 m3_6 m3_7 m3_8 m3_9 m3_10 m4 m4_1 m4_2 m4_3 m4_4 m4_5 m4_6 m4_7 m4_8 m4_9 m4_10) fun o5 =>
        match o5 with
        | .o0 v8 =>
          cond ((!(v4 == v8)))
            (some (R8_ai10rzai10rzi.o0 false))
            (
              Option.bind (f13_ai10rz k m3 m3_1 m3_2 m3_3 m3_4 m3_5 m3_6 m3_7 m3_8 m3_9 m3_10) fun o10 =>
                match o10 with
                | .o0 v13 v14 v15 v16 v17 v18 v19 v20 v21 v22 v23 =>
                  Option.bind (f20_ai10rzai10rz k m3 m3_1 m3_2 m3_3 m3_4 m3_5 m3_6 m3_7 m3_8 m3_9 m3_10 v13 v14 v15 v16 v17 v18 v19 v20 v21 v22 v23) fun o24 =>
                    match o24 with
                    | .o0 v27 =>
                      cond ((!v27))
                        (some (R8_ai10rzai10rzi.o0 false))
                        (f8_ai10rzai10rzi_j3 k x2 false m3 m3_1 m3_2 m3_3 m3_4 m3_5 m3_6 m3_7 m3_8 m3_9 m3_10))
theorem f8_ai10rzai10rzi_j2_ok (k : Nat) (x2 : Int) (x18 : Bool) (m3 m3_1 m3_2 m3_3 m3_4 m3_5 m3_6 m3_7 m3_8 m3_9 : Int) (m3_10 : List Int) (m4 m4_1 m4_2 m4_3 m4_4 m4_5 m4_6 m4_7 m4_8 m4_9 : Int) (m4_10 : List Int) (r : R8_ai10rzai10rzi) (hF : f8_ai10rzai10rzi_j2 k x2 x18 m3 m3_1 m3_2 m3_3 m3_4 m3_5 m3_6 m3_7 m3_8 m3_9 m3_10 m4 m4_1 m4_2 m4_3 m4_4 m4_5 m4_6 m4_7 m4_8 m4_9 m4_10 = some r) : finK Tryd.prog Tryd.f8 0 (EX 8 k (nav B8 [2, 2, 2]) ({ n := 67, F := [(2, V.p (Value.int .i64 x2)), (3, V.ptr 3 0), (4, V.ptr 4 0), (18, V.p (Value.bool x18))], M := [(3, O.box 26 [V.p (Value.int .i64 m3), V.p (Value.int .i64 m3_1), V.p (Value.int .u32 m3_2), V.p (Value.int .i64 m3_3), V.p (Value.int .i64 m3_4), V.p (Value.int .i64 m3_5), V.p (Value.int .i64 m3_6), V.p (Value.int .i64 m3_7), V.p (Value.int .i64 m3_8), V.p (Value.int .i64 m3_9), V.sl 1 (rowsOf (encI .u8) m3_10)]), (4, O.box 26 [V.p (Value.int .i64 m4), V.p (Value.int .i64 m4_1), V.p (Value.int .u32 m4_2), V.p (Value.int .i64 m4_3), V.p (Value.int .i64 m4_4), V.p (Value.int .i64 m4_5), V.p (Value.int .i64 m4_6), V.p (Value.int .i64 m4_7), V.p (Value.int .i64 m4_8), V.p (Value.int .i64 m4_9), V.sl 1 (rowsOf (encI .u8) m4_10)])] } : St)) = some r.st := by
  unfold f8_ai10rzai10rzi_j2 at hF
  replace hF := Option.bind_eq_some_iff.1 hF
  obtain ⟨o1, h2, hF⟩ := hF
  have hc3 := f20_ai10rzai10rz_ok k m3 m3_1 m3_2 m3_3 m3_4 m3_5 m3_6 m3_7 m3_8 m3_9 m3_10 m4 m4_1 m4_2 m4_3 m4_4 m4_5 m4_6 m4_7 m4_8 m4_9 m4_10 _ h2
  cases o1 with
  | o0 v4 =>
    (try dsimp only at hF)
    (try simp only [NM, EE, R20_ai10rzai10rz.st] at hc3)
    replace hF := Option.bind_eq_some_iff.1 hF
    obtain ⟨o5, h6, hF⟩ := hF
    have hc7 := f12_ai10rzai10rz_ok k m3 m3_1 m3_2 m3_3 m3_4 m3_5 m3_6 m3_7 m3_8 m3_9 m3_10 m4 m4_1 m4_2 m4_3 m4_4 m4_5 m4_6 m4_7 m4_8 m4_9 m4_10 _ h6
    cases o5 with
    | o0 v8 =>
      (try dsimp only at hF)
      (try simp only [NM, EE, R12_ai10rzai10rz.st] at hc7)
      simp (maxSteps := 999999) (disch := first | exact D (by decide) | exact K (by kernel_rfl)) only [E, EE, ↓reduceIte, simprocAttr, xk B8 [2, 2, 2] .sq rfl, xk B8 [1, 2, 2, 2] .sq rfl, show (nav B8 [1, 1, 2, 2, 2]) = Code.region 5 _ true from rfl, hk_8_5, hz_8_5, hs_8_5, u_26, i_26, is_26, ib_26, iz_26, callStep, CL, gv, List.contains, u_4, i_4, is_4, ib_4, iz_4, hc3, hc7]
      replace hF := cond_some hF
      rcases hF with ⟨h9, hF⟩ | ⟨h9, hF⟩
      · cases hF
        simp (maxSteps := 999999) (disch := first | exact D (by decide) | exact K (by kernel_rfl)) only [E, EE, ↓reduceIte, simprocAttr, xk B8 [2, 1, 2, 2, 2] (.cd 32) rfl, xk B8 [2, 2, 1, 2, 2, 2] .sq rfl, show (nav B8 [1, 2, 2, 1, 2, 2, 2]) = Code.region 6 _ false from rfl, hk_8_6, hz_8_6, hs_8_6, xk B8 [2, 2, 2, 1, 2, 2, 2] .rt rfl, finK_norm, finK_ret, fin8, R8_ai10rzai10rzi.st, hc3, hc7, h9]
      · replace hF := Option.bind_eq_some_iff.1 hF
        obtain ⟨o10, h11, hF⟩ := hF
        have hc12 := f13_ai10rz_ok k m3 m3_1 m3_2 m3_3 m3_4 m3_5 m3_6 m3_7 m3_8 m3_9 m3_10 _ h11
        cases o10 with
        | o0 v13 v14 v15 v16 v17 v18 v19 v20 v21 v22 v23 =>
          (try dsimp only at hF)
          (try simp only [NM, EE, R13_ai10rz.st] at hc12)
          replace hF := Option.bind_eq_some_iff.1 hF
          obtain ⟨o24, h25, hF⟩ := hF
          have hc26 := f20_ai10rzai10rz_ok k m3 m3_1 m3_2 m3_3 m3_4 m3_5 m3_6 m3_7 m3_8 m3_9 m3_10 v13 v14 v15 v16 v17 v18 v19 v20 v21 v22 v23 _ h25
          cases o24 with
          | o0 v27 =>
            (try dsimp only at hF)
            (try simp only [NM, EE, R20_ai10rzai10rz.st] at hc26)
            simp (maxSteps := 999999) (disch := first | exact D (by decide) | exact K (by kernel_rfl)) only [E, EE, ↓reduceIte, simprocAttr, u_26, i_26, is_26, ib_26, iz_26, callStep, CL, gv, List.contains, xk B8 [2, 1, 2, 2, 2] (.cd 32) rfl, hc3, hc7, h9, hc12, hc26]
            replace hF := cond_some hF
            rcases hF with ⟨h28, hF⟩ | ⟨h28, hF⟩
            · cases hF
              simp (maxSteps := 999999) (disch := first | exact D (by decide) | exact K (by kernel_rfl)) only [E, EE, ↓reduceIte, simprocAttr, xk B8 [2, 2, 1, 2, 2, 2] .sq rfl, show (nav B8 [1, 2, 2, 1, 2, 2, 2]) = Code.region 6 _ false from rfl, hk_8_6, hz_8_6, hs_8_6, xk B8 [2, 2, 2, 1, 2, 2, 2] .rt rfl, finK_norm, finK_ret, fin8, R8_ai10rzai10rzi.st, hc3, hc7, h9, hc12, hc26, h28]
            · have hJ := f8_ai10rzai10rzi_j3_ok k x2 false m3 m3_1 m3_2 m3_3 m3_4 m3_5 m3_6 m3_7 m3_8 m3_9 m3_10 _ hF
              simp (maxSteps := 999999) (disch := first | exact D (by decide) | exact K (by kernel_rfl)) only [E, EE, ↓reduceIte, simprocAttr, xk B8 [3, 2, 1, 2, 2, 2] .sk rfl, hc3, hc7, h9, hc12, hc26, h28]
              try simp only [NM, EE] at hJ
              exact hJ
noncomputable def f8_ai10rzai10rzi_j1 (k : Nat) (x2 : Int) (x8 : Bool) (m3 m3_1 m3_2 m3_3 m3_4 m3_5 m3_6 m3_7 m3_8 m3_9 : Int) (m3_10 : List Int) (m4 m4_1 m4_2 m4_3 m4_4 m4_5 m4_6 m4_7 m4_8 m4_9 : Int) (m4_10 : List Int) : Option R8_ai10rzai10rzi :=
  cond ((decide (((List.length m3_10) : Int) > 5000)))
    (some (R8_ai10rzai10rzi.o0 true))
    (
      cond ((decide (((List.length m4_10) : Int) > 5000)))
        (some (R8_ai10rzai10rzi.o0 true))
        (f8_ai10rzai10rzi_j2 k x2 false m3 m3_1 m3_2 m3_3 m3_4 m3_5 m3_6 m3_7 m3_8 m3_9 m3_10 m4 m4_1 m4_2 m4_3 m4_4 m4_5 m4_6 m4_7 m4_8 m4_9 m4_10))
theorem f8_ai10rzai10rzi_j1_ok (k : Nat) (x2 : Int) (x8 : Bool) (m3 m3_1 m3_2 m3_3 m3_4 m3_5 m3_6 m3_7 m3_8 m3_9 : Int) (m3_10 : List Int) (m4 m4_1 m4_2 m4_3 m4_4 m4_5 m4_6 m4_7 m4_8 m4_9 : Int) (m4_10 : List Int) (r : R8_ai10rzai10rzi) (hF : f8_ai10rzai10rzi_j1 k x2 x8 m3 m3_1 m3_2 m3_3 m3_4 m3_5 m3_6 m3_7 m3_8 m3_9 m3_10 m4 m4_1 m4_2 m4_3 m4_4 m4_5 m4_6 m4_7 m4_8 m4_9 m4_10 = some r) : finK Tryd.prog Tryd.f8 0 (EX 8 k (nav B8 [2, 2]) ({ n := 67, F := [(2, V.p (Value.int .i64 x2)), (3, V.ptr 3 0), (4, V.ptr 4 0), (8, V.p (Value.bool x8))], M := [(3, O.box 26 [V.p (Value.int .i64 m3), V.p (Value.int .i64 m3_1), V.p (Value.int .u32 m3_2), V.p (Value.int .i64 m3_3), V.p (Value.int .i64 m3_4), V.p (Value.int .i64 m3_5), V.p (Value.int .i64 m3_6), V.p (Value.int .i64 m3_7), V.p (Value.int .i64 m3_8), V.p (Value.int .i64 m3_9), V.sl 1 (rowsOf (encI .u8) m3_10)]), (4, O.box 26 [V.p (Value.int .i64 m4), V.p (Value.int .i64 m4_1), V.p (Value.int .u32 m4_2), V.p (Value.int .i64 m4_3), V.p (Value.int .i64 m4_4), V.p (Value.int .i64 m4_5), V.p (Value.int .i64 m4_6), V.p (Value.int .i64 m4_7), V.p (Value.int .i64 m4_8), V.p (Value.int .i64 m4_9), V.sl 1 (rowsOf (encI .u8) m4_10)])] } : St)) = some r.st := by
  unfold f8_ai10rzai10rzi_j1 at hF
  simp (maxSteps := 999999) (disch := first | exact D (by decide) | exact K (by kernel_rfl)) only [E, EE, ↓reduceIte, simprocAttr, xk B8 [2, 2] .sq rfl, xk B8 [1, 2, 2] .sq rfl, show (nav B8 [1, 1, 2, 2]) = Code.region 3 _ false from rfl, hk_8_3, hz_8_3, hs_8_3, fieldAddrV, u_26, i_26, is_26, ib_26, iz_26, u_22, i_22, is_22, ib_22, iz_22]
  replace hF := cond_some hF
  rcases hF with ⟨h1, hF⟩ | ⟨h1, hF⟩
  · cases hF
    simp (maxSteps := 999999) (disch := first | exact D (by decide) | exact K (by kernel_rfl)) only [E, EE, ↓reduceIte, simprocAttr, xk B8 [2, 1, 2, 2] (.cd 18) rfl, xk B8 [2, 2, 1, 2, 2] .sq rfl, show (nav B8 [1, 2, 2, 1, 2, 2]) = Code.region 4 _ false from rfl, hk_8_4, hz_8_4, hs_8_4, xk B8 [2, 2, 2, 1, 2, 2] .rt rfl, finK_norm, finK_ret, fin8, R8_ai10rzai10rzi.st, h1]
  · simp (maxSteps := 999999) (disch := first | exact D (by decide) | exact K (by kernel_rfl)) only [E, EE, ↓reduceIte, simprocAttr, fieldAddrV, u_26, i_26, is_26, ib_26, iz_26, u_22, i_22, is_22, ib_22, iz_22, xk B8 [2, 1, 2, 2] (.cd 18) rfl, h1]
    replace hF := cond_some hF
    rcases hF with ⟨h2, hF⟩ | ⟨h2, hF⟩
    · cases hF
      simp (maxSteps := 999999) (disch := first | exact D (by decide) | exact K (by kernel_rfl)) only [E, EE, ↓reduceIte, simprocAttr, xk B8 [2, 2, 1, 2, 2] .sq rfl, show (nav B8 [1, 2, 2, 1, 2, 2]) = Code.region 4 _ false from rfl, hk_8_4, hz_8_4, hs_8_4, xk B8 [2, 2, 2, 1, 2, 2] .rt rfl, finK_norm, finK_ret, fin8, R8_ai10rzai10rzi.st, h1, h2]
    · have hJ := f8_ai10rzai10rzi_j2_ok k x2 false m3 m3_1 m3_2 m3_3 m3_4 m3_5 m3_6 m3_7 m3_8 m3_9 m3_10 m4 m4_1 m4_2 m4_3 m4_4 m4_5 m4_6 m4_7 m4_8 m4_9 m4_10 _ hF
      simp (maxSteps := 999999) (disch := first | exact D (by decide) | exact K (by kernel_rfl)) only [E, EE, ↓reduceIte, simprocAttr, xk B8 [3, 2, 1, 2, 2] .sk rfl, h1, h2]
      try simp only [NM, EE] at hJ
      exact hJ
noncomputable def f8_ai10rzai10rzi_e (k : Nat) (a0 a0_1 a0_2 a0_3 a0_4 a0_5 a0_6 a0_7 a0_8 a0_9 : Int) (a0_10 : List Int) (a1 a1_1 a1_2 a1_3 a1_4 a1_5 a1_6 a1_7 a1_8 a1_9 : Int) (a1_10 : List Int) (a2 : Int) : Option R8_ai10rzai10rzi :=
  Option.bind (f9_ k) fun o1 =>
    match o1 with
    | .o0 v4 =>
      cond ((!v4))
        (some (R8_ai10rzai10rzi.o0 false))
        (f8_ai10rzai10rzi_j1 k a2 false a0 a0_1 a0_2 a0_3 a0_4 a0_5 a0_6 a0_7 a0_8 a0_9 a0_10 a1 a1_1 a1_2 a1_3 a1_4 a1_5 a1_6 a1_7 a1_8 a1_9 a1_10)
theorem f8_ai10rzai10rzi_e_ok (k : Nat) (a0 a0_1 a0_2 a0_3 a0_4 a0_5 a0_6 a0_7 a0_8 a0_9 : Int) (a0_10 : List Int) (a1 a1_1 a1_2 a1_3 a1_4 a1_5 a1_6 a1_7 a1_8 a1_9 : Int) (a1_10 : List Int) (a2 : Int) (r : R8_ai10rzai10rzi) (hF : f8_ai10rzai10rzi_e k a0 a0_1 a0_2 a0_3 a0_4 a0_5 a0_6 a0_7 a0_8 a0_9 a0_10 a1 a1_1 a1_2 a1_3 a1_4 a1_5 a1_6 a1_7 a1_8 a1_9 a1_10 a2 = some r) : finK Tryd.prog Tryd.f8 0 (EX 8 k (nav B8 []) ({ n := 67, F := [(0, V.agg [V.p (Value.int .i64 a0), V.p (Value.int .i64 a0_1), V.p (Value.int .u32 a0_2), V.p (Value.int .i64 a0_3), V.p (Value.int .i64 a0_4), V.p (Value.int .i64 a0_5), V.p (Value.int .i64 a0_6), V.p (Value.int .i64 a0_7), V.p (Value.int .i64 a0_8), V.p (Value.int .i64 a0_9), V.sl 1 (rowsOf (encI .u8) a0_10)]), (1, V.agg [V.p (Value.int .i64 a1), V.p (Value.int .i64 a1_1), V.p (Value.int .u32 a1_2), V.p (Value.int .i64 a1_3), V.p (Value.int .i64 a1_4), V.p (Value.int .i64 a1_5), V.p (Value.int .i64 a1_6), V.p (Value.int .i64 a1_7), V.p (Value.int .i64 a1_8), V.p (Value.int .i64 a1_9), V.sl 1 (rowsOf (encI .u8) a1_10)]), (2, V.p (Value.int .i64 a2))], M := [] } : St)) = some r.st := by
  unfold f8_ai10rzai10rzi_e at hF
  replace hF := Option.bind_eq_some_iff.1 hF
  obtain ⟨o1, h2, hF⟩ := hF
  have hc3 := f9__ok k _ h2
  cases o1 with
  | o0 v4 =>
    (try dsimp only at hF)
    (try simp only [NM, EE, R9_.st] at hc3)
    simp (maxSteps := 999999) (disch := first | exact D (by decide) | exact K (by kernel_rfl)) only [E, EE, ↓reduceIte, simprocAttr, xk B8 [] .sq rfl, show (nav B8 [1]) = Code.region 0 _ false from rfl, hk_8_0, hz_8_0, hs_8_0, xk B8 [2] .sq rfl, xk B8 [1, 2] .sq rfl, show (nav B8 [1, 1, 2]) = Code.region 1 _ false from rfl, hk_8_1, hz_8_1, hs_8_1, callStep, CL, gv, List.contains, xk B8 [2, 1, 2] (.cd 8) rfl, hc3]
    replace hF := cond_some hF
    rcases hF with ⟨h5, hF⟩ | ⟨h5, hF⟩
    · cases hF
      simp (maxSteps := 999999) (disch := first | exact D (by decide) | exact K (by kernel_rfl)) only [E, EE, ↓reduceIte, simprocAttr, xk B8 [2, 2, 1, 2] .sq rfl, show (nav B8 [1, 2, 2, 1, 2]) = Code.region 2 _ false from rfl, hk_8_2, hz_8_2, hs_8_2, xk B8 [2, 2, 2, 1, 2] .rt rfl, finK_norm, finK_ret, fin8, R8_ai10rzai10rzi.st, hc3, h5]
    · have hJ := f8_ai10rzai10rzi_j1_ok k a2 false a0 a0_1 a0_2 a0_3 a0_4 a0_5 a0_6 a0_7 a0_8 a0_9 a0_10 a1 a1_1 a1_2 a1_3 a1_4 a1_5 a1_6 a1_7 a1_8 a1_9 a1_10 _ hF
      simp (maxSteps := 999999) (disch := first | exact D (by decide) | exact K (by kernel_rfl)) only [E, EE, ↓reduceIte, simprocAttr, xk B8 [3, 2, 1, 2] .sk rfl, hc3, h5]
      try simp only [NM, EE] at hJ
      exact hJ
noncomputable def f8_ai10rzai10rzi (k : Nat) (a0 a0_1 a0_2 a0_3 a0_4 a0_5 a0_6 a0_7 a0_8 a0_9 : Int) (a0_10 : List Int) (a1 a1_1 a1_2 a1_3 a1_4 a1_5 a1_6 a1_7 a1_8 a1_9 : Int) (a1_10 : List Int) (a2 : Int) : Option R8_ai10rzai10rzi := match k with | 0 => none | k + 1 => f8_ai10rzai10rzi_e k a0 a0_1 a0_2 a0_3 a0_4 a0_5 a0_6 a0_7 a0_8 a0_9 a0_10 a1 a1_1 a1_2 a1_3 a1_4 a1_5 a1_6 a1_7 a1_8 a1_9 a1_10 a2
theorem f8_ai10rzai10rzi_ok (k : Nat) (a0 a0_1 a0_2 a0_3 a0_4 a0_5 a0_6 a0_7 a0_8 a0_9 : Int) (a0_10 : List Int) (a1 a1_1 a1_2 a1_3 a1_4 a1_5 a1_6 a1_7 a1_8 a1_9 : Int) (a1_10 : List Int) (a2 : Int) (r : R8_ai10rzai10rzi) (hF : f8_ai10rzai10rzi k a0 a0_1 a0_2 a0_3 a0_4 a0_5 a0_6 a0_7 a0_8 a0_9 a0_10 a1 a1_1 a1_2 a1_3 a1_4 a1_5 a1_6 a1_7 a1_8 a1_9 a1_10 a2 = some r) : CV k 8 [V.agg [V.p (Value.int .i64 a0), V.p (Value.int .i64 a0_1), V.p (Value.int .u32 a0_2), V.p (Value.int .i64 a0_3), V.p (Value.int .i64 a0_4), V.p (Value.int .i64 a0_5), V.p (Value.int .i64 a0_6), V.p (Value.int .i64 a0_7), V.p (Value.int .i64 a0_8), V.p (Value.int .i64 a0_9), V.sl 1 (rowsOf (encI .u8) a0_10)], V.agg [V.p (Value.int .i64 a1), V.p (Value.int .i64 a1_1), V.p (Value.int .u32 a1_2), V.p (Value.int .i64 a1_3), V.p (Value.int .i64 a1_4), V.p (Value.int .i64 a1_5), V.p (Value.int .i64 a1_6), V.p (Value.int .i64 a1_7), V.p (Value.int .i64 a1_8), V.p (Value.int .i64 a1_9), V.sl 1 (rowsOf (encI .u8) a1_10)], V.p (Value.int .i64 a2)] [] = some r.st := by
  cases k with
  | zero => cases hF
  | succ k =>
    unfold CV
    rw [ev_call (F := Tryd.f8) (c := (nav B8 [])) rfl Tryd.func8 rfl rfl rfl rfl]
    exact f8_ai10rzai10rzi_e_ok k a0 a0_1 a0_2 a0_3 a0_4 a0_5 a0_6 a0_7 a0_8 a0_9 a0_10 a1 a1_1 a1_2 a1_3 a1_4 a1_5 a1_6 a1_7 a1_8 a1_9 a1_10 a2 r hF
end Go.Proofs.YtbnnmplkbpgcaaaDoorV
