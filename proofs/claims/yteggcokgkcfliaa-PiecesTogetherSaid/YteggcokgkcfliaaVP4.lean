/- What the program's functions answer: plain functions, and that the interpreter answers what they do. Written by a program of this session, out of the translation. -/
import Derived.Test.YteggcokgkcfliaaVP3
namespace Go.Proofs.YteggcokgkcfliaaV
open Go
set_option linter.unusedVariables false
set_option linter.unusedSimpArgs false
set_option maxRecDepth 8000
set_option maxHeartbeats 4000000
-- f4_ai10rzai10rz: f4 heliograph/heliographlaw18.PiecesTogether
inductive R4_ai10rzai10rz where
  | o0 (y : Bool)
noncomputable def R4_ai10rzai10rz.st : R4_ai10rzai10rz → V × List O × List O
  | .o0 y => (V.p (Value.bool y), [], [])
noncomputable def f4_ai10rzai10rz_j1 (k : Nat) (x6 : Bool) (m2 m2_1 m2_2 m2_3 m2_4 m2_5 m2_6 m2_7 m2_8 m2_9 : Int) (m2_10 : List Int) (m3 m3_1 m3_2 m3_3 m3_4 m3_5 m3_6 m3_7 m3_8 m3_9 : Int) (m3_10 : List Int) : Option R4_ai10rzai10rz :=
  Option.bind (f10_ai10rz k m2 m2_1 m2_2 m2_3 m2_4 m2_5 m2_6 m2_7 m2_8 m2_9 m2_10) fun o1 =>
    match o1 with
    | .o0 v4 v5 v6 v7 v8 v9 v10 v11 v12 v13 v14 =>
      Option.bind (f10_ai10rz k m3 m3_1 m3_2 m3_3 m3_4 m3_5 m3_6 m3_7 m3_8 m3_9 m3_10) fun o15 =>
        match o15 with
        | .o0 v18 v19 v20 v21 v22 v23 v24 v25 v26 v27 v28 =>
          Option.bind (f16_ai10rzai10rz k v4 v5 v6 v7 v8 v9 v10 v11 v12 v13 v14 v18 v19 v20 v21 v22 v23 v24 v25 v26 v27 v28) fun o29 =>
            match o29 with
            | .o0 v32 =>
              Option.bind (f17_ai10rzai10rz k v4 v5 v6 v7 v8 v9 v10 v11 v12 v13 v14 v18 v19 v20 v21 v22 v23 v24 v25 v26 v27 v28) fun o33 =>
                match o33 with
                | .o0 v36 =>
                  cond ((v32 == v36))
                    (
                      Option.bind (f16_ai10rzai10rz k v18 v19 v20 v21 v22 v23 v24 v25 v26 v27 v28 v4 v5 v6 v7 v8 v9 v10 v11 v12 v13 v14) fun o38 =>
                        match o38 with
                        | .o0 v41 =>
                          some (R4_ai10rzai10rz.o0 (v41 == v32)))
                    (some (R4_ai10rzai10rz.o0 false))
theorem f4_ai10rzai10rz_j1_ok (k : Nat) (x6 : Bool) (m2 m2_1 m2_2 m2_3 m2_4 m2_5 m2_6 m2_7 m2_8 m2_9 : Int) (m2_10 : List Int) (m3 m3_1 m3_2 m3_3 m3_4 m3_5 m3_6 m3_7 m3_8 m3_9 : Int) (m3_10 : List Int) (r : R4_ai10rzai10rz) (hF : f4_ai10rzai10rz_j1 k x6 m2 m2_1 m2_2 m2_3 m2_4 m2_5 m2_6 m2_7 m2_8 m2_9 m2_10 m3 m3_1 m3_2 m3_3 m3_4 m3_5 m3_6 m3_7 m3_8 m3_9 m3_10 = some r) : finK Try.prog Try.f4 0 (EX 4 k (nav B4 [2, 2]) ({ n := 27, F := [(2, V.ptr 2 0), (3, V.ptr 3 0), (6, V.p (Value.bool x6))], M := [(2, O.box 25 [V.p (Value.int .i64 m2), V.p (Value.int .i64 m2_1), V.p (Value.int .u32 m2_2), V.p (Value.int .i64 m2_3), V.p (Value.int .i64 m2_4), V.p (Value.int .i64 m2_5), V.p (Value.int .i64 m2_6), V.p (Value.int .i64 m2_7), V.p (Value.int .i64 m2_8), V.p (Value.int .i64 m2_9), V.sl 1 (rowsOf (encI .u8) m2_10)]), (3, O.box 25 [V.p (Value.int .i64 m3), V.p (Value.int .i64 m3_1), V.p (Value.int .u32 m3_2), V.p (Value.int .i64 m3_3), V.p (Value.int .i64 m3_4), V.p (Value.int .i64 m3_5), V.p (Value.int .i64 m3_6), V.p (Value.int .i64 m3_7), V.p (Value.int .i64 m3_8), V.p (Value.int .i64 m3_9), V.sl 1 (rowsOf (encI .u8) m3_10)])] } : St)) = some r.st := by
  unfold f4_ai10rzai10rz_j1 at hF
  replace hF := Option.bind_eq_some_iff.1 hF
  obtain ⟨o1, h2, hF⟩ := hF
  have hc3 := f10_ai10rz_ok k m2 m2_1 m2_2 m2_3 m2_4 m2_5 m2_6 m2_7 m2_8 m2_9 m2_10 _ h2
  cases o1 with
  | o0 v4 v5 v6 v7 v8 v9 v10 v11 v12 v13 v14 =>
    (try dsimp only at hF)
    (try simp only [NM, EE, R10_ai10rz.st] at hc3)
    replace hF := Option.bind_eq_some_iff.1 hF
    obtain ⟨o15, h16, hF⟩ := hF
    have hc17 := f10_ai10rz_ok k m3 m3_1 m3_2 m3_3 m3_4 m3_5 m3_6 m3_7 m3_8 m3_9 m3_10 _ h16
    cases o15 with
    | o0 v18 v19 v20 v21 v22 v23 v24 v25 v26 v27 v28 =>
      (try dsimp only at hF)
      (try simp only [NM, EE, R10_ai10rz.st] at hc17)
      replace hF := Option.bind_eq_some_iff.1 hF
      obtain ⟨o29, h30, hF⟩ := hF
      have hc31 := f16_ai10rzai10rz_ok k v4 v5 v6 v7 v8 v9 v10 v11 v12 v13 v14 v18 v19 v20 v21 v22 v23 v24 v25 v26 v27 v28 _ h30
      cases o29 with
      | o0 v32 =>
        (try dsimp only at hF)
        (try simp only [NM, EE, R16_ai10rzai10rz.st] at hc31)
        replace hF := Option.bind_eq_some_iff.1 hF
        obtain ⟨o33, h34, hF⟩ := hF
        have hc35 := f17_ai10rzai10rz_ok k v4 v5 v6 v7 v8 v9 v10 v11 v12 v13 v14 v18 v19 v20 v21 v22 v23 v24 v25 v26 v27 v28 _ h34
        cases o33 with
        | o0 v36 =>
          (try dsimp only at hF)
          (try simp only [NM, EE, R17_ai10rzai10rz.st] at hc35)
          simp (maxSteps := 999999) (disch := first | exact D (by decide) | exact K (by kernel_rfl)) only [E, EE, ↓reduceIte, simprocAttr, xk B4 [2, 2] .sq rfl, show (nav B4 [1, 2, 2]) = Code.region 3 _ true from rfl, hk_4_3, hz_4_3, hs_4_3, u_25, i_25, is_25, ib_25, iz_25, callStep, CL, gv, List.contains, xk B4 [2, 2, 2] .sq rfl, show (nav B4 [1, 2, 2, 2]) = Code.region 4 _ true from rfl, hk_4_4, hz_4_4, hs_4_4, u_4, i_4, is_4, ib_4, iz_4, hc3, hc17, hc31, hc35]
          replace hF := cond_some hF
          rcases hF with ⟨h37, hF⟩ | ⟨h37, hF⟩
          · replace hF := Option.bind_eq_some_iff.1 hF
            obtain ⟨o38, h39, hF⟩ := hF
            have hc40 := f16_ai10rzai10rz_ok k v18 v19 v20 v21 v22 v23 v24 v25 v26 v27 v28 v4 v5 v6 v7 v8 v9 v10 v11 v12 v13 v14 _ h39
            cases o38 with
            | o0 v41 =>
              (try dsimp only at hF)
              (try simp only [NM, EE, R16_ai10rzai10rz.st] at hc40)
              cases hF
              simp (maxSteps := 999999) (disch := first | exact D (by decide) | exact K (by kernel_rfl)) only [E, EE, ↓reduceIte, simprocAttr, u_25, i_25, is_25, ib_25, iz_25, callStep, CL, gv, List.contains, u_4, i_4, is_4, ib_4, iz_4, xk B4 [2, 2, 2, 2] .rt rfl, finK_norm, finK_ret, fin4, R4_ai10rzai10rz.st, hc3, hc17, hc31, hc35, h37, hc40]
          · cases hF
            simp (maxSteps := 999999) (disch := first | exact D (by decide) | exact K (by kernel_rfl)) only [E, EE, ↓reduceIte, simprocAttr, xk B4 [2, 2, 2, 2] .rt rfl, finK_norm, finK_ret, fin4, R4_ai10rzai10rz.st, hc3, hc17, hc31, hc35, h37]
noncomputable def f4_ai10rzai10rz_e (k : Nat) (a0 a0_1 a0_2 a0_3 a0_4 a0_5 a0_6 a0_7 a0_8 a0_9 : Int) (a0_10 : List Int) (a1 a1_1 a1_2 a1_3 a1_4 a1_5 a1_6 a1_7 a1_8 a1_9 : Int) (a1_10 : List Int) : Option R4_ai10rzai10rz :=
  Option.bind (f9_ k) fun o1 =>
    match o1 with
    | .o0 v4 =>
      cond ((!v4))
        (some (R4_ai10rzai10rz.o0 false))
        (f4_ai10rzai10rz_j1 k false a0 a0_1 a0_2 a0_3 a0_4 a0_5 a0_6 a0_7 a0_8 a0_9 a0_10 a1 a1_1 a1_2 a1_3 a1_4 a1_5 a1_6 a1_7 a1_8 a1_9 a1_10)
theorem f4_ai10rzai10rz_e_ok (k : Nat) (a0 a0_1 a0_2 a0_3 a0_4 a0_5 a0_6 a0_7 a0_8 a0_9 : Int) (a0_10 : List Int) (a1 a1_1 a1_2 a1_3 a1_4 a1_5 a1_6 a1_7 a1_8 a1_9 : Int) (a1_10 : List Int) (r : R4_ai10rzai10rz) (hF : f4_ai10rzai10rz_e k a0 a0_1 a0_2 a0_3 a0_4 a0_5 a0_6 a0_7 a0_8 a0_9 a0_10 a1 a1_1 a1_2 a1_3 a1_4 a1_5 a1_6 a1_7 a1_8 a1_9 a1_10 = some r) : finK Try.prog Try.f4 0 (EX 4 k (nav B4 []) ({ n := 27, F := [(0, V.agg [V.p (Value.int .i64 a0), V.p (Value.int .i64 a0_1), V.p (Value.int .u32 a0_2), V.p (Value.int .i64 a0_3), V.p (Value.int .i64 a0_4), V.p (Value.int .i64 a0_5), V.p (Value.int .i64 a0_6), V.p (Value.int .i64 a0_7), V.p (Value.int .i64 a0_8), V.p (Value.int .i64 a0_9), V.sl 1 (rowsOf (encI .u8) a0_10)]), (1, V.agg [V.p (Value.int .i64 a1), V.p (Value.int .i64 a1_1), V.p (Value.int .u32 a1_2), V.p (Value.int .i64 a1_3), V.p (Value.int .i64 a1_4), V.p (Value.int .i64 a1_5), V.p (Value.int .i64 a1_6), V.p (Value.int .i64 a1_7), V.p (Value.int .i64 a1_8), V.p (Value.int .i64 a1_9), V.sl 1 (rowsOf (encI .u8) a1_10)])], M := [] } : St)) = some r.st := by
  unfold f4_ai10rzai10rz_e at hF
  replace hF := Option.bind_eq_some_iff.1 hF
  obtain ⟨o1, h2, hF⟩ := hF
  have hc3 := f9__ok k _ h2
  cases o1 with
  | o0 v4 =>
    (try dsimp only at hF)
    (try simp only [NM, EE, R9_.st] at hc3)
    simp (maxSteps := 999999) (disch := first | exact D (by decide) | exact K (by kernel_rfl)) only [E, EE, ↓reduceIte, simprocAttr, xk B4 [] .sq rfl, show (nav B4 [1]) = Code.region 0 _ false from rfl, hk_4_0, hz_4_0, hs_4_0, xk B4 [2] .sq rfl, xk B4 [1, 2] .sq rfl, show (nav B4 [1, 1, 2]) = Code.region 1 _ false from rfl, hk_4_1, hz_4_1, hs_4_1, callStep, CL, gv, List.contains, xk B4 [2, 1, 2] (.cd 6) rfl, hc3]
    replace hF := cond_some hF
    rcases hF with ⟨h5, hF⟩ | ⟨h5, hF⟩
    · cases hF
      simp (maxSteps := 999999) (disch := first | exact D (by decide) | exact K (by kernel_rfl)) only [E, EE, ↓reduceIte, simprocAttr, xk B4 [2, 2, 1, 2] .sq rfl, show (nav B4 [1, 2, 2, 1, 2]) = Code.region 2 _ false from rfl, hk_4_2, hz_4_2, hs_4_2, xk B4 [2, 2, 2, 1, 2] .rt rfl, finK_norm, finK_ret, fin4, R4_ai10rzai10rz.st, hc3, h5]
    · have hJ := f4_ai10rzai10rz_j1_ok k false a0 a0_1 a0_2 a0_3 a0_4 a0_5 a0_6 a0_7 a0_8 a0_9 a0_10 a1 a1_1 a1_2 a1_3 a1_4 a1_5 a1_6 a1_7 a1_8 a1_9 a1_10 _ hF
      simp (maxSteps := 999999) (disch := first | exact D (by decide) | exact K (by kernel_rfl)) only [E, EE, ↓reduceIte, simprocAttr, xk B4 [3, 2, 1, 2] .sk rfl, hc3, h5]
      try simp only [NM, EE] at hJ
      exact hJ
noncomputable def f4_ai10rzai10rz (k : Nat) (a0 a0_1 a0_2 a0_3 a0_4 a0_5 a0_6 a0_7 a0_8 a0_9 : Int) (a0_10 : List Int) (a1 a1_1 a1_2 a1_3 a1_4 a1_5 a1_6 a1_7 a1_8 a1_9 : Int) (a1_10 : List Int) : Option R4_ai10rzai10rz := match k with | 0 => none | k + 1 => f4_ai10rzai10rz_e k a0 a0_1 a0_2 a0_3 a0_4 a0_5 a0_6 a0_7 a0_8 a0_9 a0_10 a1 a1_1 a1_2 a1_3 a1_4 a1_5 a1_6 a1_7 a1_8 a1_9 a1_10
theorem f4_ai10rzai10rz_ok (k : Nat) (a0 a0_1 a0_2 a0_3 a0_4 a0_5 a0_6 a0_7 a0_8 a0_9 : Int) (a0_10 : List Int) (a1 a1_1 a1_2 a1_3 a1_4 a1_5 a1_6 a1_7 a1_8 a1_9 : Int) (a1_10 : List Int) (r : R4_ai10rzai10rz) (hF : f4_ai10rzai10rz k a0 a0_1 a0_2 a0_3 a0_4 a0_5 a0_6 a0_7 a0_8 a0_9 a0_10 a1 a1_1 a1_2 a1_3 a1_4 a1_5 a1_6 a1_7 a1_8 a1_9 a1_10 = some r) : CV k 4 [V.agg [V.p (Value.int .i64 a0), V.p (Value.int .i64 a0_1), V.p (Value.int .u32 a0_2), V.p (Value.int .i64 a0_3), V.p (Value.int .i64 a0_4), V.p (Value.int .i64 a0_5), V.p (Value.int .i64 a0_6), V.p (Value.int .i64 a0_7), V.p (Value.int .i64 a0_8), V.p (Value.int .i64 a0_9), V.sl 1 (rowsOf (encI .u8) a0_10)], V.agg [V.p (Value.int .i64 a1), V.p (Value.int .i64 a1_1), V.p (Value.int .u32 a1_2), V.p (Value.int .i64 a1_3), V.p (Value.int .i64 a1_4), V.p (Value.int .i64 a1_5), V.p (Value.int .i64 a1_6), V.p (Value.int .i64 a1_7), V.p (Value.int .i64 a1_8), V.p (Value.int .i64 a1_9), V.sl 1 (rowsOf (encI .u8) a1_10)]] [] = some r.st := by
  cases k with
  | zero => cases hF
  | succ k =>
    unfold CV
    rw [ev_call (F := Try.f4) (c := (nav B4 [])) rfl Try.func4 rfl rfl rfl rfl]
    exact f4_ai10rzai10rz_e_ok k a0 a0_1 a0_2 a0_3 a0_4 a0_5 a0_6 a0_7 a0_8 a0_9 a0_10 a1 a1_1 a1_2 a1_3 a1_4 a1_5 a1_6 a1_7 a1_8 a1_9 a1_10 r hF
end Go.Proofs.YteggcokgkcfliaaV
