/- What the program's functions answer: plain functions, and that the interpreter answers what they do. Written by a program of this session, out of the translation. -/
import Derived.Test.YteggcokgkcfliaaVP2
namespace Go.Proofs.YteggcokgkcfliaaV
open Go
set_option linter.unusedVariables false
set_option linter.unusedSimpArgs false
set_option maxRecDepth 8000
set_option maxHeartbeats 4000000
-- f34_ai10rzai10rz: f34 heliograph/bundle.same
inductive R34_ai10rzai10rz where
  | o0 (y : Bool)
noncomputable def R34_ai10rzai10rz.st : R34_ai10rzai10rz → V × List O × List O
  | .o0 y => (V.p (Value.bool y), [], [])
noncomputable def f34_ai10rzai10rz_e (k : Nat) (a0 a0_1 a0_2 a0_3 a0_4 a0_5 a0_6 a0_7 a0_8 a0_9 : Int) (a0_10 : List Int) (a1 a1_1 a1_2 a1_3 a1_4 a1_5 a1_6 a1_7 a1_8 a1_9 : Int) (a1_10 : List Int) : Option R34_ai10rzai10rz :=
  Option.bind (f39_ai10rz k a0 a0_1 a0_2 a0_3 a0_4 a0_5 a0_6 a0_7 a0_8 a0_9 a0_10) fun o1 =>
    match o1 with
    | .o0 v4 v5 v6 v7 v8 v9 v10 v11 v12 v13 =>
      Option.bind (f39_ai10rz k a1 a1_1 a1_2 a1_3 a1_4 a1_5 a1_6 a1_7 a1_8 a1_9 a1_10) fun o14 =>
        match o14 with
        | .o0 v17 v18 v19 v20 v21 v22 v23 v24 v25 v26 =>
          some (R34_ai10rzai10rz.o0 (((v4 == v17) && ((v5 == v18) && ((v6 == v19) && ((v7 == v20) && ((v8 == v21) && ((v9 == v22) && ((v10 == v23) && ((v11 == v24) && ((v12 == v25) && (v13 == v26))))))))))))
theorem f34_ai10rzai10rz_e_ok (k : Nat) (a0 a0_1 a0_2 a0_3 a0_4 a0_5 a0_6 a0_7 a0_8 a0_9 : Int) (a0_10 : List Int) (a1 a1_1 a1_2 a1_3 a1_4 a1_5 a1_6 a1_7 a1_8 a1_9 : Int) (a1_10 : List Int) (r : R34_ai10rzai10rz) (hF : f34_ai10rzai10rz_e k a0 a0_1 a0_2 a0_3 a0_4 a0_5 a0_6 a0_7 a0_8 a0_9 a0_10 a1 a1_1 a1_2 a1_3 a1_4 a1_5 a1_6 a1_7 a1_8 a1_9 a1_10 = some r) : finK Try.prog Try.f34 0 (EX 34 k (nav B34 []) ({ n := 13, F := [(0, V.agg [V.p (Value.int .i64 a0), V.p (Value.int .i64 a0_1), V.p (Value.int .u32 a0_2), V.p (Value.int .i64 a0_3), V.p (Value.int .i64 a0_4), V.p (Value.int .i64 a0_5), V.p (Value.int .i64 a0_6), V.p (Value.int .i64 a0_7), V.p (Value.int .i64 a0_8), V.p (Value.int .i64 a0_9), V.sl 1 (rowsOf (encI .u8) a0_10)]), (1, V.agg [V.p (Value.int .i64 a1), V.p (Value.int .i64 a1_1), V.p (Value.int .u32 a1_2), V.p (Value.int .i64 a1_3), V.p (Value.int .i64 a1_4), V.p (Value.int .i64 a1_5), V.p (Value.int .i64 a1_6), V.p (Value.int .i64 a1_7), V.p (Value.int .i64 a1_8), V.p (Value.int .i64 a1_9), V.sl 1 (rowsOf (encI .u8) a1_10)])], M := [] } : St)) = some r.st := by
  unfold f34_ai10rzai10rz_e at hF
  replace hF := Option.bind_eq_some_iff.1 hF
  obtain ⟨o1, h2, hF⟩ := hF
  have hc3 := f39_ai10rz_ok k a0 a0_1 a0_2 a0_3 a0_4 a0_5 a0_6 a0_7 a0_8 a0_9 a0_10 _ h2
  cases o1 with
  | o0 v4 v5 v6 v7 v8 v9 v10 v11 v12 v13 =>
    (try dsimp only at hF)
    (try simp only [NM, EE, R39_ai10rz.st] at hc3)
    replace hF := Option.bind_eq_some_iff.1 hF
    obtain ⟨o14, h15, hF⟩ := hF
    have hc16 := f39_ai10rz_ok k a1 a1_1 a1_2 a1_3 a1_4 a1_5 a1_6 a1_7 a1_8 a1_9 a1_10 _ h15
    cases o14 with
    | o0 v17 v18 v19 v20 v21 v22 v23 v24 v25 v26 =>
      (try dsimp only at hF)
      (try simp only [NM, EE, R39_ai10rz.st] at hc16)
      cases hF
      simp (maxSteps := 999999) (disch := first | exact D (by decide) | exact K (by kernel_rfl)) only [E, EE, ↓reduceIte, simprocAttr, xk B34 [] .sq rfl, show (nav B34 [1]) = Code.region 0 _ false from rfl, hk_34_0, hz_34_0, hs_34_0, xk B34 [2] .sq rfl, show (nav B34 [1, 2]) = Code.region 1 _ false from rfl, hk_34_1, hz_34_1, hs_34_1, xk B34 [2, 2] .sq rfl, show (nav B34 [1, 2, 2]) = Code.region 2 _ true from rfl, hk_34_2, hz_34_2, hs_34_2, u_25, i_25, is_25, ib_25, iz_25, callStep, CL, gv, List.contains, u_69, i_69, is_69, ib_69, iz_69, ag_69, u_3, i_3, is_3, ib_3, iz_3, u_22, i_22, is_22, ib_22, iz_22, xk B34 [2, 2, 2] .rt rfl, finK_norm, finK_ret, fin34, R34_ai10rzai10rz.st, hc3, hc16]
noncomputable def f34_ai10rzai10rz (k : Nat) (a0 a0_1 a0_2 a0_3 a0_4 a0_5 a0_6 a0_7 a0_8 a0_9 : Int) (a0_10 : List Int) (a1 a1_1 a1_2 a1_3 a1_4 a1_5 a1_6 a1_7 a1_8 a1_9 : Int) (a1_10 : List Int) : Option R34_ai10rzai10rz := match k with | 0 => none | k + 1 => f34_ai10rzai10rz_e k a0 a0_1 a0_2 a0_3 a0_4 a0_5 a0_6 a0_7 a0_8 a0_9 a0_10 a1 a1_1 a1_2 a1_3 a1_4 a1_5 a1_6 a1_7 a1_8 a1_9 a1_10
theorem f34_ai10rzai10rz_ok (k : Nat) (a0 a0_1 a0_2 a0_3 a0_4 a0_5 a0_6 a0_7 a0_8 a0_9 : Int) (a0_10 : List Int) (a1 a1_1 a1_2 a1_3 a1_4 a1_5 a1_6 a1_7 a1_8 a1_9 : Int) (a1_10 : List Int) (r : R34_ai10rzai10rz) (hF : f34_ai10rzai10rz k a0 a0_1 a0_2 a0_3 a0_4 a0_5 a0_6 a0_7 a0_8 a0_9 a0_10 a1 a1_1 a1_2 a1_3 a1_4 a1_5 a1_6 a1_7 a1_8 a1_9 a1_10 = some r) : CV k 34 [V.agg [V.p (Value.int .i64 a0), V.p (Value.int .i64 a0_1), V.p (Value.int .u32 a0_2), V.p (Value.int .i64 a0_3), V.p (Value.int .i64 a0_4), V.p (Value.int .i64 a0_5), V.p (Value.int .i64 a0_6), V.p (Value.int .i64 a0_7), V.p (Value.int .i64 a0_8), V.p (Value.int .i64 a0_9), V.sl 1 (rowsOf (encI .u8) a0_10)], V.agg [V.p (Value.int .i64 a1), V.p (Value.int .i64 a1_1), V.p (Value.int .u32 a1_2), V.p (Value.int .i64 a1_3), V.p (Value.int .i64 a1_4), V.p (Value.int .i64 a1_5), V.p (Value.int .i64 a1_6), V.p (Value.int .i64 a1_7), V.p (Value.int .i64 a1_8), V.p (Value.int .i64 a1_9), V.sl 1 (rowsOf (encI .u8) a1_10)]] [] = some r.st := by
  cases k with
  | zero => cases hF
  | succ k =>
    unfold CV
    rw [ev_call (F := Try.f34) (c := (nav B34 [])) rfl Try.func34 rfl rfl rfl rfl]
    exact f34_ai10rzai10rz_e_ok k a0 a0_1 a0_2 a0_3 a0_4 a0_5 a0_6 a0_7 a0_8 a0_9 a0_10 a1 a1_1 a1_2 a1_3 a1_4 a1_5 a1_6 a1_7 a1_8 a1_9 a1_10 r hF
-- f20_ai10rzai10rz: f20 heliograph/bundle.Same
inductive R20_ai10rzai10rz where
  | o0 (y : Bool)
noncomputable def R20_ai10rzai10rz.st : R20_ai10rzai10rz → V × List O × List O
  | .o0 y => (V.p (Value.bool y), [], [])
noncomputable def f20_ai10rzai10rz_e (k : Nat) (a0 a0_1 a0_2 a0_3 a0_4 a0_5 a0_6 a0_7 a0_8 a0_9 : Int) (a0_10 : List Int) (a1 a1_1 a1_2 a1_3 a1_4 a1_5 a1_6 a1_7 a1_8 a1_9 : Int) (a1_10 : List Int) : Option R20_ai10rzai10rz :=
  Option.bind (f33_rr k a0_10 a1_10) fun o1 =>
    match o1 with
    | .o0 v4 =>
      cond (v4)
        (
          Option.bind (f34_ai10rzai10rz k a0 a0_1 a0_2 a0_3 a0_4 a0_5 a0_6 a0_7 a0_8 a0_9 [] a1 a1_1 a1_2 a1_3 a1_4 a1_5 a1_6 a1_7 a1_8 a1_9 []) fun o6 =>
            match o6 with
            | .o0 v9 =>
              some (R20_ai10rzai10rz.o0 v9))
        (some (R20_ai10rzai10rz.o0 false))
theorem f20_ai10rzai10rz_e_ok (k : Nat) (a0 a0_1 a0_2 a0_3 a0_4 a0_5 a0_6 a0_7 a0_8 a0_9 : Int) (a0_10 : List Int) (a1 a1_1 a1_2 a1_3 a1_4 a1_5 a1_6 a1_7 a1_8 a1_9 : Int) (a1_10 : List Int) (r : R20_ai10rzai10rz) (hF : f20_ai10rzai10rz_e k a0 a0_1 a0_2 a0_3 a0_4 a0_5 a0_6 a0_7 a0_8 a0_9 a0_10 a1 a1_1 a1_2 a1_3 a1_4 a1_5 a1_6 a1_7 a1_8 a1_9 a1_10 = some r) : finK Try.prog Try.f20 0 (EX 20 k (nav B20 []) ({ n := 21, F := [(0, V.agg [V.p (Value.int .i64 a0), V.p (Value.int .i64 a0_1), V.p (Value.int .u32 a0_2), V.p (Value.int .i64 a0_3), V.p (Value.int .i64 a0_4), V.p (Value.int .i64 a0_5), V.p (Value.int .i64 a0_6), V.p (Value.int .i64 a0_7), V.p (Value.int .i64 a0_8), V.p (Value.int .i64 a0_9), V.sl 1 (rowsOf (encI .u8) a0_10)]), (1, V.agg [V.p (Value.int .i64 a1), V.p (Value.int .i64 a1_1), V.p (Value.int .u32 a1_2), V.p (Value.int .i64 a1_3), V.p (Value.int .i64 a1_4), V.p (Value.int .i64 a1_5), V.p (Value.int .i64 a1_6), V.p (Value.int .i64 a1_7), V.p (Value.int .i64 a1_8), V.p (Value.int .i64 a1_9), V.sl 1 (rowsOf (encI .u8) a1_10)])], M := [] } : St)) = some r.st := by
  unfold f20_ai10rzai10rz_e at hF
  replace hF := Option.bind_eq_some_iff.1 hF
  obtain ⟨o1, h2, hF⟩ := hF
  have hc3 := f33_rr_ok k a0_10 a1_10 _ h2
  cases o1 with
  | o0 v4 =>
    (try dsimp only at hF)
    (try simp only [NM, EE, R33_rr.st] at hc3)
    simp (maxSteps := 999999) (disch := first | exact D (by decide) | exact K (by kernel_rfl)) only [E, EE, ↓reduceIte, simprocAttr, xk B20 [] .sq rfl, show (nav B20 [1]) = Code.region 0 _ false from rfl, hk_20_0, hz_20_0, hs_20_0, xk B20 [2] .sq rfl, show (nav B20 [1, 2]) = Code.region 1 _ true from rfl, hk_20_1, hz_20_1, hs_20_1, u_25, i_25, is_25, ib_25, iz_25, xk B20 [2, 2] .sq rfl, show (nav B20 [1, 2, 2]) = Code.region 2 _ false from rfl, hk_20_2, hz_20_2, hs_20_2, fieldAddrV, u_23, i_23, is_23, ib_23, iz_23, xk B20 [2, 2, 2] .sq rfl, show (nav B20 [1, 2, 2, 2]) = Code.region 3 _ false from rfl, hk_20_3, hz_20_3, hs_20_3, callStep, CL, gv, List.contains, hc3]
    replace hF := cond_some hF
    rcases hF with ⟨h5, hF⟩ | ⟨h5, hF⟩
    · replace hF := Option.bind_eq_some_iff.1 hF
      obtain ⟨o6, h7, hF⟩ := hF
      have hc8 := f34_ai10rzai10rz_ok k a0 a0_1 a0_2 a0_3 a0_4 a0_5 a0_6 a0_7 a0_8 a0_9 [] a1 a1_1 a1_2 a1_3 a1_4 a1_5 a1_6 a1_7 a1_8 a1_9 [] _ h7
      cases o6 with
      | o0 v9 =>
        (try dsimp only at hF)
        (try simp only [NM, EE, R34_ai10rzai10rz.st] at hc8)
        cases hF
        simp (maxSteps := 999999) (disch := first | exact D (by decide) | exact K (by kernel_rfl)) only [E, EE, ↓reduceIte, simprocAttr, u_25, i_25, is_25, ib_25, iz_25, callStep, CL, gv, List.contains, xk B20 [2, 2, 2, 2] .rt rfl, finK_norm, finK_ret, fin20, R20_ai10rzai10rz.st, hc3, h5, hc8]
    · cases hF
      simp (maxSteps := 999999) (disch := first | exact D (by decide) | exact K (by kernel_rfl)) only [E, EE, ↓reduceIte, simprocAttr, xk B20 [2, 2, 2, 2] .rt rfl, finK_norm, finK_ret, fin20, R20_ai10rzai10rz.st, hc3, h5]
noncomputable def f20_ai10rzai10rz (k : Nat) (a0 a0_1 a0_2 a0_3 a0_4 a0_5 a0_6 a0_7 a0_8 a0_9 : Int) (a0_10 : List Int) (a1 a1_1 a1_2 a1_3 a1_4 a1_5 a1_6 a1_7 a1_8 a1_9 : Int) (a1_10 : List Int) : Option R20_ai10rzai10rz := match k with | 0 => none | k + 1 => f20_ai10rzai10rz_e k a0 a0_1 a0_2 a0_3 a0_4 a0_5 a0_6 a0_7 a0_8 a0_9 a0_10 a1 a1_1 a1_2 a1_3 a1_4 a1_5 a1_6 a1_7 a1_8 a1_9 a1_10
theorem f20_ai10rzai10rz_ok (k : Nat) (a0 a0_1 a0_2 a0_3 a0_4 a0_5 a0_6 a0_7 a0_8 a0_9 : Int) (a0_10 : List Int) (a1 a1_1 a1_2 a1_3 a1_4 a1_5 a1_6 a1_7 a1_8 a1_9 : Int) (a1_10 : List Int) (r : R20_ai10rzai10rz) (hF : f20_ai10rzai10rz k a0 a0_1 a0_2 a0_3 a0_4 a0_5 a0_6 a0_7 a0_8 a0_9 a0_10 a1 a1_1 a1_2 a1_3 a1_4 a1_5 a1_6 a1_7 a1_8 a1_9 a1_10 = some r) : CV k 20 [V.agg [V.p (Value.int .i64 a0), V.p (Value.int .i64 a0_1), V.p (Value.int .u32 a0_2), V.p (Value.int .i64 a0_3), V.p (Value.int .i64 a0_4), V.p (Value.int .i64 a0_5), V.p (Value.int .i64 a0_6), V.p (Value.int .i64 a0_7), V.p (Value.int .i64 a0_8), V.p (Value.int .i64 a0_9), V.sl 1 (rowsOf (encI .u8) a0_10)], V.agg [V.p (Value.int .i64 a1), V.p (Value.int .i64 a1_1), V.p (Value.int .u32 a1_2), V.p (Value.int .i64 a1_3), V.p (Value.int .i64 a1_4), V.p (Value.int .i64 a1_5), V.p (Value.int .i64 a1_6), V.p (Value.int .i64 a1_7), V.p (Value.int .i64 a1_8), V.p (Value.int .i64 a1_9), V.sl 1 (rowsOf (encI .u8) a1_10)]] [] = some r.st := by
  cases k with
  | zero => cases hF
  | succ k =>
    unfold CV
    rw [ev_call (F := Try.f20) (c := (nav B20 [])) rfl Try.func20 rfl rfl rfl rfl]
    exact f20_ai10rzai10rz_e_ok k a0 a0_1 a0_2 a0_3 a0_4 a0_5 a0_6 a0_7 a0_8 a0_9 a0_10 a1 a1_1 a1_2 a1_3 a1_4 a1_5 a1_6 a1_7 a1_8 a1_9 a1_10 r hF
-- f30_rr: f30 bytes.Equal
inductive R30_rr where
  | o0 (y : Bool)
noncomputable def R30_rr.st : R30_rr → V × List O × List O
  | .o0 y => (V.p (Value.bool y), [], [])
noncomputable def f30_rr_e (k : Nat) (a0 a1 : List Int) : Option R30_rr :=
  some (R30_rr.o0 (((strOf a0).toList == (strOf a1).toList)))
theorem f30_rr_e_ok (k : Nat) (a0 a1 : List Int) (r : R30_rr) (hF : f30_rr_e k a0 a1 = some r) : finK Try.prog Try.f30 0 (EX 30 k (nav B30 []) ({ n := 10, F := [(0, V.sl 1 (rowsOf (encI .u8) a0)), (1, V.sl 1 (rowsOf (encI .u8) a1))], M := [] } : St)) = some r.st := by
  unfold f30_rr_e at hF
  cases hF
  simp (maxSteps := 999999) (disch := first | exact D (by decide) | exact K (by kernel_rfl)) only [E, EE, ↓reduceIte, simprocAttr, xk B30 [] .sq rfl, show (nav B30 [1]) = Code.region 0 _ false from rfl, hk_30_0, hz_30_0, hs_30_0, xk B30 [2] .sq rfl, show (nav B30 [1, 2]) = Code.region 1 _ false from rfl, hk_30_1, hz_30_1, hs_30_1, u_23, i_23, is_23, ib_23, iz_23, u_9, i_9, is_9, ib_9, iz_9, strV, content, strRows_map, u_5, i_5, is_5, ib_5, iz_5, xk B30 [2, 2] .rt rfl, finK_norm, finK_ret, fin30, R30_rr.st]
noncomputable def f30_rr (k : Nat) (a0 a1 : List Int) : Option R30_rr := match k with | 0 => none | k + 1 => f30_rr_e k a0 a1
theorem f30_rr_ok (k : Nat) (a0 a1 : List Int) (r : R30_rr) (hF : f30_rr k a0 a1 = some r) : CV k 30 [V.sl 1 (rowsOf (encI .u8) a0), V.sl 1 (rowsOf (encI .u8) a1)] [] = some r.st := by
  cases k with
  | zero => cases hF
  | succ k =>
    unfold CV
    rw [ev_call (F := Try.f30) (c := (nav B30 [])) rfl Try.func30 rfl rfl rfl rfl]
    exact f30_rr_e_ok k a0 a1 r hF
-- f16_ai10rzai10rz: f16 heliograph/pieces.Together
inductive R16_ai10rzai10rz where
  | o0 (y : Bool)
noncomputable def R16_ai10rzai10rz.st : R16_ai10rzai10rz → V × List O × List O
  | .o0 y => (V.p (Value.bool y), [], [])
inductive R16_ai10rzai10rz_l2 where
  | o0 (y y_1 y_2 y_3 y_4 y_5 y_6 y_7 y_8 y_9 y_10 y_11 : Int) (y_12 : List Int) (y_13 y_14 y_15 y_16 y_17 y_18 y_19 y_20 y_21 y_22 : Int) (y_23 : List Int) (y_24 y_25 y_26 y_27 y_28 y_29 y_30 y_31 y_32 y_33 : Int) (y_34 : List Int)
  | o1 (y y_1 : Int) (y_2 : Bool) (y_3 y_4 y_5 y_6 y_7 y_8 y_9 y_10 y_11 y_12 : Int) (y_13 : List Int) (y_14 y_15 y_16 y_17 y_18 y_19 y_20 y_21 y_22 y_23 : Int) (y_24 : List Int) (y_25 y_26 y_27 y_28 y_29 y_30 y_31 y_32 y_33 y_34 : Int) (y_35 : List Int)
noncomputable def R16_ai10rzai10rz_l2.st : R16_ai10rzai10rz_l2 → Out × St
  | .o0 y y_1 y_2 y_3 y_4 y_5 y_6 y_7 y_8 y_9 y_10 y_11 y_12 y_13 y_14 y_15 y_16 y_17 y_18 y_19 y_20 y_21 y_22 y_23 y_24 y_25 y_26 y_27 y_28 y_29 y_30 y_31 y_32 y_33 y_34 => (.norm, ({ n := 92, F := [(2, V.ptr 30000 0), (3, V.ptr 30001 0), (5, V.ptr 30002 0), (25, V.bsl 30003 2 2), (26, V.p (Value.int .i64 y)), (27, V.p (Value.int .i64 y_1))], M := [(30000, O.box 25 [V.p (Value.int .i64 y_2), V.p (Value.int .i64 y_3), V.p (Value.int .u32 y_4), V.p (Value.int .i64 y_5), V.p (Value.int .i64 y_6), V.p (Value.int .i64 y_7), V.p (Value.int .i64 y_8), V.p (Value.int .i64 y_9), V.p (Value.int .i64 y_10), V.p (Value.int .i64 y_11), V.sl 1 (rowsOf (encI .u8) y_12)]), (30001, O.box 25 [V.p (Value.int .i64 y_13), V.p (Value.int .i64 y_14), V.p (Value.int .u32 y_15), V.p (Value.int .i64 y_16), V.p (Value.int .i64 y_17), V.p (Value.int .i64 y_18), V.p (Value.int .i64 y_19), V.p (Value.int .i64 y_20), V.p (Value.int .i64 y_21), V.p (Value.int .i64 y_22), V.sl 1 (rowsOf (encI .u8) y_23)]), (30002, O.box 25 [V.p (Value.int .i64 y_24), V.p (Value.int .i64 y_25), V.p (Value.int .u32 y_26), V.p (Value.int .i64 y_27), V.p (Value.int .i64 y_28), V.p (Value.int .i64 y_29), V.p (Value.int .i64 y_30), V.p (Value.int .i64 y_31), V.p (Value.int .i64 y_32), V.p (Value.int .i64 y_33), V.sl 1 (rowsOf (encI .u8) y_34)]), (30003, O.box 58 [V.ptr 30002 8, V.ptr 30000 8, V.ptr 30002 6, V.ptr 30000 6])] } : St))
  | .o1 y y_1 y_2 y_3 y_4 y_5 y_6 y_7 y_8 y_9 y_10 y_11 y_12 y_13 y_14 y_15 y_16 y_17 y_18 y_19 y_20 y_21 y_22 y_23 y_24 y_25 y_26 y_27 y_28 y_29 y_30 y_31 y_32 y_33 y_34 y_35 => (.exit 0, ({ n := 92, F := [(2, V.ptr 30000 0), (3, V.ptr 30001 0), (5, V.ptr 30002 0), (25, V.bsl 30003 2 2), (26, V.p (Value.int .i64 y)), (27, V.p (Value.int .i64 y_1)), (28, V.p (Value.bool y_2))], M := [(30000, O.box 25 [V.p (Value.int .i64 y_3), V.p (Value.int .i64 y_4), V.p (Value.int .u32 y_5), V.p (Value.int .i64 y_6), V.p (Value.int .i64 y_7), V.p (Value.int .i64 y_8), V.p (Value.int .i64 y_9), V.p (Value.int .i64 y_10), V.p (Value.int .i64 y_11), V.p (Value.int .i64 y_12), V.sl 1 (rowsOf (encI .u8) y_13)]), (30001, O.box 25 [V.p (Value.int .i64 y_14), V.p (Value.int .i64 y_15), V.p (Value.int .u32 y_16), V.p (Value.int .i64 y_17), V.p (Value.int .i64 y_18), V.p (Value.int .i64 y_19), V.p (Value.int .i64 y_20), V.p (Value.int .i64 y_21), V.p (Value.int .i64 y_22), V.p (Value.int .i64 y_23), V.sl 1 (rowsOf (encI .u8) y_24)]), (30002, O.box 25 [V.p (Value.int .i64 y_25), V.p (Value.int .i64 y_26), V.p (Value.int .u32 y_27), V.p (Value.int .i64 y_28), V.p (Value.int .i64 y_29), V.p (Value.int .i64 y_30), V.p (Value.int .i64 y_31), V.p (Value.int .i64 y_32), V.p (Value.int .i64 y_33), V.p (Value.int .i64 y_34), V.sl 1 (rowsOf (encI .u8) y_35)]), (30003, O.box 58 [V.ptr 30002 8, V.ptr 30000 8, V.ptr 30002 6, V.ptr 30000 6])] } : St))
noncomputable def f16_ai10rzai10rz_l2_j2 (k : Nat) (x26 x27 h0_ h0__1 h0__2 h0__3 h0__4 h0__5 h0__6 h0__7 h0__8 h0__9 : Int) (h0__10 : List Int) (h1_ h1__1 h1__2 h1__3 h1__4 h1__5 h1__6 h1__7 h1__8 h1__9 : Int) (h1__10 : List Int) (h2_ h2__1 h2__2 h2__3 h2__4 h2__5 h2__6 h2__7 h2__8 h2__9 : Int) (h2__10 : List Int) : Option R16_ai10rzai10rz_l2 :=
  some (R16_ai10rzai10rz_l2.o0 x26 (IntKind.i64.wrap (x27 + (1 : Int))) h0_ h0__1 h0__2 h0__3 h0__4 h0__5 h0__6 h0__7 h0__8 h0__9 h0__10 h1_ h1__1 h1__2 h1__3 h1__4 h1__5 h1__6 h1__7 h1__8 h1__9 h1__10 h2_ h2__1 h2__2 h2__3 h2__4 h2__5 h2__6 h2__7 h2__8 h2__9 h2__10)
theorem f16_ai10rzai10rz_l2_j2_ok (k : Nat) (x26 x27 h0_ h0__1 h0__2 h0__3 h0__4 h0__5 h0__6 h0__7 h0__8 h0__9 : Int) (h0__10 : List Int) (h1_ h1__1 h1__2 h1__3 h1__4 h1__5 h1__6 h1__7 h1__8 h1__9 : Int) (h1__10 : List Int) (h2_ h2__1 h2__2 h2__3 h2__4 h2__5 h2__6 h2__7 h2__8 h2__9 : Int) (h2__10 : List Int) (r : R16_ai10rzai10rz_l2) (hF : f16_ai10rzai10rz_l2_j2 k x26 x27 h0_ h0__1 h0__2 h0__3 h0__4 h0__5 h0__6 h0__7 h0__8 h0__9 h0__10 h1_ h1__1 h1__2 h1__3 h1__4 h1__5 h1__6 h1__7 h1__8 h1__9 h1__10 h2_ h2__1 h2__2 h2__3 h2__4 h2__5 h2__6 h2__7 h2__8 h2__9 h2__10 = some r) : EX 16 k (nav B16 [2, 2, 2, 1, 2, 2, 1, 2, 2, 2]) ({ n := 92, F := [(2, V.ptr 30000 0), (3, V.ptr 30001 0), (5, V.ptr 30002 0), (25, V.bsl 30003 2 2), (26, V.p (Value.int .i64 x26)), (27, V.p (Value.int .i64 x27))], M := [(30000, O.box 25 [V.p (Value.int .i64 h0_), V.p (Value.int .i64 h0__1), V.p (Value.int .u32 h0__2), V.p (Value.int .i64 h0__3), V.p (Value.int .i64 h0__4), V.p (Value.int .i64 h0__5), V.p (Value.int .i64 h0__6), V.p (Value.int .i64 h0__7), V.p (Value.int .i64 h0__8), V.p (Value.int .i64 h0__9), V.sl 1 (rowsOf (encI .u8) h0__10)]), (30001, O.box 25 [V.p (Value.int .i64 h1_), V.p (Value.int .i64 h1__1), V.p (Value.int .u32 h1__2), V.p (Value.int .i64 h1__3), V.p (Value.int .i64 h1__4), V.p (Value.int .i64 h1__5), V.p (Value.int .i64 h1__6), V.p (Value.int .i64 h1__7), V.p (Value.int .i64 h1__8), V.p (Value.int .i64 h1__9), V.sl 1 (rowsOf (encI .u8) h1__10)]), (30002, O.box 25 [V.p (Value.int .i64 h2_), V.p (Value.int .i64 h2__1), V.p (Value.int .u32 h2__2), V.p (Value.int .i64 h2__3), V.p (Value.int .i64 h2__4), V.p (Value.int .i64 h2__5), V.p (Value.int .i64 h2__6), V.p (Value.int .i64 h2__7), V.p (Value.int .i64 h2__8), V.p (Value.int .i64 h2__9), V.sl 1 (rowsOf (encI .u8) h2__10)]), (30003, O.box 58 [V.ptr 30002 8, V.ptr 30000 8, V.ptr 30002 6, V.ptr 30000 6])] } : St) = some r.st := by
  unfold f16_ai10rzai10rz_l2_j2 at hF
  cases hF
  simp (maxSteps := 999999) (disch := first | exact D (by decide) | exact K (by kernel_rfl)) only [E, EE, ↓reduceIte, simprocAttr, show (nav B16 [2, 2, 2, 1, 2, 2, 1, 2, 2, 2]) = Code.region 8 _ false from rfl, hk_16_8, hz_16_8, hs_16_8, R16_ai10rzai10rz_l2.st]
noncomputable def f16_ai10rzai10rz_l2_j1 (k : Nat) (x26 x27 : Int) (x28 : Bool) (h0_ h0__1 h0__2 h0__3 h0__4 h0__5 h0__6 h0__7 h0__8 h0__9 : Int) (h0__10 : List Int) (h1_ h1__1 h1__2 h1__3 h1__4 h1__5 h1__6 h1__7 h1__8 h1__9 : Int) (h1__10 : List Int) (h2_ h2__1 h2__2 h2__3 h2__4 h2__5 h2__6 h2__7 h2__8 h2__9 : Int) (h2__10 : List Int) : Option R16_ai10rzai10rz_l2 :=
  ifE ((0 : Int) ≤ x27) (
    cond ((x27 == 0))
      (f16_ai10rzai10rz_l2_j2 k x26 x27 h0_ h0__1 h0__2 h0__3 h0__4 h0__5 h0__6 h0__7 h0__8 h0__9 h0__10 h1_ h1__1 h1__2 h1__3 h1__4 h1__5 h1__6 h1__7 h1__8 h1__9 h1__10 h2_ h2__1 h2__2 h2__3 h2__4 h2__5 h2__6 h2__7 h0__8 h2__9 h2__10)
      (
        cond ((x27 == 1))
          (f16_ai10rzai10rz_l2_j2 k x26 x27 h0_ h0__1 h0__2 h0__3 h0__4 h0__5 h0__6 h0__7 h0__8 h0__9 h0__10 h1_ h1__1 h1__2 h1__3 h1__4 h1__5 h1__6 h1__7 h1__8 h1__9 h1__10 h2_ h2__1 h2__2 h2__3 h2__4 h2__5 h0__6 h2__7 h2__8 h2__9 h2__10)
          (none)))
theorem f16_ai10rzai10rz_l2_j1_ok (k : Nat) (x26 x27 : Int) (x28 : Bool) (h0_ h0__1 h0__2 h0__3 h0__4 h0__5 h0__6 h0__7 h0__8 h0__9 : Int) (h0__10 : List Int) (h1_ h1__1 h1__2 h1__3 h1__4 h1__5 h1__6 h1__7 h1__8 h1__9 : Int) (h1__10 : List Int) (h2_ h2__1 h2__2 h2__3 h2__4 h2__5 h2__6 h2__7 h2__8 h2__9 : Int) (h2__10 : List Int) (r : R16_ai10rzai10rz_l2) (hF : f16_ai10rzai10rz_l2_j1 k x26 x27 x28 h0_ h0__1 h0__2 h0__3 h0__4 h0__5 h0__6 h0__7 h0__8 h0__9 h0__10 h1_ h1__1 h1__2 h1__3 h1__4 h1__5 h1__6 h1__7 h1__8 h1__9 h1__10 h2_ h2__1 h2__2 h2__3 h2__4 h2__5 h2__6 h2__7 h2__8 h2__9 h2__10 = some r) : EX 16 k (nav B16 [2, 2, 1, 2, 2, 1, 2, 2, 2]) ({ n := 92, F := [(2, V.ptr 30000 0), (3, V.ptr 30001 0), (5, V.ptr 30002 0), (25, V.bsl 30003 2 2), (26, V.p (Value.int .i64 x26)), (27, V.p (Value.int .i64 x27)), (28, V.p (Value.bool x28))], M := [(30000, O.box 25 [V.p (Value.int .i64 h0_), V.p (Value.int .i64 h0__1), V.p (Value.int .u32 h0__2), V.p (Value.int .i64 h0__3), V.p (Value.int .i64 h0__4), V.p (Value.int .i64 h0__5), V.p (Value.int .i64 h0__6), V.p (Value.int .i64 h0__7), V.p (Value.int .i64 h0__8), V.p (Value.int .i64 h0__9), V.sl 1 (rowsOf (encI .u8) h0__10)]), (30001, O.box 25 [V.p (Value.int .i64 h1_), V.p (Value.int .i64 h1__1), V.p (Value.int .u32 h1__2), V.p (Value.int .i64 h1__3), V.p (Value.int .i64 h1__4), V.p (Value.int .i64 h1__5), V.p (Value.int .i64 h1__6), V.p (Value.int .i64 h1__7), V.p (Value.int .i64 h1__8), V.p (Value.int .i64 h1__9), V.sl 1 (rowsOf (encI .u8) h1__10)]), (30002, O.box 25 [V.p (Value.int .i64 h2_), V.p (Value.int .i64 h2__1), V.p (Value.int .u32 h2__2), V.p (Value.int .i64 h2__3), V.p (Value.int .i64 h2__4), V.p (Value.int .i64 h2__5), V.p (Value.int .i64 h2__6), V.p (Value.int .i64 h2__7), V.p (Value.int .i64 h2__8), V.p (Value.int .i64 h2__9), V.sl 1 (rowsOf (encI .u8) h2__10)]), (30003, O.box 58 [V.ptr 30002 8, V.ptr 30000 8, V.ptr 30002 6, V.ptr 30000 6])] } : St) = some r.st := by
  unfold f16_ai10rzai10rz_l2_j1 at hF
  replace hF := ifE_some.1 hF
  obtain ⟨h1, hF⟩ := hF
  simp (maxSteps := 999999) (disch := first | exact D (by decide) | exact K (by kernel_rfl)) only [E, EE, ↓reduceIte, simprocAttr, xk B16 [2, 2, 1, 2, 2, 1, 2, 2, 2] .sq rfl, xk B16 [1, 2, 2, 1, 2, 2, 1, 2, 2, 2] (.bk 1) rfl, xk B16 [2, 1, 2, 2, 1, 2, 2, 1, 2, 2, 2] .sq rfl, show (nav B16 [1, 2, 1, 2, 2, 1, 2, 2, 1, 2, 2, 2]) = Code.region 6 _ false from rfl, hk_16_6, hz_16_6, hs_16_6, indexAddrV, u_59, i_59, is_59, ib_59, iz_59, u_58, i_58, is_58, ib_58, iz_58, h1]
  replace hF := cond_some hF
  rcases hF with ⟨h2, hF⟩ | ⟨h2, hF⟩
  · have q3 : x27 < (2 : Int) := by have := eq_of_beq h2; omega
    have q4 : Int.toNat x27 = 0 := by have := eq_of_beq h2; omega
    have hJ := f16_ai10rzai10rz_l2_j2_ok k x26 x27 h0_ h0__1 h0__2 h0__3 h0__4 h0__5 h0__6 h0__7 h0__8 h0__9 h0__10 h1_ h1__1 h1__2 h1__3 h1__4 h1__5 h1__6 h1__7 h1__8 h1__9 h1__10 h2_ h2__1 h2__2 h2__3 h2__4 h2__5 h2__6 h2__7 h0__8 h2__9 h2__10 _ hF
    simp (maxSteps := 999999) (disch := first | exact D (by decide) | exact K (by kernel_rfl)) only [E, EE, ↓reduceIte, simprocAttr, u_58, i_58, is_58, ib_58, iz_58, show (nav B16 [2, 2, 1, 2, 2, 1, 2, 2, 1, 2, 2, 2]) = Code.region 7 _ true from rfl, hk_16_7, hz_16_7, hs_16_7, indexAddrV, u_57, i_57, is_57, ib_57, iz_57, u_3, i_3, is_3, ib_3, iz_3, h1, h2, q3, q4]
    try simp only [NM, EE] at hJ
    exact hJ
  · replace hF := cond_some hF
    rcases hF with ⟨h5, hF⟩ | ⟨h5, hF⟩
    · have q6 : x27 < (2 : Int) := by have := eq_of_beq h5; omega
      have q7 : Int.toNat x27 = 1 := by have := eq_of_beq h5; omega
      have hJ := f16_ai10rzai10rz_l2_j2_ok k x26 x27 h0_ h0__1 h0__2 h0__3 h0__4 h0__5 h0__6 h0__7 h0__8 h0__9 h0__10 h1_ h1__1 h1__2 h1__3 h1__4 h1__5 h1__6 h1__7 h1__8 h1__9 h1__10 h2_ h2__1 h2__2 h2__3 h2__4 h2__5 h0__6 h2__7 h2__8 h2__9 h2__10 _ hF
      simp (maxSteps := 999999) (disch := first | exact D (by decide) | exact K (by kernel_rfl)) only [E, EE, ↓reduceIte, simprocAttr, u_58, i_58, is_58, ib_58, iz_58, show (nav B16 [2, 2, 1, 2, 2, 1, 2, 2, 1, 2, 2, 2]) = Code.region 7 _ true from rfl, hk_16_7, hz_16_7, hs_16_7, indexAddrV, u_57, i_57, is_57, ib_57, iz_57, u_3, i_3, is_3, ib_3, iz_3, h1, h2, h5, q6, q7]
      try simp only [NM, EE] at hJ
      exact hJ
    · cases hF
noncomputable def f16_ai10rzai10rz_l2_b (k : Nat) (x26 x27 h0_ h0__1 h0__2 h0__3 h0__4 h0__5 h0__6 h0__7 h0__8 h0__9 : Int) (h0__10 : List Int) (h1_ h1__1 h1__2 h1__3 h1__4 h1__5 h1__6 h1__7 h1__8 h1__9 : Int) (h1__10 : List Int) (h2_ h2__1 h2__2 h2__3 h2__4 h2__5 h2__6 h2__7 h2__8 h2__9 : Int) (h2__10 : List Int) : Option R16_ai10rzai10rz_l2 :=
  cond ((decide (x27 < x26)))
    (f16_ai10rzai10rz_l2_j1 k x26 x27 true h0_ h0__1 h0__2 h0__3 h0__4 h0__5 h0__6 h0__7 h0__8 h0__9 h0__10 h1_ h1__1 h1__2 h1__3 h1__4 h1__5 h1__6 h1__7 h1__8 h1__9 h1__10 h2_ h2__1 h2__2 h2__3 h2__4 h2__5 h2__6 h2__7 h2__8 h2__9 h2__10)
    (some (R16_ai10rzai10rz_l2.o1 x26 x27 false h0_ h0__1 h0__2 h0__3 h0__4 h0__5 h0__6 h0__7 h0__8 h0__9 h0__10 h1_ h1__1 h1__2 h1__3 h1__4 h1__5 h1__6 h1__7 h1__8 h1__9 h1__10 h2_ h2__1 h2__2 h2__3 h2__4 h2__5 h2__6 h2__7 h2__8 h2__9 h2__10))
theorem f16_ai10rzai10rz_l2_b_ok (k : Nat) (x26 x27 h0_ h0__1 h0__2 h0__3 h0__4 h0__5 h0__6 h0__7 h0__8 h0__9 : Int) (h0__10 : List Int) (h1_ h1__1 h1__2 h1__3 h1__4 h1__5 h1__6 h1__7 h1__8 h1__9 : Int) (h1__10 : List Int) (h2_ h2__1 h2__2 h2__3 h2__4 h2__5 h2__6 h2__7 h2__8 h2__9 : Int) (h2__10 : List Int) (r : R16_ai10rzai10rz_l2) (hF : f16_ai10rzai10rz_l2_b k x26 x27 h0_ h0__1 h0__2 h0__3 h0__4 h0__5 h0__6 h0__7 h0__8 h0__9 h0__10 h1_ h1__1 h1__2 h1__3 h1__4 h1__5 h1__6 h1__7 h1__8 h1__9 h1__10 h2_ h2__1 h2__2 h2__3 h2__4 h2__5 h2__6 h2__7 h2__8 h2__9 h2__10 = some r) : EX 16 k (nav B16 [1, 2, 2, 1, 2, 2, 2]) ({ n := 92, F := [(2, V.ptr 30000 0), (3, V.ptr 30001 0), (5, V.ptr 30002 0), (25, V.bsl 30003 2 2), (26, V.p (Value.int .i64 x26)), (27, V.p (Value.int .i64 x27))], M := [(30000, O.box 25 [V.p (Value.int .i64 h0_), V.p (Value.int .i64 h0__1), V.p (Value.int .u32 h0__2), V.p (Value.int .i64 h0__3), V.p (Value.int .i64 h0__4), V.p (Value.int .i64 h0__5), V.p (Value.int .i64 h0__6), V.p (Value.int .i64 h0__7), V.p (Value.int .i64 h0__8), V.p (Value.int .i64 h0__9), V.sl 1 (rowsOf (encI .u8) h0__10)]), (30001, O.box 25 [V.p (Value.int .i64 h1_), V.p (Value.int .i64 h1__1), V.p (Value.int .u32 h1__2), V.p (Value.int .i64 h1__3), V.p (Value.int .i64 h1__4), V.p (Value.int .i64 h1__5), V.p (Value.int .i64 h1__6), V.p (Value.int .i64 h1__7), V.p (Value.int .i64 h1__8), V.p (Value.int .i64 h1__9), V.sl 1 (rowsOf (encI .u8) h1__10)]), (30002, O.box 25 [V.p (Value.int .i64 h2_), V.p (Value.int .i64 h2__1), V.p (Value.int .u32 h2__2), V.p (Value.int .i64 h2__3), V.p (Value.int .i64 h2__4), V.p (Value.int .i64 h2__5), V.p (Value.int .i64 h2__6), V.p (Value.int .i64 h2__7), V.p (Value.int .i64 h2__8), V.p (Value.int .i64 h2__9), V.sl 1 (rowsOf (encI .u8) h2__10)]), (30003, O.box 58 [V.ptr 30002 8, V.ptr 30000 8, V.ptr 30002 6, V.ptr 30000 6])] } : St) = some r.st := by
  unfold f16_ai10rzai10rz_l2_b at hF
  simp (maxSteps := 999999) (disch := first | exact D (by decide) | exact K (by kernel_rfl)) only [E, EE, ↓reduceIte, simprocAttr, xk B16 [1, 2, 2, 1, 2, 2, 2] .sq rfl, show (nav B16 [1, 1, 2, 2, 1, 2, 2, 2]) = Code.region 5 _ false from rfl, hk_16_5, hz_16_5, hs_16_5, xk B16 [2, 1, 2, 2, 1, 2, 2, 2] .sq rfl, xk B16 [1, 2, 1, 2, 2, 1, 2, 2, 2] (.cd 28) rfl]
  replace hF := cond_some hF
  rcases hF with ⟨h1, hF⟩ | ⟨h1, hF⟩
  · have hJ := f16_ai10rzai10rz_l2_j1_ok k x26 x27 true h0_ h0__1 h0__2 h0__3 h0__4 h0__5 h0__6 h0__7 h0__8 h0__9 h0__10 h1_ h1__1 h1__2 h1__3 h1__4 h1__5 h1__6 h1__7 h1__8 h1__9 h1__10 h2_ h2__1 h2__2 h2__3 h2__4 h2__5 h2__6 h2__7 h2__8 h2__9 h2__10 _ hF
    simp (maxSteps := 999999) (disch := first | exact D (by decide) | exact K (by kernel_rfl)) only [E, EE, ↓reduceIte, simprocAttr, xk B16 [2, 1, 2, 1, 2, 2, 1, 2, 2, 2] .sk rfl, h1]
    try simp only [NM, EE] at hJ
    exact hJ
  · cases hF
    simp (maxSteps := 999999) (disch := first | exact D (by decide) | exact K (by kernel_rfl)) only [E, EE, ↓reduceIte, simprocAttr, xk B16 [3, 1, 2, 1, 2, 2, 1, 2, 2, 2] (.ex 0) rfl, R16_ai10rzai10rz_l2.st, h1]
noncomputable def f16_ai10rzai10rz_l2 (k : Nat) : Nat → Int → Int → Int → Int → Int → Int → Int → Int → Int → Int → Int → Int → (List Int) → Int → Int → Int → Int → Int → Int → Int → Int → Int → Int → (List Int) → Int → Int → Int → Int → Int → Int → Int → Int → Int → Int → (List Int) → Option R16_ai10rzai10rz_l2
  | 0, _, _, _, _, _, _, _, _, _, _, _, _, _, _, _, _, _, _, _, _, _, _, _, _, _, _, _, _, _, _, _, _, _, _, _ => none
  | n + 1, x26, x27, h0_, h0__1, h0__2, h0__3, h0__4, h0__5, h0__6, h0__7, h0__8, h0__9, h0__10, h1_, h1__1, h1__2, h1__3, h1__4, h1__5, h1__6, h1__7, h1__8, h1__9, h1__10, h2_, h2__1, h2__2, h2__3, h2__4, h2__5, h2__6, h2__7, h2__8, h2__9, h2__10 => Option.bind (f16_ai10rzai10rz_l2_b k x26 x27 h0_ h0__1 h0__2 h0__3 h0__4 h0__5 h0__6 h0__7 h0__8 h0__9 h0__10 h1_ h1__1 h1__2 h1__3 h1__4 h1__5 h1__6 h1__7 h1__8 h1__9 h1__10 h2_ h2__1 h2__2 h2__3 h2__4 h2__5 h2__6 h2__7 h2__8 h2__9 h2__10) fun o =>
    match o with
    | .o0 y y_1 y_2 y_3 y_4 y_5 y_6 y_7 y_8 y_9 y_10 y_11 y_12 y_13 y_14 y_15 y_16 y_17 y_18 y_19 y_20 y_21 y_22 y_23 y_24 y_25 y_26 y_27 y_28 y_29 y_30 y_31 y_32 y_33 y_34 => f16_ai10rzai10rz_l2 k n y y_1 y_2 y_3 y_4 y_5 y_6 y_7 y_8 y_9 y_10 y_11 y_12 y_13 y_14 y_15 y_16 y_17 y_18 y_19 y_20 y_21 y_22 y_23 y_24 y_25 y_26 y_27 y_28 y_29 y_30 y_31 y_32 y_33 y_34
    | .o1 y y_1 y_2 y_3 y_4 y_5 y_6 y_7 y_8 y_9 y_10 y_11 y_12 y_13 y_14 y_15 y_16 y_17 y_18 y_19 y_20 y_21 y_22 y_23 y_24 y_25 y_26 y_27 y_28 y_29 y_30 y_31 y_32 y_33 y_34 y_35 => some (.o1 y y_1 y_2 y_3 y_4 y_5 y_6 y_7 y_8 y_9 y_10 y_11 y_12 y_13 y_14 y_15 y_16 y_17 y_18 y_19 y_20 y_21 y_22 y_23 y_24 y_25 y_26 y_27 y_28 y_29 y_30 y_31 y_32 y_33 y_34 y_35)
theorem f16_ai10rzai10rz_l2_ok (k n : Nat) : ∀ (x26 x27 h0_ h0__1 h0__2 h0__3 h0__4 h0__5 h0__6 h0__7 h0__8 h0__9 : Int) (h0__10 : List Int) (h1_ h1__1 h1__2 h1__3 h1__4 h1__5 h1__6 h1__7 h1__8 h1__9 : Int) (h1__10 : List Int) (h2_ h2__1 h2__2 h2__3 h2__4 h2__5 h2__6 h2__7 h2__8 h2__9 : Int) (h2__10 : List Int) (r : R16_ai10rzai10rz_l2) (hF : f16_ai10rzai10rz_l2 k n x26 x27 h0_ h0__1 h0__2 h0__3 h0__4 h0__5 h0__6 h0__7 h0__8 h0__9 h0__10 h1_ h1__1 h1__2 h1__3 h1__4 h1__5 h1__6 h1__7 h1__8 h1__9 h1__10 h2_ h2__1 h2__2 h2__3 h2__4 h2__5 h2__6 h2__7 h2__8 h2__9 h2__10 = some r) (σ : St) (hσ : headR (hints.head 16 5) (hints.canon 16 5) σ = some ({ n := 92, F := [(2, V.ptr 30000 0), (3, V.ptr 30001 0), (5, V.ptr 30002 0), (25, V.bsl 30003 2 2), (26, V.p (Value.int .i64 x26)), (27, V.p (Value.int .i64 x27))], M := [(30000, O.box 25 [V.p (Value.int .i64 h0_), V.p (Value.int .i64 h0__1), V.p (Value.int .u32 h0__2), V.p (Value.int .i64 h0__3), V.p (Value.int .i64 h0__4), V.p (Value.int .i64 h0__5), V.p (Value.int .i64 h0__6), V.p (Value.int .i64 h0__7), V.p (Value.int .i64 h0__8), V.p (Value.int .i64 h0__9), V.sl 1 (rowsOf (encI .u8) h0__10)]), (30001, O.box 25 [V.p (Value.int .i64 h1_), V.p (Value.int .i64 h1__1), V.p (Value.int .u32 h1__2), V.p (Value.int .i64 h1__3), V.p (Value.int .i64 h1__4), V.p (Value.int .i64 h1__5), V.p (Value.int .i64 h1__6), V.p (Value.int .i64 h1__7), V.p (Value.int .i64 h1__8), V.p (Value.int .i64 h1__9), V.sl 1 (rowsOf (encI .u8) h1__10)]), (30002, O.box 25 [V.p (Value.int .i64 h2_), V.p (Value.int .i64 h2__1), V.p (Value.int .u32 h2__2), V.p (Value.int .i64 h2__3), V.p (Value.int .i64 h2__4), V.p (Value.int .i64 h2__5), V.p (Value.int .i64 h2__6), V.p (Value.int .i64 h2__7), V.p (Value.int .i64 h2__8), V.p (Value.int .i64 h2__9), V.sl 1 (rowsOf (encI .u8) h2__10)]), (30003, O.box 58 [V.ptr 30002 8, V.ptr 30000 8, V.ptr 30002 6, V.ptr 30000 6])] } : St)), LP 16 k (nav B16 [1, 2, 2, 1, 2, 2, 2]) n σ = some r.st := by
  induction n with
  | zero => intro x26 x27 h0_ h0__1 h0__2 h0__3 h0__4 h0__5 h0__6 h0__7 h0__8 h0__9 h0__10 h1_ h1__1 h1__2 h1__3 h1__4 h1__5 h1__6 h1__7 h1__8 h1__9 h1__10 h2_ h2__1 h2__2 h2__3 h2__4 h2__5 h2__6 h2__7 h2__8 h2__9 h2__10 r hF; cases hF
  | succ n ih =>
    intro x26 x27 h0_ h0__1 h0__2 h0__3 h0__4 h0__5 h0__6 h0__7 h0__8 h0__9 h0__10 h1_ h1__1 h1__2 h1__3 h1__4 h1__5 h1__6 h1__7 h1__8 h1__9 h1__10 h2_ h2__1 h2__2 h2__3 h2__4 h2__5 h2__6 h2__7 h2__8 h2__9 h2__10 r hF σ hσ
    rw [f16_ai10rzai10rz_l2] at hF
    obtain ⟨o, h, hF⟩ := Option.bind_eq_some_iff.1 hF
    have hB := f16_ai10rzai10rz_l2_b_ok k x26 x27 h0_ h0__1 h0__2 h0__3 h0__4 h0__5 h0__6 h0__7 h0__8 h0__9 h0__10 h1_ h1__1 h1__2 h1__3 h1__4 h1__5 h1__6 h1__7 h1__8 h1__9 h1__10 h2_ h2__1 h2__2 h2__3 h2__4 h2__5 h2__6 h2__7 h2__8 h2__9 h2__10 o h
    unfold LP at ih ⊢
    unfold EX at hB
    rw [loopK_succ, show firstReg (nav B16 [1, 2, 2, 1, 2, 2, 2]) = 5 from rfl, hσ, headK_some, hB]
    cases o with
    | o0 y y_1 y_2 y_3 y_4 y_5 y_6 y_7 y_8 y_9 y_10 y_11 y_12 y_13 y_14 y_15 y_16 y_17 y_18 y_19 y_20 y_21 y_22 y_23 y_24 y_25 y_26 y_27 y_28 y_29 y_30 y_31 y_32 y_33 y_34 =>
      refine ih y y_1 y_2 y_3 y_4 y_5 y_6 y_7 y_8 y_9 y_10 y_11 y_12 y_13 y_14 y_15 y_16 y_17 y_18 y_19 y_20 y_21 y_22 y_23 y_24 y_25 y_26 y_27 y_28 y_29 y_30 y_31 y_32 y_33 y_34 r hF _ ?_
      simp (maxSteps := 999999) (disch := first | exact D (by decide) | exact K (by kernel_rfl)) only [E, EE, ↓reduceIte, simprocAttr, hh_16_5, hc_16_5]
    | o1 y y_1 y_2 y_3 y_4 y_5 y_6 y_7 y_8 y_9 y_10 y_11 y_12 y_13 y_14 y_15 y_16 y_17 y_18 y_19 y_20 y_21 y_22 y_23 y_24 y_25 y_26 y_27 y_28 y_29 y_30 y_31 y_32 y_33 y_34 y_35 => cases hF; rfl
noncomputable def f16_ai10rzai10rz_j4 (k : Nat) (x45 : Bool) (h0_ h0__1 h0__2 h0__3 h0__4 h0__5 h0__6 h0__7 h0__8 h0__9 : Int) (h0__10 : List Int) (h1_ h1__1 h1__2 h1__3 h1__4 h1__5 h1__6 h1__7 h1__8 h1__9 : Int) (h1__10 : List Int) : Option R16_ai10rzai10rz :=
  cond ((decide ((if h1__8 > h0__8 then h1__8 else h0__8) ≥ (if (IntKind.i64.wrap (h1__8 + ((List.length h1__10) : Int))) < (IntKind.i64.wrap (h0__8 + ((List.length h0__10) : Int))) then (IntKind.i64.wrap (h1__8 + ((List.length h1__10) : Int))) else (IntKind.i64.wrap (h0__8 + ((List.length h0__10) : Int)))))))
    (some (R16_ai10rzai10rz.o0 true))
    (
      ifE ((0 : Int) ≤ (IntKind.i64.wrap ((if h1__8 > h0__8 then h1__8 else h0__8) - h0__8))) (
        ifE ((0 : Int) ≤ (IntKind.i64.wrap ((if (IntKind.i64.wrap (h1__8 + ((List.length h1__10) : Int))) < (IntKind.i64.wrap (h0__8 + ((List.length h0__10) : Int))) then (IntKind.i64.wrap (h1__8 + ((List.length h1__10) : Int))) else (IntKind.i64.wrap (h0__8 + ((List.length h0__10) : Int)))) - h0__8))) (
          ifE ((Int.toNat (IntKind.i64.wrap ((if h1__8 > h0__8 then h1__8 else h0__8) - h0__8))) ≤ (Int.toNat ((IntKind.i64.wrap ((if (IntKind.i64.wrap (h1__8 + ((List.length h1__10) : Int))) < (IntKind.i64.wrap (h0__8 + ((List.length h0__10) : Int))) then (IntKind.i64.wrap (h1__8 + ((List.length h1__10) : Int))) else (IntKind.i64.wrap (h0__8 + ((List.length h0__10) : Int)))) - h0__8))))) (
            ifE ((Int.toNat ((IntKind.i64.wrap ((if (IntKind.i64.wrap (h1__8 + ((List.length h1__10) : Int))) < (IntKind.i64.wrap (h0__8 + ((List.length h0__10) : Int))) then (IntKind.i64.wrap (h1__8 + ((List.length h1__10) : Int))) else (IntKind.i64.wrap (h0__8 + ((List.length h0__10) : Int)))) - h0__8)))) ≤ (List.length h0__10)) (
              ifE ((0 : Int) ≤ (IntKind.i64.wrap ((if h1__8 > h0__8 then h1__8 else h0__8) - h1__8))) (
                ifE ((0 : Int) ≤ (IntKind.i64.wrap ((if (IntKind.i64.wrap (h1__8 + ((List.length h1__10) : Int))) < (IntKind.i64.wrap (h0__8 + ((List.length h0__10) : Int))) then (IntKind.i64.wrap (h1__8 + ((List.length h1__10) : Int))) else (IntKind.i64.wrap (h0__8 + ((List.length h0__10) : Int)))) - h1__8))) (
                  ifE ((Int.toNat (IntKind.i64.wrap ((if h1__8 > h0__8 then h1__8 else h0__8) - h1__8))) ≤ (Int.toNat ((IntKind.i64.wrap ((if (IntKind.i64.wrap (h1__8 + ((List.length h1__10) : Int))) < (IntKind.i64.wrap (h0__8 + ((List.length h0__10) : Int))) then (IntKind.i64.wrap (h1__8 + ((List.length h1__10) : Int))) else (IntKind.i64.wrap (h0__8 + ((List.length h0__10) : Int)))) - h1__8))))) (
                    ifE ((Int.toNat ((IntKind.i64.wrap ((if (IntKind.i64.wrap (h1__8 + ((List.length h1__10) : Int))) < (IntKind.i64.wrap (h0__8 + ((List.length h0__10) : Int))) then (IntKind.i64.wrap (h1__8 + ((List.length h1__10) : Int))) else (IntKind.i64.wrap (h0__8 + ((List.length h0__10) : Int)))) - h1__8)))) ≤ (List.length h1__10)) (
                      Option.bind (f30_rr k ((List.drop (Int.toNat (IntKind.i64.wrap ((if h1__8 > h0__8 then h1__8 else h0__8) - h0__8))) ((List.take ((Int.toNat ((IntKind.i64.wrap ((if (IntKind.i64.wrap (h1__8 + ((List.length h1__10) : Int))) < (IntKind.i64.wrap (h0__8 + ((List.length h0__10) : Int))) then (IntKind.i64.wrap (h1__8 + ((List.length h1__10) : Int))) else (IntKind.i64.wrap (h0__8 + ((List.length h0__10) : Int)))) - h0__8))))) h0__10)))) ((List.drop (Int.toNat (IntKind.i64.wrap ((if h1__8 > h0__8 then h1__8 else h0__8) - h1__8))) ((List.take ((Int.toNat ((IntKind.i64.wrap ((if (IntKind.i64.wrap (h1__8 + ((List.length h1__10) : Int))) < (IntKind.i64.wrap (h0__8 + ((List.length h0__10) : Int))) then (IntKind.i64.wrap (h1__8 + ((List.length h1__10) : Int))) else (IntKind.i64.wrap (h0__8 + ((List.length h0__10) : Int)))) - h1__8))))) h1__10))))) fun o10 =>
                        match o10 with
                        | .o0 v13 =>
                          some (R16_ai10rzai10rz.o0 v13))))))))))
theorem f16_ai10rzai10rz_j4_ok (k : Nat) (x45 : Bool) (h0_ h0__1 h0__2 h0__3 h0__4 h0__5 h0__6 h0__7 h0__8 h0__9 : Int) (h0__10 : List Int) (h1_ h1__1 h1__2 h1__3 h1__4 h1__5 h1__6 h1__7 h1__8 h1__9 : Int) (h1__10 : List Int) (r : R16_ai10rzai10rz) (hF : f16_ai10rzai10rz_j4 k x45 h0_ h0__1 h0__2 h0__3 h0__4 h0__5 h0__6 h0__7 h0__8 h0__9 h0__10 h1_ h1__1 h1__2 h1__3 h1__4 h1__5 h1__6 h1__7 h1__8 h1__9 h1__10 = some r) : finK Try.prog Try.f16 0 (EX 16 k (nav B16 [2, 2, 2, 2, 2, 2]) ({ n := 92, F := [(2, V.ptr 30000 0), (3, V.ptr 30001 0), (45, V.p (Value.bool x45))], M := [(30000, O.box 25 [V.p (Value.int .i64 h0_), V.p (Value.int .i64 h0__1), V.p (Value.int .u32 h0__2), V.p (Value.int .i64 h0__3), V.p (Value.int .i64 h0__4), V.p (Value.int .i64 h0__5), V.p (Value.int .i64 h0__6), V.p (Value.int .i64 h0__7), V.p (Value.int .i64 h0__8), V.p (Value.int .i64 h0__9), V.sl 1 (rowsOf (encI .u8) h0__10)]), (30001, O.box 25 [V.p (Value.int .i64 h1_), V.p (Value.int .i64 h1__1), V.p (Value.int .u32 h1__2), V.p (Value.int .i64 h1__3), V.p (Value.int .i64 h1__4), V.p (Value.int .i64 h1__5), V.p (Value.int .i64 h1__6), V.p (Value.int .i64 h1__7), V.p (Value.int .i64 h1__8), V.p (Value.int .i64 h1__9), V.sl 1 (rowsOf (encI .u8) h1__10)])] } : St)) = some r.st := by
  unfold f16_ai10rzai10rz_j4 at hF
  simp (maxSteps := 999999) (disch := first | exact D (by decide) | exact K (by kernel_rfl)) only [E, EE, ↓reduceIte, simprocAttr, xk B16 [2, 2, 2, 2, 2, 2] .sq rfl, show (nav B16 [1, 2, 2, 2, 2, 2, 2]) = Code.region 12 _ true from rfl, hk_16_12, hz_16_12, hs_16_12, fieldAddrV, u_25, i_25, is_25, ib_25, iz_25, u_3, i_3, is_3, ib_3, iz_3, minmaxV, minmaxGo, u_23, i_23, is_23, ib_23, iz_23, xk B16 [2, 2, 2, 2, 2, 2, 2] .sq rfl, show (nav B16 [1, 2, 2, 2, 2, 2, 2, 2]) = Code.region 13 _ true from rfl, hk_16_13, hz_16_13, hs_16_13]
  replace hF := cond_some hF
  rcases hF with ⟨h1, hF⟩ | ⟨h1, hF⟩
  · cases hF
    simp (maxSteps := 999999) (disch := first | exact D (by decide) | exact K (by kernel_rfl)) only [E, EE, ↓reduceIte, simprocAttr, xk B16 [2, 2, 2, 2, 2, 2, 2, 2] .rt rfl, finK_norm, finK_ret, fin16, R16_ai10rzai10rz.st, h1]
  · replace hF := ifE_some.1 hF
    obtain ⟨h2, hF⟩ := hF
    replace hF := ifE_some.1 hF
    obtain ⟨h3, hF⟩ := hF
    replace hF := ifE_some.1 hF
    obtain ⟨h4, hF⟩ := hF
    replace hF := ifE_some.1 hF
    obtain ⟨h5, hF⟩ := hF
    replace hF := ifE_some.1 hF
    obtain ⟨h6, hF⟩ := hF
    replace hF := ifE_some.1 hF
    obtain ⟨h7, hF⟩ := hF
    replace hF := ifE_some.1 hF
    obtain ⟨h8, hF⟩ := hF
    replace hF := ifE_some.1 hF
    obtain ⟨h9, hF⟩ := hF
    replace hF := Option.bind_eq_some_iff.1 hF
    obtain ⟨o10, h11, hF⟩ := hF
    have hc12 := f30_rr_ok k ((List.drop (Int.toNat (IntKind.i64.wrap ((if h1__8 > h0__8 then h1__8 else h0__8) - h0__8))) ((List.take ((Int.toNat ((IntKind.i64.wrap ((if (IntKind.i64.wrap (h1__8 + ((List.length h1__10) : Int))) < (IntKind.i64.wrap (h0__8 + ((List.length h0__10) : Int))) then (IntKind.i64.wrap (h1__8 + ((List.length h1__10) : Int))) else (IntKind.i64.wrap (h0__8 + ((List.length h0__10) : Int)))) - h0__8))))) h0__10)))) ((List.drop (Int.toNat (IntKind.i64.wrap ((if h1__8 > h0__8 then h1__8 else h0__8) - h1__8))) ((List.take ((Int.toNat ((IntKind.i64.wrap ((if (IntKind.i64.wrap (h1__8 + ((List.length h1__10) : Int))) < (IntKind.i64.wrap (h0__8 + ((List.length h0__10) : Int))) then (IntKind.i64.wrap (h1__8 + ((List.length h1__10) : Int))) else (IntKind.i64.wrap (h0__8 + ((List.length h0__10) : Int)))) - h1__8))))) h1__10)))) _ h11
    cases o10 with
    | o0 v13 =>
      (try dsimp only at hF)
      (try simp only [NM, EE, R30_rr.st] at hc12)
      cases hF
      simp (maxSteps := 999999) (disch := first | exact D (by decide) | exact K (by kernel_rfl)) only [E, EE, ↓reduceIte, simprocAttr, fieldAddrV, u_25, i_25, is_25, ib_25, iz_25, u_23, i_23, is_23, ib_23, iz_23, u_3, i_3, is_3, ib_3, iz_3, sliceV, bound, u_5, i_5, is_5, ib_5, iz_5, callStep, CL, gv, List.contains, xk B16 [2, 2, 2, 2, 2, 2, 2, 2] .rt rfl, finK_norm, finK_ret, fin16, R16_ai10rzai10rz.st, h1, h2, h3, h4, h5, h6, h7, h8, h9, hc12]
noncomputable def f16_ai10rzai10rz_j3 (k : Nat) (x26 x27 : Int) (x28 : Bool) (h0_ h0__1 h0__2 h0__3 h0__4 h0__5 h0__6 h0__7 h0__8 h0__9 : Int) (h0__10 : List Int) (h1_ h1__1 h1__2 h1__3 h1__4 h1__5 h1__6 h1__7 h1__8 h1__9 : Int) (h1__10 : List Int) (h2_ h2__1 h2__2 h2__3 h2__4 h2__5 h2__6 h2__7 h2__8 h2__9 : Int) (h2__10 : List Int) : Option R16_ai10rzai10rz :=
  Option.bind (f20_ai10rzai10rz k h0_ h0__1 h0__2 h0__3 h0__4 h0__5 h0__6 h0__7 h0__8 h0__9 h0__10 h2_ h2__1 h2__2 h2__3 h2__4 h2__5 h2__6 h2__7 h2__8 h2__9 h0__10) fun o1 =>
    match o1 with
    | .o0 v4 =>
      cond ((!v4))
        (some (R16_ai10rzai10rz.o0 false))
        (f16_ai10rzai10rz_j4 k false h0_ h0__1 h0__2 h0__3 h0__4 h0__5 h0__6 h0__7 h0__8 h0__9 h0__10 h1_ h1__1 h1__2 h1__3 h1__4 h1__5 h1__6 h1__7 h1__8 h1__9 h1__10)
theorem f16_ai10rzai10rz_j3_ok (k : Nat) (x26 x27 : Int) (x28 : Bool) (h0_ h0__1 h0__2 h0__3 h0__4 h0__5 h0__6 h0__7 h0__8 h0__9 : Int) (h0__10 : List Int) (h1_ h1__1 h1__2 h1__3 h1__4 h1__5 h1__6 h1__7 h1__8 h1__9 : Int) (h1__10 : List Int) (h2_ h2__1 h2__2 h2__3 h2__4 h2__5 h2__6 h2__7 h2__8 h2__9 : Int) (h2__10 : List Int) (r : R16_ai10rzai10rz) (hF : f16_ai10rzai10rz_j3 k x26 x27 x28 h0_ h0__1 h0__2 h0__3 h0__4 h0__5 h0__6 h0__7 h0__8 h0__9 h0__10 h1_ h1__1 h1__2 h1__3 h1__4 h1__5 h1__6 h1__7 h1__8 h1__9 h1__10 h2_ h2__1 h2__2 h2__3 h2__4 h2__5 h2__6 h2__7 h2__8 h2__9 h2__10 = some r) : finK Try.prog Try.f16 0 (EX 16 k (nav B16 [2, 2, 2, 2]) ({ n := 92, F := [(2, V.ptr 30000 0), (3, V.ptr 30001 0), (5, V.ptr 30002 0), (25, V.bsl 30003 2 2), (26, V.p (Value.int .i64 x26)), (27, V.p (Value.int .i64 x27)), (28, V.p (Value.bool x28))], M := [(30000, O.box 25 [V.p (Value.int .i64 h0_), V.p (Value.int .i64 h0__1), V.p (Value.int .u32 h0__2), V.p (Value.int .i64 h0__3), V.p (Value.int .i64 h0__4), V.p (Value.int .i64 h0__5), V.p (Value.int .i64 h0__6), V.p (Value.int .i64 h0__7), V.p (Value.int .i64 h0__8), V.p (Value.int .i64 h0__9), V.sl 1 (rowsOf (encI .u8) h0__10)]), (30001, O.box 25 [V.p (Value.int .i64 h1_), V.p (Value.int .i64 h1__1), V.p (Value.int .u32 h1__2), V.p (Value.int .i64 h1__3), V.p (Value.int .i64 h1__4), V.p (Value.int .i64 h1__5), V.p (Value.int .i64 h1__6), V.p (Value.int .i64 h1__7), V.p (Value.int .i64 h1__8), V.p (Value.int .i64 h1__9), V.sl 1 (rowsOf (encI .u8) h1__10)]), (30002, O.box 25 [V.p (Value.int .i64 h2_), V.p (Value.int .i64 h2__1), V.p (Value.int .u32 h2__2), V.p (Value.int .i64 h2__3), V.p (Value.int .i64 h2__4), V.p (Value.int .i64 h2__5), V.p (Value.int .i64 h2__6), V.p (Value.int .i64 h2__7), V.p (Value.int .i64 h2__8), V.p (Value.int .i64 h2__9), V.sl 1 (rowsOf (encI .u8) h2__10)]), (30003, O.box 58 [V.ptr 30002 8, V.ptr 30000 8, V.ptr 30002 6, V.ptr 30000 6])] } : St)) = some r.st := by
  unfold f16_ai10rzai10rz_j3 at hF
  replace hF := Option.bind_eq_some_iff.1 hF
  obtain ⟨o1, h2, hF⟩ := hF
  have hc3 := f20_ai10rzai10rz_ok k h0_ h0__1 h0__2 h0__3 h0__4 h0__5 h0__6 h0__7 h0__8 h0__9 h0__10 h2_ h2__1 h2__2 h2__3 h2__4 h2__5 h2__6 h2__7 h2__8 h2__9 h0__10 _ h2
  cases o1 with
  | o0 v4 =>
    (try dsimp only at hF)
    (try simp only [NM, EE, R20_ai10rzai10rz.st] at hc3)
    simp (maxSteps := 999999) (disch := first | exact D (by decide) | exact K (by kernel_rfl)) only [E, EE, ↓reduceIte, simprocAttr, xk B16 [2, 2, 2, 2] .sq rfl, show (nav B16 [1, 2, 2, 2, 2]) = Code.region 9 _ false from rfl, hk_16_9, hz_16_9, hs_16_9, fieldAddrV, u_25, i_25, is_25, ib_25, iz_25, u_23, i_23, is_23, ib_23, iz_23, xk B16 [2, 2, 2, 2, 2] .sq rfl, xk B16 [1, 2, 2, 2, 2, 2] .sq rfl, show (nav B16 [1, 1, 2, 2, 2, 2, 2]) = Code.region 10 _ false from rfl, hk_16_10, hz_16_10, hs_16_10, callStep, CL, gv, List.contains, xk B16 [2, 1, 2, 2, 2, 2, 2] (.cd 45) rfl, hc3]
    replace hF := cond_some hF
    rcases hF with ⟨h5, hF⟩ | ⟨h5, hF⟩
    · cases hF
      simp (maxSteps := 999999) (disch := first | exact D (by decide) | exact K (by kernel_rfl)) only [E, EE, ↓reduceIte, simprocAttr, xk B16 [2, 2, 1, 2, 2, 2, 2, 2] .sq rfl, show (nav B16 [1, 2, 2, 1, 2, 2, 2, 2, 2]) = Code.region 11 _ false from rfl, hk_16_11, hz_16_11, hs_16_11, xk B16 [2, 2, 2, 1, 2, 2, 2, 2, 2] .rt rfl, finK_norm, finK_ret, fin16, R16_ai10rzai10rz.st, hc3, h5]
    · have hJ := f16_ai10rzai10rz_j4_ok k false h0_ h0__1 h0__2 h0__3 h0__4 h0__5 h0__6 h0__7 h0__8 h0__9 h0__10 h1_ h1__1 h1__2 h1__3 h1__4 h1__5 h1__6 h1__7 h1__8 h1__9 h1__10 _ hF
      simp (maxSteps := 999999) (disch := first | exact D (by decide) | exact K (by kernel_rfl)) only [E, EE, ↓reduceIte, simprocAttr, xk B16 [3, 2, 1, 2, 2, 2, 2, 2] .sk rfl, hc3, h5]
      try simp only [NM, EE] at hJ
      exact hJ
noncomputable def f16_ai10rzai10rz_j1 (k : Nat) (x17 : Bool) (m2 m2_1 m2_2 m2_3 m2_4 m2_5 m2_6 m2_7 m2_8 m2_9 : Int) (m2_10 : List Int) (m3 m3_1 m3_2 m3_3 m3_4 m3_5 m3_6 m3_7 m3_8 m3_9 : Int) (m3_10 : List Int) : Option R16_ai10rzai10rz :=
  Option.bind (f16_ai10rzai10rz_l2 k k 2 0 m2 m2_1 m2_2 m2_3 m2_4 m2_5 m2_6 m2_7 m2_8 m2_9 m2_10 m3 m3_1 m3_2 m3_3 m3_4 m3_5 m3_6 m3_7 m3_8 m3_9 m3_10 m3 m3_1 m3_2 m3_3 m3_4 m3_5 m3_6 m3_7 m3_8 m3_9 m3_10) fun o1 =>
    match o1 with
    | .o0 _ _ _ _ _ _ _ _ _ _ _ _ _ _ _ _ _ _ _ _ _ _ _ _ _ _ _ _ _ _ _ _ _ _ _ =>
      none
    | .o1 v4 v5 v6 v7 v8 v9 v10 v11 v12 v13 v14 v15 v16 v17 v18 v19 v20 v21 v22 v23 v24 v25 v26 v27 v28 v29 v30 v31 v32 v33 v34 v35 v36 v37 v38 v39 =>
      f16_ai10rzai10rz_j3 k v4 v5 v6 v7 v8 v9 v10 v11 v12 v13 v14 v15 v16 v17 v18 v19 v20 v21 v22 v23 v24 v25 v26 v27 v28 v29 v30 v31 v32 v33 v34 v35 v36 v37 v38 v39
theorem f16_ai10rzai10rz_j1_ok (k : Nat) (x17 : Bool) (m2 m2_1 m2_2 m2_3 m2_4 m2_5 m2_6 m2_7 m2_8 m2_9 : Int) (m2_10 : List Int) (m3 m3_1 m3_2 m3_3 m3_4 m3_5 m3_6 m3_7 m3_8 m3_9 : Int) (m3_10 : List Int) (r : R16_ai10rzai10rz) (hF : f16_ai10rzai10rz_j1 k x17 m2 m2_1 m2_2 m2_3 m2_4 m2_5 m2_6 m2_7 m2_8 m2_9 m2_10 m3 m3_1 m3_2 m3_3 m3_4 m3_5 m3_6 m3_7 m3_8 m3_9 m3_10 = some r) : finK Try.prog Try.f16 0 (EX 16 k (nav B16 [2, 2]) ({ n := 92, F := [(2, V.ptr 2 0), (3, V.ptr 3 0), (17, V.p (Value.bool x17))], M := [(2, O.box 25 [V.p (Value.int .i64 m2), V.p (Value.int .i64 m2_1), V.p (Value.int .u32 m2_2), V.p (Value.int .i64 m2_3), V.p (Value.int .i64 m2_4), V.p (Value.int .i64 m2_5), V.p (Value.int .i64 m2_6), V.p (Value.int .i64 m2_7), V.p (Value.int .i64 m2_8), V.p (Value.int .i64 m2_9), V.sl 1 (rowsOf (encI .u8) m2_10)]), (3, O.box 25 [V.p (Value.int .i64 m3), V.p (Value.int .i64 m3_1), V.p (Value.int .u32 m3_2), V.p (Value.int .i64 m3_3), V.p (Value.int .i64 m3_4), V.p (Value.int .i64 m3_5), V.p (Value.int .i64 m3_6), V.p (Value.int .i64 m3_7), V.p (Value.int .i64 m3_8), V.p (Value.int .i64 m3_9), V.sl 1 (rowsOf (encI .u8) m3_10)])] } : St)) = some r.st := by
  unfold f16_ai10rzai10rz_j1 at hF
  replace hF := Option.bind_eq_some_iff.1 hF
  obtain ⟨o1, h2, hF⟩ := hF
  have hc3 := f16_ai10rzai10rz_l2_ok k k 2 0 m2 m2_1 m2_2 m2_3 m2_4 m2_5 m2_6 m2_7 m2_8 m2_9 m2_10 m3 m3_1 m3_2 m3_3 m3_4 m3_5 m3_6 m3_7 m3_8 m3_9 m3_10 m3 m3_1 m3_2 m3_3 m3_4 m3_5 m3_6 m3_7 m3_8 m3_9 m3_10 _ h2
  simp (maxSteps := 999999) (disch := first | exact D (by decide) | exact K (by kernel_rfl)) only [E, EE, ↓reduceIte, simprocAttr, xk B16 [2, 2] .sq rfl, show (nav B16 [1, 2, 2]) = Code.region 3 _ false from rfl, hk_16_3, hz_16_3, hs_16_3, u_25, i_25, is_25, ib_25, iz_25, xk B16 [2, 2, 2] .sq rfl, xk B16 [1, 2, 2, 2] .sq rfl, show (nav B16 [1, 1, 2, 2, 2]) = Code.region 4 _ false from rfl, hk_16_4, hz_16_4, hs_16_4, fieldAddrV, u_3, i_3, is_3, ib_3, iz_3, bl_58, u_58, i_58, is_58, ib_58, iz_58, buildSliceV, fillRows, u_59, i_59, is_59, ib_59, iz_59, xk B16 [2, 1, 2, 2, 2] (.bk 0) rfl, xk B16 [2, 2, 1, 2, 2, 2] .lp rfl, hh_16_5, hc_16_5]
  (try simp only [NM, EE] at hc3)
  rw [hc3 _ (by simp (maxSteps := 999999) (disch := first | exact D (by decide) | exact K (by kernel_rfl)) only [E, EE, ↓reduceIte, simprocAttr, hh_16_5, hc_16_5])]
  clear hc3
  cases o1 with
  | o0 _ _ _ _ _ _ _ _ _ _ _ _ _ _ _ _ _ _ _ _ _ _ _ _ _ _ _ _ _ _ _ _ _ _ _ =>
    (try dsimp only at hF)
    cases hF
  | o1 v4 v5 v6 v7 v8 v9 v10 v11 v12 v13 v14 v15 v16 v17 v18 v19 v20 v21 v22 v23 v24 v25 v26 v27 v28 v29 v30 v31 v32 v33 v34 v35 v36 v37 v38 v39 =>
    (try dsimp only at hF)
    have hJ := f16_ai10rzai10rz_j3_ok k v4 v5 v6 v7 v8 v9 v10 v11 v12 v13 v14 v15 v16 v17 v18 v19 v20 v21 v22 v23 v24 v25 v26 v27 v28 v29 v30 v31 v32 v33 v34 v35 v36 v37 v38 v39 _ hF
    simp (maxSteps := 999999) (disch := first | exact D (by decide) | exact K (by kernel_rfl)) only [E, EE, ↓reduceIte, simprocAttr, R16_ai10rzai10rz_l2.st]
    try simp only [NM, EE] at hJ
    exact hJ
noncomputable def f16_ai10rzai10rz_e (k : Nat) (a0 a0_1 a0_2 a0_3 a0_4 a0_5 a0_6 a0_7 a0_8 a0_9 : Int) (a0_10 : List Int) (a1 a1_1 a1_2 a1_3 a1_4 a1_5 a1_6 a1_7 a1_8 a1_9 : Int) (a1_10 : List Int) : Option R16_ai10rzai10rz :=
  Option.bind (f26_ai10rz k a0 a0_1 a0_2 a0_3 a0_4 a0_5 a0_6 a0_7 a0_8 a0_9 a0_10) fun o1 =>
    match o1 with
    | .o0 v4 =>
      cond ((v4 != 0))
        (some (R16_ai10rzai10rz.o0 false))
        (
          Option.bind (f26_ai10rz k a1 a1_1 a1_2 a1_3 a1_4 a1_5 a1_6 a1_7 a1_8 a1_9 a1_10) fun o6 =>
            match o6 with
            | .o0 v9 =>
              cond ((v9 != 0))
                (some (R16_ai10rzai10rz.o0 false))
                (f16_ai10rzai10rz_j1 k false a0 a0_1 a0_2 a0_3 a0_4 a0_5 a0_6 a0_7 a0_8 a0_9 a0_10 a1 a1_1 a1_2 a1_3 a1_4 a1_5 a1_6 a1_7 a1_8 a1_9 a1_10))
theorem f16_ai10rzai10rz_e_ok (k : Nat) (a0 a0_1 a0_2 a0_3 a0_4 a0_5 a0_6 a0_7 a0_8 a0_9 : Int) (a0_10 : List Int) (a1 a1_1 a1_2 a1_3 a1_4 a1_5 a1_6 a1_7 a1_8 a1_9 : Int) (a1_10 : List Int) (r : R16_ai10rzai10rz) (hF : f16_ai10rzai10rz_e k a0 a0_1 a0_2 a0_3 a0_4 a0_5 a0_6 a0_7 a0_8 a0_9 a0_10 a1 a1_1 a1_2 a1_3 a1_4 a1_5 a1_6 a1_7 a1_8 a1_9 a1_10 = some r) : finK Try.prog Try.f16 0 (EX 16 k (nav B16 []) ({ n := 92, F := [(0, V.agg [V.p (Value.int .i64 a0), V.p (Value.int .i64 a0_1), V.p (Value.int .u32 a0_2), V.p (Value.int .i64 a0_3), V.p (Value.int .i64 a0_4), V.p (Value.int .i64 a0_5), V.p (Value.int .i64 a0_6), V.p (Value.int .i64 a0_7), V.p (Value.int .i64 a0_8), V.p (Value.int .i64 a0_9), V.sl 1 (rowsOf (encI .u8) a0_10)]), (1, V.agg [V.p (Value.int .i64 a1), V.p (Value.int .i64 a1_1), V.p (Value.int .u32 a1_2), V.p (Value.int .i64 a1_3), V.p (Value.int .i64 a1_4), V.p (Value.int .i64 a1_5), V.p (Value.int .i64 a1_6), V.p (Value.int .i64 a1_7), V.p (Value.int .i64 a1_8), V.p (Value.int .i64 a1_9), V.sl 1 (rowsOf (encI .u8) a1_10)])], M := [] } : St)) = some r.st := by
  unfold f16_ai10rzai10rz_e at hF
  replace hF := Option.bind_eq_some_iff.1 hF
  obtain ⟨o1, h2, hF⟩ := hF
  have hc3 := f26_ai10rz_ok k a0 a0_1 a0_2 a0_3 a0_4 a0_5 a0_6 a0_7 a0_8 a0_9 a0_10 _ h2
  cases o1 with
  | o0 v4 =>
    (try dsimp only at hF)
    (try simp only [NM, EE, R26_ai10rz.st] at hc3)
    simp (maxSteps := 999999) (disch := first | exact D (by decide) | exact K (by kernel_rfl)) only [E, EE, ↓reduceIte, simprocAttr, xk B16 [] .sq rfl, show (nav B16 [1]) = Code.region 0 _ false from rfl, hk_16_0, hz_16_0, hs_16_0, xk B16 [2] .sq rfl, xk B16 [1, 2] .sq rfl, show (nav B16 [1, 1, 2]) = Code.region 1 _ false from rfl, hk_16_1, hz_16_1, hs_16_1, u_25, i_25, is_25, ib_25, iz_25, callStep, CL, gv, List.contains, hc3]
    replace hF := cond_some hF
    rcases hF with ⟨h5, hF⟩ | ⟨h5, hF⟩
    · cases hF
      simp (maxSteps := 999999) (disch := first | exact D (by decide) | exact K (by kernel_rfl)) only [E, EE, ↓reduceIte, simprocAttr, xk B16 [2, 1, 2] (.cd 17) rfl, xk B16 [2, 2, 1, 2] .sq rfl, show (nav B16 [1, 2, 2, 1, 2]) = Code.region 2 _ false from rfl, hk_16_2, hz_16_2, hs_16_2, xk B16 [2, 2, 2, 1, 2] .rt rfl, finK_norm, finK_ret, fin16, R16_ai10rzai10rz.st, hc3, h5]
    · replace hF := Option.bind_eq_some_iff.1 hF
      obtain ⟨o6, h7, hF⟩ := hF
      have hc8 := f26_ai10rz_ok k a1 a1_1 a1_2 a1_3 a1_4 a1_5 a1_6 a1_7 a1_8 a1_9 a1_10 _ h7
      cases o6 with
      | o0 v9 =>
        (try dsimp only at hF)
        (try simp only [NM, EE, R26_ai10rz.st] at hc8)
        simp (maxSteps := 999999) (disch := first | exact D (by decide) | exact K (by kernel_rfl)) only [E, EE, ↓reduceIte, simprocAttr, u_25, i_25, is_25, ib_25, iz_25, callStep, CL, gv, List.contains, xk B16 [2, 1, 2] (.cd 17) rfl, hc3, h5, hc8]
        replace hF := cond_some hF
        rcases hF with ⟨h10, hF⟩ | ⟨h10, hF⟩
        · cases hF
          simp (maxSteps := 999999) (disch := first | exact D (by decide) | exact K (by kernel_rfl)) only [E, EE, ↓reduceIte, simprocAttr, xk B16 [2, 2, 1, 2] .sq rfl, show (nav B16 [1, 2, 2, 1, 2]) = Code.region 2 _ false from rfl, hk_16_2, hz_16_2, hs_16_2, xk B16 [2, 2, 2, 1, 2] .rt rfl, finK_norm, finK_ret, fin16, R16_ai10rzai10rz.st, hc3, h5, hc8, h10]
        · have hJ := f16_ai10rzai10rz_j1_ok k false a0 a0_1 a0_2 a0_3 a0_4 a0_5 a0_6 a0_7 a0_8 a0_9 a0_10 a1 a1_1 a1_2 a1_3 a1_4 a1_5 a1_6 a1_7 a1_8 a1_9 a1_10 _ hF
          simp (maxSteps := 999999) (disch := first | exact D (by decide) | exact K (by kernel_rfl)) only [E, EE, ↓reduceIte, simprocAttr, xk B16 [3, 2, 1, 2] .sk rfl, hc3, h5, hc8, h10]
          try simp only [NM, EE] at hJ
          exact hJ
noncomputable def f16_ai10rzai10rz (k : Nat) (a0 a0_1 a0_2 a0_3 a0_4 a0_5 a0_6 a0_7 a0_8 a0_9 : Int) (a0_10 : List Int) (a1 a1_1 a1_2 a1_3 a1_4 a1_5 a1_6 a1_7 a1_8 a1_9 : Int) (a1_10 : List Int) : Option R16_ai10rzai10rz := match k with | 0 => none | k + 1 => f16_ai10rzai10rz_e k a0 a0_1 a0_2 a0_3 a0_4 a0_5 a0_6 a0_7 a0_8 a0_9 a0_10 a1 a1_1 a1_2 a1_3 a1_4 a1_5 a1_6 a1_7 a1_8 a1_9 a1_10
theorem f16_ai10rzai10rz_ok (k : Nat) (a0 a0_1 a0_2 a0_3 a0_4 a0_5 a0_6 a0_7 a0_8 a0_9 : Int) (a0_10 : List Int) (a1 a1_1 a1_2 a1_3 a1_4 a1_5 a1_6 a1_7 a1_8 a1_9 : Int) (a1_10 : List Int) (r : R16_ai10rzai10rz) (hF : f16_ai10rzai10rz k a0 a0_1 a0_2 a0_3 a0_4 a0_5 a0_6 a0_7 a0_8 a0_9 a0_10 a1 a1_1 a1_2 a1_3 a1_4 a1_5 a1_6 a1_7 a1_8 a1_9 a1_10 = some r) : CV k 16 [V.agg [V.p (Value.int .i64 a0), V.p (Value.int .i64 a0_1), V.p (Value.int .u32 a0_2), V.p (Value.int .i64 a0_3), V.p (Value.int .i64 a0_4), V.p (Value.int .i64 a0_5), V.p (Value.int .i64 a0_6), V.p (Value.int .i64 a0_7), V.p (Value.int .i64 a0_8), V.p (Value.int .i64 a0_9), V.sl 1 (rowsOf (encI .u8) a0_10)], V.agg [V.p (Value.int .i64 a1), V.p (Value.int .i64 a1_1), V.p (Value.int .u32 a1_2), V.p (Value.int .i64 a1_3), V.p (Value.int .i64 a1_4), V.p (Value.int .i64 a1_5), V.p (Value.int .i64 a1_6), V.p (Value.int .i64 a1_7), V.p (Value.int .i64 a1_8), V.p (Value.int .i64 a1_9), V.sl 1 (rowsOf (encI .u8) a1_10)]] [] = some r.st := by
  cases k with
  | zero => cases hF
  | succ k =>
    unfold CV
    rw [ev_call (F := Try.f16) (c := (nav B16 [])) rfl Try.func16 rfl rfl rfl rfl]
    exact f16_ai10rzai10rz_e_ok k a0 a0_1 a0_2 a0_3 a0_4 a0_5 a0_6 a0_7 a0_8 a0_9 a0_10 a1 a1_1 a1_2 a1_3 a1_4 a1_5 a1_6 a1_7 a1_8 a1_9 a1_10 r hF
end Go.Proofs.YteggcokgkcfliaaV
