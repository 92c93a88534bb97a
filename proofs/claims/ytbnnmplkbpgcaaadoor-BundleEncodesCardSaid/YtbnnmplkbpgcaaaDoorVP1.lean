/- What the program's functions answer: plain functions, and that the interpreter answers what they do. Written by a program of this session, out of the translation. -/
import Derived.Test.YtbnnmplkbpgcaaaDoorVPC
namespace Go.Proofs.YtbnnmplkbpgcaaaDoorV
open Go
set_option linter.unusedVariables false
set_option linter.unusedSimpArgs false
set_option maxRecDepth 8000
set_option maxHeartbeats 4000000
-- f9_: f9 heliograph/heliographlaw09.wakes
inductive R9_ where
  | o0 (y : Bool)
noncomputable def R9_.st : R9_ → V × List O × List O
  | .o0 y => (V.p (Value.bool y), [], [])
noncomputable def f9_ (k : Nat) : Option R9_ := ifE (200 ≤ k) (some (.o0 true))
theorem f9__ok (k : Nat) (r : R9_) (hF : f9_ k = some r) : CV k 9 [] [] = some r.st := by
  obtain ⟨h, hF⟩ := ifE_some.1 hF
  cases hF
  exact callV_le h wakes
-- f13_ai10rz: f13 heliograph/heliographlaw09.copied
inductive R13_ai10rz where
  | o0 (y y_1 y_2 y_3 y_4 y_5 y_6 y_7 y_8 y_9 : Int) (y_10 : List Int)
noncomputable def R13_ai10rz.st : R13_ai10rz → V × List O × List O
  | .o0 y y_1 y_2 y_3 y_4 y_5 y_6 y_7 y_8 y_9 y_10 => (V.agg [V.p (Value.int .i64 y), V.p (Value.int .i64 y_1), V.p (Value.int .u32 y_2), V.p (Value.int .i64 y_3), V.p (Value.int .i64 y_4), V.p (Value.int .i64 y_5), V.p (Value.int .i64 y_6), V.p (Value.int .i64 y_7), V.p (Value.int .i64 y_8), V.p (Value.int .i64 y_9), V.own 2000000], [], [O.row true 1 5 (rowsOf (encI .u8) y_10)])
noncomputable def f13_ai10rz_e (k : Nat) (a0 a0_1 a0_2 a0_3 a0_4 a0_5 a0_6 a0_7 a0_8 a0_9 : Int) (a0_10 : List Int) : Option R13_ai10rz :=
  ifE ((List.length a0_10) ≤ roomy) (
    some (R13_ai10rz.o0 a0 a0_1 a0_2 a0_3 a0_4 a0_5 a0_6 a0_7 a0_8 a0_9 a0_10))
theorem f13_ai10rz_e_ok (k : Nat) (a0 a0_1 a0_2 a0_3 a0_4 a0_5 a0_6 a0_7 a0_8 a0_9 : Int) (a0_10 : List Int) (r : R13_ai10rz) (hF : f13_ai10rz_e k a0 a0_1 a0_2 a0_3 a0_4 a0_5 a0_6 a0_7 a0_8 a0_9 a0_10 = some r) : finK Tryd.prog Tryd.f13 0 (EX 13 k (nav B13 []) ({ n := 9, F := [(0, V.agg [V.p (Value.int .i64 a0), V.p (Value.int .i64 a0_1), V.p (Value.int .u32 a0_2), V.p (Value.int .i64 a0_3), V.p (Value.int .i64 a0_4), V.p (Value.int .i64 a0_5), V.p (Value.int .i64 a0_6), V.p (Value.int .i64 a0_7), V.p (Value.int .i64 a0_8), V.p (Value.int .i64 a0_9), V.sl 1 (rowsOf (encI .u8) a0_10)])], M := [] } : St)) = some r.st := by
  unfold f13_ai10rz_e at hF
  replace hF := ifE_some.1 hF
  obtain ⟨h1, hF⟩ := hF
  cases hF
  simp (maxSteps := 999999) (disch := first | exact D (by decide) | exact K (by kernel_rfl)) only [E, EE, ↓reduceIte, simprocAttr, xk B13 [] .sq rfl, show (nav B13 [1]) = Code.region 0 _ false from rfl, hk_13_0, hz_13_0, hs_13_0, u_26, i_26, is_26, ib_26, iz_26, xk B13 [2] .sq rfl, show (nav B13 [1, 2]) = Code.region 1 _ false from rfl, hk_13_1, hz_13_1, hs_13_1, buildSliceV, fillRows, sm_5, u_22, i_22, is_22, ib_22, iz_22, u_5, i_5, is_5, ib_5, iz_5, fieldAddrV, appendV, content, xk B13 [2, 2] .sq rfl, show (nav B13 [1, 2, 2]) = Code.region 2 _ false from rfl, hk_13_2, hz_13_2, hs_13_2, xk B13 [2, 2, 2] .rt rfl, finK_norm, finK_ret, fin13, R13_ai10rz.st, h1]
noncomputable def f13_ai10rz (k : Nat) (a0 a0_1 a0_2 a0_3 a0_4 a0_5 a0_6 a0_7 a0_8 a0_9 : Int) (a0_10 : List Int) : Option R13_ai10rz := match k with | 0 => none | k + 1 => f13_ai10rz_e k a0 a0_1 a0_2 a0_3 a0_4 a0_5 a0_6 a0_7 a0_8 a0_9 a0_10
theorem f13_ai10rz_ok (k : Nat) (a0 a0_1 a0_2 a0_3 a0_4 a0_5 a0_6 a0_7 a0_8 a0_9 : Int) (a0_10 : List Int) (r : R13_ai10rz) (hF : f13_ai10rz k a0 a0_1 a0_2 a0_3 a0_4 a0_5 a0_6 a0_7 a0_8 a0_9 a0_10 = some r) : CV k 13 [V.agg [V.p (Value.int .i64 a0), V.p (Value.int .i64 a0_1), V.p (Value.int .u32 a0_2), V.p (Value.int .i64 a0_3), V.p (Value.int .i64 a0_4), V.p (Value.int .i64 a0_5), V.p (Value.int .i64 a0_6), V.p (Value.int .i64 a0_7), V.p (Value.int .i64 a0_8), V.p (Value.int .i64 a0_9), V.sl 1 (rowsOf (encI .u8) a0_10)]] [] = some r.st := by
  cases k with
  | zero => cases hF
  | succ k =>
    unfold CV
    rw [ev_call (F := Tryd.f13) (c := (nav B13 [])) rfl Tryd.func13 rfl rfl rfl rfl]
    exact f13_ai10rz_e_ok k a0 a0_1 a0_2 a0_3 a0_4 a0_5 a0_6 a0_7 a0_8 a0_9 a0_10 r hF
-- f38_iii: f38 heliograph/bundle.within
inductive R38_iii where
  | o0 (y : Bool)
noncomputable def R38_iii.st : R38_iii → V × List O × List O
  | .o0 y => (V.p (Value.bool y), [], [])
noncomputable def f38_iii_e (k : Nat) (a0 a1 a2 : Int) : Option R38_iii :=
  cond ((decide (a0 ≥ a1)))
    (some (R38_iii.o0 (decide (a0 ≤ a2))))
    (some (R38_iii.o0 false))
theorem f38_iii_e_ok (k : Nat) (a0 a1 a2 : Int) (r : R38_iii) (hF : f38_iii_e k a0 a1 a2 = some r) : finK Tryd.prog Tryd.f38 0 (EX 38 k (nav B38 []) ({ n := 15, F := [(0, V.p (Value.int .i64 a0)), (1, V.p (Value.int .i64 a1)), (2, V.p (Value.int .i64 a2))], M := [] } : St)) = some r.st := by
  unfold f38_iii_e at hF
  simp (maxSteps := 999999) (disch := first | exact D (by decide) | exact K (by kernel_rfl)) only [E, EE, ↓reduceIte, simprocAttr, xk B38 [] .sq rfl, show (nav B38 [1]) = Code.region 0 _ false from rfl, hk_38_0, hz_38_0, hs_38_0, xk B38 [2] .sq rfl, show (nav B38 [1, 2]) = Code.region 1 _ false from rfl, hk_38_1, hz_38_1, hs_38_1]
  replace hF := cond_some hF
  rcases hF with ⟨h1, hF⟩ | ⟨h1, hF⟩
  · cases hF
    simp (maxSteps := 999999) (disch := first | exact D (by decide) | exact K (by kernel_rfl)) only [E, EE, ↓reduceIte, simprocAttr, xk B38 [2, 2] .rt rfl, finK_norm, finK_ret, fin38, R38_iii.st, h1]
  · cases hF
    simp (maxSteps := 999999) (disch := first | exact D (by decide) | exact K (by kernel_rfl)) only [E, EE, ↓reduceIte, simprocAttr, xk B38 [2, 2] .rt rfl, finK_norm, finK_ret, fin38, R38_iii.st, h1]
noncomputable def f38_iii (k : Nat) (a0 a1 a2 : Int) : Option R38_iii := match k with | 0 => none | k + 1 => f38_iii_e k a0 a1 a2
theorem f38_iii_ok (k : Nat) (a0 a1 a2 : Int) (r : R38_iii) (hF : f38_iii k a0 a1 a2 = some r) : CV k 38 [V.p (Value.int .i64 a0), V.p (Value.int .i64 a1), V.p (Value.int .i64 a2)] [] = some r.st := by
  cases k with
  | zero => cases hF
  | succ k =>
    unfold CV
    rw [ev_call (F := Tryd.f38) (c := (nav B38 [])) rfl Tryd.func38 rfl rfl rfl rfl]
    exact f38_iii_e_ok k a0 a1 a2 r hF
-- f16_ai10rz: f16 heliograph/bundle.Check
inductive R16_ai10rz where
  | o0 (y : Int)
noncomputable def R16_ai10rz.st : R16_ai10rz → V × List O × List O
  | .o0 y => (V.p (Value.int .i64 y), [], [])
noncomputable def f16_ai10rz_j1 (k : Nat) (x72 : Bool) : Option R16_ai10rz :=
  some (R16_ai10rz.o0 0)
theorem f16_ai10rz_j1_ok (k : Nat) (x72 : Bool) (r : R16_ai10rz) (hF : f16_ai10rz_j1 k x72 = some r) : finK Tryd.prog Tryd.f16 0 (EX 16 k (nav B16 [2, 2, 2, 2, 2, 2]) ({ n := 73, F := [(72, V.p (Value.bool x72))], M := [] } : St)) = some r.st := by
  unfold f16_ai10rz_j1 at hF
  cases hF
  simp (maxSteps := 999999) (disch := first | exact D (by decide) | exact K (by kernel_rfl)) only [E, EE, ↓reduceIte, simprocAttr, xk B16 [2, 2, 2, 2, 2, 2] .sq rfl, show (nav B16 [1, 2, 2, 2, 2, 2, 2]) = Code.region 7 _ false from rfl, hk_16_7, hz_16_7, hs_16_7, xk B16 [2, 2, 2, 2, 2, 2, 2] .rt rfl, finK_norm, finK_ret, fin16, R16_ai10rz.st]
noncomputable def f16_ai10rz_e (k : Nat) (a0 a0_1 a0_2 a0_3 a0_4 a0_5 a0_6 a0_7 a0_8 a0_9 : Int) (a0_10 : List Int) : Option R16_ai10rz :=
  Option.bind (f38_iii k a0 1 6) fun o1 =>
    match o1 with
    | .o0 v4 =>
      cond (v4)
        (
          Option.bind (f38_iii k a0_1 1 6) fun o6 =>
            match o6 with
            | .o0 v9 =>
              cond (v9)
                (
                  cond ((decide (a0_2 > 0)))
                    (
                      Option.bind (f38_iii k a0_3 0 1048576) fun o12 =>
                        match o12 with
                        | .o0 v15 =>
                          cond (v15)
                            (
                              Option.bind (f38_iii k a0_4 1 1048576) fun o17 =>
                                match o17 with
                                | .o0 v20 =>
                                  cond (v20)
                                    (
                                      Option.bind (f38_iii k a0_5 1 16) fun o22 =>
                                        match o22 with
                                        | .o0 v25 =>
                                          cond (v25)
                                            (
                                              Option.bind (f38_iii k a0_6 0 a0_5) fun o27 =>
                                                match o27 with
                                                | .o0 v30 =>
                                                  cond (v30)
                                                    (
                                                      Option.bind (f38_iii k a0_7 0 2) fun o32 =>
                                                        match o32 with
                                                        | .o0 v35 =>
                                                          cond (v35)
                                                            (
                                                              Option.bind (f38_iii k a0_9 1 400) fun o37 =>
                                                                match o37 with
                                                                | .o0 v40 =>
                                                                  cond (v40)
                                                                    (
                                                                      Option.bind (f38_iii k ((List.length a0_10) : Int) 1 a0_9) fun o42 =>
                                                                        match o42 with
                                                                        | .o0 v45 =>
                                                                          cond (v45)
                                                                            (
                                                                              Option.bind (f38_iii k a0_8 0 (IntKind.i64.wrap (a0_9 - ((List.length a0_10) : Int)))) fun o47 =>
                                                                                match o47 with
                                                                                | .o0 v50 =>
                                                                                  cond ((!v50))
                                                                                    (some (R16_ai10rz.o0 190))
                                                                                    (f16_ai10rz_j1 k false))
                                                                            (some (R16_ai10rz.o0 190)))
                                                                    (some (R16_ai10rz.o0 190)))
                                                            (some (R16_ai10rz.o0 190)))
                                                    (some (R16_ai10rz.o0 190)))
                                            (some (R16_ai10rz.o0 190)))
                                    (some (R16_ai10rz.o0 190)))
                            (some (R16_ai10rz.o0 190)))
                    (some (R16_ai10rz.o0 190)))
                (some (R16_ai10rz.o0 190)))
        (some (R16_ai10rz.o0 190))
theorem f16_ai10rz_e_ok (k : Nat) (a0 a0_1 a0_2 a0_3 a0_4 a0_5 a0_6 a0_7 a0_8 a0_9 : Int) (a0_10 : List Int) (r : R16_ai10rz) (hF : f16_ai10rz_e k a0 a0_1 a0_2 a0_3 a0_4 a0_5 a0_6 a0_7 a0_8 a0_9 a0_10 = some r) : finK Tryd.prog Tryd.f16 0 (EX 16 k (nav B16 []) ({ n := 73, F := [(0, V.agg [V.p (Value.int .i64 a0), V.p (Value.int .i64 a0_1), V.p (Value.int .u32 a0_2), V.p (Value.int .i64 a0_3), V.p (Value.int .i64 a0_4), V.p (Value.int .i64 a0_5), V.p (Value.int .i64 a0_6), V.p (Value.int .i64 a0_7), V.p (Value.int .i64 a0_8), V.p (Value.int .i64 a0_9), V.sl 1 (rowsOf (encI .u8) a0_10)])], M := [] } : St)) = some r.st := by
  unfold f16_ai10rz_e at hF
  replace hF := Option.bind_eq_some_iff.1 hF
  obtain ⟨o1, h2, hF⟩ := hF
  have hc3 := f38_iii_ok k a0 1 6 _ h2
  cases o1 with
  | o0 v4 =>
    (try dsimp only at hF)
    (try simp only [NM, EE, R38_iii.st] at hc3)
    simp (maxSteps := 999999) (disch := first | exact D (by decide) | exact K (by kernel_rfl)) only [E, EE, ↓reduceIte, simprocAttr, xk B16 [] .sq rfl, show (nav B16 [1]) = Code.region 0 _ false from rfl, hk_16_0, hz_16_0, hs_16_0, xk B16 [2] .sq rfl, show (nav B16 [1, 2]) = Code.region 1 _ false from rfl, hk_16_1, hz_16_1, hs_16_1, fieldAddrV, u_26, i_26, is_26, ib_26, iz_26, u_3, i_3, is_3, ib_3, iz_3, callStep, CL, gv, List.contains, hc3]
    replace hF := cond_some hF
    rcases hF with ⟨h5, hF⟩ | ⟨h5, hF⟩
    · replace hF := Option.bind_eq_some_iff.1 hF
      obtain ⟨o6, h7, hF⟩ := hF
      have hc8 := f38_iii_ok k a0_1 1 6 _ h7
      cases o6 with
      | o0 v9 =>
        (try dsimp only at hF)
        (try simp only [NM, EE, R38_iii.st] at hc8)
        simp (maxSteps := 999999) (disch := first | exact D (by decide) | exact K (by kernel_rfl)) only [E, EE, ↓reduceIte, simprocAttr, fieldAddrV, u_26, i_26, is_26, ib_26, iz_26, u_3, i_3, is_3, ib_3, iz_3, callStep, CL, gv, List.contains, hc3, h5, hc8]
        replace hF := cond_some hF
        rcases hF with ⟨h10, hF⟩ | ⟨h10, hF⟩
        · simp (maxSteps := 999999) (disch := first | exact D (by decide) | exact K (by kernel_rfl)) only [E, EE, ↓reduceIte, simprocAttr, fieldAddrV, u_26, i_26, is_26, ib_26, iz_26, u_24, i_24, is_24, ib_24, iz_24, xk B16 [2, 2] .sq rfl, show (nav B16 [1, 2, 2]) = Code.region 2 _ false from rfl, hk_16_2, hz_16_2, hs_16_2, hc3, h5, hc8, h10]
          replace hF := cond_some hF
          rcases hF with ⟨h11, hF⟩ | ⟨h11, hF⟩
          · replace hF := Option.bind_eq_some_iff.1 hF
            obtain ⟨o12, h13, hF⟩ := hF
            have hc14 := f38_iii_ok k a0_3 0 1048576 _ h13
            cases o12 with
            | o0 v15 =>
              (try dsimp only at hF)
              (try simp only [NM, EE, R38_iii.st] at hc14)
              simp (maxSteps := 999999) (disch := first | exact D (by decide) | exact K (by kernel_rfl)) only [E, EE, ↓reduceIte, simprocAttr, fieldAddrV, u_26, i_26, is_26, ib_26, iz_26, u_3, i_3, is_3, ib_3, iz_3, callStep, CL, gv, List.contains, hc3, h5, hc8, h10, h11, hc14]
              replace hF := cond_some hF
              rcases hF with ⟨h16, hF⟩ | ⟨h16, hF⟩
              · replace hF := Option.bind_eq_some_iff.1 hF
                obtain ⟨o17, h18, hF⟩ := hF
                have hc19 := f38_iii_ok k a0_4 1 1048576 _ h18
                cases o17 with
                | o0 v20 =>
                  (try dsimp only at hF)
                  (try simp only [NM, EE, R38_iii.st] at hc19)
                  simp (maxSteps := 999999) (disch := first | exact D (by decide) | exact K (by kernel_rfl)) only [E, EE, ↓reduceIte, simprocAttr, fieldAddrV, u_26, i_26, is_26, ib_26, iz_26, u_3, i_3, is_3, ib_3, iz_3, callStep, CL, gv, List.contains, xk B16 [2, 2, 2] .sq rfl, show (nav B16 [1, 2, 2, 2]) = Code.region 3 _ false from rfl, hk_16_3, hz_16_3, hs_16_3, hc3, h5, hc8, h10, h11, hc14, h16, hc19]
                  replace hF := cond_some hF
                  rcases hF with ⟨h21, hF⟩ | ⟨h21, hF⟩
                  · replace hF := Option.bind_eq_some_iff.1 hF
                    obtain ⟨o22, h23, hF⟩ := hF
                    have hc24 := f38_iii_ok k a0_5 1 16 _ h23
                    cases o22 with
                    | o0 v25 =>
                      (try dsimp only at hF)
                      (try simp only [NM, EE, R38_iii.st] at hc24)
                      simp (maxSteps := 999999) (disch := first | exact D (by decide) | exact K (by kernel_rfl)) only [E, EE, ↓reduceIte, simprocAttr, fieldAddrV, u_26, i_26, is_26, ib_26, iz_26, u_3, i_3, is_3, ib_3, iz_3, callStep, CL, gv, List.contains, hc3, h5, hc8, h10, h11, hc14, h16, hc19, h21, hc24]
                      replace hF := cond_some hF
                      rcases hF with ⟨h26, hF⟩ | ⟨h26, hF⟩
                      · replace hF := Option.bind_eq_some_iff.1 hF
                        obtain ⟨o27, h28, hF⟩ := hF
                        have hc29 := f38_iii_ok k a0_6 0 a0_5 _ h28
                        cases o27 with
                        | o0 v30 =>
                          (try dsimp only at hF)
                          (try simp only [NM, EE, R38_iii.st] at hc29)
                          simp (maxSteps := 999999) (disch := first | exact D (by decide) | exact K (by kernel_rfl)) only [E, EE, ↓reduceIte, simprocAttr, fieldAddrV, u_26, i_26, is_26, ib_26, iz_26, u_3, i_3, is_3, ib_3, iz_3, callStep, CL, gv, List.contains, hc3, h5, hc8, h10, h11, hc14, h16, hc19, h21, hc24, h26, hc29]
                          replace hF := cond_some hF
                          rcases hF with ⟨h31, hF⟩ | ⟨h31, hF⟩
                          · replace hF := Option.bind_eq_some_iff.1 hF
                            obtain ⟨o32, h33, hF⟩ := hF
                            have hc34 := f38_iii_ok k a0_7 0 2 _ h33
                            cases o32 with
                            | o0 v35 =>
                              (try dsimp only at hF)
                              (try simp only [NM, EE, R38_iii.st] at hc34)
                              simp (maxSteps := 999999) (disch := first | exact D (by decide) | exact K (by kernel_rfl)) only [E, EE, ↓reduceIte, simprocAttr, fieldAddrV, u_26, i_26, is_26, ib_26, iz_26, u_3, i_3, is_3, ib_3, iz_3, callStep, CL, gv, List.contains, xk B16 [2, 2, 2, 2] .sq rfl, show (nav B16 [1, 2, 2, 2, 2]) = Code.region 4 _ false from rfl, hk_16_4, hz_16_4, hs_16_4, hc3, h5, hc8, h10, h11, hc14, h16, hc19, h21, hc24, h26, hc29, h31, hc34]
                              replace hF := cond_some hF
                              rcases hF with ⟨h36, hF⟩ | ⟨h36, hF⟩
                              · replace hF := Option.bind_eq_some_iff.1 hF
                                obtain ⟨o37, h38, hF⟩ := hF
                                have hc39 := f38_iii_ok k a0_9 1 400 _ h38
                                cases o37 with
                                | o0 v40 =>
                                  (try dsimp only at hF)
                                  (try simp only [NM, EE, R38_iii.st] at hc39)
                                  simp (maxSteps := 999999) (disch := first | exact D (by decide) | exact K (by kernel_rfl)) only [E, EE, ↓reduceIte, simprocAttr, fieldAddrV, u_26, i_26, is_26, ib_26, iz_26, u_3, i_3, is_3, ib_3, iz_3, callStep, CL, gv, List.contains, hc3, h5, hc8, h10, h11, hc14, h16, hc19, h21, hc24, h26, hc29, h31, hc34, h36, hc39]
                                  replace hF := cond_some hF
                                  rcases hF with ⟨h41, hF⟩ | ⟨h41, hF⟩
                                  · replace hF := Option.bind_eq_some_iff.1 hF
                                    obtain ⟨o42, h43, hF⟩ := hF
                                    have hc44 := f38_iii_ok k ((List.length a0_10) : Int) 1 a0_9 _ h43
                                    cases o42 with
                                    | o0 v45 =>
                                      (try dsimp only at hF)
                                      (try simp only [NM, EE, R38_iii.st] at hc44)
                                      simp (maxSteps := 999999) (disch := first | exact D (by decide) | exact K (by kernel_rfl)) only [E, EE, ↓reduceIte, simprocAttr, fieldAddrV, u_26, i_26, is_26, ib_26, iz_26, u_22, i_22, is_22, ib_22, iz_22, u_3, i_3, is_3, ib_3, iz_3, callStep, CL, gv, List.contains, hc3, h5, hc8, h10, h11, hc14, h16, hc19, h21, hc24, h26, hc29, h31, hc34, h36, hc39, h41, hc44]
                                      replace hF := cond_some hF
                                      rcases hF with ⟨h46, hF⟩ | ⟨h46, hF⟩
                                      · replace hF := Option.bind_eq_some_iff.1 hF
                                        obtain ⟨o47, h48, hF⟩ := hF
                                        have hc49 := f38_iii_ok k a0_8 0 (IntKind.i64.wrap (a0_9 - ((List.length a0_10) : Int))) _ h48
                                        cases o47 with
                                        | o0 v50 =>
                                          (try dsimp only at hF)
                                          (try simp only [NM, EE, R38_iii.st] at hc49)
                                          simp (maxSteps := 999999) (disch := first | exact D (by decide) | exact K (by kernel_rfl)) only [E, EE, ↓reduceIte, simprocAttr, fieldAddrV, u_26, i_26, is_26, ib_26, iz_26, u_3, i_3, is_3, ib_3, iz_3, u_22, i_22, is_22, ib_22, iz_22, callStep, CL, gv, List.contains, xk B16 [2, 2, 2, 2, 2] .sq rfl, xk B16 [1, 2, 2, 2, 2, 2] .sq rfl, show (nav B16 [1, 1, 2, 2, 2, 2, 2]) = Code.region 5 _ false from rfl, hk_16_5, hz_16_5, hs_16_5, xk B16 [2, 1, 2, 2, 2, 2, 2] (.cd 72) rfl, hc3, h5, hc8, h10, h11, hc14, h16, hc19, h21, hc24, h26, hc29, h31, hc34, h36, hc39, h41, hc44, h46, hc49]
                                          replace hF := cond_some hF
                                          rcases hF with ⟨h51, hF⟩ | ⟨h51, hF⟩
                                          · cases hF
                                            simp (maxSteps := 999999) (disch := first | exact D (by decide) | exact K (by kernel_rfl)) only [E, EE, ↓reduceIte, simprocAttr, xk B16 [2, 2, 1, 2, 2, 2, 2, 2] .sq rfl, show (nav B16 [1, 2, 2, 1, 2, 2, 2, 2, 2]) = Code.region 6 _ false from rfl, hk_16_6, hz_16_6, hs_16_6, xk B16 [2, 2, 2, 1, 2, 2, 2, 2, 2] .rt rfl, finK_norm, finK_ret, fin16, R16_ai10rz.st, hc3, h5, hc8, h10, h11, hc14, h16, hc19, h21, hc24, h26, hc29, h31, hc34, h36, hc39, h41, hc44, h46, hc49, h51]
                                          · have hJ := f16_ai10rz_j1_ok k false _ hF
                                            simp (maxSteps := 999999) (disch := first | exact D (by decide) | exact K (by kernel_rfl)) only [E, EE, ↓reduceIte, simprocAttr, xk B16 [3, 2, 1, 2, 2, 2, 2, 2] .sk rfl, hc3, h5, hc8, h10, h11, hc14, h16, hc19, h21, hc24, h26, hc29, h31, hc34, h36, hc39, h41, hc44, h46, hc49, h51]
                                            try simp only [NM, EE] at hJ
                                            exact hJ
                                      · cases hF
                                        simp (maxSteps := 999999) (disch := first | exact D (by decide) | exact K (by kernel_rfl)) only [E, EE, ↓reduceIte, simprocAttr, xk B16 [2, 2, 2, 2, 2] .sq rfl, xk B16 [1, 2, 2, 2, 2, 2] .sq rfl, show (nav B16 [1, 1, 2, 2, 2, 2, 2]) = Code.region 5 _ false from rfl, hk_16_5, hz_16_5, hs_16_5, xk B16 [2, 1, 2, 2, 2, 2, 2] (.cd 72) rfl, xk B16 [2, 2, 1, 2, 2, 2, 2, 2] .sq rfl, show (nav B16 [1, 2, 2, 1, 2, 2, 2, 2, 2]) = Code.region 6 _ false from rfl, hk_16_6, hz_16_6, hs_16_6, xk B16 [2, 2, 2, 1, 2, 2, 2, 2, 2] .rt rfl, finK_norm, finK_ret, fin16, R16_ai10rz.st, hc3, h5, hc8, h10, h11, hc14, h16, hc19, h21, hc24, h26, hc29, h31, hc34, h36, hc39, h41, hc44, h46]
                                  · cases hF
                                    simp (maxSteps := 999999) (disch := first | exact D (by decide) | exact K (by kernel_rfl)) only [E, EE, ↓reduceIte, simprocAttr, xk B16 [2, 2, 2, 2, 2] .sq rfl, xk B16 [1, 2, 2, 2, 2, 2] .sq rfl, show (nav B16 [1, 1, 2, 2, 2, 2, 2]) = Code.region 5 _ false from rfl, hk_16_5, hz_16_5, hs_16_5, xk B16 [2, 1, 2, 2, 2, 2, 2] (.cd 72) rfl, xk B16 [2, 2, 1, 2, 2, 2, 2, 2] .sq rfl, show (nav B16 [1, 2, 2, 1, 2, 2, 2, 2, 2]) = Code.region 6 _ false from rfl, hk_16_6, hz_16_6, hs_16_6, xk B16 [2, 2, 2, 1, 2, 2, 2, 2, 2] .rt rfl, finK_norm, finK_ret, fin16, R16_ai10rz.st, hc3, h5, hc8, h10, h11, hc14, h16, hc19, h21, hc24, h26, hc29, h31, hc34, h36, hc39, h41]
                              · cases hF
                                simp (maxSteps := 999999) (disch := first | exact D (by decide) | exact K (by kernel_rfl)) only [E, EE, ↓reduceIte, simprocAttr, xk B16 [2, 2, 2, 2, 2] .sq rfl, xk B16 [1, 2, 2, 2, 2, 2] .sq rfl, show (nav B16 [1, 1, 2, 2, 2, 2, 2]) = Code.region 5 _ false from rfl, hk_16_5, hz_16_5, hs_16_5, xk B16 [2, 1, 2, 2, 2, 2, 2] (.cd 72) rfl, xk B16 [2, 2, 1, 2, 2, 2, 2, 2] .sq rfl, show (nav B16 [1, 2, 2, 1, 2, 2, 2, 2, 2]) = Code.region 6 _ false from rfl, hk_16_6, hz_16_6, hs_16_6, xk B16 [2, 2, 2, 1, 2, 2, 2, 2, 2] .rt rfl, finK_norm, finK_ret, fin16, R16_ai10rz.st, hc3, h5, hc8, h10, h11, hc14, h16, hc19, h21, hc24, h26, hc29, h31, hc34, h36]
                          · cases hF
                            simp (maxSteps := 999999) (disch := first | exact D (by decide) | exact K (by kernel_rfl)) only [E, EE, ↓reduceIte, simprocAttr, xk B16 [2, 2, 2, 2] .sq rfl, show (nav B16 [1, 2, 2, 2, 2]) = Code.region 4 _ false from rfl, hk_16_4, hz_16_4, hs_16_4, xk B16 [2, 2, 2, 2, 2] .sq rfl, xk B16 [1, 2, 2, 2, 2, 2] .sq rfl, show (nav B16 [1, 1, 2, 2, 2, 2, 2]) = Code.region 5 _ false from rfl, hk_16_5, hz_16_5, hs_16_5, xk B16 [2, 1, 2, 2, 2, 2, 2] (.cd 72) rfl, xk B16 [2, 2, 1, 2, 2, 2, 2, 2] .sq rfl, show (nav B16 [1, 2, 2, 1, 2, 2, 2, 2, 2]) = Code.region 6 _ false from rfl, hk_16_6, hz_16_6, hs_16_6, xk B16 [2, 2, 2, 1, 2, 2, 2, 2, 2] .rt rfl, finK_norm, finK_ret, fin16, R16_ai10rz.st, hc3, h5, hc8, h10, h11, hc14, h16, hc19, h21, hc24, h26, hc29, h31]
                      · cases hF
                        simp (maxSteps := 999999) (disch := first | exact D (by decide) | exact K (by kernel_rfl)) only [E, EE, ↓reduceIte, simprocAttr, xk B16 [2, 2, 2, 2] .sq rfl, show (nav B16 [1, 2, 2, 2, 2]) = Code.region 4 _ false from rfl, hk_16_4, hz_16_4, hs_16_4, xk B16 [2, 2, 2, 2, 2] .sq rfl, xk B16 [1, 2, 2, 2, 2, 2] .sq rfl, show (nav B16 [1, 1, 2, 2, 2, 2, 2]) = Code.region 5 _ false from rfl, hk_16_5, hz_16_5, hs_16_5, xk B16 [2, 1, 2, 2, 2, 2, 2] (.cd 72) rfl, xk B16 [2, 2, 1, 2, 2, 2, 2, 2] .sq rfl, show (nav B16 [1, 2, 2, 1, 2, 2, 2, 2, 2]) = Code.region 6 _ false from rfl, hk_16_6, hz_16_6, hs_16_6, xk B16 [2, 2, 2, 1, 2, 2, 2, 2, 2] .rt rfl, finK_norm, finK_ret, fin16, R16_ai10rz.st, hc3, h5, hc8, h10, h11, hc14, h16, hc19, h21, hc24, h26]
                  · cases hF
                    simp (maxSteps := 999999) (disch := first | exact D (by decide) | exact K (by kernel_rfl)) only [E, EE, ↓reduceIte, simprocAttr, xk B16 [2, 2, 2, 2] .sq rfl, show (nav B16 [1, 2, 2, 2, 2]) = Code.region 4 _ false from rfl, hk_16_4, hz_16_4, hs_16_4, xk B16 [2, 2, 2, 2, 2] .sq rfl, xk B16 [1, 2, 2, 2, 2, 2] .sq rfl, show (nav B16 [1, 1, 2, 2, 2, 2, 2]) = Code.region 5 _ false from rfl, hk_16_5, hz_16_5, hs_16_5, xk B16 [2, 1, 2, 2, 2, 2, 2] (.cd 72) rfl, xk B16 [2, 2, 1, 2, 2, 2, 2, 2] .sq rfl, show (nav B16 [1, 2, 2, 1, 2, 2, 2, 2, 2]) = Code.region 6 _ false from rfl, hk_16_6, hz_16_6, hs_16_6, xk B16 [2, 2, 2, 1, 2, 2, 2, 2, 2] .rt rfl, finK_norm, finK_ret, fin16, R16_ai10rz.st, hc3, h5, hc8, h10, h11, hc14, h16, hc19, h21]
              · cases hF
                simp (maxSteps := 999999) (disch := first | exact D (by decide) | exact K (by kernel_rfl)) only [E, EE, ↓reduceIte, simprocAttr, xk B16 [2, 2, 2] .sq rfl, show (nav B16 [1, 2, 2, 2]) = Code.region 3 _ false from rfl, hk_16_3, hz_16_3, hs_16_3, xk B16 [2, 2, 2, 2] .sq rfl, show (nav B16 [1, 2, 2, 2, 2]) = Code.region 4 _ false from rfl, hk_16_4, hz_16_4, hs_16_4, xk B16 [2, 2, 2, 2, 2] .sq rfl, xk B16 [1, 2, 2, 2, 2, 2] .sq rfl, show (nav B16 [1, 1, 2, 2, 2, 2, 2]) = Code.region 5 _ false from rfl, hk_16_5, hz_16_5, hs_16_5, xk B16 [2, 1, 2, 2, 2, 2, 2] (.cd 72) rfl, xk B16 [2, 2, 1, 2, 2, 2, 2, 2] .sq rfl, show (nav B16 [1, 2, 2, 1, 2, 2, 2, 2, 2]) = Code.region 6 _ false from rfl, hk_16_6, hz_16_6, hs_16_6, xk B16 [2, 2, 2, 1, 2, 2, 2, 2, 2] .rt rfl, finK_norm, finK_ret, fin16, R16_ai10rz.st, hc3, h5, hc8, h10, h11, hc14, h16]
          · cases hF
            simp (maxSteps := 999999) (disch := first | exact D (by decide) | exact K (by kernel_rfl)) only [E, EE, ↓reduceIte, simprocAttr, xk B16 [2, 2, 2] .sq rfl, show (nav B16 [1, 2, 2, 2]) = Code.region 3 _ false from rfl, hk_16_3, hz_16_3, hs_16_3, xk B16 [2, 2, 2, 2] .sq rfl, show (nav B16 [1, 2, 2, 2, 2]) = Code.region 4 _ false from rfl, hk_16_4, hz_16_4, hs_16_4, xk B16 [2, 2, 2, 2, 2] .sq rfl, xk B16 [1, 2, 2, 2, 2, 2] .sq rfl, show (nav B16 [1, 1, 2, 2, 2, 2, 2]) = Code.region 5 _ false from rfl, hk_16_5, hz_16_5, hs_16_5, xk B16 [2, 1, 2, 2, 2, 2, 2] (.cd 72) rfl, xk B16 [2, 2, 1, 2, 2, 2, 2, 2] .sq rfl, show (nav B16 [1, 2, 2, 1, 2, 2, 2, 2, 2]) = Code.region 6 _ false from rfl, hk_16_6, hz_16_6, hs_16_6, xk B16 [2, 2, 2, 1, 2, 2, 2, 2, 2] .rt rfl, finK_norm, finK_ret, fin16, R16_ai10rz.st, hc3, h5, hc8, h10, h11]
        · cases hF
          simp (maxSteps := 999999) (disch := first | exact D (by decide) | exact K (by kernel_rfl)) only [E, EE, ↓reduceIte, simprocAttr, xk B16 [2, 2] .sq rfl, show (nav B16 [1, 2, 2]) = Code.region 2 _ false from rfl, hk_16_2, hz_16_2, hs_16_2, xk B16 [2, 2, 2] .sq rfl, show (nav B16 [1, 2, 2, 2]) = Code.region 3 _ false from rfl, hk_16_3, hz_16_3, hs_16_3, xk B16 [2, 2, 2, 2] .sq rfl, show (nav B16 [1, 2, 2, 2, 2]) = Code.region 4 _ false from rfl, hk_16_4, hz_16_4, hs_16_4, xk B16 [2, 2, 2, 2, 2] .sq rfl, xk B16 [1, 2, 2, 2, 2, 2] .sq rfl, show (nav B16 [1, 1, 2, 2, 2, 2, 2]) = Code.region 5 _ false from rfl, hk_16_5, hz_16_5, hs_16_5, xk B16 [2, 1, 2, 2, 2, 2, 2] (.cd 72) rfl, xk B16 [2, 2, 1, 2, 2, 2, 2, 2] .sq rfl, show (nav B16 [1, 2, 2, 1, 2, 2, 2, 2, 2]) = Code.region 6 _ false from rfl, hk_16_6, hz_16_6, hs_16_6, xk B16 [2, 2, 2, 1, 2, 2, 2, 2, 2] .rt rfl, finK_norm, finK_ret, fin16, R16_ai10rz.st, hc3, h5, hc8, h10]
    · cases hF
      simp (maxSteps := 999999) (disch := first | exact D (by decide) | exact K (by kernel_rfl)) only [E, EE, ↓reduceIte, simprocAttr, xk B16 [2, 2] .sq rfl, show (nav B16 [1, 2, 2]) = Code.region 2 _ false from rfl, hk_16_2, hz_16_2, hs_16_2, xk B16 [2, 2, 2] .sq rfl, show (nav B16 [1, 2, 2, 2]) = Code.region 3 _ false from rfl, hk_16_3, hz_16_3, hs_16_3, xk B16 [2, 2, 2, 2] .sq rfl, show (nav B16 [1, 2, 2, 2, 2]) = Code.region 4 _ false from rfl, hk_16_4, hz_16_4, hs_16_4, xk B16 [2, 2, 2, 2, 2] .sq rfl, xk B16 [1, 2, 2, 2, 2, 2] .sq rfl, show (nav B16 [1, 1, 2, 2, 2, 2, 2]) = Code.region 5 _ false from rfl, hk_16_5, hz_16_5, hs_16_5, xk B16 [2, 1, 2, 2, 2, 2, 2] (.cd 72) rfl, xk B16 [2, 2, 1, 2, 2, 2, 2, 2] .sq rfl, show (nav B16 [1, 2, 2, 1, 2, 2, 2, 2, 2]) = Code.region 6 _ false from rfl, hk_16_6, hz_16_6, hs_16_6, xk B16 [2, 2, 2, 1, 2, 2, 2, 2, 2] .rt rfl, finK_norm, finK_ret, fin16, R16_ai10rz.st, hc3, h5]
noncomputable def f16_ai10rz (k : Nat) (a0 a0_1 a0_2 a0_3 a0_4 a0_5 a0_6 a0_7 a0_8 a0_9 : Int) (a0_10 : List Int) : Option R16_ai10rz := match k with | 0 => none | k + 1 => f16_ai10rz_e k a0 a0_1 a0_2 a0_3 a0_4 a0_5 a0_6 a0_7 a0_8 a0_9 a0_10
theorem f16_ai10rz_ok (k : Nat) (a0 a0_1 a0_2 a0_3 a0_4 a0_5 a0_6 a0_7 a0_8 a0_9 : Int) (a0_10 : List Int) (r : R16_ai10rz) (hF : f16_ai10rz k a0 a0_1 a0_2 a0_3 a0_4 a0_5 a0_6 a0_7 a0_8 a0_9 a0_10 = some r) : CV k 16 [V.agg [V.p (Value.int .i64 a0), V.p (Value.int .i64 a0_1), V.p (Value.int .u32 a0_2), V.p (Value.int .i64 a0_3), V.p (Value.int .i64 a0_4), V.p (Value.int .i64 a0_5), V.p (Value.int .i64 a0_6), V.p (Value.int .i64 a0_7), V.p (Value.int .i64 a0_8), V.p (Value.int .i64 a0_9), V.sl 1 (rowsOf (encI .u8) a0_10)]] [] = some r.st := by
  cases k with
  | zero => cases hF
  | succ k =>
    unfold CV
    rw [ev_call (F := Tryd.f16) (c := (nav B16 [])) rfl Tryd.func16 rfl rfl rfl rfl]
    exact f16_ai10rz_e_ok k a0 a0_1 a0_2 a0_3 a0_4 a0_5 a0_6 a0_7 a0_8 a0_9 a0_10 r hF
-- f36_i: f36 heliograph/cbor.Number
inductive R36_i where
  | o0 (y y_1 : Int) (y_2 : List Int) (y_3 : List T50)
noncomputable def R36_i.st : R36_i → V × List O × List O
  | .o0 y y_1 y_2 y_3 => (V.agg [V.p (Value.int .i64 y), V.p (Value.int .u64 y_1), V.sl 1 (rowsOf (encI .u8) y_2), V.sl 4 (rowsOf encT50 y_3)], [], [])
noncomputable def f36_i_e (k : Nat) (a0 : Int) : Option R36_i :=
  some (R36_i.o0 1 a0 [] [])
theorem f36_i_e_ok (k : Nat) (a0 : Int) (r : R36_i) (hF : f36_i_e k a0 = some r) : finK Tryd.prog Tryd.f36 0 (EX 36 k (nav B36 []) ({ n := 5, F := [(0, V.p (Value.int .u64 a0))], M := [] } : St)) = some r.st := by
  unfold f36_i_e at hF
  cases hF
  simp (maxSteps := 999999) (disch := first | exact D (by decide) | exact K (by kernel_rfl)) only [E, EE, ↓reduceIte, simprocAttr, xk B36 [] .sq rfl, show (nav B36 [1]) = Code.region 0 _ false from rfl, hk_36_0, hz_36_0, hs_36_0, u_50, i_50, is_50, ib_50, iz_50, xk B36 [2] .sq rfl, show (nav B36 [1, 2]) = Code.region 1 _ false from rfl, hk_36_1, hz_36_1, hs_36_1, bl_50, xk B36 [2, 2] .rt rfl, finK_norm, finK_ret, fin36, R36_i.st]
noncomputable def f36_i (k : Nat) (a0 : Int) : Option R36_i := match k with | 0 => none | k + 1 => f36_i_e k a0
theorem f36_i_ok (k : Nat) (a0 : Int) (r : R36_i) (hF : f36_i k a0 = some r) : CV k 36 [V.p (Value.int .u64 a0)] [] = some r.st := by
  cases k with
  | zero => cases hF
  | succ k =>
    unfold CV
    rw [ev_call (F := Tryd.f36) (c := (nav B36 [])) rfl Tryd.func36 rfl rfl rfl rfl]
    exact f36_i_e_ok k a0 r hF
-- f53_r: f53 slices.Clone[[]byte,byte]
inductive R53_r where
  | o0 (y : List Int)
noncomputable def R53_r.st : R53_r → V × List O × List O
  | .o0 y => (V.own 2000000, [], [O.row true 1 5 (rowsOf (encI .u8) y)])
noncomputable def f53_r (k : Nat) (a0 : List Int) : Option R53_r := match k with | 0 => none | _ + 1 => ifE (a0.length * 1 ≤ roomy) (some (.o0 a0))
theorem f53_r_ok (k : Nat) (a0 : List Int) (r : R53_r) (hF : f53_r k a0 = some r) : CV k 53 [V.sl 1 (rowsOf (encI .u8) a0)] [] = some r.st := by
  cases k with
  | zero => cases hF
  | succ k =>
    obtain ⟨h, hF⟩ := ifE_some.1 hF
    cases hF
    have h' : ((rowsOf (encI .u8) a0)).length * 1 ≤ roomy := by rw [rowsOf_length]; exact h
    unfold CV
    rw [ev_ctx (show ctx 53 = some (cloneS 1 5 1) from rfl) rfl]
    simp only [cloneS, h', and_self, if_true]; rfl
-- f52_aiirrz: f52 heliograph/cbor.own
inductive R52_aiirrz where
  | o0 (y y_1 : Int) (y_2 : List Int) (y_3 : List T50)
noncomputable def R52_aiirrz.st : R52_aiirrz → V × List O × List O
  | .o0 y y_1 y_2 y_3 => (V.agg [V.p (Value.int .i64 y), V.p (Value.int .u64 y_1), V.own 2000000, V.own 2000001], [], [O.row true 1 5 (rowsOf (encI .u8) y_2), O.row true 4 50 (rowsOf encT50 y_3)])
inductive R52_aiirrz_l1 where
  | o0 (y : List T50) (y_1 y_2 y_3 y_4 : Int) (y_5 : List Int) (y_6 : List T50) (y_7 y_8 : Int) (y_9 : List Int) (y_10 : List T50)
  | o1 (y : List T50) (y_1 y_2 : Int) (y_3 : Bool) (y_4 y_5 : Int) (y_6 : List Int) (y_7 : List T50) (y_8 y_9 : Int) (y_10 : List Int) (y_11 : List T50)
noncomputable def R52_aiirrz_l1.st : R52_aiirrz_l1 → Out × St
  | .o0 y y_1 y_2 y_3 y_4 y_5 y_6 y_7 y_8 y_9 y_10 => (.norm, ({ n := 28, F := [(1, V.ptr 30000 0), (2, V.ptr 30003 0), (13, V.sl 4 (rowsOf encT50 y)), (14, V.p (Value.int .i64 y_1)), (15, V.p (Value.int .i64 y_2))], M := [(30000, O.box 50 [V.p (Value.int .i64 y_3), V.p (Value.int .u64 y_4), V.own 30001, V.own 24]), (30001, O.row true 1 5 (rowsOf (encI .u8) y_5)), (24, O.row true 4 50 (rowsOf encT50 y_6)), (30003, O.box 50 [V.p (Value.int .i64 y_7), V.p (Value.int .u64 y_8), V.own 30004, V.own 30005]), (30004, O.row true 1 5 (rowsOf (encI .u8) y_9)), (30005, O.row true 4 50 (rowsOf encT50 y_10))] } : St))
  | .o1 y y_1 y_2 y_3 y_4 y_5 y_6 y_7 y_8 y_9 y_10 y_11 => (.exit 0, ({ n := 28, F := [(1, V.ptr 30000 0), (2, V.ptr 30003 0), (13, V.sl 4 (rowsOf encT50 y)), (14, V.p (Value.int .i64 y_1)), (15, V.p (Value.int .i64 y_2)), (16, V.p (Value.bool y_3))], M := [(30000, O.box 50 [V.p (Value.int .i64 y_4), V.p (Value.int .u64 y_5), V.own 30001, V.own 30002]), (30001, O.row true 1 5 (rowsOf (encI .u8) y_6)), (30002, O.row true 4 50 (rowsOf encT50 y_7)), (30003, O.box 50 [V.p (Value.int .i64 y_8), V.p (Value.int .u64 y_9), V.own 30004, V.own 30005]), (30004, O.row true 1 5 (rowsOf (encI .u8) y_10)), (30005, O.row true 4 50 (rowsOf encT50 y_11))] } : St))
noncomputable def f52_aiirrz_l1_j2 (k : Nat) (q_f52_aiirrz : Int → Int → (List Int) → (List T50) → Option R52_aiirrz) (x13 : List T50) (x14 x15 h0_ h0__1 : Int) (h1_ : List Int) (m24 : List T50) (h3_ h3__1 : Int) (h4_ : List Int) (h5_ : List T50) : Option R52_aiirrz_l1 :=
  some (R52_aiirrz_l1.o0 x13 x14 (IntKind.i64.wrap (x15 + (1 : Int))) h0_ h0__1 h1_ m24 h3_ h3__1 h4_ h5_)
theorem f52_aiirrz_l1_j2_ok (k : Nat) (q_f52_aiirrz : Int → Int → (List Int) → (List T50) → Option R52_aiirrz) (hq_f52_aiirrz : ∀ (a0 a0_1 : Int) (a0_2 : List Int) (a0_3 : List T50) (r : R52_aiirrz), q_f52_aiirrz a0 a0_1 a0_2 a0_3 = some r → CV k 52 [V.agg [V.p (Value.int .i64 a0), V.p (Value.int .u64 a0_1), V.sl 1 (rowsOf (encI .u8) a0_2), V.sl 4 (rowsOf encT50 a0_3)]] [] = some r.st) (x13 : List T50) (x14 x15 h0_ h0__1 : Int) (h1_ : List Int) (m24 : List T50) (h3_ h3__1 : Int) (h4_ : List Int) (h5_ : List T50) (r : R52_aiirrz_l1) (hF : f52_aiirrz_l1_j2 k q_f52_aiirrz x13 x14 x15 h0_ h0__1 h1_ m24 h3_ h3__1 h4_ h5_ = some r) : EX 52 k (nav B52 [2, 2, 2, 1, 2, 2, 1, 2, 2, 2, 2]) ({ n := 28, F := [(1, V.ptr 30000 0), (2, V.ptr 30003 0), (13, V.sl 4 (rowsOf encT50 x13)), (14, V.p (Value.int .i64 x14)), (15, V.p (Value.int .i64 x15))], M := [(30000, O.box 50 [V.p (Value.int .i64 h0_), V.p (Value.int .u64 h0__1), V.own 30001, V.own 24]), (30001, O.row true 1 5 (rowsOf (encI .u8) h1_)), (24, O.row true 4 50 (rowsOf encT50 m24)), (30003, O.box 50 [V.p (Value.int .i64 h3_), V.p (Value.int .u64 h3__1), V.own 30004, V.own 30005]), (30004, O.row true 1 5 (rowsOf (encI .u8) h4_)), (30005, O.row true 4 50 (rowsOf encT50 h5_))] } : St) = some r.st := by
  unfold f52_aiirrz_l1_j2 at hF
  cases hF
  simp (maxSteps := 999999) (disch := first | exact D (by decide) | exact K (by kernel_rfl)) only [E, EE, ↓reduceIte, simprocAttr, show (nav B52 [2, 2, 2, 1, 2, 2, 1, 2, 2, 2, 2]) = Code.region 8 _ false from rfl, hk_52_8, hz_52_8, hs_52_8, R52_aiirrz_l1.st]
noncomputable def f52_aiirrz_l1_j1 (k : Nat) (q_f52_aiirrz : Int → Int → (List Int) → (List T50) → Option R52_aiirrz) (x13 : List T50) (x14 x15 : Int) (x16 : Bool) (h0_ h0__1 : Int) (h1_ : List Int) (h2_ : List T50) (h3_ h3__1 : Int) (h4_ : List Int) (h5_ : List T50) : Option R52_aiirrz_l1 :=
  ifE ((0 : Int) ≤ x15) (
    Option.bind (x13[(Int.toNat x15)]?) fun v2 =>
      Option.bind (q_f52_aiirrz v2.Kind v2.Num v2.Bytes v2.Items) fun o4 =>
        match o4 with
        | .o0 v7 v8 v9 v10 =>
          ifE (((List.length h2_) + 1) * 64 ≤ roomy) (
            f52_aiirrz_l1_j2 k q_f52_aiirrz x13 x14 x15 h0_ h0__1 h1_ (h2_ ++ ([(T50.mk v7 v8 v9 v10)] : List T50)) h3_ h3__1 h4_ h5_))
theorem f52_aiirrz_l1_j1_ok (k : Nat) (q_f52_aiirrz : Int → Int → (List Int) → (List T50) → Option R52_aiirrz) (hq_f52_aiirrz : ∀ (a0 a0_1 : Int) (a0_2 : List Int) (a0_3 : List T50) (r : R52_aiirrz), q_f52_aiirrz a0 a0_1 a0_2 a0_3 = some r → CV k 52 [V.agg [V.p (Value.int .i64 a0), V.p (Value.int .u64 a0_1), V.sl 1 (rowsOf (encI .u8) a0_2), V.sl 4 (rowsOf encT50 a0_3)]] [] = some r.st) (x13 : List T50) (x14 x15 : Int) (x16 : Bool) (h0_ h0__1 : Int) (h1_ : List Int) (h2_ : List T50) (h3_ h3__1 : Int) (h4_ : List Int) (h5_ : List T50) (r : R52_aiirrz_l1) (hF : f52_aiirrz_l1_j1 k q_f52_aiirrz x13 x14 x15 x16 h0_ h0__1 h1_ h2_ h3_ h3__1 h4_ h5_ = some r) : EX 52 k (nav B52 [2, 2, 1, 2, 2, 1, 2, 2, 2, 2]) ({ n := 28, F := [(1, V.ptr 30000 0), (2, V.ptr 30003 0), (13, V.sl 4 (rowsOf encT50 x13)), (14, V.p (Value.int .i64 x14)), (15, V.p (Value.int .i64 x15)), (16, V.p (Value.bool x16))], M := [(30000, O.box 50 [V.p (Value.int .i64 h0_), V.p (Value.int .u64 h0__1), V.own 30001, V.own 30002]), (30001, O.row true 1 5 (rowsOf (encI .u8) h1_)), (30002, O.row true 4 50 (rowsOf encT50 h2_)), (30003, O.box 50 [V.p (Value.int .i64 h3_), V.p (Value.int .u64 h3__1), V.own 30004, V.own 30005]), (30004, O.row true 1 5 (rowsOf (encI .u8) h4_)), (30005, O.row true 4 50 (rowsOf encT50 h5_))] } : St) = some r.st := by
  unfold f52_aiirrz_l1_j1 at hF
  replace hF := ifE_some.1 hF
  obtain ⟨h1, hF⟩ := hF
  replace hF := Option.bind_eq_some_iff.1 hF
  obtain ⟨v2, h3, hF⟩ := hF
  replace hF := Option.bind_eq_some_iff.1 hF
  obtain ⟨o4, h5, hF⟩ := hF
  have hc6 := hq_f52_aiirrz v2.Kind v2.Num v2.Bytes v2.Items _ h5
  cases o4 with
  | o0 v7 v8 v9 v10 =>
    (try dsimp only at hF)
    (try simp only [NM, EE, R52_aiirrz.st] at hc6)
    have q11 : [[V.p (Value.int .i64 v7), V.p (Value.int .u64 v8), V.sl 1 (rowsOf (encI .u8) v9), V.sl 4 (rowsOf encT50 v10)]] = rowsOf encT50 ([(T50.mk v7 v8 v9 v10)] : List T50) := by first | rfl | simp only [rowsOf, List.map_cons, List.map_nil, encT50_eq]
    have q12 : List.map (tell [0, 0, 1, 4]) (rowsOf encT50 ([(T50.mk v7 v8 v9 v10)] : List T50)) = rowsOf encT50 ([(T50.mk v7 v8 v9 v10)] : List T50) := by first | rfl | simp only [rowsOf, List.map_cons, List.map_nil, encT50_eq]
    replace hF := ifE_some.1 hF
    obtain ⟨h13, hF⟩ := hF
    have hJ := f52_aiirrz_l1_j2_ok k q_f52_aiirrz hq_f52_aiirrz x13 x14 x15 h0_ h0__1 h1_ (h2_ ++ ([(T50.mk v7 v8 v9 v10)] : List T50)) h3_ h3__1 h4_ h5_ _ hF
    simp (maxSteps := 999999) (disch := first | exact D (by decide) | exact K (by kernel_rfl)) only [E, EE, ↓reduceIte, simprocAttr, xk B52 [2, 2, 1, 2, 2, 1, 2, 2, 2, 2] .sq rfl, xk B52 [1, 2, 2, 1, 2, 2, 1, 2, 2, 2, 2] (.bk 1) rfl, xk B52 [2, 1, 2, 2, 1, 2, 2, 1, 2, 2, 2, 2] .sq rfl, show (nav B52 [1, 2, 1, 2, 2, 1, 2, 2, 1, 2, 2, 2, 2]) = Code.region 6 _ false from rfl, hk_52_6, hz_52_6, hs_52_6, indexAddrV, u_48, i_48, is_48, ib_48, iz_48, u_50, i_50, is_50, ib_50, iz_50, encT50_eq, show (nav B52 [2, 2, 1, 2, 2, 1, 2, 2, 1, 2, 2, 2, 2]) = Code.region 7 _ true from rfl, hk_52_7, hz_52_7, hs_52_7, fieldAddrV, callStep, CL, gv, List.contains, buildSliceV, fillRows, sm_50, appendV, content, h1, h3, hc6, q11, q12, h13]
    try simp only [NM, EE] at hJ
    exact hJ
noncomputable def f52_aiirrz_l1_b (k : Nat) (q_f52_aiirrz : Int → Int → (List Int) → (List T50) → Option R52_aiirrz) (x13 : List T50) (x14 x15 h0_ h0__1 : Int) (h1_ : List Int) (h2_ : List T50) (h3_ h3__1 : Int) (h4_ : List Int) (h5_ : List T50) : Option R52_aiirrz_l1 :=
  cond ((decide (x15 < x14)))
    (f52_aiirrz_l1_j1 k q_f52_aiirrz x13 x14 x15 true h0_ h0__1 h1_ h2_ h3_ h3__1 h4_ h5_)
    (some (R52_aiirrz_l1.o1 x13 x14 x15 false h0_ h0__1 h1_ h2_ h3_ h3__1 h4_ h5_))
theorem f52_aiirrz_l1_b_ok (k : Nat) (q_f52_aiirrz : Int → Int → (List Int) → (List T50) → Option R52_aiirrz) (hq_f52_aiirrz : ∀ (a0 a0_1 : Int) (a0_2 : List Int) (a0_3 : List T50) (r : R52_aiirrz), q_f52_aiirrz a0 a0_1 a0_2 a0_3 = some r → CV k 52 [V.agg [V.p (Value.int .i64 a0), V.p (Value.int .u64 a0_1), V.sl 1 (rowsOf (encI .u8) a0_2), V.sl 4 (rowsOf encT50 a0_3)]] [] = some r.st) (x13 : List T50) (x14 x15 h0_ h0__1 : Int) (h1_ : List Int) (h2_ : List T50) (h3_ h3__1 : Int) (h4_ : List Int) (h5_ : List T50) (r : R52_aiirrz_l1) (hF : f52_aiirrz_l1_b k q_f52_aiirrz x13 x14 x15 h0_ h0__1 h1_ h2_ h3_ h3__1 h4_ h5_ = some r) : EX 52 k (nav B52 [1, 2, 2, 1, 2, 2, 2, 2]) ({ n := 28, F := [(1, V.ptr 30000 0), (2, V.ptr 30003 0), (13, V.sl 4 (rowsOf encT50 x13)), (14, V.p (Value.int .i64 x14)), (15, V.p (Value.int .i64 x15))], M := [(30000, O.box 50 [V.p (Value.int .i64 h0_), V.p (Value.int .u64 h0__1), V.own 30001, V.own 30002]), (30001, O.row true 1 5 (rowsOf (encI .u8) h1_)), (30002, O.row true 4 50 (rowsOf encT50 h2_)), (30003, O.box 50 [V.p (Value.int .i64 h3_), V.p (Value.int .u64 h3__1), V.own 30004, V.own 30005]), (30004, O.row true 1 5 (rowsOf (encI .u8) h4_)), (30005, O.row true 4 50 (rowsOf encT50 h5_))] } : St) = some r.st := by
  unfold f52_aiirrz_l1_b at hF
  simp (maxSteps := 999999) (disch := first | exact D (by decide) | exact K (by kernel_rfl)) only [E, EE, ↓reduceIte, simprocAttr, xk B52 [1, 2, 2, 1, 2, 2, 2, 2] .sq rfl, show (nav B52 [1, 1, 2, 2, 1, 2, 2, 2, 2]) = Code.region 5 _ false from rfl, hk_52_5, hz_52_5, hs_52_5, xk B52 [2, 1, 2, 2, 1, 2, 2, 2, 2] .sq rfl, xk B52 [1, 2, 1, 2, 2, 1, 2, 2, 2, 2] (.cd 16) rfl]
  replace hF := cond_some hF
  rcases hF with ⟨h1, hF⟩ | ⟨h1, hF⟩
  · have hJ := f52_aiirrz_l1_j1_ok k q_f52_aiirrz hq_f52_aiirrz x13 x14 x15 true h0_ h0__1 h1_ h2_ h3_ h3__1 h4_ h5_ _ hF
    simp (maxSteps := 999999) (disch := first | exact D (by decide) | exact K (by kernel_rfl)) only [E, EE, ↓reduceIte, simprocAttr, xk B52 [2, 1, 2, 1, 2, 2, 1, 2, 2, 2, 2] .sk rfl, h1]
    try simp only [NM, EE] at hJ
    exact hJ
  · cases hF
    simp (maxSteps := 999999) (disch := first | exact D (by decide) | exact K (by kernel_rfl)) only [E, EE, ↓reduceIte, simprocAttr, xk B52 [3, 1, 2, 1, 2, 2, 1, 2, 2, 2, 2] (.ex 0) rfl, R52_aiirrz_l1.st, h1]
noncomputable def f52_aiirrz_l1 (k : Nat) (q_f52_aiirrz : Int → Int → (List Int) → (List T50) → Option R52_aiirrz) : Nat → (List T50) → Int → Int → Int → Int → (List Int) → (List T50) → Int → Int → (List Int) → (List T50) → Option R52_aiirrz_l1
  | 0, _, _, _, _, _, _, _, _, _, _, _ => none
  | n + 1, x13, x14, x15, h0_, h0__1, h1_, h2_, h3_, h3__1, h4_, h5_ => Option.bind (f52_aiirrz_l1_b k q_f52_aiirrz x13 x14 x15 h0_ h0__1 h1_ h2_ h3_ h3__1 h4_ h5_) fun o =>
    match o with
    | .o0 y y_1 y_2 y_3 y_4 y_5 y_6 y_7 y_8 y_9 y_10 => f52_aiirrz_l1 k q_f52_aiirrz n y y_1 y_2 y_3 y_4 y_5 y_6 y_7 y_8 y_9 y_10
    | .o1 y y_1 y_2 y_3 y_4 y_5 y_6 y_7 y_8 y_9 y_10 y_11 => some (.o1 y y_1 y_2 y_3 y_4 y_5 y_6 y_7 y_8 y_9 y_10 y_11)
theorem f52_aiirrz_l1_ok (k : Nat) (q_f52_aiirrz : Int → Int → (List Int) → (List T50) → Option R52_aiirrz) (hq_f52_aiirrz : ∀ (a0 a0_1 : Int) (a0_2 : List Int) (a0_3 : List T50) (r : R52_aiirrz), q_f52_aiirrz a0 a0_1 a0_2 a0_3 = some r → CV k 52 [V.agg [V.p (Value.int .i64 a0), V.p (Value.int .u64 a0_1), V.sl 1 (rowsOf (encI .u8) a0_2), V.sl 4 (rowsOf encT50 a0_3)]] [] = some r.st) (n : Nat) : ∀ (x13 : List T50) (x14 x15 h0_ h0__1 : Int) (h1_ : List Int) (h2_ : List T50) (h3_ h3__1 : Int) (h4_ : List Int) (h5_ : List T50) (r : R52_aiirrz_l1) (hF : f52_aiirrz_l1 k q_f52_aiirrz n x13 x14 x15 h0_ h0__1 h1_ h2_ h3_ h3__1 h4_ h5_ = some r) (σ : St) (hσ : headR (hints.head 52 5) (hints.canon 52 5) σ = some ({ n := 28, F := [(1, V.ptr 30000 0), (2, V.ptr 30003 0), (13, V.sl 4 (rowsOf encT50 x13)), (14, V.p (Value.int .i64 x14)), (15, V.p (Value.int .i64 x15))], M := [(30000, O.box 50 [V.p (Value.int .i64 h0_), V.p (Value.int .u64 h0__1), V.own 30001, V.own 30002]), (30001, O.row true 1 5 (rowsOf (encI .u8) h1_)), (30002, O.row true 4 50 (rowsOf encT50 h2_)), (30003, O.box 50 [V.p (Value.int .i64 h3_), V.p (Value.int .u64 h3__1), V.own 30004, V.own 30005]), (30004, O.row true 1 5 (rowsOf (encI .u8) h4_)), (30005, O.row true 4 50 (rowsOf encT50 h5_))] } : St)), LP 52 k (nav B52 [1, 2, 2, 1, 2, 2, 2, 2]) n σ = some r.st := by
  induction n with
  | zero => intro x13 x14 x15 h0_ h0__1 h1_ h2_ h3_ h3__1 h4_ h5_ r hF; cases hF
  | succ n ih =>
    intro x13 x14 x15 h0_ h0__1 h1_ h2_ h3_ h3__1 h4_ h5_ r hF σ hσ
    rw [f52_aiirrz_l1] at hF
    obtain ⟨o, h, hF⟩ := Option.bind_eq_some_iff.1 hF
    have hB := f52_aiirrz_l1_b_ok k q_f52_aiirrz hq_f52_aiirrz x13 x14 x15 h0_ h0__1 h1_ h2_ h3_ h3__1 h4_ h5_ o h
    unfold LP at ih ⊢
    unfold EX at hB
    rw [loopK_succ, show firstReg (nav B52 [1, 2, 2, 1, 2, 2, 2, 2]) = 5 from rfl, hσ, headK_some, hB]
    cases o with
    | o0 y y_1 y_2 y_3 y_4 y_5 y_6 y_7 y_8 y_9 y_10 =>
      refine ih y y_1 y_2 y_3 y_4 y_5 y_6 y_7 y_8 y_9 y_10 r hF _ ?_
      simp (maxSteps := 999999) (disch := first | exact D (by decide) | exact K (by kernel_rfl)) only [E, EE, ↓reduceIte, simprocAttr, hh_52_5, hc_52_5]
    | o1 y y_1 y_2 y_3 y_4 y_5 y_6 y_7 y_8 y_9 y_10 y_11 => cases hF; rfl
noncomputable def f52_aiirrz_j2 (k : Nat) (q_f52_aiirrz : Int → Int → (List Int) → (List T50) → Option R52_aiirrz) (x13 : List T50) (x14 x15 : Int) (x16 : Bool) (h0_ h0__1 : Int) (h1_ : List Int) (h2_ : List T50) (h3_ h3__1 : Int) (h4_ : List Int) (h5_ : List T50) : Option R52_aiirrz :=
  some (R52_aiirrz.o0 h0_ h0__1 h1_ h2_)
theorem f52_aiirrz_j2_ok (k : Nat) (q_f52_aiirrz : Int → Int → (List Int) → (List T50) → Option R52_aiirrz) (hq_f52_aiirrz : ∀ (a0 a0_1 : Int) (a0_2 : List Int) (a0_3 : List T50) (r : R52_aiirrz), q_f52_aiirrz a0 a0_1 a0_2 a0_3 = some r → CV k 52 [V.agg [V.p (Value.int .i64 a0), V.p (Value.int .u64 a0_1), V.sl 1 (rowsOf (encI .u8) a0_2), V.sl 4 (rowsOf encT50 a0_3)]] [] = some r.st) (x13 : List T50) (x14 x15 : Int) (x16 : Bool) (h0_ h0__1 : Int) (h1_ : List Int) (h2_ : List T50) (h3_ h3__1 : Int) (h4_ : List Int) (h5_ : List T50) (r : R52_aiirrz) (hF : f52_aiirrz_j2 k q_f52_aiirrz x13 x14 x15 x16 h0_ h0__1 h1_ h2_ h3_ h3__1 h4_ h5_ = some r) : finK Tryd.prog Tryd.f52 0 (EX 52 k (nav B52 [2, 2, 2, 2, 2]) ({ n := 28, F := [(1, V.ptr 30000 0), (2, V.ptr 30003 0), (13, V.sl 4 (rowsOf encT50 x13)), (14, V.p (Value.int .i64 x14)), (15, V.p (Value.int .i64 x15)), (16, V.p (Value.bool x16))], M := [(30000, O.box 50 [V.p (Value.int .i64 h0_), V.p (Value.int .u64 h0__1), V.own 30001, V.own 30002]), (30001, O.row true 1 5 (rowsOf (encI .u8) h1_)), (30002, O.row true 4 50 (rowsOf encT50 h2_)), (30003, O.box 50 [V.p (Value.int .i64 h3_), V.p (Value.int .u64 h3__1), V.own 30004, V.own 30005]), (30004, O.row true 1 5 (rowsOf (encI .u8) h4_)), (30005, O.row true 4 50 (rowsOf encT50 h5_))] } : St)) = some r.st := by
  unfold f52_aiirrz_j2 at hF
  cases hF
  simp (maxSteps := 999999) (disch := first | exact D (by decide) | exact K (by kernel_rfl)) only [E, EE, ↓reduceIte, simprocAttr, xk B52 [2, 2, 2, 2, 2] .sq rfl, show (nav B52 [1, 2, 2, 2, 2, 2]) = Code.region 9 _ false from rfl, hk_52_9, hz_52_9, hs_52_9, u_50, i_50, is_50, ib_50, iz_50, xk B52 [2, 2, 2, 2, 2, 2] .rt rfl, finK_norm, finK_ret, fin52, R52_aiirrz.st]
noncomputable def f52_aiirrz_e (k : Nat) (q_f52_aiirrz : Int → Int → (List Int) → (List T50) → Option R52_aiirrz) (a0 a0_1 : Int) (a0_2 : List Int) (a0_3 : List T50) : Option R52_aiirrz :=
  Option.bind (f53_r k a0_2) fun o1 =>
    match o1 with
    | .o0 v4 =>
      Option.bind (f52_aiirrz_l1 k q_f52_aiirrz k a0_3 ((List.length a0_3) : Int) 0 a0 a0_1 v4 [] 0 0 [] []) fun o5 =>
        match o5 with
        | .o0 _ _ _ _ _ _ _ _ _ _ _ =>
          none
        | .o1 v8 v9 v10 v11 v12 v13 v14 v15 v16 v17 v18 v19 =>
          f52_aiirrz_j2 k q_f52_aiirrz v8 v9 v10 v11 v12 v13 v14 v15 v16 v17 v18 v19
theorem f52_aiirrz_e_ok (k : Nat) (q_f52_aiirrz : Int → Int → (List Int) → (List T50) → Option R52_aiirrz) (hq_f52_aiirrz : ∀ (a0 a0_1 : Int) (a0_2 : List Int) (a0_3 : List T50) (r : R52_aiirrz), q_f52_aiirrz a0 a0_1 a0_2 a0_3 = some r → CV k 52 [V.agg [V.p (Value.int .i64 a0), V.p (Value.int .u64 a0_1), V.sl 1 (rowsOf (encI .u8) a0_2), V.sl 4 (rowsOf encT50 a0_3)]] [] = some r.st) (a0 a0_1 : Int) (a0_2 : List Int) (a0_3 : List T50) (r : R52_aiirrz) (hF : f52_aiirrz_e k q_f52_aiirrz a0 a0_1 a0_2 a0_3 = some r) : finK Tryd.prog Tryd.f52 0 (EX 52 k (nav B52 []) ({ n := 28, F := [(0, V.agg [V.p (Value.int .i64 a0), V.p (Value.int .u64 a0_1), V.sl 1 (rowsOf (encI .u8) a0_2), V.sl 4 (rowsOf encT50 a0_3)])], M := [] } : St)) = some r.st := by
  unfold f52_aiirrz_e at hF
  replace hF := Option.bind_eq_some_iff.1 hF
  obtain ⟨o1, h2, hF⟩ := hF
  have hc3 := f53_r_ok k a0_2 _ h2
  cases o1 with
  | o0 v4 =>
    (try dsimp only at hF)
    (try simp only [NM, EE, R53_r.st] at hc3)
    replace hF := Option.bind_eq_some_iff.1 hF
    obtain ⟨o5, h6, hF⟩ := hF
    have hc7 := f52_aiirrz_l1_ok k q_f52_aiirrz hq_f52_aiirrz k a0_3 ((List.length a0_3) : Int) 0 a0 a0_1 v4 [] 0 0 [] [] _ h6
    simp (maxSteps := 999999) (disch := first | exact D (by decide) | exact K (by kernel_rfl)) only [E, EE, ↓reduceIte, simprocAttr, xk B52 [] .sq rfl, show (nav B52 [1]) = Code.region 0 _ false from rfl, hk_52_0, hz_52_0, hs_52_0, u_50, i_50, is_50, ib_50, iz_50, xk B52 [2] .sq rfl, show (nav B52 [1, 2]) = Code.region 1 _ false from rfl, hk_52_1, hz_52_1, hs_52_1, fieldAddrV, u_22, i_22, is_22, ib_22, iz_22, callStep, CL, gv, List.contains, xk B52 [2, 2] .sq rfl, show (nav B52 [1, 2, 2]) = Code.region 2 _ false from rfl, hk_52_2, hz_52_2, hs_52_2, u_48, i_48, is_48, ib_48, iz_48, xk B52 [2, 2, 2] .sq rfl, show (nav B52 [1, 2, 2, 2]) = Code.region 3 _ false from rfl, hk_52_3, hz_52_3, hs_52_3, xk B52 [2, 2, 2, 2] .sq rfl, xk B52 [1, 2, 2, 2, 2] .sq rfl, show (nav B52 [1, 1, 2, 2, 2, 2]) = Code.region 4 _ false from rfl, hk_52_4, hz_52_4, hs_52_4, xk B52 [2, 1, 2, 2, 2, 2] (.bk 0) rfl, xk B52 [2, 2, 1, 2, 2, 2, 2] .lp rfl, hh_52_5, hc_52_5, hc3]
    (try simp only [NM, EE] at hc7)
    rw [hc7 _ (by simp (maxSteps := 999999) (disch := first | exact D (by decide) | exact K (by kernel_rfl)) only [E, EE, ↓reduceIte, simprocAttr, hh_52_5, hc_52_5, hc3])]
    clear hc7
    cases o5 with
    | o0 _ _ _ _ _ _ _ _ _ _ _ =>
      (try dsimp only at hF)
      cases hF
    | o1 v8 v9 v10 v11 v12 v13 v14 v15 v16 v17 v18 v19 =>
      (try dsimp only at hF)
      have hJ := f52_aiirrz_j2_ok k q_f52_aiirrz hq_f52_aiirrz v8 v9 v10 v11 v12 v13 v14 v15 v16 v17 v18 v19 _ hF
      simp (maxSteps := 999999) (disch := first | exact D (by decide) | exact K (by kernel_rfl)) only [E, EE, ↓reduceIte, simprocAttr, R52_aiirrz_l1.st, hc3]
      try simp only [NM, EE] at hJ
      exact hJ
noncomputable def f52_aiirrz : Nat → Int → Int → (List Int) → (List T50) → Option R52_aiirrz
  | 0, _, _, _, _ => none
  | k + 1, a0, a0_1, a0_2, a0_3 => f52_aiirrz_e k (f52_aiirrz k) a0 a0_1 a0_2 a0_3
theorem f52_aiirrz_all (k : Nat) : (∀ (a0 a0_1 : Int) (a0_2 : List Int) (a0_3 : List T50) (r : R52_aiirrz), f52_aiirrz k a0 a0_1 a0_2 a0_3 = some r → CV k 52 [V.agg [V.p (Value.int .i64 a0), V.p (Value.int .u64 a0_1), V.sl 1 (rowsOf (encI .u8) a0_2), V.sl 4 (rowsOf encT50 a0_3)]] [] = some r.st) := by
  induction k with
  | zero => exact (by intro a0 a0_1 a0_2 a0_3 r hF; rw [f52_aiirrz] at hF; cases hF)
  | succ k ih =>
    have ih_f52_aiirrz := ih
    exact (by intro a0 a0_1 a0_2 a0_3 r hF; rw [f52_aiirrz] at hF; unfold CV; rw [ev_call (F := Tryd.f52) (c := (nav B52 [])) rfl Tryd.func52 rfl rfl rfl rfl]; exact f52_aiirrz_e_ok k (f52_aiirrz k) ih_f52_aiirrz a0 a0_1 a0_2 a0_3 r hF)
theorem f52_aiirrz_ok (k : Nat) (a0 a0_1 : Int) (a0_2 : List Int) (a0_3 : List T50) (r : R52_aiirrz) (hF : f52_aiirrz k a0 a0_1 a0_2 a0_3 = some r) : CV k 52 [V.agg [V.p (Value.int .i64 a0), V.p (Value.int .u64 a0_1), V.sl 1 (rowsOf (encI .u8) a0_2), V.sl 4 (rowsOf encT50 a0_3)]] [] = some r.st := f52_aiirrz_all k a0 a0_1 a0_2 a0_3 r hF
-- f33_r: f33 heliograph/cbor.List
inductive R33_r where
  | o0 (y y_1 : Int) (y_2 : List Int) (y_3 : List T50)
noncomputable def R33_r.st : R33_r → V × List O × List O
  | .o0 y y_1 y_2 y_3 => (V.agg [V.p (Value.int .i64 y), V.p (Value.int .u64 y_1), V.sl 1 (rowsOf (encI .u8) y_2), V.own 2000000], [], [O.row true 4 50 (rowsOf encT50 y_3)])
inductive R33_r_l1 where
  | o0 (y : List T50) (y_1 y_2 y_3 y_4 : Int) (y_5 : List Int) (y_6 : List T50) (y_7 y_8 : Int) (y_9 : List Int) (y_10 : List T50)
  | o1 (y : List T50) (y_1 y_2 : Int) (y_3 : Bool) (y_4 y_5 : Int) (y_6 : List Int) (y_7 : List T50) (y_8 y_9 : Int) (y_10 : List Int) (y_11 : List T50)
noncomputable def R33_r_l1.st : R33_r_l1 → Out × St
  | .o0 y y_1 y_2 y_3 y_4 y_5 y_6 y_7 y_8 y_9 y_10 => (.norm, ({ n := 22, F := [(2, V.ptr 30000 0), (3, V.ptr 30002 0), (7, V.sl 4 (rowsOf encT50 y)), (8, V.p (Value.int .i64 y_1)), (9, V.p (Value.int .i64 y_2))], M := [(30000, O.box 50 [V.p (Value.int .i64 y_3), V.p (Value.int .u64 y_4), V.sl 1 (rowsOf (encI .u8) y_5), V.own 30001]), (30001, O.row true 4 50 (rowsOf encT50 y_6)), (30002, O.box 50 [V.p (Value.int .i64 y_7), V.p (Value.int .u64 y_8), V.sl 1 (rowsOf (encI .u8) y_9), V.own 18]), (18, O.row true 4 50 (rowsOf encT50 y_10))] } : St))
  | .o1 y y_1 y_2 y_3 y_4 y_5 y_6 y_7 y_8 y_9 y_10 y_11 => (.exit 0, ({ n := 22, F := [(2, V.ptr 30000 0), (3, V.ptr 30002 0), (7, V.sl 4 (rowsOf encT50 y)), (8, V.p (Value.int .i64 y_1)), (9, V.p (Value.int .i64 y_2)), (10, V.p (Value.bool y_3))], M := [(30000, O.box 50 [V.p (Value.int .i64 y_4), V.p (Value.int .u64 y_5), V.sl 1 (rowsOf (encI .u8) y_6), V.own 30001]), (30001, O.row true 4 50 (rowsOf encT50 y_7)), (30002, O.box 50 [V.p (Value.int .i64 y_8), V.p (Value.int .u64 y_9), V.sl 1 (rowsOf (encI .u8) y_10), V.own 30003]), (30003, O.row true 4 50 (rowsOf encT50 y_11))] } : St))
noncomputable def f33_r_l1_j2 (k : Nat) (x7 : List T50) (x8 x9 h0_ h0__1 : Int) (h0__2 : List Int) (h1_ : List T50) (h2_ h2__1 : Int) (h2__2 : List Int) (m18 : List T50) : Option R33_r_l1 :=
  some (R33_r_l1.o0 x7 x8 (IntKind.i64.wrap (x9 + (1 : Int))) h0_ h0__1 h0__2 h1_ h2_ h2__1 h2__2 m18)
theorem f33_r_l1_j2_ok (k : Nat) (x7 : List T50) (x8 x9 h0_ h0__1 : Int) (h0__2 : List Int) (h1_ : List T50) (h2_ h2__1 : Int) (h2__2 : List Int) (m18 : List T50) (r : R33_r_l1) (hF : f33_r_l1_j2 k x7 x8 x9 h0_ h0__1 h0__2 h1_ h2_ h2__1 h2__2 m18 = some r) : EX 33 k (nav B33 [2, 2, 2, 1, 2, 2, 1, 2, 2]) ({ n := 22, F := [(2, V.ptr 30000 0), (3, V.ptr 30002 0), (7, V.sl 4 (rowsOf encT50 x7)), (8, V.p (Value.int .i64 x8)), (9, V.p (Value.int .i64 x9))], M := [(30000, O.box 50 [V.p (Value.int .i64 h0_), V.p (Value.int .u64 h0__1), V.sl 1 (rowsOf (encI .u8) h0__2), V.own 30001]), (30001, O.row true 4 50 (rowsOf encT50 h1_)), (30002, O.box 50 [V.p (Value.int .i64 h2_), V.p (Value.int .u64 h2__1), V.sl 1 (rowsOf (encI .u8) h2__2), V.own 18]), (18, O.row true 4 50 (rowsOf encT50 m18))] } : St) = some r.st := by
  unfold f33_r_l1_j2 at hF
  cases hF
  simp (maxSteps := 999999) (disch := first | exact D (by decide) | exact K (by kernel_rfl)) only [E, EE, ↓reduceIte, simprocAttr, show (nav B33 [2, 2, 2, 1, 2, 2, 1, 2, 2]) = Code.region 6 _ false from rfl, hk_33_6, hz_33_6, hs_33_6, R33_r_l1.st]
noncomputable def f33_r_l1_j1 (k : Nat) (x7 : List T50) (x8 x9 : Int) (x10 : Bool) (h0_ h0__1 : Int) (h0__2 : List Int) (h1_ : List T50) (h2_ h2__1 : Int) (h2__2 : List Int) (h3_ : List T50) : Option R33_r_l1 :=
  ifE ((0 : Int) ≤ x9) (
    Option.bind (x7[(Int.toNat x9)]?) fun v2 =>
      Option.bind (f52_aiirrz k v2.Kind v2.Num v2.Bytes v2.Items) fun o4 =>
        match o4 with
        | .o0 v7 v8 v9 v10 =>
          ifE (((List.length h3_) + 1) * 64 ≤ roomy) (
            f33_r_l1_j2 k x7 x8 x9 h0_ h0__1 h0__2 h1_ h2_ h2__1 h2__2 (h3_ ++ ([(T50.mk v7 v8 v9 v10)] : List T50))))
theorem f33_r_l1_j1_ok (k : Nat) (x7 : List T50) (x8 x9 : Int) (x10 : Bool) (h0_ h0__1 : Int) (h0__2 : List Int) (h1_ : List T50) (h2_ h2__1 : Int) (h2__2 : List Int) (h3_ : List T50) (r : R33_r_l1) (hF : f33_r_l1_j1 k x7 x8 x9 x10 h0_ h0__1 h0__2 h1_ h2_ h2__1 h2__2 h3_ = some r) : EX 33 k (nav B33 [2, 2, 1, 2, 2, 1, 2, 2]) ({ n := 22, F := [(2, V.ptr 30000 0), (3, V.ptr 30002 0), (7, V.sl 4 (rowsOf encT50 x7)), (8, V.p (Value.int .i64 x8)), (9, V.p (Value.int .i64 x9)), (10, V.p (Value.bool x10))], M := [(30000, O.box 50 [V.p (Value.int .i64 h0_), V.p (Value.int .u64 h0__1), V.sl 1 (rowsOf (encI .u8) h0__2), V.own 30001]), (30001, O.row true 4 50 (rowsOf encT50 h1_)), (30002, O.box 50 [V.p (Value.int .i64 h2_), V.p (Value.int .u64 h2__1), V.sl 1 (rowsOf (encI .u8) h2__2), V.own 30003]), (30003, O.row true 4 50 (rowsOf encT50 h3_))] } : St) = some r.st := by
  unfold f33_r_l1_j1 at hF
  replace hF := ifE_some.1 hF
  obtain ⟨h1, hF⟩ := hF
  replace hF := Option.bind_eq_some_iff.1 hF
  obtain ⟨v2, h3, hF⟩ := hF
  replace hF := Option.bind_eq_some_iff.1 hF
  obtain ⟨o4, h5, hF⟩ := hF
  have hc6 := f52_aiirrz_ok k v2.Kind v2.Num v2.Bytes v2.Items _ h5
  cases o4 with
  | o0 v7 v8 v9 v10 =>
    (try dsimp only at hF)
    (try simp only [NM, EE, R52_aiirrz.st] at hc6)
    have q11 : [[V.p (Value.int .i64 v7), V.p (Value.int .u64 v8), V.sl 1 (rowsOf (encI .u8) v9), V.sl 4 (rowsOf encT50 v10)]] = rowsOf encT50 ([(T50.mk v7 v8 v9 v10)] : List T50) := by first | rfl | simp only [rowsOf, List.map_cons, List.map_nil, encT50_eq]
    have q12 : List.map (tell [0, 0, 1, 4]) (rowsOf encT50 ([(T50.mk v7 v8 v9 v10)] : List T50)) = rowsOf encT50 ([(T50.mk v7 v8 v9 v10)] : List T50) := by first | rfl | simp only [rowsOf, List.map_cons, List.map_nil, encT50_eq]
    replace hF := ifE_some.1 hF
    obtain ⟨h13, hF⟩ := hF
    have hJ := f33_r_l1_j2_ok k x7 x8 x9 h0_ h0__1 h0__2 h1_ h2_ h2__1 h2__2 (h3_ ++ ([(T50.mk v7 v8 v9 v10)] : List T50)) _ hF
    simp (maxSteps := 999999) (disch := first | exact D (by decide) | exact K (by kernel_rfl)) only [E, EE, ↓reduceIte, simprocAttr, xk B33 [2, 2, 1, 2, 2, 1, 2, 2] .sq rfl, xk B33 [1, 2, 2, 1, 2, 2, 1, 2, 2] (.bk 1) rfl, xk B33 [2, 1, 2, 2, 1, 2, 2, 1, 2, 2] .sq rfl, show (nav B33 [1, 2, 1, 2, 2, 1, 2, 2, 1, 2, 2]) = Code.region 4 _ false from rfl, hk_33_4, hz_33_4, hs_33_4, indexAddrV, u_48, i_48, is_48, ib_48, iz_48, u_50, i_50, is_50, ib_50, iz_50, encT50_eq, show (nav B33 [2, 2, 1, 2, 2, 1, 2, 2, 1, 2, 2]) = Code.region 5 _ true from rfl, hk_33_5, hz_33_5, hs_33_5, fieldAddrV, callStep, CL, gv, List.contains, buildSliceV, fillRows, sm_50, appendV, content, h1, h3, hc6, q11, q12, h13]
    try simp only [NM, EE] at hJ
    exact hJ
noncomputable def f33_r_l1_b (k : Nat) (x7 : List T50) (x8 x9 h0_ h0__1 : Int) (h0__2 : List Int) (h1_ : List T50) (h2_ h2__1 : Int) (h2__2 : List Int) (h3_ : List T50) : Option R33_r_l1 :=
  cond ((decide (x9 < x8)))
    (f33_r_l1_j1 k x7 x8 x9 true h0_ h0__1 h0__2 h1_ h2_ h2__1 h2__2 h3_)
    (some (R33_r_l1.o1 x7 x8 x9 false h0_ h0__1 h0__2 h1_ h2_ h2__1 h2__2 h3_))
theorem f33_r_l1_b_ok (k : Nat) (x7 : List T50) (x8 x9 h0_ h0__1 : Int) (h0__2 : List Int) (h1_ : List T50) (h2_ h2__1 : Int) (h2__2 : List Int) (h3_ : List T50) (r : R33_r_l1) (hF : f33_r_l1_b k x7 x8 x9 h0_ h0__1 h0__2 h1_ h2_ h2__1 h2__2 h3_ = some r) : EX 33 k (nav B33 [1, 2, 2, 1, 2, 2]) ({ n := 22, F := [(2, V.ptr 30000 0), (3, V.ptr 30002 0), (7, V.sl 4 (rowsOf encT50 x7)), (8, V.p (Value.int .i64 x8)), (9, V.p (Value.int .i64 x9))], M := [(30000, O.box 50 [V.p (Value.int .i64 h0_), V.p (Value.int .u64 h0__1), V.sl 1 (rowsOf (encI .u8) h0__2), V.own 30001]), (30001, O.row true 4 50 (rowsOf encT50 h1_)), (30002, O.box 50 [V.p (Value.int .i64 h2_), V.p (Value.int .u64 h2__1), V.sl 1 (rowsOf (encI .u8) h2__2), V.own 30003]), (30003, O.row true 4 50 (rowsOf encT50 h3_))] } : St) = some r.st := by
  unfold f33_r_l1_b at hF
  simp (maxSteps := 999999) (disch := first | exact D (by decide) | exact K (by kernel_rfl)) only [E, EE, ↓reduceIte, simprocAttr, xk B33 [1, 2, 2, 1, 2, 2] .sq rfl, show (nav B33 [1, 1, 2, 2, 1, 2, 2]) = Code.region 3 _ false from rfl, hk_33_3, hz_33_3, hs_33_3, xk B33 [2, 1, 2, 2, 1, 2, 2] .sq rfl, xk B33 [1, 2, 1, 2, 2, 1, 2, 2] (.cd 10) rfl]
  replace hF := cond_some hF
  rcases hF with ⟨h1, hF⟩ | ⟨h1, hF⟩
  · have hJ := f33_r_l1_j1_ok k x7 x8 x9 true h0_ h0__1 h0__2 h1_ h2_ h2__1 h2__2 h3_ _ hF
    simp (maxSteps := 999999) (disch := first | exact D (by decide) | exact K (by kernel_rfl)) only [E, EE, ↓reduceIte, simprocAttr, xk B33 [2, 1, 2, 1, 2, 2, 1, 2, 2] .sk rfl, h1]
    try simp only [NM, EE] at hJ
    exact hJ
  · cases hF
    simp (maxSteps := 999999) (disch := first | exact D (by decide) | exact K (by kernel_rfl)) only [E, EE, ↓reduceIte, simprocAttr, xk B33 [3, 1, 2, 1, 2, 2, 1, 2, 2] (.ex 0) rfl, R33_r_l1.st, h1]
noncomputable def f33_r_l1 (k : Nat) : Nat → (List T50) → Int → Int → Int → Int → (List Int) → (List T50) → Int → Int → (List Int) → (List T50) → Option R33_r_l1
  | 0, _, _, _, _, _, _, _, _, _, _, _ => none
  | n + 1, x7, x8, x9, h0_, h0__1, h0__2, h1_, h2_, h2__1, h2__2, h3_ => Option.bind (f33_r_l1_b k x7 x8 x9 h0_ h0__1 h0__2 h1_ h2_ h2__1 h2__2 h3_) fun o =>
    match o with
    | .o0 y y_1 y_2 y_3 y_4 y_5 y_6 y_7 y_8 y_9 y_10 => f33_r_l1 k n y y_1 y_2 y_3 y_4 y_5 y_6 y_7 y_8 y_9 y_10
    | .o1 y y_1 y_2 y_3 y_4 y_5 y_6 y_7 y_8 y_9 y_10 y_11 => some (.o1 y y_1 y_2 y_3 y_4 y_5 y_6 y_7 y_8 y_9 y_10 y_11)
theorem f33_r_l1_ok (k n : Nat) : ∀ (x7 : List T50) (x8 x9 h0_ h0__1 : Int) (h0__2 : List Int) (h1_ : List T50) (h2_ h2__1 : Int) (h2__2 : List Int) (h3_ : List T50) (r : R33_r_l1) (hF : f33_r_l1 k n x7 x8 x9 h0_ h0__1 h0__2 h1_ h2_ h2__1 h2__2 h3_ = some r) (σ : St) (hσ : headR (hints.head 33 3) (hints.canon 33 3) σ = some ({ n := 22, F := [(2, V.ptr 30000 0), (3, V.ptr 30002 0), (7, V.sl 4 (rowsOf encT50 x7)), (8, V.p (Value.int .i64 x8)), (9, V.p (Value.int .i64 x9))], M := [(30000, O.box 50 [V.p (Value.int .i64 h0_), V.p (Value.int .u64 h0__1), V.sl 1 (rowsOf (encI .u8) h0__2), V.own 30001]), (30001, O.row true 4 50 (rowsOf encT50 h1_)), (30002, O.box 50 [V.p (Value.int .i64 h2_), V.p (Value.int .u64 h2__1), V.sl 1 (rowsOf (encI .u8) h2__2), V.own 30003]), (30003, O.row true 4 50 (rowsOf encT50 h3_))] } : St)), LP 33 k (nav B33 [1, 2, 2, 1, 2, 2]) n σ = some r.st := by
  induction n with
  | zero => intro x7 x8 x9 h0_ h0__1 h0__2 h1_ h2_ h2__1 h2__2 h3_ r hF; cases hF
  | succ n ih =>
    intro x7 x8 x9 h0_ h0__1 h0__2 h1_ h2_ h2__1 h2__2 h3_ r hF σ hσ
    rw [f33_r_l1] at hF
    obtain ⟨o, h, hF⟩ := Option.bind_eq_some_iff.1 hF
    have hB := f33_r_l1_b_ok k x7 x8 x9 h0_ h0__1 h0__2 h1_ h2_ h2__1 h2__2 h3_ o h
    unfold LP at ih ⊢
    unfold EX at hB
    rw [loopK_succ, show firstReg (nav B33 [1, 2, 2, 1, 2, 2]) = 3 from rfl, hσ, headK_some, hB]
    cases o with
    | o0 y y_1 y_2 y_3 y_4 y_5 y_6 y_7 y_8 y_9 y_10 =>
      refine ih y y_1 y_2 y_3 y_4 y_5 y_6 y_7 y_8 y_9 y_10 r hF _ ?_
      simp (maxSteps := 999999) (disch := first | exact D (by decide) | exact K (by kernel_rfl)) only [E, EE, ↓reduceIte, simprocAttr, hh_33_3, hc_33_3]
    | o1 y y_1 y_2 y_3 y_4 y_5 y_6 y_7 y_8 y_9 y_10 y_11 => cases hF; rfl
noncomputable def f33_r_j2 (k : Nat) (x7 : List T50) (x8 x9 : Int) (x10 : Bool) (h0_ h0__1 : Int) (h0__2 : List Int) (h1_ : List T50) (h2_ h2__1 : Int) (h2__2 : List Int) (h3_ : List T50) : Option R33_r :=
  some (R33_r.o0 h2_ h2__1 h2__2 h3_)
theorem f33_r_j2_ok (k : Nat) (x7 : List T50) (x8 x9 : Int) (x10 : Bool) (h0_ h0__1 : Int) (h0__2 : List Int) (h1_ : List T50) (h2_ h2__1 : Int) (h2__2 : List Int) (h3_ : List T50) (r : R33_r) (hF : f33_r_j2 k x7 x8 x9 x10 h0_ h0__1 h0__2 h1_ h2_ h2__1 h2__2 h3_ = some r) : finK Tryd.prog Tryd.f33 0 (EX 33 k (nav B33 [2, 2, 2]) ({ n := 22, F := [(2, V.ptr 30000 0), (3, V.ptr 30002 0), (7, V.sl 4 (rowsOf encT50 x7)), (8, V.p (Value.int .i64 x8)), (9, V.p (Value.int .i64 x9)), (10, V.p (Value.bool x10))], M := [(30000, O.box 50 [V.p (Value.int .i64 h0_), V.p (Value.int .u64 h0__1), V.sl 1 (rowsOf (encI .u8) h0__2), V.own 30001]), (30001, O.row true 4 50 (rowsOf encT50 h1_)), (30002, O.box 50 [V.p (Value.int .i64 h2_), V.p (Value.int .u64 h2__1), V.sl 1 (rowsOf (encI .u8) h2__2), V.own 30003]), (30003, O.row true 4 50 (rowsOf encT50 h3_))] } : St)) = some r.st := by
  unfold f33_r_j2 at hF
  cases hF
  simp (maxSteps := 999999) (disch := first | exact D (by decide) | exact K (by kernel_rfl)) only [E, EE, ↓reduceIte, simprocAttr, xk B33 [2, 2, 2] .sq rfl, show (nav B33 [1, 2, 2, 2]) = Code.region 7 _ false from rfl, hk_33_7, hz_33_7, hs_33_7, u_50, i_50, is_50, ib_50, iz_50, xk B33 [2, 2, 2, 2] .rt rfl, finK_norm, finK_ret, fin33, R33_r.st]
noncomputable def f33_r_e (k : Nat) (a0 : List T50) : Option R33_r :=
  Option.bind (f33_r_l1 k k a0 ((List.length a0) : Int) 0 0 0 [] [] 4 0 [] []) fun o1 =>
    match o1 with
    | .o0 _ _ _ _ _ _ _ _ _ _ _ =>
      none
    | .o1 v4 v5 v6 v7 v8 v9 v10 v11 v12 v13 v14 v15 =>
      f33_r_j2 k v4 v5 v6 v7 v8 v9 v10 v11 v12 v13 v14 v15
theorem f33_r_e_ok (k : Nat) (a0 : List T50) (r : R33_r) (hF : f33_r_e k a0 = some r) : finK Tryd.prog Tryd.f33 0 (EX 33 k (nav B33 []) ({ n := 22, F := [(0, V.sl 4 (rowsOf encT50 a0))], M := [] } : St)) = some r.st := by
  unfold f33_r_e at hF
  replace hF := Option.bind_eq_some_iff.1 hF
  obtain ⟨o1, h2, hF⟩ := hF
  have hc3 := f33_r_l1_ok k k a0 ((List.length a0) : Int) 0 0 0 [] [] 4 0 [] [] _ h2
  simp (maxSteps := 999999) (disch := first | exact D (by decide) | exact K (by kernel_rfl)) only [E, EE, ↓reduceIte, simprocAttr, xk B33 [] .sq rfl, show (nav B33 [1]) = Code.region 0 _ false from rfl, hk_33_0, hz_33_0, hs_33_0, u_50, i_50, is_50, ib_50, iz_50, xk B33 [2] .sq rfl, show (nav B33 [1, 2]) = Code.region 1 _ false from rfl, hk_33_1, hz_33_1, hs_33_1, bl_50, xk B33 [2, 2] .sq rfl, xk B33 [1, 2, 2] .sq rfl, show (nav B33 [1, 1, 2, 2]) = Code.region 2 _ false from rfl, hk_33_2, hz_33_2, hs_33_2, u_48, i_48, is_48, ib_48, iz_48, xk B33 [2, 1, 2, 2] (.bk 0) rfl, xk B33 [2, 2, 1, 2, 2] .lp rfl, hh_33_3, hc_33_3]
  (try simp only [NM, EE] at hc3)
  rw [hc3 _ (by simp (maxSteps := 999999) (disch := first | exact D (by decide) | exact K (by kernel_rfl)) only [E, EE, ↓reduceIte, simprocAttr, hh_33_3, hc_33_3])]
  clear hc3
  cases o1 with
  | o0 _ _ _ _ _ _ _ _ _ _ _ =>
    (try dsimp only at hF)
    cases hF
  | o1 v4 v5 v6 v7 v8 v9 v10 v11 v12 v13 v14 v15 =>
    (try dsimp only at hF)
    have hJ := f33_r_j2_ok k v4 v5 v6 v7 v8 v9 v10 v11 v12 v13 v14 v15 _ hF
    simp (maxSteps := 999999) (disch := first | exact D (by decide) | exact K (by kernel_rfl)) only [E, EE, ↓reduceIte, simprocAttr, R33_r_l1.st]
    try simp only [NM, EE] at hJ
    exact hJ
noncomputable def f33_r (k : Nat) (a0 : List T50) : Option R33_r := match k with | 0 => none | k + 1 => f33_r_e k a0
theorem f33_r_ok (k : Nat) (a0 : List T50) (r : R33_r) (hF : f33_r k a0 = some r) : CV k 33 [V.sl 4 (rowsOf encT50 a0)] [] = some r.st := by
  cases k with
  | zero => cases hF
  | succ k =>
    unfold CV
    rw [ev_call (F := Tryd.f33) (c := (nav B33 [])) rfl Tryd.func33 rfl rfl rfl rfl]
    exact f33_r_e_ok k a0 r hF
end Go.Proofs.YtbnnmplkbpgcaaaDoorV
