/- What the program's functions answer: plain functions, and that the interpreter answers what they do. Written by a program of this session, out of the translation. -/
import Derived.Test.YteggcokgkcfliaaVPC
namespace Go.Proofs.YteggcokgkcfliaaV
open Go
set_option linter.unusedVariables false
set_option linter.unusedSimpArgs false
set_option maxRecDepth 8000
set_option maxHeartbeats 4000000
-- f9_: f9 heliograph/heliographlaw18.wakes
inductive R9_ where
  | o0 (y : Bool)
noncomputable def R9_.st : R9_ → V × List O × List O
  | .o0 y => (V.p (Value.bool y), [], [])
noncomputable def f9_ (k : Nat) : Option R9_ := ifE (100 ≤ k) (some (.o0 true))
theorem f9__ok (k : Nat) (r : R9_) (hF : f9_ k = some r) : CV k 9 [] [] = some r.st := by
  obtain ⟨h, hF⟩ := ifE_some.1 hF
  cases hF
  exact callV_le h wakes
-- f10_ai10rz: f10 heliograph/heliographlaw18.one
inductive R10_ai10rz where
  | o0 (y y_1 y_2 y_3 y_4 y_5 y_6 y_7 y_8 y_9 : Int) (y_10 : List Int)
noncomputable def R10_ai10rz.st : R10_ai10rz → V × List O × List O
  | .o0 y y_1 y_2 y_3 y_4 y_5 y_6 y_7 y_8 y_9 y_10 => (V.agg [V.p (Value.int .i64 y), V.p (Value.int .i64 y_1), V.p (Value.int .u32 y_2), V.p (Value.int .i64 y_3), V.p (Value.int .i64 y_4), V.p (Value.int .i64 y_5), V.p (Value.int .i64 y_6), V.p (Value.int .i64 y_7), V.p (Value.int .i64 y_8), V.p (Value.int .i64 y_9), V.own 2000000], [], [O.row true 1 5 (rowsOf (encI .u8) y_10)])
noncomputable def f10_ai10rz_e (k : Nat) (a0 a0_1 a0_2 a0_3 a0_4 a0_5 a0_6 a0_7 a0_8 a0_9 : Int) (a0_10 : List Int) : Option R10_ai10rz :=
  ifE ((0 : Int) ≤ (if (500 : Int) < ((List.length a0_10) : Int) then 500 else ((List.length a0_10) : Int))) (
    ifE ((Int.toNat ((if (500 : Int) < ((List.length a0_10) : Int) then 500 else ((List.length a0_10) : Int)))) ≤ (List.length a0_10)) (
      ifE ((List.length ((List.take ((Int.toNat ((if (500 : Int) < ((List.length a0_10) : Int) then 500 else ((List.length a0_10) : Int))))) a0_10))) ≤ roomy) (
        some (R10_ai10rz.o0 a0 a0_1 a0_2 a0_3 a0_4 a0_5 a0_6 a0_7 a0_8 a0_9 ((List.take ((Int.toNat ((if (500 : Int) < ((List.length a0_10) : Int) then 500 else ((List.length a0_10) : Int))))) a0_10))))))
theorem f10_ai10rz_e_ok (k : Nat) (a0 a0_1 a0_2 a0_3 a0_4 a0_5 a0_6 a0_7 a0_8 a0_9 : Int) (a0_10 : List Int) (r : R10_ai10rz) (hF : f10_ai10rz_e k a0 a0_1 a0_2 a0_3 a0_4 a0_5 a0_6 a0_7 a0_8 a0_9 a0_10 = some r) : finK Try.prog Try.f10 0 (EX 10 k (nav B10 []) ({ n := 14, F := [(0, V.agg [V.p (Value.int .i64 a0), V.p (Value.int .i64 a0_1), V.p (Value.int .u32 a0_2), V.p (Value.int .i64 a0_3), V.p (Value.int .i64 a0_4), V.p (Value.int .i64 a0_5), V.p (Value.int .i64 a0_6), V.p (Value.int .i64 a0_7), V.p (Value.int .i64 a0_8), V.p (Value.int .i64 a0_9), V.sl 1 (rowsOf (encI .u8) a0_10)])], M := [] } : St)) = some r.st := by
  unfold f10_ai10rz_e at hF
  replace hF := ifE_some.1 hF
  obtain ⟨h1, hF⟩ := hF
  replace hF := ifE_some.1 hF
  obtain ⟨h2, hF⟩ := hF
  replace hF := ifE_some.1 hF
  obtain ⟨h3, hF⟩ := hF
  cases hF
  simp (maxSteps := 999999) (disch := first | exact D (by decide) | exact K (by kernel_rfl)) only [E, EE, ↓reduceIte, simprocAttr, xk B10 [] .sq rfl, show (nav B10 [1]) = Code.region 0 _ false from rfl, hk_10_0, hz_10_0, hs_10_0, u_25, i_25, is_25, ib_25, iz_25, xk B10 [2] .sq rfl, show (nav B10 [1, 2]) = Code.region 1 _ false from rfl, hk_10_1, hz_10_1, hs_10_1, buildSliceV, fillRows, sm_5, u_23, i_23, is_23, ib_23, iz_23, u_5, i_5, is_5, ib_5, iz_5, fieldAddrV, minmaxV, minmaxGo, sliceV, bound, appendV, content, xk B10 [2, 2] .sq rfl, show (nav B10 [1, 2, 2]) = Code.region 2 _ false from rfl, hk_10_2, hz_10_2, hs_10_2, xk B10 [2, 2, 2] .rt rfl, finK_norm, finK_ret, fin10, R10_ai10rz.st, h1, h2, h3]
noncomputable def f10_ai10rz (k : Nat) (a0 a0_1 a0_2 a0_3 a0_4 a0_5 a0_6 a0_7 a0_8 a0_9 : Int) (a0_10 : List Int) : Option R10_ai10rz := match k with | 0 => none | k + 1 => f10_ai10rz_e k a0 a0_1 a0_2 a0_3 a0_4 a0_5 a0_6 a0_7 a0_8 a0_9 a0_10
theorem f10_ai10rz_ok (k : Nat) (a0 a0_1 a0_2 a0_3 a0_4 a0_5 a0_6 a0_7 a0_8 a0_9 : Int) (a0_10 : List Int) (r : R10_ai10rz) (hF : f10_ai10rz k a0 a0_1 a0_2 a0_3 a0_4 a0_5 a0_6 a0_7 a0_8 a0_9 a0_10 = some r) : CV k 10 [V.agg [V.p (Value.int .i64 a0), V.p (Value.int .i64 a0_1), V.p (Value.int .u32 a0_2), V.p (Value.int .i64 a0_3), V.p (Value.int .i64 a0_4), V.p (Value.int .i64 a0_5), V.p (Value.int .i64 a0_6), V.p (Value.int .i64 a0_7), V.p (Value.int .i64 a0_8), V.p (Value.int .i64 a0_9), V.sl 1 (rowsOf (encI .u8) a0_10)]] [] = some r.st := by
  cases k with
  | zero => cases hF
  | succ k =>
    unfold CV
    rw [ev_call (F := Try.f10) (c := (nav B10 [])) rfl Try.func10 rfl rfl rfl rfl]
    exact f10_ai10rz_e_ok k a0 a0_1 a0_2 a0_3 a0_4 a0_5 a0_6 a0_7 a0_8 a0_9 a0_10 r hF
-- f36_iii: f36 heliograph/bundle.within
inductive R36_iii where
  | o0 (y : Bool)
noncomputable def R36_iii.st : R36_iii → V × List O × List O
  | .o0 y => (V.p (Value.bool y), [], [])
noncomputable def f36_iii_e (k : Nat) (a0 a1 a2 : Int) : Option R36_iii :=
  cond ((decide (a0 ≥ a1)))
    (some (R36_iii.o0 (decide (a0 ≤ a2))))
    (some (R36_iii.o0 false))
theorem f36_iii_e_ok (k : Nat) (a0 a1 a2 : Int) (r : R36_iii) (hF : f36_iii_e k a0 a1 a2 = some r) : finK Try.prog Try.f36 0 (EX 36 k (nav B36 []) ({ n := 15, F := [(0, V.p (Value.int .i64 a0)), (1, V.p (Value.int .i64 a1)), (2, V.p (Value.int .i64 a2))], M := [] } : St)) = some r.st := by
  unfold f36_iii_e at hF
  simp (maxSteps := 999999) (disch := first | exact D (by decide) | exact K (by kernel_rfl)) only [E, EE, ↓reduceIte, simprocAttr, xk B36 [] .sq rfl, show (nav B36 [1]) = Code.region 0 _ false from rfl, hk_36_0, hz_36_0, hs_36_0, xk B36 [2] .sq rfl, show (nav B36 [1, 2]) = Code.region 1 _ false from rfl, hk_36_1, hz_36_1, hs_36_1]
  replace hF := cond_some hF
  rcases hF with ⟨h1, hF⟩ | ⟨h1, hF⟩
  · cases hF
    simp (maxSteps := 999999) (disch := first | exact D (by decide) | exact K (by kernel_rfl)) only [E, EE, ↓reduceIte, simprocAttr, xk B36 [2, 2] .rt rfl, finK_norm, finK_ret, fin36, R36_iii.st, h1]
  · cases hF
    simp (maxSteps := 999999) (disch := first | exact D (by decide) | exact K (by kernel_rfl)) only [E, EE, ↓reduceIte, simprocAttr, xk B36 [2, 2] .rt rfl, finK_norm, finK_ret, fin36, R36_iii.st, h1]
noncomputable def f36_iii (k : Nat) (a0 a1 a2 : Int) : Option R36_iii := match k with | 0 => none | k + 1 => f36_iii_e k a0 a1 a2
theorem f36_iii_ok (k : Nat) (a0 a1 a2 : Int) (r : R36_iii) (hF : f36_iii k a0 a1 a2 = some r) : CV k 36 [V.p (Value.int .i64 a0), V.p (Value.int .i64 a1), V.p (Value.int .i64 a2)] [] = some r.st := by
  cases k with
  | zero => cases hF
  | succ k =>
    unfold CV
    rw [ev_call (F := Try.f36) (c := (nav B36 [])) rfl Try.func36 rfl rfl rfl rfl]
    exact f36_iii_e_ok k a0 a1 a2 r hF
-- f26_ai10rz: f26 heliograph/bundle.Check
inductive R26_ai10rz where
  | o0 (y : Int)
noncomputable def R26_ai10rz.st : R26_ai10rz → V × List O × List O
  | .o0 y => (V.p (Value.int .i64 y), [], [])
noncomputable def f26_ai10rz_j1 (k : Nat) (x72 : Bool) : Option R26_ai10rz :=
  some (R26_ai10rz.o0 0)
theorem f26_ai10rz_j1_ok (k : Nat) (x72 : Bool) (r : R26_ai10rz) (hF : f26_ai10rz_j1 k x72 = some r) : finK Try.prog Try.f26 0 (EX 26 k (nav B26 [2, 2, 2, 2, 2, 2]) ({ n := 73, F := [(72, V.p (Value.bool x72))], M := [] } : St)) = some r.st := by
  unfold f26_ai10rz_j1 at hF
  cases hF
  simp (maxSteps := 999999) (disch := first | exact D (by decide) | exact K (by kernel_rfl)) only [E, EE, ↓reduceIte, simprocAttr, xk B26 [2, 2, 2, 2, 2, 2] .sq rfl, show (nav B26 [1, 2, 2, 2, 2, 2, 2]) = Code.region 7 _ false from rfl, hk_26_7, hz_26_7, hs_26_7, xk B26 [2, 2, 2, 2, 2, 2, 2] .rt rfl, finK_norm, finK_ret, fin26, R26_ai10rz.st]
noncomputable def f26_ai10rz_e (k : Nat) (a0 a0_1 a0_2 a0_3 a0_4 a0_5 a0_6 a0_7 a0_8 a0_9 : Int) (a0_10 : List Int) : Option R26_ai10rz :=
  Option.bind (f36_iii k a0 1 6) fun o1 =>
    match o1 with
    | .o0 v4 =>
      cond (v4)
        (
          Option.bind (f36_iii k a0_1 1 6) fun o6 =>
            match o6 with
            | .o0 v9 =>
              cond (v9)
                (
                  cond ((decide (a0_2 > 0)))
                    (
                      Option.bind (f36_iii k a0_3 0 1048576) fun o12 =>
                        match o12 with
                        | .o0 v15 =>
                          cond (v15)
                            (
                              Option.bind (f36_iii k a0_4 1 1048576) fun o17 =>
                                match o17 with
                                | .o0 v20 =>
                                  cond (v20)
                                    (
                                      Option.bind (f36_iii k a0_5 1 16) fun o22 =>
                                        match o22 with
                                        | .o0 v25 =>
                                          cond (v25)
                                            (
                                              Option.bind (f36_iii k a0_6 0 a0_5) fun o27 =>
                                                match o27 with
                                                | .o0 v30 =>
                                                  cond (v30)
                                                    (
                                                      Option.bind (f36_iii k a0_7 0 2) fun o32 =>
                                                        match o32 with
                                                        | .o0 v35 =>
                                                          cond (v35)
                                                            (
                                                              Option.bind (f36_iii k a0_9 1 400) fun o37 =>
                                                                match o37 with
                                                                | .o0 v40 =>
                                                                  cond (v40)
                                                                    (
                                                                      Option.bind (f36_iii k ((List.length a0_10) : Int) 1 a0_9) fun o42 =>
                                                                        match o42 with
                                                                        | .o0 v45 =>
                                                                          cond (v45)
                                                                            (
                                                                              Option.bind (f36_iii k a0_8 0 (IntKind.i64.wrap (a0_9 - ((List.length a0_10) : Int)))) fun o47 =>
                                                                                match o47 with
                                                                                | .o0 v50 =>
                                                                                  cond ((!v50))
                                                                                    (some (R26_ai10rz.o0 190))
                                                                                    (f26_ai10rz_j1 k false))
                                                                            (some (R26_ai10rz.o0 190)))
                                                                    (some (R26_ai10rz.o0 190)))
                                                            (some (R26_ai10rz.o0 190)))
                                                    (some (R26_ai10rz.o0 190)))
                                            (some (R26_ai10rz.o0 190)))
                                    (some (R26_ai10rz.o0 190)))
                            (some (R26_ai10rz.o0 190)))
                    (some (R26_ai10rz.o0 190)))
                (some (R26_ai10rz.o0 190)))
        (some (R26_ai10rz.o0 190))
theorem f26_ai10rz_e_ok (k : Nat) (a0 a0_1 a0_2 a0_3 a0_4 a0_5 a0_6 a0_7 a0_8 a0_9 : Int) (a0_10 : List Int) (r : R26_ai10rz) (hF : f26_ai10rz_e k a0 a0_1 a0_2 a0_3 a0_4 a0_5 a0_6 a0_7 a0_8 a0_9 a0_10 = some r) : finK Try.prog Try.f26 0 (EX 26 k (nav B26 []) ({ n := 73, F := [(0, V.agg [V.p (Value.int .i64 a0), V.p (Value.int .i64 a0_1), V.p (Value.int .u32 a0_2), V.p (Value.int .i64 a0_3), V.p (Value.int .i64 a0_4), V.p (Value.int .i64 a0_5), V.p (Value.int .i64 a0_6), V.p (Value.int .i64 a0_7), V.p (Value.int .i64 a0_8), V.p (Value.int .i64 a0_9), V.sl 1 (rowsOf (encI .u8) a0_10)])], M := [] } : St)) = some r.st := by
  unfold f26_ai10rz_e at hF
  replace hF := Option.bind_eq_some_iff.1 hF
  obtain ⟨o1, h2, hF⟩ := hF
  have hc3 := f36_iii_ok k a0 1 6 _ h2
  cases o1 with
  | o0 v4 =>
    (try dsimp only at hF)
    (try simp only [NM, EE, R36_iii.st] at hc3)
    simp (maxSteps := 999999) (disch := first | exact D (by decide) | exact K (by kernel_rfl)) only [E, EE, ↓reduceIte, simprocAttr, xk B26 [] .sq rfl, show (nav B26 [1]) = Code.region 0 _ false from rfl, hk_26_0, hz_26_0, hs_26_0, xk B26 [2] .sq rfl, show (nav B26 [1, 2]) = Code.region 1 _ false from rfl, hk_26_1, hz_26_1, hs_26_1, fieldAddrV, u_25, i_25, is_25, ib_25, iz_25, u_3, i_3, is_3, ib_3, iz_3, callStep, CL, gv, List.contains, hc3]
    replace hF := cond_some hF
    rcases hF with ⟨h5, hF⟩ | ⟨h5, hF⟩
    · replace hF := Option.bind_eq_some_iff.1 hF
      obtain ⟨o6, h7, hF⟩ := hF
      have hc8 := f36_iii_ok k a0_1 1 6 _ h7
      cases o6 with
      | o0 v9 =>
        (try dsimp only at hF)
        (try simp only [NM, EE, R36_iii.st] at hc8)
        simp (maxSteps := 999999) (disch := first | exact D (by decide) | exact K (by kernel_rfl)) only [E, EE, ↓reduceIte, simprocAttr, fieldAddrV, u_25, i_25, is_25, ib_25, iz_25, u_3, i_3, is_3, ib_3, iz_3, callStep, CL, gv, List.contains, hc3, h5, hc8]
        replace hF := cond_some hF
        rcases hF with ⟨h10, hF⟩ | ⟨h10, hF⟩
        · simp (maxSteps := 999999) (disch := first | exact D (by decide) | exact K (by kernel_rfl)) only [E, EE, ↓reduceIte, simprocAttr, fieldAddrV, u_25, i_25, is_25, ib_25, iz_25, u_22, i_22, is_22, ib_22, iz_22, xk B26 [2, 2] .sq rfl, show (nav B26 [1, 2, 2]) = Code.region 2 _ false from rfl, hk_26_2, hz_26_2, hs_26_2, hc3, h5, hc8, h10]
          replace hF := cond_some hF
          rcases hF with ⟨h11, hF⟩ | ⟨h11, hF⟩
          · replace hF := Option.bind_eq_some_iff.1 hF
            obtain ⟨o12, h13, hF⟩ := hF
            have hc14 := f36_iii_ok k a0_3 0 1048576 _ h13
            cases o12 with
            | o0 v15 =>
              (try dsimp only at hF)
              (try simp only [NM, EE, R36_iii.st] at hc14)
              simp (maxSteps := 999999) (disch := first | exact D (by decide) | exact K (by kernel_rfl)) only [E, EE, ↓reduceIte, simprocAttr, fieldAddrV, u_25, i_25, is_25, ib_25, iz_25, u_3, i_3, is_3, ib_3, iz_3, callStep, CL, gv, List.contains, hc3, h5, hc8, h10, h11, hc14]
              replace hF := cond_some hF
              rcases hF with ⟨h16, hF⟩ | ⟨h16, hF⟩
              · replace hF := Option.bind_eq_some_iff.1 hF
                obtain ⟨o17, h18, hF⟩ := hF
                have hc19 := f36_iii_ok k a0_4 1 1048576 _ h18
                cases o17 with
                | o0 v20 =>
                  (try dsimp only at hF)
                  (try simp only [NM, EE, R36_iii.st] at hc19)
                  simp (maxSteps := 999999) (disch := first | exact D (by decide) | exact K (by kernel_rfl)) only [E, EE, ↓reduceIte, simprocAttr, fieldAddrV, u_25, i_25, is_25, ib_25, iz_25, u_3, i_3, is_3, ib_3, iz_3, callStep, CL, gv, List.contains, xk B26 [2, 2, 2] .sq rfl, show (nav B26 [1, 2, 2, 2]) = Code.region 3 _ false from rfl, hk_26_3, hz_26_3, hs_26_3, hc3, h5, hc8, h10, h11, hc14, h16, hc19]
                  replace hF := cond_some hF
                  rcases hF with ⟨h21, hF⟩ | ⟨h21, hF⟩
                  · replace hF := Option.bind_eq_some_iff.1 hF
                    obtain ⟨o22, h23, hF⟩ := hF
                    have hc24 := f36_iii_ok k a0_5 1 16 _ h23
                    cases o22 with
                    | o0 v25 =>
                      (try dsimp only at hF)
                      (try simp only [NM, EE, R36_iii.st] at hc24)
                      simp (maxSteps := 999999) (disch := first | exact D (by decide) | exact K (by kernel_rfl)) only [E, EE, ↓reduceIte, simprocAttr, fieldAddrV, u_25, i_25, is_25, ib_25, iz_25, u_3, i_3, is_3, ib_3, iz_3, callStep, CL, gv, List.contains, hc3, h5, hc8, h10, h11, hc14, h16, hc19, h21, hc24]
                      replace hF := cond_some hF
                      rcases hF with ⟨h26, hF⟩ | ⟨h26, hF⟩
                      · replace hF := Option.bind_eq_some_iff.1 hF
                        obtain ⟨o27, h28, hF⟩ := hF
                        have hc29 := f36_iii_ok k a0_6 0 a0_5 _ h28
                        cases o27 with
                        | o0 v30 =>
                          (try dsimp only at hF)
                          (try simp only [NM, EE, R36_iii.st] at hc29)
                          simp (maxSteps := 999999) (disch := first | exact D (by decide) | exact K (by kernel_rfl)) only [E, EE, ↓reduceIte, simprocAttr, fieldAddrV, u_25, i_25, is_25, ib_25, iz_25, u_3, i_3, is_3, ib_3, iz_3, callStep, CL, gv, List.contains, hc3, h5, hc8, h10, h11, hc14, h16, hc19, h21, hc24, h26, hc29]
                          replace hF := cond_some hF
                          rcases hF with ⟨h31, hF⟩ | ⟨h31, hF⟩
                          · replace hF := Option.bind_eq_some_iff.1 hF
                            obtain ⟨o32, h33, hF⟩ := hF
                            have hc34 := f36_iii_ok k a0_7 0 2 _ h33
                            cases o32 with
                            | o0 v35 =>
                              (try dsimp only at hF)
                              (try simp only [NM, EE, R36_iii.st] at hc34)
                              simp (maxSteps := 999999) (disch := first | exact D (by decide) | exact K (by kernel_rfl)) only [E, EE, ↓reduceIte, simprocAttr, fieldAddrV, u_25, i_25, is_25, ib_25, iz_25, u_3, i_3, is_3, ib_3, iz_3, callStep, CL, gv, List.contains, xk B26 [2, 2, 2, 2] .sq rfl, show (nav B26 [1, 2, 2, 2, 2]) = Code.region 4 _ false from rfl, hk_26_4, hz_26_4, hs_26_4, hc3, h5, hc8, h10, h11, hc14, h16, hc19, h21, hc24, h26, hc29, h31, hc34]
                              replace hF := cond_some hF
                              rcases hF with ⟨h36, hF⟩ | ⟨h36, hF⟩
                              · replace hF := Option.bind_eq_some_iff.1 hF
                                obtain ⟨o37, h38, hF⟩ := hF
                                have hc39 := f36_iii_ok k a0_9 1 400 _ h38
                                cases o37 with
                                | o0 v40 =>
                                  (try dsimp only at hF)
                                  (try simp only [NM, EE, R36_iii.st] at hc39)
                                  simp (maxSteps := 999999) (disch := first | exact D (by decide) | exact K (by kernel_rfl)) only [E, EE, ↓reduceIte, simprocAttr, fieldAddrV, u_25, i_25, is_25, ib_25, iz_25, u_3, i_3, is_3, ib_3, iz_3, callStep, CL, gv, List.contains, hc3, h5, hc8, h10, h11, hc14, h16, hc19, h21, hc24, h26, hc29, h31, hc34, h36, hc39]
                                  replace hF := cond_some hF
                                  rcases hF with ⟨h41, hF⟩ | ⟨h41, hF⟩
                                  · replace hF := Option.bind_eq_some_iff.1 hF
                                    obtain ⟨o42, h43, hF⟩ := hF
                                    have hc44 := f36_iii_ok k ((List.length a0_10) : Int) 1 a0_9 _ h43
                                    cases o42 with
                                    | o0 v45 =>
                                      (try dsimp only at hF)
                                      (try simp only [NM, EE, R36_iii.st] at hc44)
                                      simp (maxSteps := 999999) (disch := first | exact D (by decide) | exact K (by kernel_rfl)) only [E, EE, ↓reduceIte, simprocAttr, fieldAddrV, u_25, i_25, is_25, ib_25, iz_25, u_23, i_23, is_23, ib_23, iz_23, u_3, i_3, is_3, ib_3, iz_3, callStep, CL, gv, List.contains, hc3, h5, hc8, h10, h11, hc14, h16, hc19, h21, hc24, h26, hc29, h31, hc34, h36, hc39, h41, hc44]
                                      replace hF := cond_some hF
                                      rcases hF with ⟨h46, hF⟩ | ⟨h46, hF⟩
                                      · replace hF := Option.bind_eq_some_iff.1 hF
                                        obtain ⟨o47, h48, hF⟩ := hF
                                        have hc49 := f36_iii_ok k a0_8 0 (IntKind.i64.wrap (a0_9 - ((List.length a0_10) : Int))) _ h48
                                        cases o47 with
                                        | o0 v50 =>
                                          (try dsimp only at hF)
                                          (try simp only [NM, EE, R36_iii.st] at hc49)
                                          simp (maxSteps := 999999) (disch := first | exact D (by decide) | exact K (by kernel_rfl)) only [E, EE, ↓reduceIte, simprocAttr, fieldAddrV, u_25, i_25, is_25, ib_25, iz_25, u_3, i_3, is_3, ib_3, iz_3, u_23, i_23, is_23, ib_23, iz_23, callStep, CL, gv, List.contains, xk B26 [2, 2, 2, 2, 2] .sq rfl, xk B26 [1, 2, 2, 2, 2, 2] .sq rfl, show (nav B26 [1, 1, 2, 2, 2, 2, 2]) = Code.region 5 _ false from rfl, hk_26_5, hz_26_5, hs_26_5, xk B26 [2, 1, 2, 2, 2, 2, 2] (.cd 72) rfl, hc3, h5, hc8, h10, h11, hc14, h16, hc19, h21, hc24, h26, hc29, h31, hc34, h36, hc39, h41, hc44, h46, hc49]
                                          replace hF := cond_some hF
                                          rcases hF with ⟨h51, hF⟩ | ⟨h51, hF⟩
                                          · cases hF
                                            simp (maxSteps := 999999) (disch := first | exact D (by decide) | exact K (by kernel_rfl)) only [E, EE, ↓reduceIte, simprocAttr, xk B26 [2, 2, 1, 2, 2, 2, 2, 2] .sq rfl, show (nav B26 [1, 2, 2, 1, 2, 2, 2, 2, 2]) = Code.region 6 _ false from rfl, hk_26_6, hz_26_6, hs_26_6, xk B26 [2, 2, 2, 1, 2, 2, 2, 2, 2] .rt rfl, finK_norm, finK_ret, fin26, R26_ai10rz.st, hc3, h5, hc8, h10, h11, hc14, h16, hc19, h21, hc24, h26, hc29, h31, hc34, h36, hc39, h41, hc44, h46, hc49, h51]
                                          · have hJ := f26_ai10rz_j1_ok k false _ hF
                                            simp (maxSteps := 999999) (disch := first | exact D (by decide) | exact K (by kernel_rfl)) only [E, EE, ↓reduceIte, simprocAttr, xk B26 [3, 2, 1, 2, 2, 2, 2, 2] .sk rfl, hc3, h5, hc8, h10, h11, hc14, h16, hc19, h21, hc24, h26, hc29, h31, hc34, h36, hc39, h41, hc44, h46, hc49, h51]
                                            try simp only [NM, EE] at hJ
                                            exact hJ
                                      · cases hF
                                        simp (maxSteps := 999999) (disch := first | exact D (by decide) | exact K (by kernel_rfl)) only [E, EE, ↓reduceIte, simprocAttr, xk B26 [2, 2, 2, 2, 2] .sq rfl, xk B26 [1, 2, 2, 2, 2, 2] .sq rfl, show (nav B26 [1, 1, 2, 2, 2, 2, 2]) = Code.region 5 _ false from rfl, hk_26_5, hz_26_5, hs_26_5, xk B26 [2, 1, 2, 2, 2, 2, 2] (.cd 72) rfl, xk B26 [2, 2, 1, 2, 2, 2, 2, 2] .sq rfl, show (nav B26 [1, 2, 2, 1, 2, 2, 2, 2, 2]) = Code.region 6 _ false from rfl, hk_26_6, hz_26_6, hs_26_6, xk B26 [2, 2, 2, 1, 2, 2, 2, 2, 2] .rt rfl, finK_norm, finK_ret, fin26, R26_ai10rz.st, hc3, h5, hc8, h10, h11, hc14, h16, hc19, h21, hc24, h26, hc29, h31, hc34, h36, hc39, h41, hc44, h46]
                                  · cases hF
                                    simp (maxSteps := 999999) (disch := first | exact D (by decide) | exact K (by kernel_rfl)) only [E, EE, ↓reduceIte, simprocAttr, xk B26 [2, 2, 2, 2, 2] .sq rfl, xk B26 [1, 2, 2, 2, 2, 2] .sq rfl, show (nav B26 [1, 1, 2, 2, 2, 2, 2]) = Code.region 5 _ false from rfl, hk_26_5, hz_26_5, hs_26_5, xk B26 [2, 1, 2, 2, 2, 2, 2] (.cd 72) rfl, xk B26 [2, 2, 1, 2, 2, 2, 2, 2] .sq rfl, show (nav B26 [1, 2, 2, 1, 2, 2, 2, 2, 2]) = Code.region 6 _ false from rfl, hk_26_6, hz_26_6, hs_26_6, xk B26 [2, 2, 2, 1, 2, 2, 2, 2, 2] .rt rfl, finK_norm, finK_ret, fin26, R26_ai10rz.st, hc3, h5, hc8, h10, h11, hc14, h16, hc19, h21, hc24, h26, hc29, h31, hc34, h36, hc39, h41]
                              · cases hF
                                simp (maxSteps := 999999) (disch := first | exact D (by decide) | exact K (by kernel_rfl)) only [E, EE, ↓reduceIte, simprocAttr, xk B26 [2, 2, 2, 2, 2] .sq rfl, xk B26 [1, 2, 2, 2, 2, 2] .sq rfl, show (nav B26 [1, 1, 2, 2, 2, 2, 2]) = Code.region 5 _ false from rfl, hk_26_5, hz_26_5, hs_26_5, xk B26 [2, 1, 2, 2, 2, 2, 2] (.cd 72) rfl, xk B26 [2, 2, 1, 2, 2, 2, 2, 2] .sq rfl, show (nav B26 [1, 2, 2, 1, 2, 2, 2, 2, 2]) = Code.region 6 _ false from rfl, hk_26_6, hz_26_6, hs_26_6, xk B26 [2, 2, 2, 1, 2, 2, 2, 2, 2] .rt rfl, finK_norm, finK_ret, fin26, R26_ai10rz.st, hc3, h5, hc8, h10, h11, hc14, h16, hc19, h21, hc24, h26, hc29, h31, hc34, h36]
                          · cases hF
                            simp (maxSteps := 999999) (disch := first | exact D (by decide) | exact K (by kernel_rfl)) only [E, EE, ↓reduceIte, simprocAttr, xk B26 [2, 2, 2, 2] .sq rfl, show (nav B26 [1, 2, 2, 2, 2]) = Code.region 4 _ false from rfl, hk_26_4, hz_26_4, hs_26_4, xk B26 [2, 2, 2, 2, 2] .sq rfl, xk B26 [1, 2, 2, 2, 2, 2] .sq rfl, show (nav B26 [1, 1, 2, 2, 2, 2, 2]) = Code.region 5 _ false from rfl, hk_26_5, hz_26_5, hs_26_5, xk B26 [2, 1, 2, 2, 2, 2, 2] (.cd 72) rfl, xk B26 [2, 2, 1, 2, 2, 2, 2, 2] .sq rfl, show (nav B26 [1, 2, 2, 1, 2, 2, 2, 2, 2]) = Code.region 6 _ false from rfl, hk_26_6, hz_26_6, hs_26_6, xk B26 [2, 2, 2, 1, 2, 2, 2, 2, 2] .rt rfl, finK_norm, finK_ret, fin26, R26_ai10rz.st, hc3, h5, hc8, h10, h11, hc14, h16, hc19, h21, hc24, h26, hc29, h31]
                      · cases hF
                        simp (maxSteps := 999999) (disch := first | exact D (by decide) | exact K (by kernel_rfl)) only [E, EE, ↓reduceIte, simprocAttr, xk B26 [2, 2, 2, 2] .sq rfl, show (nav B26 [1, 2, 2, 2, 2]) = Code.region 4 _ false from rfl, hk_26_4, hz_26_4, hs_26_4, xk B26 [2, 2, 2, 2, 2] .sq rfl, xk B26 [1, 2, 2, 2, 2, 2] .sq rfl, show (nav B26 [1, 1, 2, 2, 2, 2, 2]) = Code.region 5 _ false from rfl, hk_26_5, hz_26_5, hs_26_5, xk B26 [2, 1, 2, 2, 2, 2, 2] (.cd 72) rfl, xk B26 [2, 2, 1, 2, 2, 2, 2, 2] .sq rfl, show (nav B26 [1, 2, 2, 1, 2, 2, 2, 2, 2]) = Code.region 6 _ false from rfl, hk_26_6, hz_26_6, hs_26_6, xk B26 [2, 2, 2, 1, 2, 2, 2, 2, 2] .rt rfl, finK_norm, finK_ret, fin26, R26_ai10rz.st, hc3, h5, hc8, h10, h11, hc14, h16, hc19, h21, hc24, h26]
                  · cases hF
                    simp (maxSteps := 999999) (disch := first | exact D (by decide) | exact K (by kernel_rfl)) only [E, EE, ↓reduceIte, simprocAttr, xk B26 [2, 2, 2, 2] .sq rfl, show (nav B26 [1, 2, 2, 2, 2]) = Code.region 4 _ false from rfl, hk_26_4, hz_26_4, hs_26_4, xk B26 [2, 2, 2, 2, 2] .sq rfl, xk B26 [1, 2, 2, 2, 2, 2] .sq rfl, show (nav B26 [1, 1, 2, 2, 2, 2, 2]) = Code.region 5 _ false from rfl, hk_26_5, hz_26_5, hs_26_5, xk B26 [2, 1, 2, 2, 2, 2, 2] (.cd 72) rfl, xk B26 [2, 2, 1, 2, 2, 2, 2, 2] .sq rfl, show (nav B26 [1, 2, 2, 1, 2, 2, 2, 2, 2]) = Code.region 6 _ false from rfl, hk_26_6, hz_26_6, hs_26_6, xk B26 [2, 2, 2, 1, 2, 2, 2, 2, 2] .rt rfl, finK_norm, finK_ret, fin26, R26_ai10rz.st, hc3, h5, hc8, h10, h11, hc14, h16, hc19, h21]
              · cases hF
                simp (maxSteps := 999999) (disch := first | exact D (by decide) | exact K (by kernel_rfl)) only [E, EE, ↓reduceIte, simprocAttr, xk B26 [2, 2, 2] .sq rfl, show (nav B26 [1, 2, 2, 2]) = Code.region 3 _ false from rfl, hk_26_3, hz_26_3, hs_26_3, xk B26 [2, 2, 2, 2] .sq rfl, show (nav B26 [1, 2, 2, 2, 2]) = Code.region 4 _ false from rfl, hk_26_4, hz_26_4, hs_26_4, xk B26 [2, 2, 2, 2, 2] .sq rfl, xk B26 [1, 2, 2, 2, 2, 2] .sq rfl, show (nav B26 [1, 1, 2, 2, 2, 2, 2]) = Code.region 5 _ false from rfl, hk_26_5, hz_26_5, hs_26_5, xk B26 [2, 1, 2, 2, 2, 2, 2] (.cd 72) rfl, xk B26 [2, 2, 1, 2, 2, 2, 2, 2] .sq rfl, show (nav B26 [1, 2, 2, 1, 2, 2, 2, 2, 2]) = Code.region 6 _ false from rfl, hk_26_6, hz_26_6, hs_26_6, xk B26 [2, 2, 2, 1, 2, 2, 2, 2, 2] .rt rfl, finK_norm, finK_ret, fin26, R26_ai10rz.st, hc3, h5, hc8, h10, h11, hc14, h16]
          · cases hF
            simp (maxSteps := 999999) (disch := first | exact D (by decide) | exact K (by kernel_rfl)) only [E, EE, ↓reduceIte, simprocAttr, xk B26 [2, 2, 2] .sq rfl, show (nav B26 [1, 2, 2, 2]) = Code.region 3 _ false from rfl, hk_26_3, hz_26_3, hs_26_3, xk B26 [2, 2, 2, 2] .sq rfl, show (nav B26 [1, 2, 2, 2, 2]) = Code.region 4 _ false from rfl, hk_26_4, hz_26_4, hs_26_4, xk B26 [2, 2, 2, 2, 2] .sq rfl, xk B26 [1, 2, 2, 2, 2, 2] .sq rfl, show (nav B26 [1, 1, 2, 2, 2, 2, 2]) = Code.region 5 _ false from rfl, hk_26_5, hz_26_5, hs_26_5, xk B26 [2, 1, 2, 2, 2, 2, 2] (.cd 72) rfl, xk B26 [2, 2, 1, 2, 2, 2, 2, 2] .sq rfl, show (nav B26 [1, 2, 2, 1, 2, 2, 2, 2, 2]) = Code.region 6 _ false from rfl, hk_26_6, hz_26_6, hs_26_6, xk B26 [2, 2, 2, 1, 2, 2, 2, 2, 2] .rt rfl, finK_norm, finK_ret, fin26, R26_ai10rz.st, hc3, h5, hc8, h10, h11]
        · cases hF
          simp (maxSteps := 999999) (disch := first | exact D (by decide) | exact K (by kernel_rfl)) only [E, EE, ↓reduceIte, simprocAttr, xk B26 [2, 2] .sq rfl, show (nav B26 [1, 2, 2]) = Code.region 2 _ false from rfl, hk_26_2, hz_26_2, hs_26_2, xk B26 [2, 2, 2] .sq rfl, show (nav B26 [1, 2, 2, 2]) = Code.region 3 _ false from rfl, hk_26_3, hz_26_3, hs_26_3, xk B26 [2, 2, 2, 2] .sq rfl, show (nav B26 [1, 2, 2, 2, 2]) = Code.region 4 _ false from rfl, hk_26_4, hz_26_4, hs_26_4, xk B26 [2, 2, 2, 2, 2] .sq rfl, xk B26 [1, 2, 2, 2, 2, 2] .sq rfl, show (nav B26 [1, 1, 2, 2, 2, 2, 2]) = Code.region 5 _ false from rfl, hk_26_5, hz_26_5, hs_26_5, xk B26 [2, 1, 2, 2, 2, 2, 2] (.cd 72) rfl, xk B26 [2, 2, 1, 2, 2, 2, 2, 2] .sq rfl, show (nav B26 [1, 2, 2, 1, 2, 2, 2, 2, 2]) = Code.region 6 _ false from rfl, hk_26_6, hz_26_6, hs_26_6, xk B26 [2, 2, 2, 1, 2, 2, 2, 2, 2] .rt rfl, finK_norm, finK_ret, fin26, R26_ai10rz.st, hc3, h5, hc8, h10]
    · cases hF
      simp (maxSteps := 999999) (disch := first | exact D (by decide) | exact K (by kernel_rfl)) only [E, EE, ↓reduceIte, simprocAttr, xk B26 [2, 2] .sq rfl, show (nav B26 [1, 2, 2]) = Code.region 2 _ false from rfl, hk_26_2, hz_26_2, hs_26_2, xk B26 [2, 2, 2] .sq rfl, show (nav B26 [1, 2, 2, 2]) = Code.region 3 _ false from rfl, hk_26_3, hz_26_3, hs_26_3, xk B26 [2, 2, 2, 2] .sq rfl, show (nav B26 [1, 2, 2, 2, 2]) = Code.region 4 _ false from rfl, hk_26_4, hz_26_4, hs_26_4, xk B26 [2, 2, 2, 2, 2] .sq rfl, xk B26 [1, 2, 2, 2, 2, 2] .sq rfl, show (nav B26 [1, 1, 2, 2, 2, 2, 2]) = Code.region 5 _ false from rfl, hk_26_5, hz_26_5, hs_26_5, xk B26 [2, 1, 2, 2, 2, 2, 2] (.cd 72) rfl, xk B26 [2, 2, 1, 2, 2, 2, 2, 2] .sq rfl, show (nav B26 [1, 2, 2, 1, 2, 2, 2, 2, 2]) = Code.region 6 _ false from rfl, hk_26_6, hz_26_6, hs_26_6, xk B26 [2, 2, 2, 1, 2, 2, 2, 2, 2] .rt rfl, finK_norm, finK_ret, fin26, R26_ai10rz.st, hc3, h5]
noncomputable def f26_ai10rz (k : Nat) (a0 a0_1 a0_2 a0_3 a0_4 a0_5 a0_6 a0_7 a0_8 a0_9 : Int) (a0_10 : List Int) : Option R26_ai10rz := match k with | 0 => none | k + 1 => f26_ai10rz_e k a0 a0_1 a0_2 a0_3 a0_4 a0_5 a0_6 a0_7 a0_8 a0_9 a0_10
theorem f26_ai10rz_ok (k : Nat) (a0 a0_1 a0_2 a0_3 a0_4 a0_5 a0_6 a0_7 a0_8 a0_9 : Int) (a0_10 : List Int) (r : R26_ai10rz) (hF : f26_ai10rz k a0 a0_1 a0_2 a0_3 a0_4 a0_5 a0_6 a0_7 a0_8 a0_9 a0_10 = some r) : CV k 26 [V.agg [V.p (Value.int .i64 a0), V.p (Value.int .i64 a0_1), V.p (Value.int .u32 a0_2), V.p (Value.int .i64 a0_3), V.p (Value.int .i64 a0_4), V.p (Value.int .i64 a0_5), V.p (Value.int .i64 a0_6), V.p (Value.int .i64 a0_7), V.p (Value.int .i64 a0_8), V.p (Value.int .i64 a0_9), V.sl 1 (rowsOf (encI .u8) a0_10)]] [] = some r.st := by
  cases k with
  | zero => cases hF
  | succ k =>
    unfold CV
    rw [ev_call (F := Try.f26) (c := (nav B26 [])) rfl Try.func26 rfl rfl rfl rfl]
    exact f26_ai10rz_e_ok k a0 a0_1 a0_2 a0_3 a0_4 a0_5 a0_6 a0_7 a0_8 a0_9 a0_10 r hF
-- f27_ri: f27 heliograph/pieces.parts
inductive R27_ri where
  | o0 (y : List Int) (y_1 : Int)
noncomputable def R27_ri.st : R27_ri → V × List O × List O
  | .o0 y y_1 => (V.fn 37 [V.ptr 2000000 0, V.ptr 2000001 0], [], [O.box 23 [V.sl 1 (rowsOf (encI .u8) y)], O.box 3 [V.p (Value.int .i64 y_1)]])
noncomputable def f27_ri_e (k : Nat) (a0 : List Int) (a1 : Int) : Option R27_ri :=
  some (R27_ri.o0 a0 a1)
theorem f27_ri_e_ok (k : Nat) (a0 : List Int) (a1 : Int) (r : R27_ri) (hF : f27_ri_e k a0 a1 = some r) : finK Try.prog Try.f27 0 (EX 27 k (nav B27 []) ({ n := 6, F := [(0, V.sl 1 (rowsOf (encI .u8) a0)), (1, V.p (Value.int .i64 a1))], M := [] } : St)) = some r.st := by
  unfold f27_ri_e at hF
  cases hF
  simp (maxSteps := 999999) (disch := first | exact D (by decide) | exact K (by kernel_rfl)) only [E, EE, ↓reduceIte, simprocAttr, xk B27 [] .sq rfl, show (nav B27 [1]) = Code.region 0 _ false from rfl, hk_27_0, hz_27_0, hs_27_0, xk B27 [2] .sq rfl, show (nav B27 [1, 2]) = Code.region 1 _ false from rfl, hk_27_1, hz_27_1, hs_27_1, xk B27 [2, 2] .rt rfl, finK_norm, finK_ret, fin27, R27_ri.st]
noncomputable def f27_ri (k : Nat) (a0 : List Int) (a1 : Int) : Option R27_ri := match k with | 0 => none | k + 1 => f27_ri_e k a0 a1
theorem f27_ri_ok (k : Nat) (a0 : List Int) (a1 : Int) (r : R27_ri) (hF : f27_ri k a0 a1 = some r) : CV k 27 [V.sl 1 (rowsOf (encI .u8) a0), V.p (Value.int .i64 a1)] [] = some r.st := by
  cases k with
  | zero => cases hF
  | succ k =>
    unfold CV
    rw [ev_call (F := Try.f27) (c := (nav B27 [])) rfl Try.func27 rfl rfl rfl rfl]
    exact f27_ri_e_ok k a0 a1 r hF
-- f28_r: f28 bytes.Clone
inductive R28_r where
  | o0 (y : List Int)
noncomputable def R28_r.st : R28_r → V × List O × List O
  | .o0 y => (V.own 2000000, [], [O.row true 1 5 (rowsOf (encI .u8) y)])
noncomputable def f28_r (k : Nat) (a0 : List Int) : Option R28_r := match k with | 0 => none | _ + 1 => ifE (a0.length * 1 ≤ roomy) (some (.o0 a0))
theorem f28_r_ok (k : Nat) (a0 : List Int) (r : R28_r) (hF : f28_r k a0 = some r) : CV k 28 [V.sl 1 (rowsOf (encI .u8) a0)] [] = some r.st := by
  cases k with
  | zero => cases hF
  | succ k =>
    obtain ⟨h, hF⟩ := ifE_some.1 hF
    cases hF
    have h' : ((rowsOf (encI .u8) a0)).length * 1 ≤ roomy := by rw [rowsOf_length]; exact h
    unfold CV
    rw [ev_ctx (show ctx 28 = some (cloneS 1 5 1) from rfl) rfl]
    simp only [cloneS, h', and_self, if_true]; rfl
-- f999999999_iry_lppbiiiiiiiiiirbow: f11 heliograph/pieces.Cut
inductive R999999999_iry_lppbiiiiiiiiiirbow where
  | o0 (y y_1 y_2 y_3 y_4 y_5 y_6 y_7 y_8 y_9 : Int) (y_10 : List Int) (y_11 : List T25)
noncomputable def R999999999_iry_lppbiiiiiiiiiirbow.st : R999999999_iry_lppbiiiiiiiiiirbow → V × List O × List O
  | .o0 y y_1 y_2 y_3 y_4 y_5 y_6 y_7 y_8 y_9 y_10 y_11 => (V.p (Value.bool true), [O.lp 11 37 [(2, V.ptr 1000001 0), (6, V.ptr 1000002 0)] [21, 22] (nav B11 [3, 2, 2, 1, 2, 2, 2]) (nav B11 [4, 2, 2, 1, 2, 2, 2]) 0 .norm, O.box 25 [V.p (Value.int .i64 y), V.p (Value.int .i64 y_1), V.p (Value.int .u32 y_2), V.p (Value.int .i64 y_3), V.p (Value.int .i64 y_4), V.p (Value.int .i64 y_5), V.p (Value.int .i64 y_6), V.p (Value.int .i64 y_7), V.p (Value.int .i64 y_8), V.p (Value.int .i64 y_9), V.sl 1 (rowsOf (encI .u8) y_10)], O.box 28 [V.own 2000000], O.dead], [O.row true 11 25 (rowsOf encT25 y_11)])
noncomputable def f999999999_iry_lppbiiiiiiiiiirbow_e (k : Nat) (a0 : Int) (a1 : List Int) (e1 e1_1 e1_2 e1_3 e1_4 e1_5 e1_6 e1_7 e1_8 e1_9 : Int) (e1_10 : List Int) (e3 : List T25) : Option R999999999_iry_lppbiiiiiiiiiirbow :=
  Option.bind (f28_r k a1) fun o1 =>
    match o1 with
    | .o0 v4 =>
      ifE (((List.length e3) + 1) * 104 ≤ roomy) (
        some (R999999999_iry_lppbiiiiiiiiiirbow.o0 e1 e1_1 e1_2 e1_3 e1_4 e1_5 e1_6 e1_7 e1_8 e1_9 e1_10 (e3 ++ ([(T25.mk e1 e1_1 e1_2 e1_3 e1_4 e1_5 e1_6 e1_7 (IntKind.i64.wrap (e1_8 + a0)) e1_9 v4)] : List T25))))
theorem f999999999_iry_lppbiiiiiiiiiirbow_e_ok (k : Nat) (a0 : Int) (a1 : List Int) (e1 e1_1 e1_2 e1_3 e1_4 e1_5 e1_6 e1_7 e1_8 e1_9 : Int) (e1_10 : List Int) (e3 : List T25) (r : R999999999_iry_lppbiiiiiiiiiirbow) (hF : f999999999_iry_lppbiiiiiiiiiirbow_e k a0 a1 e1 e1_1 e1_2 e1_3 e1_4 e1_5 e1_6 e1_7 e1_8 e1_9 e1_10 e3 = some r) : roundB 1000000 4 (roundA Try.prog (callV Try.prog ctx hints k) hints 11 k 1000000 (nav B11 [4, 2, 2, 1, 2, 2, 2]) (EX 11 k (nav B11 [3, 2, 2, 1, 2, 2, 2]) ({ n := 37, F := [(22, V.sl 1 (rowsOf (encI .u8) a1)), (21, V.p (Value.int .i64 a0)), (2, V.ptr 1000001 0), (6, V.ptr 1000002 0)], M := [(1000000, O.lp 11 37 [(2, V.ptr 1000001 0), (6, V.ptr 1000002 0)] [21, 22] (nav B11 [3, 2, 2, 1, 2, 2, 2]) (nav B11 [4, 2, 2, 1, 2, 2, 2]) 0 .norm), (1000001, O.box 25 [V.p (Value.int .i64 e1), V.p (Value.int .i64 e1_1), V.p (Value.int .u32 e1_2), V.p (Value.int .i64 e1_3), V.p (Value.int .i64 e1_4), V.p (Value.int .i64 e1_5), V.p (Value.int .i64 e1_6), V.p (Value.int .i64 e1_7), V.p (Value.int .i64 e1_8), V.p (Value.int .i64 e1_9), V.sl 1 (rowsOf (encI .u8) e1_10)]), (1000002, O.box 28 [V.own 1000003]), (1000003, O.row true 11 25 (rowsOf encT25 e3))] } : St))) = some r.st := by
  unfold f999999999_iry_lppbiiiiiiiiiirbow_e at hF
  replace hF := Option.bind_eq_some_iff.1 hF
  obtain ⟨o1, h2, hF⟩ := hF
  have hc3 := f28_r_ok k a1 _ h2
  cases o1 with
  | o0 v4 =>
    (try dsimp only at hF)
    (try simp only [NM, EE, R28_r.st] at hc3)
    have q5 : [[V.p (Value.int .i64 e1), V.p (Value.int .i64 e1_1), V.p (Value.int .u32 e1_2), V.p (Value.int .i64 e1_3), V.p (Value.int .i64 e1_4), V.p (Value.int .i64 e1_5), V.p (Value.int .i64 e1_6), V.p (Value.int .i64 e1_7), V.p (Value.int .i64 (IntKind.i64.wrap (e1_8 + a0))), V.p (Value.int .i64 e1_9), V.sl 1 (rowsOf (encI .u8) v4)]] = rowsOf encT25 ([(T25.mk e1 e1_1 e1_2 e1_3 e1_4 e1_5 e1_6 e1_7 (IntKind.i64.wrap (e1_8 + a0)) e1_9 v4)] : List T25) := rfl
    have q6 : List.map (tell [0, 0, 0, 0, 0, 0, 0, 0, 0, 0, 1]) (rowsOf encT25 ([(T25.mk e1 e1_1 e1_2 e1_3 e1_4 e1_5 e1_6 e1_7 (IntKind.i64.wrap (e1_8 + a0)) e1_9 v4)] : List T25)) = rowsOf encT25 ([(T25.mk e1 e1_1 e1_2 e1_3 e1_4 e1_5 e1_6 e1_7 (IntKind.i64.wrap (e1_8 + a0)) e1_9 v4)] : List T25) := rfl
    replace hF := ifE_some.1 hF
    obtain ⟨h7, hF⟩ := hF
    cases hF
    simp (maxSteps := 999999) (disch := first | exact D (by decide) | exact K (by kernel_rfl)) only [E, EE, ↓reduceIte, simprocAttr, xk B11 [3, 2, 2, 1, 2, 2, 2] .sq rfl, show (nav B11 [1, 3, 2, 2, 1, 2, 2, 2]) = Code.region 7 _ false from rfl, hk_11_7, hz_11_7, hs_11_7, show (nav B11 [2, 3, 2, 2, 1, 2, 2, 2]) = Code.region 8 _ false from rfl, hk_11_8, hz_11_8, hs_11_8, xk B11 [4, 2, 2, 1, 2, 2, 2] (.bk 2) rfl, xk B11 [2, 4, 2, 2, 1, 2, 2, 2] .sq rfl, show (nav B11 [1, 2, 4, 2, 2, 1, 2, 2, 2]) = Code.region 9 _ false from rfl, hk_11_9, hz_11_9, hs_11_9, u_25, i_25, is_25, ib_25, iz_25, xk B11 [2, 2, 4, 2, 2, 1, 2, 2, 2] .sq rfl, show (nav B11 [1, 2, 2, 4, 2, 2, 1, 2, 2, 2]) = Code.region 10 _ false from rfl, hk_11_10, hz_11_10, hs_11_10, fieldAddrV, u_3, i_3, is_3, ib_3, iz_3, xk B11 [2, 2, 2, 4, 2, 2, 1, 2, 2, 2] .sq rfl, show (nav B11 [1, 2, 2, 2, 4, 2, 2, 1, 2, 2, 2]) = Code.region 11 _ false from rfl, hk_11_11, hz_11_11, hs_11_11, callStep, CL, gv, List.contains, u_23, i_23, is_23, ib_23, iz_23, show (nav B11 [2, 2, 2, 2, 4, 2, 2, 1, 2, 2, 2]) = Code.region 12 _ false from rfl, hk_11_12, hz_11_12, hs_11_12, u_28, i_28, is_28, ib_28, iz_28, buildSliceV, fillRows, sm_25, appendV, content, R999999999_iry_lppbiiiiiiiiiirbow.st, hc3, q5, q6, h7]
noncomputable def f999999999_iry_lppbiiiiiiiiiirbow (k : Nat) (a0 : Int) (a1 : List Int) (e1 e1_1 e1_2 e1_3 e1_4 e1_5 e1_6 e1_7 e1_8 e1_9 : Int) (e1_10 : List Int) (e3 : List T25) : Option R999999999_iry_lppbiiiiiiiiiirbow := match k with | 0 => none | k + 1 => f999999999_iry_lppbiiiiiiiiiirbow_e k a0 a1 e1 e1_1 e1_2 e1_3 e1_4 e1_5 e1_6 e1_7 e1_8 e1_9 e1_10 e3
theorem f999999999_iry_lppbiiiiiiiiiirbow_ok (k : Nat) (a0 : Int) (a1 : List Int) (e1 e1_1 e1_2 e1_3 e1_4 e1_5 e1_6 e1_7 e1_8 e1_9 : Int) (e1_10 : List Int) (e3 : List T25) (r : R999999999_iry_lppbiiiiiiiiiirbow) (hF : f999999999_iry_lppbiiiiiiiiiirbow k a0 a1 e1 e1_1 e1_2 e1_3 e1_4 e1_5 e1_6 e1_7 e1_8 e1_9 e1_10 e3 = some r) : CV k 999999999 [V.p (Value.int .i64 a0), V.sl 1 (rowsOf (encI .u8) a1), V.yld 1000000] [O.lp 11 37 [(2, V.ptr 1000001 0), (6, V.ptr 1000002 0)] [21, 22] (nav B11 [3, 2, 2, 1, 2, 2, 2]) (nav B11 [4, 2, 2, 1, 2, 2, 2]) 0 .norm, O.box 25 [V.p (Value.int .i64 e1), V.p (Value.int .i64 e1_1), V.p (Value.int .u32 e1_2), V.p (Value.int .i64 e1_3), V.p (Value.int .i64 e1_4), V.p (Value.int .i64 e1_5), V.p (Value.int .i64 e1_6), V.p (Value.int .i64 e1_7), V.p (Value.int .i64 e1_8), V.p (Value.int .i64 e1_9), V.sl 1 (rowsOf (encI .u8) e1_10)], O.box 28 [V.own 1000003], O.row true 11 25 (rowsOf encT25 e3)] = some r.st := by
  cases k with
  | zero => cases hF
  | succ k =>
    unfold CV
    rw [ev_round (id := 1000000) (fn := 11) (n := 37) (ps := [21, 22]) (a := (nav B11 [3, 2, 2, 1, 2, 2, 2])) (b := (nav B11 [4, 2, 2, 1, 2, 2, 2])) rfl rfl rfl rfl rfl (by kernel_rfl) (by kernel_rfl)]
    exact f999999999_iry_lppbiiiiiiiiiirbow_e_ok k a0 a1 e1 e1_1 e1_2 e1_3 e1_4 e1_5 e1_6 e1_7 e1_8 e1_9 e1_10 e3 r hF
end Go.Proofs.YteggcokgkcfliaaV
