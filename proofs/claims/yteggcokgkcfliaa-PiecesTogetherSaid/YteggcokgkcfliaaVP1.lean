/- What the program's functions answer: plain functions, and that the interpreter answers what they do. Written by a program of this session, out of the translation. -/
import Derived.Test.YteggcokgkcfliaaVPC
namespace Go.Proofs.YteggcokgkcfliaaV
open Go
set_option linter.unusedVariables false
set_option linter.unusedSimpArgs false
set_option maxRecDepth 8000
set_option maxHeartbeats 4000000
-- f9_: f9 heliograph/heliographlaw18.wakes
inductive R9_ where
  | o0 (y : Bool)
noncomputable def R9_.st : R9_ → V × List O × List O
  | .o0 y => (V.p (Value.bool y), [], [])
noncomputable def f9_ (k : Nat) : Option R9_ := ifE (100 ≤ k) (some (.o0 true))
theorem f9__ok (k : Nat) (r : R9_) (hF : f9_ k = some r) : CV k 9 [] [] = some r.st := by
  obtain ⟨h, hF⟩ := ifE_some.1 hF
  cases hF
  exact callV_le h wakes
-- f10_ai10rz: f10 heliograph/heliographlaw18.one
inductive R10_ai10rz where
  | o0 (y y_1 y_2 y_3 y_4 y_5 y_6 y_7 y_8 y_9 : Int) (y_10 : List Int)
noncomputable def R10_ai10rz.st : R10_ai10rz → V × List O × List O
  | .o0 y y_1 y_2 y_3 y_4 y_5 y_6 y_7 y_8 y_9 y_10 => (V.agg [V.p (Value.int .i64 y), V.p (Value.int .i64 y_1), V.p (Value.int .u32 y_2), V.p (Value.int .i64 y_3), V.p (Value.int .i64 y_4), V.p (Value.int .i64 y_5), V.p (Value.int .i64 y_6), V.p (Value.int .i64 y_7), V.p (Value.int .i64 y_8), V.p (Value.int .i64 y_9), V.own 2000000], [], [O.row true 1 5 (rowsOf (encI .u8) y_10)])
noncomputable def f10_ai10rz_e (k : Nat) (a0 a0_1 a0_2 a0_3 a0_4 a0_5 a0_6 a0_7 a0_8 a0_9 : Int) (a0_10 : List Int) : Option R10_ai10rz :=
  ifE ((0 : Int) ≤ (if (500 : Int) < ((List.length a0_10) : Int) then 500 else ((List.length a0_10) : Int))) (
    ifE ((Int.toNat ((if (500 : Int) < ((List.length a0_10) : Int) then 500 else ((List.length a0_10) : Int)))) ≤ (List.length a0_10)) (
      ifE ((List.length ((List.take ((Int.toNat ((if (500 : Int) < ((List.length a0_10) : Int) then 500 else ((List.length a0_10) : Int))))) a0_10))) ≤ roomy) (
        some (R10_ai10rz.o0 a0 a0_1 a0_2 a0_3 a0_4 a0_5 a0_6 a0_7 a0_8 a0_9 ((List.take ((Int.toNat ((if (500 : Int) < ((List.length a0_10) : Int) then 500 else ((List.length a0_10) : Int))))) a0_10))))))
theorem f10_ai10rz_e_ok (k : Nat) (a0 a0_1 a0_2 a0_3 a0_4 a0_5 a0_6 a0_7 a0_8 a0_9 : Int) (a0_10 : List Int) (r : R10_ai10rz) (hF : f10_ai10rz_e k a0 a0_1 a0_2 a0_3 a0_4 a0_5 a0_6 a0_7 a0_8 a0_9 a0_10 = some r) : finK Try.prog Try.f10 0 (EX 10 k (nav B10 []) ({ n := 14, F := [(0, V.agg [V.p (Value.int .i64 a0), V.p (Value.int .i64 a0_1), V.p (Value.int .u32 a0_2), V.p (Value.int .i64 a0_3), V.p (Value.int .i64 a0_4), V.p (Value.int .i64 a0_5), V.p (Value.int .i64 a0_6), V.p (Value.int .i64 a0_7), V.p (Value.int .i64 a0_8), V.p (Value.int .i64 a0_9), V.sl 1 (rowsOf (encI .u8) a0_10)])], M := [] } : St)) = some r.st := by
  unfold f10_ai10rz_e at hF
  replace hF := ifE_some.1 hF
  obtain ⟨h1, hF⟩ := hF
  replace hF := ifE_some.1 hF
  obtain ⟨h2, hF⟩ := hF
  replace hF := ifE_some.1 hF
  obtain ⟨h3, hF⟩ := hF
  cases hF
  simp (maxSteps := 999999) (disch := first | exact D (by decide) | exact K (by kernel_rfl)) only [E, EE, ↓reduceIte, simprocAttr, xk B10 [] .sq rfl, show (nav B10 [1]) = Code.region 0 _ false from rfl, hk_10_0, hz_10_0, hs_10_0, u_25, i_25, is_25, ib_25, iz_25, xk B10 [2] .sq rfl, show (nav B10 [1, 2]) = Code.region 1 _ false from rfl, hk_10_1, hz_10_1, hs_10_1, buildSliceV, fillRows, sm_5, u_23, i_23, is_23, ib_23, iz_23, u_5, i_5, is_5, ib_5, iz_5, fieldAddrV, minmaxV, minmaxGo, sliceV, bound, appendV, content, xk B10 [2, 2] .sq rfl, show (nav B10 [1, 2, 2]) = Code.region 2 _ false from rfl, hk_10_2, hz_10_2, hs_10_2, xk B10 [2, 2, 2] .rt rfl, finK_norm, finK_ret, fin10, R10_ai10rz.st, h1, h2, h3]
noncomputable def f10_ai10rz (k : Nat) (a0 a0_1 a0_2 a0_3 a0_4 a0_5 a0_6 a0_7 a0_8 a0_9 : Int) (a0_10 : List Int) : Option R10_ai10rz := match k with | 0 => none | k + 1 => f10_ai10rz_e k a0 a0_1 a0_2 a0_3 a0_4 a0_5 a0_6 a0_7 a0_8 a0_9 a0_10
theorem f10_ai10rz_ok (k : Nat) (a0 a0_1 a0_2 a0_3 a0_4 a0_5 a0_6 a0_7 a0_8 a0_9 : Int) (a0_10 : List Int) (r : R10_ai10rz) (hF : f10_ai10rz k a0 a0_1 a0_2 a0_3 a0_4 a0_5 a0_6 a0_7 a0_8 a0_9 a0_10 = some r) : CV k 10 [V.agg [V.p (Value.int .i64 a0), V.p (Value.int .i64 a0_1), V.p (Value.int .u32 a0_2), V.p (Value.int .i64 a0_3), V.p (Value.int .i64 a0_4), V.p (Value.int .i64 a0_5), V.p (Value.int .i64 a0_6), V.p (Value.int .i64 a0_7), V.p (Value.int .i64 a0_8), V.p (Value.int .i64 a0_9), V.sl 1 (rowsOf (encI .u8) a0_10)]] [] = some r.st := by
  cases k with
  | zero => cases hF
  | succ k =>
    unfold CV
    rw [ev_call (F := Try.f10) (c := (nav B10 [])) rfl Try.func10 rfl rfl rfl rfl]
    exact f10_ai10rz_e_ok k a0 a0_1 a0_2 a0_3 a0_4 a0_5 a0_6 a0_7 a0_8 a0_9 a0_10 r hF
-- f36_iii: f36 heliograph/bundle.within
inductive R36_iii where
  | o0 (y : Bool)
noncomputable def R36_iii.st : R36_iii → V × List O × List O
  | .o0 y => (V.p (Value.bool y), [], [])
noncomputable def f36_iii_e (k : Nat) (a0 a1 a2 : Int) : Option R36_iii :=
  cond ((decide (a0 ≥ a1)))
    (some (R36_iii.o0 (decide (a0 ≤ a2))))
    (some (R36_iii.o0 false))
theorem f36_iii_e_ok (k : Nat) (a0 a1 a2 : Int) (r : R36_iii) (hF : f36_iii_e k a0 a1 a2 = some r) : finK Try.prog Try.f36 0 (EX 36 k (nav B36 []) ({ n := 15, F := [(0, V.p (Value.int .i64 a0)), (1, V.p (Value.int .i64 a1)), (2, V.p (Value.int .i64 a2))], M := [] } : St)) = some r.st := by
  unfold f36_iii_e at hF
  simp (maxSteps := 999999) (disch := first | exact D (by decide) | exact K (by kernel_rfl)) only [E, EE, ↓reduceIte, simprocAttr, xk B36 [] .sq rfl, show (nav B36 [1]) = Code.region 0 _ false from rfl, hk_36_0, hz_36_0, hs_36_0, xk B36 [2] .sq rfl, show (nav B36 [1, 2]) = Code.region 1 _ false from rfl, hk_36_1, hz_36_1, hs_36_1]
  replace hF := cond_some hF
  rcases hF with ⟨h1, hF⟩ | ⟨h1, hF⟩
  · cases hF
    simp (maxSteps := 999999) (disch := first | exact D (by decide) | exact K (by kernel_rfl)) only [E, EE, ↓reduceIte, simprocAttr, xk B36 [2, 2] .rt rfl, finK_norm, finK_ret, fin36, R36_iii.st, h1]
  · cases hF
    simp (maxSteps := 999999) (disch := first | exact D (by decide) | exact K (by kernel_rfl)) only [E, EE, ↓reduceIte, simprocAttr, xk B36 [2, 2] .rt rfl, finK_norm, finK_ret, fin36, R36_iii.st, h1]
noncomputable def f36_iii (k : Nat) (a0 a1 a2 : Int) : Option R36_iii := match k with | 0 => none | k + 1 => f36_iii_e k a0 a1 a2
theorem f36_iii_ok (k : Nat) (a0 a1 a2 : Int) (r : R36_iii) (hF : f36_iii k a0 a1 a2 = some r) : CV k 36 [V.p (Value.int .i64 a0), V.p (Value.int .i64 a1), V.p (Value.int .i64 a2)] [] = some r.st := by
  cases k with
  | zero => cases hF
  | succ k =>
    unfold CV
    rw [ev_call (F := Try.f36) (c := (nav B36 [])) rfl Try.func36 rfl rfl rfl rfl]
    exact f36_iii_e_ok k a0 a1 a2 r hF
-- f26_ai10rz: f26 heliograph/bundle.Check
inductive R26_ai10rz where
  | o0 (y : Int)
noncomputable def R26_ai10rz.st : R26_ai10rz → V × List O × List O
  | .o0 y => (V.p (Value.int .i64 y), [], [])
noncomputable def f26_ai10rz_j1 (k : Nat) (x72 : Bool) : Option R26_ai10rz :=
  some (R26_ai10rz.o0 0)
theorem f26_ai10rz_j1_ok (k : Nat) (x72 : Bool) (r : R26_ai10rz) (hF : f26_ai10rz_j1 k x72 = some r) : finK Try.prog Try.f26 0 (EX 26 k (nav B26 [2, 2, 2, 2, 2, 2]) ({ n := 73, F := [(72, V.p (Value.bool x72))], M := [] } : St)) = some r.st := by
  unfold f26_ai10rz_j1 at hF
  cases hF
  simp (maxSteps := 999999) (disch := first | exact D (by decide) | exact K (by kernel_rfl)) only [E, EE, ↓reduceIte, simprocAttr, xk B26 [2, 2, 2, 2, 2, 2] .sq rfl, show (nav B26 [1, 2, 2, 2, 2, 2, 2]) = Code.region 7 _ false from rfl, hk_26_7, hz_26_7, hs_26_7, xk B26 [2, 2, 2, 2, 2, 2, 2] .rt rfl, finK_norm, finK_ret, fin26, R26_ai10rz.st]
noncomputable def f26_ai10rz_e (k : Nat) (a0 a0_1 a0_2 a0_3 a0_4 a0_5 a0_6 a0_7 a0_8 a0_9 : Int) (a0_10 : List Int) : Option R26_ai10rz :=
  Option.bind (f36_iii k a0 1 6) fun o1 =>
    match o1 with
    | .o0 v4 =>
      cond (v4)
        (
          Option.bind (f36_iii k a0_1 1 6) fun o6 =>
            match o6 with
            | .o0 v9 =>
              cond (v9)
                (
                  cond ((decide (a0_2 > 0)))
                    (
                      Option.bind (f36_iii k a0_3 0 1048576) fun o12 =>
                        match o12 with
                        | .o0 v15 =>
                          cond (v15)
                            (
                              Option.bind (f36_iii k a0_4 1 1048576) fun o17 =>
                                match o17 with
                                | .o0 v20 =>
                                  cond (v20)
                                    (
                                      Option.bind (f36_iii k a0_5 1 16) fun o22 =>
                                        match o22 with
                                        | .o0 v25 =>
                                          cond (v25)
                                            (
                                              Option.bind (f36_iii k a0_6 0 a0_5) fun o27 =>
                                                match o27 with
                                                | .o0 v30 =>
                                                  cond (v30)
                                                    (
                                                      Option.bind (f36_iii k a0_7 0 2) fun o32 =>
                                                        match o32 with
                                                        | .o0 v35 =>
                                                          cond (v35)
                                                            (
                                                              Option.bind (f36_iii k a0_9 1 400) fun o37 =>
                                                                match o37 with
                                                                | .o0 v40 =>
                                                                  cond (v40)
                                                                    (
                                                                      Option.bind (f36_iii k ((List.length a0_10) : Int) 1 a0_9) fun o42 =>
                                                                        match o42 with
                                                                        | .o0 v45 =>
                                                                          cond (v45)
                                                                            (
                                                                              Option.bind (f36_iii k a0_8 0 (IntKind.i64.wrap (a0_9 - ((List.length a0_10) : Int)))) fun o47 =>
                                                                                match o47 with
                                                                                | .o0 v50 =>
                                                                                  cond ((!v50))
                                                                                    (some (R26_ai10rz.o0 190))
                                                                                    (f26_ai10rz_j1 k false))
                                                                            (some (R26_ai10rz.o0 190)))
                                                                    (some (R26_ai10rz.o0 190)))
                                                            (some (R26_ai10rz.o0 190)))
                                                    (some (R26_ai10rz.o0 190)))
                                            (some (R26_ai10rz.o0 190)))
                                    (some (R26_ai10rz.o0 190)))
                            (some (R26_ai10rz.o0 190)))
                    (some (R26_ai10rz.o0 190)))
                (some (R26_ai10rz.o0 190)))
        (some (R26_ai10rz.o0 190))
theorem f26_ai10rz_e_ok (k : Nat) (a0 a0_1 a0_2 a0_3 a0_4 a0_5 a0_6 a0_7 a0_8 a0_9 : Int) (a0_10 : List Int) (r : R26_ai10rz) (hF : f26_ai10rz_e k a0 a0_1 a0_2 a0_3 a0_4 a0_5 a0_6 a0_7 a0_8 a0_9 a0_10 = some r) : finK Try.prog Try.f26 0 (EX 26 k (nav B26 []) ({ n := 73, F := [(0, V.agg [V.p (Value.int .i64 a0), V.p (Value.int .i64 a0_1), V.p (Value.int .u32 a0_2), V.p (Value.int .i64 a0_3), V.p (Value.int .i64 a0_4), V.p (Value.int .i64 a0_5), V.p (Value.int .i64 a0_6), V.p (Value.int .i64 a0_7), V.p (Value.int .i64 a0_8), V.p (Value.int .i64 a0_9), V.sl 1 (rowsOf (encI .u8) a0_10)])], M := [] } : St)) = some r.st := by
  unfold f26_ai10rz_e at hF
  replace hF := Option.bind_eq_some_iff.1 hF
  obtain ⟨o1, h2, hF⟩ := hF
  have hc3 := f36_iii_ok k a0 1 6 _ h2
  cases o1 with
  | o0 v4 =>
    (try dsimp only at hF)
    (try simp only [NM, EE, R36_iii.st] at hc3)
    simp (maxSteps := 999999) (disch := first | exact D (by decide) | exact K (by kernel_rfl)) only [E, EE, ↓reduceIte, simprocAttr, xk B26 [] .sq rfl, show (nav B26 [1]) = Code.region 0 _ false from rfl, hk_26_0, hz_26_0, hs_26_0, xk B26 [2] .sq rfl, show (nav B26 [1, 2]) = Code.region 1 _ false from rfl, hk_26_1, hz_26_1, hs_26_1, fieldAddrV, u_25, i_25, is_25, ib_25, iz_25, u_3, i_3, is_3, ib_3, iz_3, callStep, CL, gv, List.contains, hc3]
    replace hF := cond_some hF
    rcases hF with ⟨h5, hF⟩ | ⟨h5, hF⟩
    · replace hF := Option.bind_eq_some_iff.1 hF
      obtain ⟨o6, h7, hF⟩ := hF
      have hc8 := f36_iii_ok k a0_1 1 6 _ h7
      cases o6 with
      | o0 v9 =>
        (try dsimp only at hF)
        (try simp only [NM, EE, R36_iii.st] at hc8)
        simp (maxSteps := 999999) (disch := first | exact D (by decide) | exact K (by kernel_rfl)) only [E, EE, ↓reduceIte, simprocAttr, fieldAddrV, u_25, i_25, is_25, ib_25, iz_25, u_3, i_3, is_3, ib_3, iz_3, callStep, CL, gv, List.contains, hc3, h5, hc8]
        replace hF := cond_some hF
        rcases hF with ⟨h10, hF⟩ | ⟨h10, hF⟩
        · simp (maxSteps := 999999) (disch := first | exact D (by decide) | exact K (by kernel_rfl)) only [E, EE, ↓reduceIte, simprocAttr, fieldAddrV, u_25, i_25, is_25, ib_25, iz_25, u_22, i_22, is_22, ib_22, iz_22, xk B26 [2, 2] .sq rfl, show (nav B26 [1, 2, 2]) = Code.region 2 _ false from rfl, hk_26_2, hz_26_2, hs_26_2, hc3, h5, hc8, h10]
          replace hF := cond_some hF
          rcases hF with ⟨h11, hF⟩ | ⟨h11, hF⟩
          · replace hF := Option.bind_eq_some_iff.1 hF
            obtain ⟨o12, h13, hF⟩ := hF
            have hc14 := f36_iii_ok k a0_3 0 1048576 _ h13
            cases o12 with
            | o0 v15 =>
              (try dsimp only at hF)
              (try simp only [NM, EE, R36_iii.st] at hc14)
              simp (maxSteps := 999999) (disch := first | exact D (by decide) | exact K (by kernel_rfl)) only [E, EE, ↓reduceIte, simprocAttr, fieldAddrV, u_25, i_25, is_25, ib_25, iz_25, u_3, i_3, is_3, ib_3, iz_3, callStep, CL, gv, List.contains, hc3, h5, hc8, h10, h11, hc14]
              replace hF := cond_some hF
              rcases hF with ⟨h16, hF⟩ | ⟨h16, hF⟩
              · replace hF := Option.bind_eq_some_iff.1 hF
                obtain ⟨o17, h18, hF⟩ := hF
                have hc19 := f36_iii_ok k a0_4 1 1048576 _ h18
                cases o17 with
                | o0 v20 =>
                  (try dsimp only at hF)
                  (try simp only [NM, EE, R36_iii.st] at hc19)
                  simp (maxSteps := 999999) (disch := first | exact D (by decide) | exact K (by kernel_rfl)) only [E, EE, ↓reduceIte, simprocAttr, fieldAddrV, u_25, i_25, is_25, ib_25, iz_25, u_3, i_3, is_3, ib_3, iz_3, callStep, CL, gv, List.contains, xk B26 [2, 2, 2] .sq rfl, show (nav B26 [1, 2, 2, 2]) = Code.region 3 _ false from rfl, hk_26_3, hz_26_3, hs_26_3, hc3, h5, hc8, h10, h11, hc14, h16, hc19]
                  replace hF := cond_some hF
                  rcases hF with ⟨h21, hF⟩ | ⟨h21, hF⟩
                  · replace hF := Option.bind_eq_some_iff.1 hF
                    obtain ⟨o22, h23, hF⟩ := hF
                    have hc24 := f36_iii_ok k a0_5 1 16 _ h23
                    cases o22 with
                    | o0 v25 =>
                      (try dsimp only at hF)
                      (try simp only [NM, EE, R36_iii.st] at hc24)
                      simp (maxSteps := 999999) (disch := first | exact D (by decide) | exact K (by kernel_rfl)) only [E, EE, ↓reduceIte, simprocAttr, fieldAddrV, u_25, i_25, is_25, ib_25, iz_25, u_3, i_3, is_3, ib_3, iz_3, callStep, CL, gv, List.contains, hc3, h5, hc8, h10, h11, hc14, h16, hc19, h21, hc24]
                      replace hF := cond_some hF
                      rcases hF with ⟨h26, hF⟩ | ⟨h26, hF⟩
                      · replace hF := Option.bind_eq_some_iff.1 hF
                        obtain ⟨o27, h28, hF⟩ := hF
                        have hc29 := f36_iii_ok k a0_6 0 a0_5 _ h28
                        cases o27 with
                        | o0 v30 =>
                          (try dsimp only at hF)
                          (try simp only [NM, EE, R36_iii.st] at hc29)
                          simp (maxSteps := 999999) (disch := first | exact D (by decide) | exact K (by kernel_rfl)) only [E, EE, ↓reduceIte, simprocAttr, fieldAddrV, u_25, i_25, is_25, ib_25, iz_25, u_3, i_3, is_3, ib_3, iz_3, callStep, CL, gv, List.contains, hc3, h5, hc8, h10, h11, hc14, h16, hc19, h21, hc24, h26, hc29]
                          replace hF := cond_some hF
                          rcases hF with ⟨h31, hF⟩ | ⟨h31, hF⟩
                          · replace hF := Option.bind_eq_some_iff.1 hF
                            obtain ⟨o32, h33, hF⟩ := hF
                            have hc34 := f36_iii_ok k a0_7 0 2 _ h33
                            cases o32 with
                            | o0 v35 =>
                              (try dsimp only at hF)
                              (try simp only [NM, EE, R36_iii.st] at hc34)
                              simp (maxSteps := 999999) (disch := first | exact D (by decide) | exact K (by kernel_rfl)) only [E, EE, ↓reduceIte, simprocAttr, fieldAddrV, u_25, i_25, is_25, ib_25, iz_25, u_3, i_3, is_3, ib_3, iz_3, callStep, CL, gv, List.contains, xk B26 [2, 2, 2, 2] .sq rfl, show (nav B26 [1, 2, 2, 2, 2]) = Code.region 4 _ false from rfl, hk_26_4, hz_26_4, hs_26_4, hc3, h5, hc8, h10, h11, hc14, h16, hc19, h21, hc24, h26, hc29, h31, hc34]
                              replace hF := cond_some hF
                              rcases hF with ⟨h36, hF⟩ | ⟨h36, hF⟩
                              · replace hF := Option.bind_eq_some_iff.1 hF
                                obtain ⟨o37, h38, hF⟩ := hF
                                have hc39 := f36_iii_ok k a0_9 1 400 _ h38
                                cases o37 with
                                | o0 v40 =>
                                  (try dsimp only at hF)
                                  (try simp only [NM, EE, R36_iii.st] at hc39)
                                  simp (maxSteps := 999999) (disch := first | exact D (by decide) | exact K (by kernel_rfl)) only [E, EE, ↓reduceIte, simprocAttr, fieldAddrV, u_25, i_25, is_25, ib_25, iz_25, u_3, i_3, is_3, ib_3, iz_3, callStep, CL, gv, List.contains, hc3, h5, hc8, h10, h11, hc14, h16, hc19, h21, hc24, h26, hc29, h31, hc34, h36, hc39]
                                  replace hF := cond_some hF
                                  rcases hF with ⟨h41, hF⟩ | ⟨h41, hF⟩
                                  · replace hF := Option.bind_eq_some_iff.1 hF
                                    obtain ⟨o42, h43, hF⟩ := hF
                                    have hc44 := f36_iii_ok k ((List.length a0_10) : Int) 1 a0_9 _ h43
                                    cases o42 with
                                    | o0 v45 =>
                                      (try dsimp only at hF)
                                      (try simp only [NM, EE, R36_iii.st] at hc44)
                                      simp (maxSteps := 999999) (disch := first | exact D (by decide) | exact K (by kernel_rfl)) only [E, EE, ↓reduceIte, simprocAttr, fieldAddrV, u_25, i_25, is_25, ib_25, iz_25, u_23, i_23, is_23, ib_23, iz_23, u_3, i_3, is_3, ib_3, iz_3, callStep, CL, gv, List.contains, hc3, h5, hc8, h10, h11, hc14, h16, hc19, h21, hc24, h26, hc29, h31, hc34, h36, hc39, h41, hc44]
                                      replace hF := cond_some hF
                                      rcases hF with ⟨h46, hF⟩ | ⟨h46, hF⟩
                                      · replace hF := Option.bind_eq_some_iff.1 hF
                                        obtain ⟨o47, h48, hF⟩ := hF
                                        have hc49 := f36_iii_ok k a0_8 0 (IntKind.i64.wrap (a0_9 - ((List.length a0_10) : Int))) _ h48
                                        cases o47 with
                                        | o0 v50 =>
                                          (try dsimp only at hF)
                                          (try simp only [NM, EE, R36_iii.st] at hc49)
                                          simp (maxSteps := 999999) (disch := first | exact D (by decide) | exact K (by kernel_rfl)) only [E, EE, ↓reduceIte, simprocAttr, fieldAddrV, u_25, i_25, is_25, ib_25, iz_25, u_3, i_3, is_3, ib_3, iz_3, u_23, i_23, is_23, ib_23, iz_23, callStep, CL, gv, List.contains, xk B26 [2, 2, 2, 2, 2] .sq rfl, xk B26 [1, 2, 2, 2, 2, 2] .sq rfl, show (nav B26 [1, 1, 2, 2, 2, 2, 2]) = Code.region 5 _ false from rfl, hk_26_5, hz_26_5, hs_26_5, xk B26 [2, 1, 2, 2, 2, 2, 2] (.cd 72) rfl, hc3, h5, hc8, h10, h11, hc14, h16, hc19, h21, hc24, h26, hc29, h31, hc34, h36, hc39, h41, hc44, h46, hc49]
                                          replace hF := cond_some hF
                                          rcases hF with ⟨h51, hF⟩ | ⟨h51, hF⟩
                                          · cases hF
                                            simp (maxSteps := 999999) (disch := first | exact D (by decide) | exact K (by kernel_rfl)) only [E, EE, ↓reduceIte, simprocAttr, xk B26 [2, 2, 1, 2, 2, 2, 2, 2] .sq rfl, show (nav B26 [1, 2, 2, 1, 2, 2, 2, 2, 2]) = Code.region 6 _ false from rfl, hk_26_6, hz_26_6, hs_26_6, xk B26 [2, 2, 2, 1, 2, 2, 2, 2, 2] .rt rfl, finK_norm, finK_ret, fin26, R26_ai10rz.st, hc3, h5, hc8, h10, h11, hc14, h16, hc19, h21, hc24, h26, hc29, h31, hc34, h36, hc39, h41, hc44, h46, hc49, h51]
                                          · have hJ := f26_ai10rz_j1_ok k false _ hF
                                            simp (maxSteps := 999999) (disch := first | exact D (by decide) | exact K (by kernel_rfl)) only [E, EE, ↓reduceIte, simprocAttr, xk B26 [3, 2, 1, 2, 2, 2, 2, 2] .sk rfl, hc3, h5, hc8, h10, h11, hc14, h16, hc19, h21, hc24, h26, hc29, h31, hc34, h36, hc39, h41, hc44, h46, hc49, h51]
                                            try simp only [NM, EE] at hJ
                                            exact hJ
                                      · cases hF
                                        simp (maxSteps := 999999) (disch := first | exact D (by decide) | exact K (by kernel_rfl)) only [E, EE, ↓reduceIte, simprocAttr, xk B26 [2, 2, 2, 2, 2] .sq rfl, xk B26 [1, 2, 2, 2, 2, 2] .sq rfl, show (nav B26 [1, 1, 2, 2, 2, 2, 2]) = Code.region 5 _ false from rfl, hk_26_5, hz_26_5, hs_26_5, xk B26 [2, 1, 2, 2, 2, 2, 2] (.cd 72) rfl, xk B26 [2, 2, 1, 2, 2, 2, 2, 2] .sq rfl, show (nav B26 [1, 2, 2, 1, 2, 2, 2, 2, 2]) = Code.region 6 _ false from rfl, hk_26_6, hz_26_6, hs_26_6, xk B26 [2, 2, 2, 1, 2, 2, 2, 2, 2] .rt rfl, finK_norm, finK_ret, fin26, R26_ai10rz.st, hc3, h5, hc8, h10, h11, hc14, h16, hc19, h21, hc24, h26, hc29, h31, hc34, h36, hc39, h41, hc44, h46]
                                  · cases hF
                                    simp (maxSteps := 999999) (disch := first | exact D (by decide) | exact K (by kernel_rfl)) only [E, EE, ↓reduceIte, simprocAttr, xk B26 [2, 2, 2, 2, 2] .sq rfl, xk B26 [1, 2, 2, 2, 2, 2] .sq rfl, show (nav B26 [1, 1, 2, 2, 2, 2, 2]) = Code.region 5 _ false from rfl, hk_26_5, hz_26_5, hs_26_5, xk B26 [2, 1, 2, 2, 2, 2, 2] (.cd 72) rfl, xk B26 [2, 2, 1, 2, 2, 2, 2, 2] .sq rfl, show (nav B26 [1, 2, 2, 1, 2, 2, 2, 2, 2]) = Code.region 6 _ false from rfl, hk_26_6, hz_26_6, hs_26_6, xk B26 [2, 2, 2, 1, 2, 2, 2, 2, 2] .rt rfl, finK_norm, finK_ret, fin26, R26_ai10rz.st, hc3, h5, hc8, h10, h11, hc14, h16, hc19, h21, hc24, h26, hc29, h31, hc34, h36, hc39, h41]
                              · cases hF
                                simp (maxSteps := 999999) (disch := first | exact D (by decide) | exact K (by kernel_rfl)) only [E, EE, ↓reduceIte, simprocAttr, xk B26 [2, 2, 2, 2, 2] .sq rfl, xk B26 [1, 2, 2, 2, 2, 2] .sq rfl, show (nav B26 [1, 1, 2, 2, 2, 2, 2]) = Code.region 5 _ false from rfl, hk_26_5, hz_26_5, hs_26_5, xk B26 [2, 1, 2, 2, 2, 2, 2] (.cd 72) rfl, xk B26 [2, 2, 1, 2, 2, 2, 2, 2] .sq rfl, show (nav B26 [1, 2, 2, 1, 2, 2, 2, 2, 2]) = Code.region 6 _ false from rfl, hk_26_6, hz_26_6, hs_26_6, xk B26 [2, 2, 2, 1, 2, 2, 2, 2, 2] .rt rfl, finK_norm, finK_ret, fin26, R26_ai10rz.st, hc3, h5, hc8, h10, h11, hc14, h16, hc19, h21, hc24, h26, hc29, h31, hc34, h36]
                          · cases hF
                            simp (maxSteps := 999999) (disch := first | exact D (by decide) | exact K (by kernel_rfl)) only [E, EE, ↓reduceIte, simprocAttr, xk B26 [2, 2, 2, 2] .sq rfl, show (nav B26 [1, 2, 2, 2, 2]) = Code.region 4 _ false from rfl, hk_26_4, hz_26_4, hs_26_4, xk B26 [2, 2, 2, 2, 2] .sq rfl, xk B26 [1, 2, 2, 2, 2, 2] .sq rfl, show (nav B26 [1, 1, 2, 2, 2, 2, 2]) = Code.region 5 _ false from rfl, hk_26_5, hz_26_5, hs_26_5, xk B26 [2, 1, 2, 2, 2, 2, 2] (.cd 72) rfl, xk B26 [2, 2, 1, 2, 2, 2, 2, 2] .sq rfl, show (nav B26 [1, 2, 2, 1, 2, 2, 2, 2, 2]) = Code.region 6 _ false from rfl, hk_26_6, hz_26_6, hs_26_6, xk B26 [2, 2, 2, 1, 2, 2, 2, 2, 2] .rt rfl, finK_norm, finK_ret, fin26, R26_ai10rz.st, hc3, h5, hc8, h10, h11, hc14, h16, hc19, h21, hc24, h26, hc29, h31]
                      · cases hF
                        simp (maxSteps := 999999) (disch := first | exact D (by decide) | exact K (by kernel_rfl)) only [E, EE, ↓reduceIte, simprocAttr, xk B26 [2, 2, 2, 2] .sq rfl, show (nav B26 [1, 2, 2, 2, 2]) = Code.region 4 _ false from rfl, hk_26_4, hz_26_4, hs_26_4, xk B26 [2, 2, 2, 2, 2] .sq rfl, xk B26 [1, 2, 2, 2, 2, 2] .sq rfl, show (nav B26 [1, 1, 2, 2, 2, 2, 2]) = Code.region 5 _ false from rfl, hk_26_5, hz_26_5, hs_26_5, xk B26 [2, 1, 2, 2, 2, 2, 2] (.cd 72) rfl, xk B26 [2, 2, 1, 2, 2, 2, 2, 2] .sq rfl, show (nav B26 [1, 2, 2, 1, 2, 2, 2, 2, 2]) = Code.region 6 _ false from rfl, hk_26_6, hz_26_6, hs_26_6, xk B26 [2, 2, 2, 1, 2, 2, 2, 2, 2] .rt rfl, finK_norm, finK_ret, fin26, R26_ai10rz.st, hc3, h5, hc8, h10, h11, hc14, h16, hc19, h21, hc24, h26]
                  · cases hF
                    simp (maxSteps := 999999) (disch := first | exact D (by decide) | exact K (by kernel_rfl)) only [E, EE, ↓reduceIte, simprocAttr, xk B26 [2, 2, 2, 2] .sq rfl, show (nav B26 [1, 2, 2, 2, 2]) = Code.region 4 _ false from rfl, hk_26_4, hz_26_4, hs_26_4, xk B26 [2, 2, 2, 2, 2] .sq rfl, xk B26 [1, 2, 2, 2, 2, 2] .sq rfl, show (nav B26 [1, 1, 2, 2, 2, 2, 2]) = Code.region 5 _ false from rfl, hk_26_5, hz_26_5, hs_26_5, xk B26 [2, 1, 2, 2, 2, 2, 2] (.cd 72) rfl, xk B26 [2, 2, 1, 2, 2, 2, 2, 2] .sq rfl, show (nav B26 [1, 2, 2, 1, 2, 2, 2, 2, 2]) = Code.region 6 _ false from rfl, hk_26_6, hz_26_6, hs_26_6, xk B26 [2, 2, 2, 1, 2, 2, 2, 2, 2] .rt rfl, finK_norm, finK_ret, fin26, R26_ai10rz.st, hc3, h5, hc8, h10, h11, hc14, h16, hc19, h21]
              · cases hF
                simp (maxSteps := 999999) (disch := first | exact D (by decide) | exact K (by kernel_rfl)) only [E, EE, ↓reduceIte, simprocAttr, xk B26 [2, 2, 2] .sq rfl, show (nav B26 [1, 2, 2, 2]) = Code.region 3 _ false from rfl, hk_26_3, hz_26_3, hs_26_3, xk B26 [2, 2, 2, 2] .sq rfl, show (nav B26 [1, 2, 2, 2, 2]) = Code.region 4 _ false from rfl, hk_26_4, hz_26_4, hs_26_4, xk B26 [2, 2, 2, 2, 2] .sq rfl, xk B26 [1, 2, 2, 2, 2, 2] .sq rfl, show (nav B26 [1, 1, 2, 2, 2, 2, 2]) = Code.region 5 _ false from rfl, hk_26_5, hz_26_5, hs_26_5, xk B26 [2, 1, 2, 2, 2, 2, 2] (.cd 72) rfl, xk B26 [2, 2, 1, 2, 2, 2, 2, 2] .sq rfl, show (nav B26 [1, 2, 2, 1, 2, 2, 2, 2, 2]) = Code.region 6 _ false from rfl, hk_26_6, hz_26_6, hs_26_6, xk B26 [2, 2, 2, 1, 2, 2, 2, 2, 2] .rt rfl, finK_norm, finK_ret, fin26, R26_ai10rz.st, hc3, h5, hc8, h10, h11, hc14, h16]
          · cases hF
            simp (maxSteps := 999999) (disch := first | exact D (by decide) | exact K (by kernel_rfl)) only [E, EE, ↓reduceIte, simprocAttr, xk B26 [2, 2, 2] .sq rfl, show (nav B26 [1, 2, 2, 2]) = Code.region 3 _ false from rfl, hk_26_3, hz_26_3, hs_26_3, xk B26 [2, 2, 2, 2] .sq rfl, show (nav B26 [1, 2, 2, 2, 2]) = Code.region 4 _ false from rfl, hk_26_4, hz_26_4, hs_26_4, xk B26 [2, 2, 2, 2, 2] .sq rfl, xk B26 [1, 2, 2, 2, 2, 2] .sq rfl, show (nav B26 [1, 1, 2, 2, 2, 2, 2]) = Code.region 5 _ false from rfl, hk_26_5, hz_26_5, hs_26_5, xk B26 [2, 1, 2, 2, 2, 2, 2] (.cd 72) rfl, xk B26 [2, 2, 1, 2, 2, 2, 2, 2] .sq rfl, show (nav B26 [1, 2, 2, 1, 2, 2, 2, 2, 2]) = Code.region 6 _ false from rfl, hk_26_6, hz_26_6, hs_26_6, xk B26 [2, 2, 2, 1, 2, 2, 2, 2, 2] .rt rfl, finK_norm, finK_ret, fin26, R26_ai10rz.st, hc3, h5, hc8, h10, h11]
        · cases hF
          simp (maxSteps := 999999) (disch := first | exact D (by decide) | exact K (by kernel_rfl)) only [E, EE, ↓reduceIte, simprocAttr, xk B26 [2, 2] .sq rfl, show (nav B26 [1, 2, 2]) = Code.region 2 _ false from rfl, hk_26_2, hz_26_2, hs_26_2, xk B26 [2, 2, 2] .sq rfl, show (nav B26 [1, 2, 2, 2]) = Code.region 3 _ false from rfl, hk_26_3, hz_26_3, hs_26_3, xk B26 [2, 2, 2, 2] .sq rfl, show (nav B26 [1, 2, 2, 2, 2]) = Code.region 4 _ false from rfl, hk_26_4, hz_26_4, hs_26_4, xk B26 [2, 2, 2, 2, 2] .sq rfl, xk B26 [1, 2, 2, 2, 2, 2] .sq rfl, show (nav B26 [1, 1, 2, 2, 2, 2, 2]) = Code.region 5 _ false from rfl, hk_26_5, hz_26_5, hs_26_5, xk B26 [2, 1, 2, 2, 2, 2, 2] (.cd 72) rfl, xk B26 [2, 2, 1, 2, 2, 2, 2, 2] .sq rfl, show (nav B26 [1, 2, 2, 1, 2, 2, 2, 2, 2]) = Code.region 6 _ false from rfl, hk_26_6, hz_26_6, hs_26_6, xk B26 [2, 2, 2, 1, 2, 2, 2, 2, 2] .rt rfl, finK_norm, finK_ret, fin26, R26_ai10rz.st, hc3, h5, hc8, h10]
    · cases hF
      simp (maxSteps := 999999) (disch := first | exact D (by decide) | exact K (by kernel_rfl)) only [E, EE, ↓reduceIte, simprocAttr, xk B26 [2, 2] .sq rfl, show (nav B26 [1, 2, 2]) = Code.region 2 _ false from rfl, hk_26_2, hz_26_2, hs_26_2, xk B26 [2, 2, 2] .sq rfl, show (nav B26 [1, 2, 2, 2]) = Code.region 3 _ false from rfl, hk_26_3, hz_26_3, hs_26_3, xk B26 [2, 2, 2, 2] .sq rfl, show (nav B26 [1, 2, 2, 2, 2]) = Code.region 4 _ false from rfl, hk_26_4, hz_26_4, hs_26_4, xk B26 [2, 2, 2, 2, 2] .sq rfl, xk B26 [1, 2, 2, 2, 2, 2] .sq rfl, show (nav B26 [1, 1, 2, 2, 2, 2, 2]) = Code.region 5 _ false from rfl, hk_26_5, hz_26_5, hs_26_5, xk B26 [2, 1, 2, 2, 2, 2, 2] (.cd 72) rfl, xk B26 [2, 2, 1, 2, 2, 2, 2, 2] .sq rfl, show (nav B26 [1, 2, 2, 1, 2, 2, 2, 2, 2]) = Code.region 6 _ false from rfl, hk_26_6, hz_26_6, hs_26_6, xk B26 [2, 2, 2, 1, 2, 2, 2, 2, 2] .rt rfl, finK_norm, finK_ret, fin26, R26_ai10rz.st, hc3, h5]
noncomputable def f26_ai10rz (k : Nat) (a0 a0_1 a0_2 a0_3 a0_4 a0_5 a0_6 a0_7 a0_8 a0_9 : Int) (a0_10 : List Int) : Option R26_ai10rz := match k with | 0 => none | k + 1 => f26_ai10rz_e k a0 a0_1 a0_2 a0_3 a0_4 a0_5 a0_6 a0_7 a0_8 a0_9 a0_10
theorem f26_ai10rz_ok (k : Nat) (a0 a0_1 a0_2 a0_3 a0_4 a0_5 a0_6 a0_7 a0_8 a0_9 : Int) (a0_10 : List Int) (r : R26_ai10rz) (hF : f26_ai10rz k a0 a0_1 a0_2 a0_3 a0_4 a0_5 a0_6 a0_7 a0_8 a0_9 a0_10 = some r) : CV k 26 [V.agg [V.p (Value.int .i64 a0), V.p (Value.int .i64 a0_1), V.p (Value.int .u32 a0_2), V.p (Value.int .i64 a0_3), V.p (Value.int .i64 a0_4), V.p (Value.int .i64 a0_5), V.p (Value.int .i64 a0_6), V.p (Value.int .i64 a0_7), V.p (Value.int .i64 a0_8), V.p (Value.int .i64 a0_9), V.sl 1 (rowsOf (encI .u8) a0_10)]] [] = some r.st := by
  cases k with
  | zero => cases hF
  | succ k =>
    unfold CV
    rw [ev_call (F := Try.f26) (c := (nav B26 [])) rfl Try.func26 rfl rfl rfl rfl]
    exact f26_ai10rz_e_ok k a0 a0_1 a0_2 a0_3 a0_4 a0_5 a0_6 a0_7 a0_8 a0_9 a0_10 r hF
-- f38_rr: f38 slices.Equal[[]byte,byte]
inductive R38_rr where
  | o0 (y : Bool)
noncomputable def R38_rr.st : R38_rr → V × List O × List O
  | .o0 y => (V.p (Value.bool y), [], [])
inductive R38_rr_l2 where
  | o0 (y : Bool)
  | o1 (y y_1 : List Int) (y_2 y_3 : Int)
  | o2 (y y_1 : List Int) (y_2 y_3 : Int) (y_4 : Bool)
noncomputable def R38_rr_l2.st : R38_rr_l2 → Out × St
  | .o0 y => (.ret, ({ n := 26, F := [(4, V.p (Value.bool y))], M := [] } : St))
  | .o1 y y_1 y_2 y_3 => (.norm, ({ n := 26, F := [(0, V.sl 1 (rowsOf (encI .u8) y)), (1, V.sl 1 (rowsOf (encI .u8) y_1)), (12, V.p (Value.int .i64 y_2)), (13, V.p (Value.int .i64 y_3))], M := [] } : St))
  | .o2 y y_1 y_2 y_3 y_4 => (.exit 0, ({ n := 26, F := [(0, V.sl 1 (rowsOf (encI .u8) y)), (1, V.sl 1 (rowsOf (encI .u8) y_1)), (12, V.p (Value.int .i64 y_2)), (13, V.p (Value.int .i64 y_3)), (14, V.p (Value.bool y_4))], M := [] } : St))
noncomputable def f38_rr_l2_j2 (k : Nat) (x0 x1 : List Int) (x12 x13 : Int) (x24 : Bool) : Option R38_rr_l2 :=
  some (R38_rr_l2.o1 x0 x1 x12 (IntKind.i64.wrap (x13 + (1 : Int))))
theorem f38_rr_l2_j2_ok (k : Nat) (x0 x1 : List Int) (x12 x13 : Int) (x24 : Bool) (r : R38_rr_l2) (hF : f38_rr_l2_j2 k x0 x1 x12 x13 x24 = some r) : EX 38 k (nav B38 [2, 2, 2, 1, 2, 2, 1, 2, 2]) ({ n := 26, F := [(0, V.sl 1 (rowsOf (encI .u8) x0)), (1, V.sl 1 (rowsOf (encI .u8) x1)), (12, V.p (Value.int .i64 x12)), (13, V.p (Value.int .i64 x13)), (24, V.p (Value.bool x24))], M := [] } : St) = some r.st := by
  unfold f38_rr_l2_j2 at hF
  cases hF
  simp (maxSteps := 999999) (disch := first | exact D (by decide) | exact K (by kernel_rfl)) only [E, EE, ↓reduceIte, simprocAttr, show (nav B38 [2, 2, 2, 1, 2, 2, 1, 2, 2]) = Code.region 8 _ false from rfl, hk_38_8, hz_38_8, hs_38_8, R38_rr_l2.st]
noncomputable def f38_rr_l2_j1 (k : Nat) (x0 x1 : List Int) (x12 x13 : Int) (x14 : Bool) : Option R38_rr_l2 :=
  ifE ((0 : Int) ≤ x13) (
    Option.bind (x0[(Int.toNat x13)]?) fun v2 =>
      Option.bind (x1[(Int.toNat x13)]?) fun v4 =>
        cond ((v2 != v4))
          (some (R38_rr_l2.o0 false))
          (f38_rr_l2_j2 k x0 x1 x12 x13 false))
theorem f38_rr_l2_j1_ok (k : Nat) (x0 x1 : List Int) (x12 x13 : Int) (x14 : Bool) (r : R38_rr_l2) (hF : f38_rr_l2_j1 k x0 x1 x12 x13 x14 = some r) : EX 38 k (nav B38 [2, 2, 1, 2, 2, 1, 2, 2]) ({ n := 26, F := [(0, V.sl 1 (rowsOf (encI .u8) x0)), (1, V.sl 1 (rowsOf (encI .u8) x1)), (12, V.p (Value.int .i64 x12)), (13, V.p (Value.int .i64 x13)), (14, V.p (Value.bool x14))], M := [] } : St) = some r.st := by
  unfold f38_rr_l2_j1 at hF
  replace hF := ifE_some.1 hF
  obtain ⟨h1, hF⟩ := hF
  replace hF := Option.bind_eq_some_iff.1 hF
  obtain ⟨v2, h3, hF⟩ := hF
  replace hF := Option.bind_eq_some_iff.1 hF
  obtain ⟨v4, h5, hF⟩ := hF
  simp (maxSteps := 999999) (disch := first | exact D (by decide) | exact K (by kernel_rfl)) only [E, EE, ↓reduceIte, simprocAttr, xk B38 [2, 2, 1, 2, 2, 1, 2, 2] .sq rfl, xk B38 [1, 2, 2, 1, 2, 2, 1, 2, 2] (.bk 1) rfl, xk B38 [2, 1, 2, 2, 1, 2, 2, 1, 2, 2] .sq rfl, show (nav B38 [1, 2, 1, 2, 2, 1, 2, 2, 1, 2, 2]) = Code.region 5 _ false from rfl, hk_38_5, hz_38_5, hs_38_5, xk B38 [2, 2, 1, 2, 2, 1, 2, 2, 1, 2, 2] .sq rfl, show (nav B38 [1, 2, 2, 1, 2, 2, 1, 2, 2, 1, 2, 2]) = Code.region 6 _ true from rfl, hk_38_6, hz_38_6, hs_38_6, indexAddrV, u_23, i_23, is_23, ib_23, iz_23, u_5, i_5, is_5, ib_5, iz_5, encI_eq, xk B38 [2, 2, 2, 1, 2, 2, 1, 2, 2, 1, 2, 2] (.cd 24) rfl, h1, h3, h5]
  replace hF := cond_some hF
  rcases hF with ⟨h6, hF⟩ | ⟨h6, hF⟩
  · cases hF
    simp (maxSteps := 999999) (disch := first | exact D (by decide) | exact K (by kernel_rfl)) only [E, EE, ↓reduceIte, simprocAttr, xk B38 [2, 2, 2, 2, 1, 2, 2, 1, 2, 2, 1, 2, 2] .sq rfl, show (nav B38 [1, 2, 2, 2, 2, 1, 2, 2, 1, 2, 2, 1, 2, 2]) = Code.region 7 _ false from rfl, hk_38_7, hz_38_7, hs_38_7, xk B38 [2, 2, 2, 2, 2, 1, 2, 2, 1, 2, 2, 1, 2, 2] .rt rfl, R38_rr_l2.st, h1, h3, h5, h6]
  · have hJ := f38_rr_l2_j2_ok k x0 x1 x12 x13 false _ hF
    simp (maxSteps := 999999) (disch := first | exact D (by decide) | exact K (by kernel_rfl)) only [E, EE, ↓reduceIte, simprocAttr, xk B38 [3, 2, 2, 2, 1, 2, 2, 1, 2, 2, 1, 2, 2] .sk rfl, h1, h3, h5, h6]
    try simp only [NM, EE] at hJ
    exact hJ
noncomputable def f38_rr_l2_b (k : Nat) (x0 x1 : List Int) (x12 x13 : Int) : Option R38_rr_l2 :=
  cond ((decide (x13 < x12)))
    (f38_rr_l2_j1 k x0 x1 x12 x13 true)
    (some (R38_rr_l2.o2 x0 x1 x12 x13 false))
theorem f38_rr_l2_b_ok (k : Nat) (x0 x1 : List Int) (x12 x13 : Int) (r : R38_rr_l2) (hF : f38_rr_l2_b k x0 x1 x12 x13 = some r) : EX 38 k (nav B38 [1, 2, 2, 1, 2, 2]) ({ n := 26, F := [(0, V.sl 1 (rowsOf (encI .u8) x0)), (1, V.sl 1 (rowsOf (encI .u8) x1)), (12, V.p (Value.int .i64 x12)), (13, V.p (Value.int .i64 x13))], M := [] } : St) = some r.st := by
  unfold f38_rr_l2_b at hF
  simp (maxSteps := 999999) (disch := first | exact D (by decide) | exact K (by kernel_rfl)) only [E, EE, ↓reduceIte, simprocAttr, xk B38 [1, 2, 2, 1, 2, 2] .sq rfl, show (nav B38 [1, 1, 2, 2, 1, 2, 2]) = Code.region 4 _ false from rfl, hk_38_4, hz_38_4, hs_38_4, xk B38 [2, 1, 2, 2, 1, 2, 2] .sq rfl, xk B38 [1, 2, 1, 2, 2, 1, 2, 2] (.cd 14) rfl]
  replace hF := cond_some hF
  rcases hF with ⟨h1, hF⟩ | ⟨h1, hF⟩
  · have hJ := f38_rr_l2_j1_ok k x0 x1 x12 x13 true _ hF
    simp (maxSteps := 999999) (disch := first | exact D (by decide) | exact K (by kernel_rfl)) only [E, EE, ↓reduceIte, simprocAttr, xk B38 [2, 1, 2, 1, 2, 2, 1, 2, 2] .sk rfl, h1]
    try simp only [NM, EE] at hJ
    exact hJ
  · cases hF
    simp (maxSteps := 999999) (disch := first | exact D (by decide) | exact K (by kernel_rfl)) only [E, EE, ↓reduceIte, simprocAttr, xk B38 [3, 1, 2, 1, 2, 2, 1, 2, 2] (.ex 0) rfl, R38_rr_l2.st, h1]
noncomputable def f38_rr_l2 (k : Nat) : Nat → (List Int) → (List Int) → Int → Int → Option R38_rr_l2
  | 0, _, _, _, _ => none
  | n + 1, x0, x1, x12, x13 => Option.bind (f38_rr_l2_b k x0 x1 x12 x13) fun o =>
    match o with
    | .o0 y => some (.o0 y)
    | .o1 y y_1 y_2 y_3 => f38_rr_l2 k n y y_1 y_2 y_3
    | .o2 y y_1 y_2 y_3 y_4 => some (.o2 y y_1 y_2 y_3 y_4)
theorem f38_rr_l2_ok (k n : Nat) : ∀ (x0 x1 : List Int) (x12 x13 : Int) (r : R38_rr_l2) (hF : f38_rr_l2 k n x0 x1 x12 x13 = some r) (σ : St) (hσ : headR (hints.head 38 4) (hints.canon 38 4) σ = some ({ n := 26, F := [(0, V.sl 1 (rowsOf (encI .u8) x0)), (1, V.sl 1 (rowsOf (encI .u8) x1)), (12, V.p (Value.int .i64 x12)), (13, V.p (Value.int .i64 x13))], M := [] } : St)), LP 38 k (nav B38 [1, 2, 2, 1, 2, 2]) n σ = some r.st := by
  induction n with
  | zero => intro x0 x1 x12 x13 r hF; cases hF
  | succ n ih =>
    intro x0 x1 x12 x13 r hF σ hσ
    rw [f38_rr_l2] at hF
    obtain ⟨o, h, hF⟩ := Option.bind_eq_some_iff.1 hF
    have hB := f38_rr_l2_b_ok k x0 x1 x12 x13 o h
    unfold LP at ih ⊢
    unfold EX at hB
    rw [loopK_succ, show firstReg (nav B38 [1, 2, 2, 1, 2, 2]) = 4 from rfl, hσ, headK_some, hB]
    cases o with
    | o0 y => cases hF; rfl
    | o1 y y_1 y_2 y_3 =>
      refine ih y y_1 y_2 y_3 r hF _ ?_
      simp (maxSteps := 999999) (disch := first | exact D (by decide) | exact K (by kernel_rfl)) only [E, EE, ↓reduceIte, simprocAttr, hh_38_4, hc_38_4]
    | o2 y y_1 y_2 y_3 y_4 => cases hF; rfl
noncomputable def f38_rr_j3 (k : Nat) (x0 x1 : List Int) (x12 x13 : Int) (x14 : Bool) : Option R38_rr :=
  some (R38_rr.o0 true)
theorem f38_rr_j3_ok (k : Nat) (x0 x1 : List Int) (x12 x13 : Int) (x14 : Bool) (r : R38_rr) (hF : f38_rr_j3 k x0 x1 x12 x13 x14 = some r) : finK Try.prog Try.f38 0 (EX 38 k (nav B38 [2, 2, 2]) ({ n := 26, F := [(0, V.sl 1 (rowsOf (encI .u8) x0)), (1, V.sl 1 (rowsOf (encI .u8) x1)), (12, V.p (Value.int .i64 x12)), (13, V.p (Value.int .i64 x13)), (14, V.p (Value.bool x14))], M := [] } : St)) = some r.st := by
  unfold f38_rr_j3 at hF
  cases hF
  simp (maxSteps := 999999) (disch := first | exact D (by decide) | exact K (by kernel_rfl)) only [E, EE, ↓reduceIte, simprocAttr, xk B38 [2, 2, 2] .sq rfl, show (nav B38 [1, 2, 2, 2]) = Code.region 9 _ false from rfl, hk_38_9, hz_38_9, hs_38_9, xk B38 [2, 2, 2, 2] .rt rfl, finK_norm, finK_ret, fin38, R38_rr.st]
noncomputable def f38_rr_j1 (k : Nat) (x0 x1 : List Int) (x10 : Bool) : Option R38_rr :=
  Option.bind (f38_rr_l2 k k x0 x1 ((List.length x0) : Int) 0) fun o1 =>
    match o1 with
    | .o0 v4 =>
      some (R38_rr.o0 v4)
    | .o1 _ _ _ _ =>
      none
    | .o2 v5 v6 v7 v8 v9 =>
      f38_rr_j3 k v5 v6 v7 v8 v9
theorem f38_rr_j1_ok (k : Nat) (x0 x1 : List Int) (x10 : Bool) (r : R38_rr) (hF : f38_rr_j1 k x0 x1 x10 = some r) : finK Try.prog Try.f38 0 (EX 38 k (nav B38 [2, 2]) ({ n := 26, F := [(0, V.sl 1 (rowsOf (encI .u8) x0)), (1, V.sl 1 (rowsOf (encI .u8) x1)), (10, V.p (Value.bool x10))], M := [] } : St)) = some r.st := by
  unfold f38_rr_j1 at hF
  replace hF := Option.bind_eq_some_iff.1 hF
  obtain ⟨o1, h2, hF⟩ := hF
  have hc3 := f38_rr_l2_ok k k x0 x1 ((List.length x0) : Int) 0 _ h2
  simp (maxSteps := 999999) (disch := first | exact D (by decide) | exact K (by kernel_rfl)) only [E, EE, ↓reduceIte, simprocAttr, xk B38 [2, 2] .sq rfl, xk B38 [1, 2, 2] .sq rfl, show (nav B38 [1, 1, 2, 2]) = Code.region 3 _ false from rfl, hk_38_3, hz_38_3, hs_38_3, u_23, i_23, is_23, ib_23, iz_23, xk B38 [2, 1, 2, 2] (.bk 0) rfl, xk B38 [2, 2, 1, 2, 2] .lp rfl, hh_38_4, hc_38_4]
  (try simp only [NM, EE] at hc3)
  rw [hc3 _ (by simp (maxSteps := 999999) (disch := first | exact D (by decide) | exact K (by kernel_rfl)) only [E, EE, ↓reduceIte, simprocAttr, hh_38_4, hc_38_4])]
  clear hc3
  cases o1 with
  | o0 v4 =>
    (try dsimp only at hF)
    cases hF
    simp (maxSteps := 999999) (disch := first | exact D (by decide) | exact K (by kernel_rfl)) only [E, EE, ↓reduceIte, simprocAttr, R38_rr_l2.st, finK_norm, finK_ret, fin38, R38_rr.st]
  | o1 _ _ _ _ =>
    (try dsimp only at hF)
    cases hF
  | o2 v5 v6 v7 v8 v9 =>
    (try dsimp only at hF)
    have hJ := f38_rr_j3_ok k v5 v6 v7 v8 v9 _ hF
    simp (maxSteps := 999999) (disch := first | exact D (by decide) | exact K (by kernel_rfl)) only [E, EE, ↓reduceIte, simprocAttr, R38_rr_l2.st]
    try simp only [NM, EE] at hJ
    exact hJ
noncomputable def f38_rr_e (k : Nat) (a0 a1 : List Int) : Option R38_rr :=
  cond ((((List.length a0) : Int) != ((List.length a1) : Int)))
    (some (R38_rr.o0 false))
    (f38_rr_j1 k a0 a1 false)
theorem f38_rr_e_ok (k : Nat) (a0 a1 : List Int) (r : R38_rr) (hF : f38_rr_e k a0 a1 = some r) : finK Try.prog Try.f38 0 (EX 38 k (nav B38 []) ({ n := 26, F := [(0, V.sl 1 (rowsOf (encI .u8) a0)), (1, V.sl 1 (rowsOf (encI .u8) a1))], M := [] } : St)) = some r.st := by
  unfold f38_rr_e at hF
  simp (maxSteps := 999999) (disch := first | exact D (by decide) | exact K (by kernel_rfl)) only [E, EE, ↓reduceIte, simprocAttr, xk B38 [] .sq rfl, show (nav B38 [1]) = Code.region 0 _ false from rfl, hk_38_0, hz_38_0, hs_38_0, xk B38 [2] .sq rfl, xk B38 [1, 2] .sq rfl, show (nav B38 [1, 1, 2]) = Code.region 1 _ false from rfl, hk_38_1, hz_38_1, hs_38_1, u_23, i_23, is_23, ib_23, iz_23, xk B38 [2, 1, 2] (.cd 10) rfl]
  replace hF := cond_some hF
  rcases hF with ⟨h1, hF⟩ | ⟨h1, hF⟩
  · cases hF
    simp (maxSteps := 999999) (disch := first | exact D (by decide) | exact K (by kernel_rfl)) only [E, EE, ↓reduceIte, simprocAttr, xk B38 [2, 2, 1, 2] .sq rfl, show (nav B38 [1, 2, 2, 1, 2]) = Code.region 2 _ false from rfl, hk_38_2, hz_38_2, hs_38_2, xk B38 [2, 2, 2, 1, 2] .rt rfl, finK_norm, finK_ret, fin38, R38_rr.st, h1]
  · have hJ := f38_rr_j1_ok k a0 a1 false _ hF
    simp (maxSteps := 999999) (disch := first | exact D (by decide) | exact K (by kernel_rfl)) only [E, EE, ↓reduceIte, simprocAttr, xk B38 [3, 2, 1, 2] .sk rfl, h1]
    try simp only [NM, EE] at hJ
    exact hJ
noncomputable def f38_rr (k : Nat) (a0 a1 : List Int) : Option R38_rr := match k with | 0 => none | k + 1 => f38_rr_e k a0 a1
theorem f38_rr_ok (k : Nat) (a0 a1 : List Int) (r : R38_rr) (hF : f38_rr k a0 a1 = some r) : CV k 38 [V.sl 1 (rowsOf (encI .u8) a0), V.sl 1 (rowsOf (encI .u8) a1)] [] = some r.st := by
  cases k with
  | zero => cases hF
  | succ k =>
    unfold CV
    rw [ev_call (F := Try.f38) (c := (nav B38 [])) rfl Try.func38 rfl rfl rfl rfl]
    exact f38_rr_e_ok k a0 a1 r hF
-- f33_rr: f33 heliograph/octet.Equal
inductive R33_rr where
  | o0 (y : Bool)
noncomputable def R33_rr.st : R33_rr → V × List O × List O
  | .o0 y => (V.p (Value.bool y), [], [])
noncomputable def f33_rr_e (k : Nat) (a0 a1 : List Int) : Option R33_rr :=
  Option.bind (f38_rr k a0 a1) fun o1 =>
    match o1 with
    | .o0 v4 =>
      some (R33_rr.o0 v4)
theorem f33_rr_e_ok (k : Nat) (a0 a1 : List Int) (r : R33_rr) (hF : f33_rr_e k a0 a1 = some r) : finK Try.prog Try.f33 0 (EX 33 k (nav B33 []) ({ n := 8, F := [(0, V.sl 1 (rowsOf (encI .u8) a0)), (1, V.sl 1 (rowsOf (encI .u8) a1))], M := [] } : St)) = some r.st := by
  unfold f33_rr_e at hF
  replace hF := Option.bind_eq_some_iff.1 hF
  obtain ⟨o1, h2, hF⟩ := hF
  have hc3 := f38_rr_ok k a0 a1 _ h2
  cases o1 with
  | o0 v4 =>
    (try dsimp only at hF)
    (try simp only [NM, EE, R38_rr.st] at hc3)
    cases hF
    simp (maxSteps := 999999) (disch := first | exact D (by decide) | exact K (by kernel_rfl)) only [E, EE, ↓reduceIte, simprocAttr, xk B33 [] .sq rfl, show (nav B33 [1]) = Code.region 0 _ false from rfl, hk_33_0, hz_33_0, hs_33_0, xk B33 [2] .sq rfl, show (nav B33 [1, 2]) = Code.region 1 _ false from rfl, hk_33_1, hz_33_1, hs_33_1, callStep, CL, gv, List.contains, xk B33 [2, 2] .rt rfl, finK_norm, finK_ret, fin33, R33_rr.st, hc3]
noncomputable def f33_rr (k : Nat) (a0 a1 : List Int) : Option R33_rr := match k with | 0 => none | k + 1 => f33_rr_e k a0 a1
theorem f33_rr_ok (k : Nat) (a0 a1 : List Int) (r : R33_rr) (hF : f33_rr k a0 a1 = some r) : CV k 33 [V.sl 1 (rowsOf (encI .u8) a0), V.sl 1 (rowsOf (encI .u8) a1)] [] = some r.st := by
  cases k with
  | zero => cases hF
  | succ k =>
    unfold CV
    rw [ev_call (F := Try.f33) (c := (nav B33 [])) rfl Try.func33 rfl rfl rfl rfl]
    exact f33_rr_e_ok k a0 a1 r hF
-- f39_ai10rz: f39 heliograph/bundle.same$1
inductive R39_ai10rz where
  | o0 (y y_1 y_2 y_3 y_4 y_5 y_6 y_7 y_8 y_9 : Int)
noncomputable def R39_ai10rz.st : R39_ai10rz → V × List O × List O
  | .o0 y y_1 y_2 y_3 y_4 y_5 y_6 y_7 y_8 y_9 => (V.agg [V.p (Value.int .i64 y), V.p (Value.int .i64 y_1), V.p (Value.int .i64 y_2), V.p (Value.int .i64 y_3), V.p (Value.int .i64 y_4), V.p (Value.int .i64 y_5), V.p (Value.int .i64 y_6), V.p (Value.int .i64 y_7), V.p (Value.int .i64 y_8), V.p (Value.int .u32 y_9)], [], [])
noncomputable def f39_ai10rz_e (k : Nat) (a0 a0_1 a0_2 a0_3 a0_4 a0_5 a0_6 a0_7 a0_8 a0_9 : Int) (a0_10 : List Int) : Option R39_ai10rz :=
  some (R39_ai10rz.o0 a0 a0_1 a0_3 a0_4 a0_5 a0_6 a0_7 a0_8 a0_9 a0_2)
theorem f39_ai10rz_e_ok (k : Nat) (a0 a0_1 a0_2 a0_3 a0_4 a0_5 a0_6 a0_7 a0_8 a0_9 : Int) (a0_10 : List Int) (r : R39_ai10rz) (hF : f39_ai10rz_e k a0 a0_1 a0_2 a0_3 a0_4 a0_5 a0_6 a0_7 a0_8 a0_9 a0_10 = some r) : finK Try.prog Try.f39 0 (EX 39 k (nav B39 []) ({ n := 24, F := [(0, V.agg [V.p (Value.int .i64 a0), V.p (Value.int .i64 a0_1), V.p (Value.int .u32 a0_2), V.p (Value.int .i64 a0_3), V.p (Value.int .i64 a0_4), V.p (Value.int .i64 a0_5), V.p (Value.int .i64 a0_6), V.p (Value.int .i64 a0_7), V.p (Value.int .i64 a0_8), V.p (Value.int .i64 a0_9), V.sl 1 (rowsOf (encI .u8) a0_10)])], M := [] } : St)) = some r.st := by
  unfold f39_ai10rz_e at hF
  cases hF
  simp (maxSteps := 999999) (disch := first | exact D (by decide) | exact K (by kernel_rfl)) only [E, EE, ↓reduceIte, simprocAttr, xk B39 [] .sq rfl, show (nav B39 [1]) = Code.region 0 _ false from rfl, hk_39_0, hz_39_0, hs_39_0, u_69, i_69, is_69, ib_69, iz_69, xk B39 [2] .sq rfl, show (nav B39 [1, 2]) = Code.region 1 _ false from rfl, hk_39_1, hz_39_1, hs_39_1, fieldAddrV, u_25, i_25, is_25, ib_25, iz_25, u_3, i_3, is_3, ib_3, iz_3, u_22, i_22, is_22, ib_22, iz_22, bl_69, xk B39 [2, 2] .rt rfl, finK_norm, finK_ret, fin39, R39_ai10rz.st]
noncomputable def f39_ai10rz (k : Nat) (a0 a0_1 a0_2 a0_3 a0_4 a0_5 a0_6 a0_7 a0_8 a0_9 : Int) (a0_10 : List Int) : Option R39_ai10rz := match k with | 0 => none | k + 1 => f39_ai10rz_e k a0 a0_1 a0_2 a0_3 a0_4 a0_5 a0_6 a0_7 a0_8 a0_9 a0_10
theorem f39_ai10rz_ok (k : Nat) (a0 a0_1 a0_2 a0_3 a0_4 a0_5 a0_6 a0_7 a0_8 a0_9 : Int) (a0_10 : List Int) (r : R39_ai10rz) (hF : f39_ai10rz k a0 a0_1 a0_2 a0_3 a0_4 a0_5 a0_6 a0_7 a0_8 a0_9 a0_10 = some r) : CV k 39 [V.agg [V.p (Value.int .i64 a0), V.p (Value.int .i64 a0_1), V.p (Value.int .u32 a0_2), V.p (Value.int .i64 a0_3), V.p (Value.int .i64 a0_4), V.p (Value.int .i64 a0_5), V.p (Value.int .i64 a0_6), V.p (Value.int .i64 a0_7), V.p (Value.int .i64 a0_8), V.p (Value.int .i64 a0_9), V.sl 1 (rowsOf (encI .u8) a0_10)]] [] = some r.st := by
  cases k with
  | zero => cases hF
  | succ k =>
    unfold CV
    rw [ev_call (F := Try.f39) (c := (nav B39 [])) rfl Try.func39 rfl rfl rfl rfl]
    exact f39_ai10rz_e_ok k a0 a0_1 a0_2 a0_3 a0_4 a0_5 a0_6 a0_7 a0_8 a0_9 a0_10 r hF
-- f34_ai10rzai10rz: f34 heliograph/bundle.same
inductive R34_ai10rzai10rz where
  | o0 (y : Bool)
noncomputable def R34_ai10rzai10rz.st : R34_ai10rzai10rz → V × List O × List O
  | .o0 y => (V.p (Value.bool y), [], [])
noncomputable def f34_ai10rzai10rz_e (k : Nat) (a0 a0_1 a0_2 a0_3 a0_4 a0_5 a0_6 a0_7 a0_8 a0_9 : Int) (a0_10 : List Int) (a1 a1_1 a1_2 a1_3 a1_4 a1_5 a1_6 a1_7 a1_8 a1_9 : Int) (a1_10 : List Int) : Option R34_ai10rzai10rz :=
  Option.bind (f39_ai10rz k a0 a0_1 a0_2 a0_3 a0_4 a0_5 a0_6 a0_7 a0_8 a0_9 a0_10) fun o1 =>
    match o1 with
    | .o0 v4 v5 v6 v7 v8 v9 v10 v11 v12 v13 =>
      Option.bind (f39_ai10rz k a1 a1_1 a1_2 a1_3 a1_4 a1_5 a1_6 a1_7 a1_8 a1_9 a1_10) fun o14 =>
        match o14 with
        | .o0 v17 v18 v19 v20 v21 v22 v23 v24 v25 v26 =>
          some (R34_ai10rzai10rz.o0 (((v4 == v17) && ((v5 == v18) && ((v6 == v19) && ((v7 == v20) && ((v8 == v21) && ((v9 == v22) && ((v10 == v23) && ((v11 == v24) && ((v12 == v25) && (v13 == v26))))))))))))
theorem f34_ai10rzai10rz_e_ok (k : Nat) (a0 a0_1 a0_2 a0_3 a0_4 a0_5 a0_6 a0_7 a0_8 a0_9 : Int) (a0_10 : List Int) (a1 a1_1 a1_2 a1_3 a1_4 a1_5 a1_6 a1_7 a1_8 a1_9 : Int) (a1_10 : List Int) (r : R34_ai10rzai10rz) (hF : f34_ai10rzai10rz_e k a0 a0_1 a0_2 a0_3 a0_4 a0_5 a0_6 a0_7 a0_8 a0_9 a0_10 a1 a1_1 a1_2 a1_3 a1_4 a1_5 a1_6 a1_7 a1_8 a1_9 a1_10 = some r) : finK Try.prog Try.f34 0 (EX 34 k (nav B34 []) ({ n := 13, F := [(0, V.agg [V.p (Value.int .i64 a0), V.p (Value.int .i64 a0_1), V.p (Value.int .u32 a0_2), V.p (Value.int .i64 a0_3), V.p (Value.int .i64 a0_4), V.p (Value.int .i64 a0_5), V.p (Value.int .i64 a0_6), V.p (Value.int .i64 a0_7), V.p (Value.int .i64 a0_8), V.p (Value.int .i64 a0_9), V.sl 1 (rowsOf (encI .u8) a0_10)]), (1, V.agg [V.p (Value.int .i64 a1), V.p (Value.int .i64 a1_1), V.p (Value.int .u32 a1_2), V.p (Value.int .i64 a1_3), V.p (Value.int .i64 a1_4), V.p (Value.int .i64 a1_5), V.p (Value.int .i64 a1_6), V.p (Value.int .i64 a1_7), V.p (Value.int .i64 a1_8), V.p (Value.int .i64 a1_9), V.sl 1 (rowsOf (encI .u8) a1_10)])], M := [] } : St)) = some r.st := by
  unfold f34_ai10rzai10rz_e at hF
  replace hF := Option.bind_eq_some_iff.1 hF
  obtain ⟨o1, h2, hF⟩ := hF
  have hc3 := f39_ai10rz_ok k a0 a0_1 a0_2 a0_3 a0_4 a0_5 a0_6 a0_7 a0_8 a0_9 a0_10 _ h2
  cases o1 with
  | o0 v4 v5 v6 v7 v8 v9 v10 v11 v12 v13 =>
    (try dsimp only at hF)
    (try simp only [NM, EE, R39_ai10rz.st] at hc3)
    replace hF := Option.bind_eq_some_iff.1 hF
    obtain ⟨o14, h15, hF⟩ := hF
    have hc16 := f39_ai10rz_ok k a1 a1_1 a1_2 a1_3 a1_4 a1_5 a1_6 a1_7 a1_8 a1_9 a1_10 _ h15
    cases o14 with
    | o0 v17 v18 v19 v20 v21 v22 v23 v24 v25 v26 =>
      (try dsimp only at hF)
      (try simp only [NM, EE, R39_ai10rz.st] at hc16)
      cases hF
      simp (maxSteps := 999999) (disch := first | exact D (by decide) | exact K (by kernel_rfl)) only [E, EE, ↓reduceIte, simprocAttr, xk B34 [] .sq rfl, show (nav B34 [1]) = Code.region 0 _ false from rfl, hk_34_0, hz_34_0, hs_34_0, xk B34 [2] .sq rfl, show (nav B34 [1, 2]) = Code.region 1 _ false from rfl, hk_34_1, hz_34_1, hs_34_1, xk B34 [2, 2] .sq rfl, show (nav B34 [1, 2, 2]) = Code.region 2 _ true from rfl, hk_34_2, hz_34_2, hs_34_2, u_25, i_25, is_25, ib_25, iz_25, callStep, CL, gv, List.contains, u_69, i_69, is_69, ib_69, iz_69, ag_69, u_3, i_3, is_3, ib_3, iz_3, u_22, i_22, is_22, ib_22, iz_22, xk B34 [2, 2, 2] .rt rfl, finK_norm, finK_ret, fin34, R34_ai10rzai10rz.st, hc3, hc16]
noncomputable def f34_ai10rzai10rz (k : Nat) (a0 a0_1 a0_2 a0_3 a0_4 a0_5 a0_6 a0_7 a0_8 a0_9 : Int) (a0_10 : List Int) (a1 a1_1 a1_2 a1_3 a1_4 a1_5 a1_6 a1_7 a1_8 a1_9 : Int) (a1_10 : List Int) : Option R34_ai10rzai10rz := match k with | 0 => none | k + 1 => f34_ai10rzai10rz_e k a0 a0_1 a0_2 a0_3 a0_4 a0_5 a0_6 a0_7 a0_8 a0_9 a0_10 a1 a1_1 a1_2 a1_3 a1_4 a1_5 a1_6 a1_7 a1_8 a1_9 a1_10
theorem f34_ai10rzai10rz_ok (k : Nat) (a0 a0_1 a0_2 a0_3 a0_4 a0_5 a0_6 a0_7 a0_8 a0_9 : Int) (a0_10 : List Int) (a1 a1_1 a1_2 a1_3 a1_4 a1_5 a1_6 a1_7 a1_8 a1_9 : Int) (a1_10 : List Int) (r : R34_ai10rzai10rz) (hF : f34_ai10rzai10rz k a0 a0_1 a0_2 a0_3 a0_4 a0_5 a0_6 a0_7 a0_8 a0_9 a0_10 a1 a1_1 a1_2 a1_3 a1_4 a1_5 a1_6 a1_7 a1_8 a1_9 a1_10 = some r) : CV k 34 [V.agg [V.p (Value.int .i64 a0), V.p (Value.int .i64 a0_1), V.p (Value.int .u32 a0_2), V.p (Value.int .i64 a0_3), V.p (Value.int .i64 a0_4), V.p (Value.int .i64 a0_5), V.p (Value.int .i64 a0_6), V.p (Value.int .i64 a0_7), V.p (Value.int .i64 a0_8), V.p (Value.int .i64 a0_9), V.sl 1 (rowsOf (encI .u8) a0_10)], V.agg [V.p (Value.int .i64 a1), V.p (Value.int .i64 a1_1), V.p (Value.int .u32 a1_2), V.p (Value.int .i64 a1_3), V.p (Value.int .i64 a1_4), V.p (Value.int .i64 a1_5), V.p (Value.int .i64 a1_6), V.p (Value.int .i64 a1_7), V.p (Value.int .i64 a1_8), V.p (Value.int .i64 a1_9), V.sl 1 (rowsOf (encI .u8) a1_10)]] [] = some r.st := by
  cases k with
  | zero => cases hF
  | succ k =>
    unfold CV
    rw [ev_call (F := Try.f34) (c := (nav B34 [])) rfl Try.func34 rfl rfl rfl rfl]
    exact f34_ai10rzai10rz_e_ok k a0 a0_1 a0_2 a0_3 a0_4 a0_5 a0_6 a0_7 a0_8 a0_9 a0_10 a1 a1_1 a1_2 a1_3 a1_4 a1_5 a1_6 a1_7 a1_8 a1_9 a1_10 r hF
-- f20_ai10rzai10rz: f20 heliograph/bundle.Same
inductive R20_ai10rzai10rz where
  | o0 (y : Bool)
noncomputable def R20_ai10rzai10rz.st : R20_ai10rzai10rz → V × List O × List O
  | .o0 y => (V.p (Value.bool y), [], [])
noncomputable def f20_ai10rzai10rz_e (k : Nat) (a0 a0_1 a0_2 a0_3 a0_4 a0_5 a0_6 a0_7 a0_8 a0_9 : Int) (a0_10 : List Int) (a1 a1_1 a1_2 a1_3 a1_4 a1_5 a1_6 a1_7 a1_8 a1_9 : Int) (a1_10 : List Int) : Option R20_ai10rzai10rz :=
  Option.bind (f33_rr k a0_10 a1_10) fun o1 =>
    match o1 with
    | .o0 v4 =>
      cond (v4)
        (
          Option.bind (f34_ai10rzai10rz k a0 a0_1 a0_2 a0_3 a0_4 a0_5 a0_6 a0_7 a0_8 a0_9 [] a1 a1_1 a1_2 a1_3 a1_4 a1_5 a1_6 a1_7 a1_8 a1_9 []) fun o6 =>
            match o6 with
            | .o0 v9 =>
              some (R20_ai10rzai10rz.o0 v9))
        (some (R20_ai10rzai10rz.o0 false))
theorem f20_ai10rzai10rz_e_ok (k : Nat) (a0 a0_1 a0_2 a0_3 a0_4 a0_5 a0_6 a0_7 a0_8 a0_9 : Int) (a0_10 : List Int) (a1 a1_1 a1_2 a1_3 a1_4 a1_5 a1_6 a1_7 a1_8 a1_9 : Int) (a1_10 : List Int) (r : R20_ai10rzai10rz) (hF : f20_ai10rzai10rz_e k a0 a0_1 a0_2 a0_3 a0_4 a0_5 a0_6 a0_7 a0_8 a0_9 a0_10 a1 a1_1 a1_2 a1_3 a1_4 a1_5 a1_6 a1_7 a1_8 a1_9 a1_10 = some r) : finK Try.prog Try.f20 0 (EX 20 k (nav B20 []) ({ n := 21, F := [(0, V.agg [V.p (Value.int .i64 a0), V.p (Value.int .i64 a0_1), V.p (Value.int .u32 a0_2), V.p (Value.int .i64 a0_3), V.p (Value.int .i64 a0_4), V.p (Value.int .i64 a0_5), V.p (Value.int .i64 a0_6), V.p (Value.int .i64 a0_7), V.p (Value.int .i64 a0_8), V.p (Value.int .i64 a0_9), V.sl 1 (rowsOf (encI .u8) a0_10)]), (1, V.agg [V.p (Value.int .i64 a1), V.p (Value.int .i64 a1_1), V.p (Value.int .u32 a1_2), V.p (Value.int .i64 a1_3), V.p (Value.int .i64 a1_4), V.p (Value.int .i64 a1_5), V.p (Value.int .i64 a1_6), V.p (Value.int .i64 a1_7), V.p (Value.int .i64 a1_8), V.p (Value.int .i64 a1_9), V.sl 1 (rowsOf (encI .u8) a1_10)])], M := [] } : St)) = some r.st := by
  unfold f20_ai10rzai10rz_e at hF
  replace hF := Option.bind_eq_some_iff.1 hF
  obtain ⟨o1, h2, hF⟩ := hF
  have hc3 := f33_rr_ok k a0_10 a1_10 _ h2
  cases o1 with
  | o0 v4 =>
    (try dsimp only at hF)
    (try simp only [NM, EE, R33_rr.st] at hc3)
    simp (maxSteps := 999999) (disch := first | exact D (by decide) | exact K (by kernel_rfl)) only [E, EE, ↓reduceIte, simprocAttr, xk B20 [] .sq rfl, show (nav B20 [1]) = Code.region 0 _ false from rfl, hk_20_0, hz_20_0, hs_20_0, xk B20 [2] .sq rfl, show (nav B20 [1, 2]) = Code.region 1 _ true from rfl, hk_20_1, hz_20_1, hs_20_1, u_25, i_25, is_25, ib_25, iz_25, xk B20 [2, 2] .sq rfl, show (nav B20 [1, 2, 2]) = Code.region 2 _ false from rfl, hk_20_2, hz_20_2, hs_20_2, fieldAddrV, u_23, i_23, is_23, ib_23, iz_23, xk B20 [2, 2, 2] .sq rfl, show (nav B20 [1, 2, 2, 2]) = Code.region 3 _ false from rfl, hk_20_3, hz_20_3, hs_20_3, callStep, CL, gv, List.contains, hc3]
    replace hF := cond_some hF
    rcases hF with ⟨h5, hF⟩ | ⟨h5, hF⟩
    · replace hF := Option.bind_eq_some_iff.1 hF
      obtain ⟨o6, h7, hF⟩ := hF
      have hc8 := f34_ai10rzai10rz_ok k a0 a0_1 a0_2 a0_3 a0_4 a0_5 a0_6 a0_7 a0_8 a0_9 [] a1 a1_1 a1_2 a1_3 a1_4 a1_5 a1_6 a1_7 a1_8 a1_9 [] _ h7
      cases o6 with
      | o0 v9 =>
        (try dsimp only at hF)
        (try simp only [NM, EE, R34_ai10rzai10rz.st] at hc8)
        cases hF
        simp (maxSteps := 999999) (disch := first | exact D (by decide) | exact K (by kernel_rfl)) only [E, EE, ↓reduceIte, simprocAttr, u_25, i_25, is_25, ib_25, iz_25, callStep, CL, gv, List.contains, xk B20 [2, 2, 2, 2] .rt rfl, finK_norm, finK_ret, fin20, R20_ai10rzai10rz.st, hc3, h5, hc8]
    · cases hF
      simp (maxSteps := 999999) (disch := first | exact D (by decide) | exact K (by kernel_rfl)) only [E, EE, ↓reduceIte, simprocAttr, xk B20 [2, 2, 2, 2] .rt rfl, finK_norm, finK_ret, fin20, R20_ai10rzai10rz.st, hc3, h5]
noncomputable def f20_ai10rzai10rz (k : Nat) (a0 a0_1 a0_2 a0_3 a0_4 a0_5 a0_6 a0_7 a0_8 a0_9 : Int) (a0_10 : List Int) (a1 a1_1 a1_2 a1_3 a1_4 a1_5 a1_6 a1_7 a1_8 a1_9 : Int) (a1_10 : List Int) : Option R20_ai10rzai10rz := match k with | 0 => none | k + 1 => f20_ai10rzai10rz_e k a0 a0_1 a0_2 a0_3 a0_4 a0_5 a0_6 a0_7 a0_8 a0_9 a0_10 a1 a1_1 a1_2 a1_3 a1_4 a1_5 a1_6 a1_7 a1_8 a1_9 a1_10
theorem f20_ai10rzai10rz_ok (k : Nat) (a0 a0_1 a0_2 a0_3 a0_4 a0_5 a0_6 a0_7 a0_8 a0_9 : Int) (a0_10 : List Int) (a1 a1_1 a1_2 a1_3 a1_4 a1_5 a1_6 a1_7 a1_8 a1_9 : Int) (a1_10 : List Int) (r : R20_ai10rzai10rz) (hF : f20_ai10rzai10rz k a0 a0_1 a0_2 a0_3 a0_4 a0_5 a0_6 a0_7 a0_8 a0_9 a0_10 a1 a1_1 a1_2 a1_3 a1_4 a1_5 a1_6 a1_7 a1_8 a1_9 a1_10 = some r) : CV k 20 [V.agg [V.p (Value.int .i64 a0), V.p (Value.int .i64 a0_1), V.p (Value.int .u32 a0_2), V.p (Value.int .i64 a0_3), V.p (Value.int .i64 a0_4), V.p (Value.int .i64 a0_5), V.p (Value.int .i64 a0_6), V.p (Value.int .i64 a0_7), V.p (Value.int .i64 a0_8), V.p (Value.int .i64 a0_9), V.sl 1 (rowsOf (encI .u8) a0_10)], V.agg [V.p (Value.int .i64 a1), V.p (Value.int .i64 a1_1), V.p (Value.int .u32 a1_2), V.p (Value.int .i64 a1_3), V.p (Value.int .i64 a1_4), V.p (Value.int .i64 a1_5), V.p (Value.int .i64 a1_6), V.p (Value.int .i64 a1_7), V.p (Value.int .i64 a1_8), V.p (Value.int .i64 a1_9), V.sl 1 (rowsOf (encI .u8) a1_10)]] [] = some r.st := by
  cases k with
  | zero => cases hF
  | succ k =>
    unfold CV
    rw [ev_call (F := Try.f20) (c := (nav B20 [])) rfl Try.func20 rfl rfl rfl rfl]
    exact f20_ai10rzai10rz_e_ok k a0 a0_1 a0_2 a0_3 a0_4 a0_5 a0_6 a0_7 a0_8 a0_9 a0_10 a1 a1_1 a1_2 a1_3 a1_4 a1_5 a1_6 a1_7 a1_8 a1_9 a1_10 r hF
-- f30_rr: f30 bytes.Equal
inductive R30_rr where
  | o0 (y : Bool)
noncomputable def R30_rr.st : R30_rr → V × List O × List O
  | .o0 y => (V.p (Value.bool y), [], [])
noncomputable def f30_rr_e (k : Nat) (a0 a1 : List Int) : Option R30_rr :=
  some (R30_rr.o0 (((strOf a0).toList == (strOf a1).toList)))
theorem f30_rr_e_ok (k : Nat) (a0 a1 : List Int) (r : R30_rr) (hF : f30_rr_e k a0 a1 = some r) : finK Try.prog Try.f30 0 (EX 30 k (nav B30 []) ({ n := 10, F := [(0, V.sl 1 (rowsOf (encI .u8) a0)), (1, V.sl 1 (rowsOf (encI .u8) a1))], M := [] } : St)) = some r.st := by
  unfold f30_rr_e at hF
  cases hF
  simp (maxSteps := 999999) (disch := first | exact D (by decide) | exact K (by kernel_rfl)) only [E, EE, ↓reduceIte, simprocAttr, xk B30 [] .sq rfl, show (nav B30 [1]) = Code.region 0 _ false from rfl, hk_30_0, hz_30_0, hs_30_0, xk B30 [2] .sq rfl, show (nav B30 [1, 2]) = Code.region 1 _ false from rfl, hk_30_1, hz_30_1, hs_30_1, u_23, i_23, is_23, ib_23, iz_23, u_9, i_9, is_9, ib_9, iz_9, strV, content, strRows_map, u_5, i_5, is_5, ib_5, iz_5, xk B30 [2, 2] .rt rfl, finK_norm, finK_ret, fin30, R30_rr.st]
noncomputable def f30_rr (k : Nat) (a0 a1 : List Int) : Option R30_rr := match k with | 0 => none | k + 1 => f30_rr_e k a0 a1
theorem f30_rr_ok (k : Nat) (a0 a1 : List Int) (r : R30_rr) (hF : f30_rr k a0 a1 = some r) : CV k 30 [V.sl 1 (rowsOf (encI .u8) a0), V.sl 1 (rowsOf (encI .u8) a1)] [] = some r.st := by
  cases k with
  | zero => cases hF
  | succ k =>
    unfold CV
    rw [ev_call (F := Try.f30) (c := (nav B30 [])) rfl Try.func30 rfl rfl rfl rfl]
    exact f30_rr_e_ok k a0 a1 r hF
end Go.Proofs.YteggcokgkcfliaaV
