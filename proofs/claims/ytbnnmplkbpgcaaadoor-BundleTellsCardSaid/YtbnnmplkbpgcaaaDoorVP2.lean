/- What the program's functions answer: plain functions, and that the interpreter answers what they do. Written by a program of this session, out of the translation. -/
import Derived.Test.YtbnnmplkbpgcaaaDoorVP1
namespace Go.Proofs.YtbnnmplkbpgcaaaDoorV
open Go
set_option linter.unusedVariables false
set_option linter.unusedSimpArgs false
set_option maxRecDepth 8000
set_option maxHeartbeats 4000000
-- f16_ai10rz: f16 heliograph/bundle.Check
inductive R16_ai10rz where
  | o0 (y : Int)
noncomputable def R16_ai10rz.st : R16_ai10rz → V × List O × List O
  | .o0 y => (V.p (Value.int .i64 y), [], [])
noncomputable def f16_ai10rz_j1 (k : Nat) (x72 : Bool) : Option R16_ai10rz :=
  some (R16_ai10rz.o0 0)
theorem f16_ai10rz_j1_ok (k : Nat) (x72 : Bool) (r : R16_ai10rz) (hF : f16_ai10rz_j1 k x72 = some r) : finK Tryd.prog Tryd.f16 0 (EX 16 k (nav B16 [2, 2, 2, 2, 2, 2]) ({ n := 73, F := [(72, V.p (Value.bool x72))], M := [] } : St)) = some r.st := by
  unfold f16_ai10rz_j1 at hF
  cases hF
  simp (maxSteps := 999999) (disch := first | exact D (by decide) | exact K (by kernel_rfl)) only [E, EE, ↓reduceIte, simprocAttr, xk B16 [2, 2, 2, 2, 2, 2] .sq rfl, show (nav B16 [1, 2, 2, 2, 2, 2, 2]) = Code.region 7 _ false from rfl, hk_16_7, hz_16_7, hs_16_7, xk B16 [2, 2, 2, 2, 2, 2, 2] .rt rfl, finK_norm, finK_ret, fin16, R16_ai10rz.st]
noncomputable def f16_ai10rz_e (k : Nat) (a0 a0_1 a0_2 a0_3 a0_4 a0_5 a0_6 a0_7 a0_8 a0_9 : Int) (a0_10 : List Int) : Option R16_ai10rz :=
  Option.bind (f38_iii k a0 1 6) fun o1 =>
    match o1 with
    | .o0 v4 =>
      cond (v4)
        (
          Option.bind (f38_iii k a0_1 1 6) fun o6 =>
            match o6 with
            | .o0 v9 =>
              cond (v9)
                (
                  cond ((decide (a0_2 > 0)))
                    (
                      Option.bind (f38_iii k a0_3 0 1048576) fun o12 =>
                        match o12 with
                        | .o0 v15 =>
                          cond (v15)
                            (
                              Option.bind (f38_iii k a0_4 1 1048576) fun o17 =>
                                match o17 with
                                | .o0 v20 =>
                                  cond (v20)
                                    (
                                      Option.bind (f38_iii k a0_5 1 16) fun o22 =>
                                        match o22 with
                                        | .o0 v25 =>
                                          cond (v25)
                                            (
                                              Option.bind (f38_iii k a0_6 0 a0_5) fun o27 =>
                                                match o27 with
                                                | .o0 v30 =>
                                                  cond (v30)
                                                    (
                                                      Option.bind (f38_iii k a0_7 0 2) fun o32 =>
                                                        match o32 with
                                                        | .o0 v35 =>
                                                          cond (v35)
                                                            (
                                                              Option.bind (f38_iii k a0_9 1 400) fun o37 =>
                                                                match o37 with
                                                                | .o0 v40 =>
                                                                  cond (v40)
                                                                    (
                                                                      Option.bind (f38_iii k ((List.length a0_10) : Int) 1 a0_9) fun o42 =>
                                                                        match o42 with
                                                                        | .o0 v45 =>
                                                                          cond (v45)
                                                                            (
                                                                              Option.bind (f38_iii k a0_8 0 (IntKind.i64.wrap (a0_9 - ((List.length a0_10) : Int)))) fun o47 =>
                                                                                match o47 with
                                                                                | .o0 v50 =>
                                                                                  cond ((!v50))
                                                                                    (some (R16_ai10rz.o0 190))
                                                                                    (f16_ai10rz_j1 k false))
                                                                            (some (R16_ai10rz.o0 190)))
                                                                    (some (R16_ai10rz.o0 190)))
                                                            (some (R16_ai10rz.o0 190)))
                                                    (some (R16_ai10rz.o0 190)))
                                            (some (R16_ai10rz.o0 190)))
                                    (some (R16_ai10rz.o0 190)))
                            (some (R16_ai10rz.o0 190)))
                    (some (R16_ai10rz.o0 190)))
                (some (R16_ai10rz.o0 190)))
        (some (R16_ai10rz.o0 190))
theorem f16_ai10rz_e_ok (k : Nat) (a0 a0_1 a0_2 a0_3 a0_4 a0_5 a0_6 a0_7 a0_8 a0_9 : Int) (a0_10 : List Int) (r : R16_ai10rz) (hF : f16_ai10rz_e k a0 a0_1 a0_2 a0_3 a0_4 a0_5 a0_6 a0_7 a0_8 a0_9 a0_10 = some r) : finK Tryd.prog Tryd.f16 0 (EX 16 k (nav B16 []) ({ n := 73, F := [(0, V.agg [V.p (Value.int .i64 a0), V.p (Value.int .i64 a0_1), V.p (Value.int .u32 a0_2), V.p (Value.int .i64 a0_3), V.p (Value.int .i64 a0_4), V.p (Value.int .i64 a0_5), V.p (Value.int .i64 a0_6), V.p (Value.int .i64 a0_7), V.p (Value.int .i64 a0_8), V.p (Value.int .i64 a0_9), V.sl 1 (rowsOf (encI .u8) a0_10)])], M := [] } : St)) = some r.st := by
  unfold f16_ai10rz_e at hF
  replace hF := Option.bind_eq_some_iff.1 hF
  obtain ⟨o1, h2, hF⟩ := hF
  have hc3 := f38_iii_ok k a0 1 6 _ h2
  cases o1 with
  | o0 v4 =>
    (try dsimp only at hF)
    (try simp only [NM, EE, R38_iii.st] at hc3)
    simp (maxSteps := 999999) (disch := first | exact D (by decide) | exact K (by kernel_rfl)) only [E, EE, ↓reduceIte, simprocAttr, xk B16 [] .sq rfl, show (nav B16 [1]) = Code.region 0 _ false from rfl, hk_16_0, hz_16_0, hs_16_0, xk B16 [2] .sq rfl, show (nav B16 [1, 2]) = Code.region 1 _ false from rfl, hk_16_1, hz_16_1, hs_16_1, fieldAddrV, u_26, i_26, is_26, ib_26, iz_26, u_3, i_3, is_3, ib_3, iz_3, callStep, CL, gv, List.contains, hc3]
    replace hF := cond_some hF
    rcases hF with ⟨h5, hF⟩ | ⟨h5, hF⟩
    · replace hF := Option.bind_eq_some_iff.1 hF
      obtain ⟨o6, h7, hF⟩ := hF
      have hc8 := f38_iii_ok k a0_1 1 6 _ h7
      cases o6 with
      | o0 v9 =>
        (try dsimp only at hF)
        (try simp only [NM, EE, R38_iii.st] at hc8)
        simp (maxSteps := 999999) (disch := first | exact D (by decide) | exact K (by kernel_rfl)) only [E, EE, ↓reduceIte, simprocAttr, fieldAddrV, u_26, i_26, is_26, ib_26, iz_26, u_3, i_3, is_3, ib_3, iz_3, callStep, CL, gv, List.contains, hc3, h5, hc8]
        replace hF := cond_some hF
        rcases hF with ⟨h10, hF⟩ | ⟨h10, hF⟩
        · simp (maxSteps := 999999) (disch := first | exact D (by decide) | exact K (by kernel_rfl)) only [E, EE, ↓reduceIte, simprocAttr, fieldAddrV, u_26, i_26, is_26, ib_26, iz_26, u_24, i_24, is_24, ib_24, iz_24, xk B16 [2, 2] .sq rfl, show (nav B16 [1, 2, 2]) = Code.region 2 _ false from rfl, hk_16_2, hz_16_2, hs_16_2, hc3, h5, hc8, h10]
          replace hF := cond_some hF
          rcases hF with ⟨h11, hF⟩ | ⟨h11, hF⟩
          · replace hF := Option.bind_eq_some_iff.1 hF
            obtain ⟨o12, h13, hF⟩ := hF
            have hc14 := f38_iii_ok k a0_3 0 1048576 _ h13
            cases o12 with
            | o0 v15 =>
              (try dsimp only at hF)
              (try simp only [NM, EE, R38_iii.st] at hc14)
              simp (maxSteps := 999999) (disch := first | exact D (by decide) | exact K (by kernel_rfl)) only [E, EE, ↓reduceIte, simprocAttr, fieldAddrV, u_26, i_26, is_26, ib_26, iz_26, u_3, i_3, is_3, ib_3, iz_3, callStep, CL, gv, List.contains, hc3, h5, hc8, h10, h11, hc14]
              replace hF := cond_some hF
              rcases hF with ⟨h16, hF⟩ | ⟨h16, hF⟩
              · replace hF := Option.bind_eq_some_iff.1 hF
                obtain ⟨o17, h18, hF⟩ := hF
                have hc19 := f38_iii_ok k a0_4 1 1048576 _ h18
                cases o17 with
                | o0 v20 =>
                  (try dsimp only at hF)
                  (try simp only [NM, EE, R38_iii.st] at hc19)
                  simp (maxSteps := 999999) (disch := first | exact D (by decide) | exact K (by kernel_rfl)) only [E, EE, ↓reduceIte, simprocAttr, fieldAddrV, u_26, i_26, is_26, ib_26, iz_26, u_3, i_3, is_3, ib_3, iz_3, callStep, CL, gv, List.contains, xk B16 [2, 2, 2] .sq rfl, show (nav B16 [1, 2, 2, 2]) = Code.region 3 _ false from rfl, hk_16_3, hz_16_3, hs_16_3, hc3, h5, hc8, h10, h11, hc14, h16, hc19]
                  replace hF := cond_some hF
                  rcases hF with ⟨h21, hF⟩ | ⟨h21, hF⟩
                  · replace hF := Option.bind_eq_some_iff.1 hF
                    obtain ⟨o22, h23, hF⟩ := hF
                    have hc24 := f38_iii_ok k a0_5 1 16 _ h23
                    cases o22 with
                    | o0 v25 =>
                      (try dsimp only at hF)
                      (try simp only [NM, EE, R38_iii.st] at hc24)
                      simp (maxSteps := 999999) (disch := first | exact D (by decide) | exact K (by kernel_rfl)) only [E, EE, ↓reduceIte, simprocAttr, fieldAddrV, u_26, i_26, is_26, ib_26, iz_26, u_3, i_3, is_3, ib_3, iz_3, callStep, CL, gv, List.contains, hc3, h5, hc8, h10, h11, hc14, h16, hc19, h21, hc24]
                      replace hF := cond_some hF
                      rcases hF with ⟨h26, hF⟩ | ⟨h26, hF⟩
                      · replace hF := Option.bind_eq_some_iff.1 hF
                        obtain ⟨o27, h28, hF⟩ := hF
                        have hc29 := f38_iii_ok k a0_6 0 a0_5 _ h28
                        cases o27 with
                        | o0 v30 =>
                          (try dsimp only at hF)
                          (try simp only [NM, EE, R38_iii.st] at hc29)
                          simp (maxSteps := 999999) (disch := first | exact D (by decide) | exact K (by kernel_rfl)) only [E, EE, ↓reduceIte, simprocAttr, fieldAddrV, u_26, i_26, is_26, ib_26, iz_26, u_3, i_3, is_3, ib_3, iz_3, callStep, CL, gv, List.contains, hc3, h5, hc8, h10, h11, hc14, h16, hc19, h21, hc24, h26, hc29]
                          replace hF := cond_some hF
                          rcases hF with ⟨h31, hF⟩ | ⟨h31, hF⟩
                          · replace hF := Option.bind_eq_some_iff.1 hF
                            obtain ⟨o32, h33, hF⟩ := hF
                            have hc34 := f38_iii_ok k a0_7 0 2 _ h33
                            cases o32 with
                            | o0 v35 =>
                              (try dsimp only at hF)
                              (try simp only [NM, EE, R38_iii.st] at hc34)
                              simp (maxSteps := 999999) (disch := first | exact D (by decide) | exact K (by kernel_rfl)) only [E, EE, ↓reduceIte, simprocAttr, fieldAddrV, u_26, i_26, is_26, ib_26, iz_26, u_3, i_3, is_3, ib_3, iz_3, callStep, CL, gv, List.contains, xk B16 [2, 2, 2, 2] .sq rfl, show (nav B16 [1, 2, 2, 2, 2]) = Code.region 4 _ false from rfl, hk_16_4, hz_16_4, hs_16_4, hc3, h5, hc8, h10, h11, hc14, h16, hc19, h21, hc24, h26, hc29, h31, hc34]
                              replace hF := cond_some hF
                              rcases hF with ⟨h36, hF⟩ | ⟨h36, hF⟩
                              · replace hF := Option.bind_eq_some_iff.1 hF
                                obtain ⟨o37, h38, hF⟩ := hF
                                have hc39 := f38_iii_ok k a0_9 1 400 _ h38
                                cases o37 with
                                | o0 v40 =>
                                  (try dsimp only at hF)
                                  (try simp only [NM, EE, R38_iii.st] at hc39)
                                  simp (maxSteps := 999999) (disch := first | exact D (by decide) | exact K (by kernel_rfl)) only [E, EE, ↓reduceIte, simprocAttr, fieldAddrV, u_26, i_26, is_26, ib_26, iz_26, u_3, i_3, is_3, ib_3, iz_3, callStep, CL, gv, List.contains, hc3, h5, hc8, h10, h11, hc14, h16, hc19, h21, hc24, h26, hc29, h31, hc34, h36, hc39]
                                  replace hF := cond_some hF
                                  rcases hF with ⟨h41, hF⟩ | ⟨h41, hF⟩
                                  · replace hF := Option.bind_eq_some_iff.1 hF
                                    obtain ⟨o42, h43, hF⟩ := hF
                                    have hc44 := f38_iii_ok k ((List.length a0_10) : Int) 1 a0_9 _ h43
                                    cases o42 with
                                    | o0 v45 =>
                                      (try dsimp only at hF)
                                      (try simp only [NM, EE, R38_iii.st] at hc44)
                                      simp (maxSteps := 999999) (disch := first | exact D (by decide) | exact K (by kernel_rfl)) only [E, EE, ↓reduceIte, simprocAttr, fieldAddrV, u_26, i_26, is_26, ib_26, iz_26, u_22, i_22, is_22, ib_22, iz_22, u_3, i_3, is_3, ib_3, iz_3, callStep, CL, gv, List.contains, hc3, h5, hc8, h10, h11, hc14, h16, hc19, h21, hc24, h26, hc29, h31, hc34, h36, hc39, h41, hc44]
                                      replace hF := cond_some hF
                                      rcases hF with ⟨h46, hF⟩ | ⟨h46, hF⟩
                                      · replace hF := Option.bind_eq_some_iff.1 hF
                                        obtain ⟨o47, h48, hF⟩ := hF
                                        have hc49 := f38_iii_ok k a0_8 0 (IntKind.i64.wrap (a0_9 - ((List.length a0_10) : Int))) _ h48
                                        cases o47 with
                                        | o0 v50 =>
                                          (try dsimp only at hF)
                                          (try simp only [NM, EE, R38_iii.st] at hc49)
                                          simp (maxSteps := 999999) (disch := first | exact D (by decide) | exact K (by kernel_rfl)) only [E, EE, ↓reduceIte, simprocAttr, fieldAddrV, u_26, i_26, is_26, ib_26, iz_26, u_3, i_3, is_3, ib_3, iz_3, u_22, i_22, is_22, ib_22, iz_22, callStep, CL, gv, List.contains, xk B16 [2, 2, 2, 2, 2] .sq rfl, xk B16 [1, 2, 2, 2, 2, 2] .sq rfl, show (nav B16 [1, 1, 2, 2, 2, 2, 2]) = Code.region 5 _ false from rfl, hk_16_5, hz_16_5, hs_16_5, xk B16 [2, 1, 2, 2, 2, 2, 2] (.cd 72) rfl, hc3, h5, hc8, h10, h11, hc14, h16, hc19, h21, hc24, h26, hc29, h31, hc34, h36, hc39, h41, hc44, h46, hc49]
                                          replace hF := cond_some hF
                                          rcases hF with ⟨h51, hF⟩ | ⟨h51, hF⟩
                                          · cases hF
                                            simp (maxSteps := 999999) (disch := first | exact D (by decide) | exact K (by kernel_rfl)) only [E, EE, ↓reduceIte, simprocAttr, xk B16 [2, 2, 1, 2, 2, 2, 2, 2] .sq rfl, show (nav B16 [1, 2, 2, 1, 2, 2, 2, 2, 2]) = Code.region 6 _ false from rfl, hk_16_6, hz_16_6, hs_16_6, xk B16 [2, 2, 2, 1, 2, 2, 2, 2, 2] .rt rfl, finK_norm, finK_ret, fin16, R16_ai10rz.st, hc3, h5, hc8, h10, h11, hc14, h16, hc19, h21, hc24, h26, hc29, h31, hc34, h36, hc39, h41, hc44, h46, hc49, h51]
                                          · have hJ := f16_ai10rz_j1_ok k false _ hF
                                            simp (maxSteps := 999999) (disch := first | exact D (by decide) | exact K (by kernel_rfl)) only [E, EE, ↓reduceIte, simprocAttr, xk B16 [3, 2, 1, 2, 2, 2, 2, 2] .sk rfl, hc3, h5, hc8, h10, h11, hc14, h16, hc19, h21, hc24, h26, hc29, h31, hc34, h36, hc39, h41, hc44, h46, hc49, h51]
                                            try simp only [NM, EE] at hJ
                                            exact hJ
                                      · cases hF
                                        simp (maxSteps := 999999) (disch := first | exact D (by decide) | exact K (by kernel_rfl)) only [E, EE, ↓reduceIte, simprocAttr, xk B16 [2, 2, 2, 2, 2] .sq rfl, xk B16 [1, 2, 2, 2, 2, 2] .sq rfl, show (nav B16 [1, 1, 2, 2, 2, 2, 2]) = Code.region 5 _ false from rfl, hk_16_5, hz_16_5, hs_16_5, xk B16 [2, 1, 2, 2, 2, 2, 2] (.cd 72) rfl, xk B16 [2, 2, 1, 2, 2, 2, 2, 2] .sq rfl, show (nav B16 [1, 2, 2, 1, 2, 2, 2, 2, 2]) = Code.region 6 _ false from rfl, hk_16_6, hz_16_6, hs_16_6, xk B16 [2, 2, 2, 1, 2, 2, 2, 2, 2] .rt rfl, finK_norm, finK_ret, fin16, R16_ai10rz.st, hc3, h5, hc8, h10, h11, hc14, h16, hc19, h21, hc24, h26, hc29, h31, hc34, h36, hc39, h41, hc44, h46]
                                  · cases hF
                                    simp (maxSteps := 999999) (disch := first | exact D (by decide) | exact K (by kernel_rfl)) only [E, EE, ↓reduceIte, simprocAttr, xk B16 [2, 2, 2, 2, 2] .sq rfl, xk B16 [1, 2, 2, 2, 2, 2] .sq rfl, show (nav B16 [1, 1, 2, 2, 2, 2, 2]) = Code.region 5 _ false from rfl, hk_16_5, hz_16_5, hs_16_5, xk B16 [2, 1, 2, 2, 2, 2, 2] (.cd 72) rfl, xk B16 [2, 2, 1, 2, 2, 2, 2, 2] .sq rfl, show (nav B16 [1, 2, 2, 1, 2, 2, 2, 2, 2]) = Code.region 6 _ false from rfl, hk_16_6, hz_16_6, hs_16_6, xk B16 [2, 2, 2, 1, 2, 2, 2, 2, 2] .rt rfl, finK_norm, finK_ret, fin16, R16_ai10rz.st, hc3, h5, hc8, h10, h11, hc14, h16, hc19, h21, hc24, h26, hc29, h31, hc34, h36, hc39, h41]
                              · cases hF
                                simp (maxSteps := 999999) (disch := first | exact D (by decide) | exact K (by kernel_rfl)) only [E, EE, ↓reduceIte, simprocAttr, xk B16 [2, 2, 2, 2, 2] .sq rfl, xk B16 [1, 2, 2, 2, 2, 2] .sq rfl, show (nav B16 [1, 1, 2, 2, 2, 2, 2]) = Code.region 5 _ false from rfl, hk_16_5, hz_16_5, hs_16_5, xk B16 [2, 1, 2, 2, 2, 2, 2] (.cd 72) rfl, xk B16 [2, 2, 1, 2, 2, 2, 2, 2] .sq rfl, show (nav B16 [1, 2, 2, 1, 2, 2, 2, 2, 2]) = Code.region 6 _ false from rfl, hk_16_6, hz_16_6, hs_16_6, xk B16 [2, 2, 2, 1, 2, 2, 2, 2, 2] .rt rfl, finK_norm, finK_ret, fin16, R16_ai10rz.st, hc3, h5, hc8, h10, h11, hc14, h16, hc19, h21, hc24, h26, hc29, h31, hc34, h36]
                          · cases hF
                            simp (maxSteps := 999999) (disch := first | exact D (by decide) | exact K (by kernel_rfl)) only [E, EE, ↓reduceIte, simprocAttr, xk B16 [2, 2, 2, 2] .sq rfl, show (nav B16 [1, 2, 2, 2, 2]) = Code.region 4 _ false from rfl, hk_16_4, hz_16_4, hs_16_4, xk B16 [2, 2, 2, 2, 2] .sq rfl, xk B16 [1, 2, 2, 2, 2, 2] .sq rfl, show (nav B16 [1, 1, 2, 2, 2, 2, 2]) = Code.region 5 _ false from rfl, hk_16_5, hz_16_5, hs_16_5, xk B16 [2, 1, 2, 2, 2, 2, 2] (.cd 72) rfl, xk B16 [2, 2, 1, 2, 2, 2, 2, 2] .sq rfl, show (nav B16 [1, 2, 2, 1, 2, 2, 2, 2, 2]) = Code.region 6 _ false from rfl, hk_16_6, hz_16_6, hs_16_6, xk B16 [2, 2, 2, 1, 2, 2, 2, 2, 2] .rt rfl, finK_norm, finK_ret, fin16, R16_ai10rz.st, hc3, h5, hc8, h10, h11, hc14, h16, hc19, h21, hc24, h26, hc29, h31]
                      · cases hF
                        simp (maxSteps := 999999) (disch := first | exact D (by decide) | exact K (by kernel_rfl)) only [E, EE, ↓reduceIte, simprocAttr, xk B16 [2, 2, 2, 2] .sq rfl, show (nav B16 [1, 2, 2, 2, 2]) = Code.region 4 _ false from rfl, hk_16_4, hz_16_4, hs_16_4, xk B16 [2, 2, 2, 2, 2] .sq rfl, xk B16 [1, 2, 2, 2, 2, 2] .sq rfl, show (nav B16 [1, 1, 2, 2, 2, 2, 2]) = Code.region 5 _ false from rfl, hk_16_5, hz_16_5, hs_16_5, xk B16 [2, 1, 2, 2, 2, 2, 2] (.cd 72) rfl, xk B16 [2, 2, 1, 2, 2, 2, 2, 2] .sq rfl, show (nav B16 [1, 2, 2, 1, 2, 2, 2, 2, 2]) = Code.region 6 _ false from rfl, hk_16_6, hz_16_6, hs_16_6, xk B16 [2, 2, 2, 1, 2, 2, 2, 2, 2] .rt rfl, finK_norm, finK_ret, fin16, R16_ai10rz.st, hc3, h5, hc8, h10, h11, hc14, h16, hc19, h21, hc24, h26]
                  · cases hF
                    simp (maxSteps := 999999) (disch := first | exact D (by decide) | exact K (by kernel_rfl)) only [E, EE, ↓reduceIte, simprocAttr, xk B16 [2, 2, 2, 2] .sq rfl, show (nav B16 [1, 2, 2, 2, 2]) = Code.region 4 _ false from rfl, hk_16_4, hz_16_4, hs_16_4, xk B16 [2, 2, 2, 2, 2] .sq rfl, xk B16 [1, 2, 2, 2, 2, 2] .sq rfl, show (nav B16 [1, 1, 2, 2, 2, 2, 2]) = Code.region 5 _ false from rfl, hk_16_5, hz_16_5, hs_16_5, xk B16 [2, 1, 2, 2, 2, 2, 2] (.cd 72) rfl, xk B16 [2, 2, 1, 2, 2, 2, 2, 2] .sq rfl, show (nav B16 [1, 2, 2, 1, 2, 2, 2, 2, 2]) = Code.region 6 _ false from rfl, hk_16_6, hz_16_6, hs_16_6, xk B16 [2, 2, 2, 1, 2, 2, 2, 2, 2] .rt rfl, finK_norm, finK_ret, fin16, R16_ai10rz.st, hc3, h5, hc8, h10, h11, hc14, h16, hc19, h21]
              · cases hF
                simp (maxSteps := 999999) (disch := first | exact D (by decide) | exact K (by kernel_rfl)) only [E, EE, ↓reduceIte, simprocAttr, xk B16 [2, 2, 2] .sq rfl, show (nav B16 [1, 2, 2, 2]) = Code.region 3 _ false from rfl, hk_16_3, hz_16_3, hs_16_3, xk B16 [2, 2, 2, 2] .sq rfl, show (nav B16 [1, 2, 2, 2, 2]) = Code.region 4 _ false from rfl, hk_16_4, hz_16_4, hs_16_4, xk B16 [2, 2, 2, 2, 2] .sq rfl, xk B16 [1, 2, 2, 2, 2, 2] .sq rfl, show (nav B16 [1, 1, 2, 2, 2, 2, 2]) = Code.region 5 _ false from rfl, hk_16_5, hz_16_5, hs_16_5, xk B16 [2, 1, 2, 2, 2, 2, 2] (.cd 72) rfl, xk B16 [2, 2, 1, 2, 2, 2, 2, 2] .sq rfl, show (nav B16 [1, 2, 2, 1, 2, 2, 2, 2, 2]) = Code.region 6 _ false from rfl, hk_16_6, hz_16_6, hs_16_6, xk B16 [2, 2, 2, 1, 2, 2, 2, 2, 2] .rt rfl, finK_norm, finK_ret, fin16, R16_ai10rz.st, hc3, h5, hc8, h10, h11, hc14, h16]
          · cases hF
            simp (maxSteps := 999999) (disch := first | exact D (by decide) | exact K (by kernel_rfl)) only [E, EE, ↓reduceIte, simprocAttr, xk B16 [2, 2, 2] .sq rfl, show (nav B16 [1, 2, 2, 2]) = Code.region 3 _ false from rfl, hk_16_3, hz_16_3, hs_16_3, xk B16 [2, 2, 2, 2] .sq rfl, show (nav B16 [1, 2, 2, 2, 2]) = Code.region 4 _ false from rfl, hk_16_4, hz_16_4, hs_16_4, xk B16 [2, 2, 2, 2, 2] .sq rfl, xk B16 [1, 2, 2, 2, 2, 2] .sq rfl, show (nav B16 [1, 1, 2, 2, 2, 2, 2]) = Code.region 5 _ false from rfl, hk_16_5, hz_16_5, hs_16_5, xk B16 [2, 1, 2, 2, 2, 2, 2] (.cd 72) rfl, xk B16 [2, 2, 1, 2, 2, 2, 2, 2] .sq rfl, show (nav B16 [1, 2, 2, 1, 2, 2, 2, 2, 2]) = Code.region 6 _ false from rfl, hk_16_6, hz_16_6, hs_16_6, xk B16 [2, 2, 2, 1, 2, 2, 2, 2, 2] .rt rfl, finK_norm, finK_ret, fin16, R16_ai10rz.st, hc3, h5, hc8, h10, h11]
        · cases hF
          simp (maxSteps := 999999) (disch := first | exact D (by decide) | exact K (by kernel_rfl)) only [E, EE, ↓reduceIte, simprocAttr, xk B16 [2, 2] .sq rfl, show (nav B16 [1, 2, 2]) = Code.region 2 _ false from rfl, hk_16_2, hz_16_2, hs_16_2, xk B16 [2, 2, 2] .sq rfl, show (nav B16 [1, 2, 2, 2]) = Code.region 3 _ false from rfl, hk_16_3, hz_16_3, hs_16_3, xk B16 [2, 2, 2, 2] .sq rfl, show (nav B16 [1, 2, 2, 2, 2]) = Code.region 4 _ false from rfl, hk_16_4, hz_16_4, hs_16_4, xk B16 [2, 2, 2, 2, 2] .sq rfl, xk B16 [1, 2, 2, 2, 2, 2] .sq rfl, show (nav B16 [1, 1, 2, 2, 2, 2, 2]) = Code.region 5 _ false from rfl, hk_16_5, hz_16_5, hs_16_5, xk B16 [2, 1, 2, 2, 2, 2, 2] (.cd 72) rfl, xk B16 [2, 2, 1, 2, 2, 2, 2, 2] .sq rfl, show (nav B16 [1, 2, 2, 1, 2, 2, 2, 2, 2]) = Code.region 6 _ false from rfl, hk_16_6, hz_16_6, hs_16_6, xk B16 [2, 2, 2, 1, 2, 2, 2, 2, 2] .rt rfl, finK_norm, finK_ret, fin16, R16_ai10rz.st, hc3, h5, hc8, h10]
    · cases hF
      simp (maxSteps := 999999) (disch := first | exact D (by decide) | exact K (by kernel_rfl)) only [E, EE, ↓reduceIte, simprocAttr, xk B16 [2, 2] .sq rfl, show (nav B16 [1, 2, 2]) = Code.region 2 _ false from rfl, hk_16_2, hz_16_2, hs_16_2, xk B16 [2, 2, 2] .sq rfl, show (nav B16 [1, 2, 2, 2]) = Code.region 3 _ false from rfl, hk_16_3, hz_16_3, hs_16_3, xk B16 [2, 2, 2, 2] .sq rfl, show (nav B16 [1, 2, 2, 2, 2]) = Code.region 4 _ false from rfl, hk_16_4, hz_16_4, hs_16_4, xk B16 [2, 2, 2, 2, 2] .sq rfl, xk B16 [1, 2, 2, 2, 2, 2] .sq rfl, show (nav B16 [1, 1, 2, 2, 2, 2, 2]) = Code.region 5 _ false from rfl, hk_16_5, hz_16_5, hs_16_5, xk B16 [2, 1, 2, 2, 2, 2, 2] (.cd 72) rfl, xk B16 [2, 2, 1, 2, 2, 2, 2, 2] .sq rfl, show (nav B16 [1, 2, 2, 1, 2, 2, 2, 2, 2]) = Code.region 6 _ false from rfl, hk_16_6, hz_16_6, hs_16_6, xk B16 [2, 2, 2, 1, 2, 2, 2, 2, 2] .rt rfl, finK_norm, finK_ret, fin16, R16_ai10rz.st, hc3, h5]
noncomputable def f16_ai10rz (k : Nat) (a0 a0_1 a0_2 a0_3 a0_4 a0_5 a0_6 a0_7 a0_8 a0_9 : Int) (a0_10 : List Int) : Option R16_ai10rz := match k with | 0 => none | k + 1 => f16_ai10rz_e k a0 a0_1 a0_2 a0_3 a0_4 a0_5 a0_6 a0_7 a0_8 a0_9 a0_10
theorem f16_ai10rz_ok (k : Nat) (a0 a0_1 a0_2 a0_3 a0_4 a0_5 a0_6 a0_7 a0_8 a0_9 : Int) (a0_10 : List Int) (r : R16_ai10rz) (hF : f16_ai10rz k a0 a0_1 a0_2 a0_3 a0_4 a0_5 a0_6 a0_7 a0_8 a0_9 a0_10 = some r) : CV k 16 [V.agg [V.p (Value.int .i64 a0), V.p (Value.int .i64 a0_1), V.p (Value.int .u32 a0_2), V.p (Value.int .i64 a0_3), V.p (Value.int .i64 a0_4), V.p (Value.int .i64 a0_5), V.p (Value.int .i64 a0_6), V.p (Value.int .i64 a0_7), V.p (Value.int .i64 a0_8), V.p (Value.int .i64 a0_9), V.sl 1 (rowsOf (encI .u8) a0_10)]] [] = some r.st := by
  cases k with
  | zero => cases hF
  | succ k =>
    unfold CV
    rw [ev_call (F := Tryd.f16) (c := (nav B16 [])) rfl Tryd.func16 rfl rfl rfl rfl]
    exact f16_ai10rz_e_ok k a0 a0_1 a0_2 a0_3 a0_4 a0_5 a0_6 a0_7 a0_8 a0_9 a0_10 r hF
-- f24_ai10rzi: f24 heliograph/bundle.Expired
inductive R24_ai10rzi where
  | o0 (y : Bool)
noncomputable def R24_ai10rzi.st : R24_ai10rzi → V × List O × List O
  | .o0 y => (V.p (Value.bool y), [], [])
noncomputable def f24_ai10rzi_e (k : Nat) (a0 a0_1 a0_2 a0_3 a0_4 a0_5 a0_6 a0_7 a0_8 a0_9 : Int) (a0_10 : List Int) (a1 : Int) : Option R24_ai10rzi :=
  Option.bind (f16_ai10rz k a0 a0_1 a0_2 a0_3 a0_4 a0_5 a0_6 a0_7 a0_8 a0_9 a0_10) fun o1 =>
    match o1 with
    | .o0 v4 =>
      cond ((v4 == 0))
        (some (R24_ai10rzi.o0 (decide (a1 ≥ (IntKind.i64.wrap (a0_3 + a0_4))))))
        (some (R24_ai10rzi.o0 false))
theorem f24_ai10rzi_e_ok (k : Nat) (a0 a0_1 a0_2 a0_3 a0_4 a0_5 a0_6 a0_7 a0_8 a0_9 : Int) (a0_10 : List Int) (a1 : Int) (r : R24_ai10rzi) (hF : f24_ai10rzi_e k a0 a0_1 a0_2 a0_3 a0_4 a0_5 a0_6 a0_7 a0_8 a0_9 a0_10 a1 = some r) : finK Tryd.prog Tryd.f24 0 (EX 24 k (nav B24 []) ({ n := 17, F := [(0, V.agg [V.p (Value.int .i64 a0), V.p (Value.int .i64 a0_1), V.p (Value.int .u32 a0_2), V.p (Value.int .i64 a0_3), V.p (Value.int .i64 a0_4), V.p (Value.int .i64 a0_5), V.p (Value.int .i64 a0_6), V.p (Value.int .i64 a0_7), V.p (Value.int .i64 a0_8), V.p (Value.int .i64 a0_9), V.sl 1 (rowsOf (encI .u8) a0_10)]), (1, V.p (Value.int .i64 a1))], M := [] } : St)) = some r.st := by
  unfold f24_ai10rzi_e at hF
  replace hF := Option.bind_eq_some_iff.1 hF
  obtain ⟨o1, h2, hF⟩ := hF
  have hc3 := f16_ai10rz_ok k a0 a0_1 a0_2 a0_3 a0_4 a0_5 a0_6 a0_7 a0_8 a0_9 a0_10 _ h2
  cases o1 with
  | o0 v4 =>
    (try dsimp only at hF)
    (try simp only [NM, EE, R16_ai10rz.st] at hc3)
    simp (maxSteps := 999999) (disch := first | exact D (by decide) | exact K (by kernel_rfl)) only [E, EE, ↓reduceIte, simprocAttr, xk B24 [] .sq rfl, show (nav B24 [1]) = Code.region 0 _ false from rfl, hk_24_0, hz_24_0, hs_24_0, xk B24 [2] .sq rfl, show (nav B24 [1, 2]) = Code.region 1 _ false from rfl, hk_24_1, hz_24_1, hs_24_1, u_26, i_26, is_26, ib_26, iz_26, callStep, CL, gv, List.contains, hc3]
    replace hF := cond_some hF
    rcases hF with ⟨h5, hF⟩ | ⟨h5, hF⟩
    · cases hF
      simp (maxSteps := 999999) (disch := first | exact D (by decide) | exact K (by kernel_rfl)) only [E, EE, ↓reduceIte, simprocAttr, fieldAddrV, u_26, i_26, is_26, ib_26, iz_26, u_3, i_3, is_3, ib_3, iz_3, xk B24 [2, 2] .rt rfl, finK_norm, finK_ret, fin24, R24_ai10rzi.st, hc3, h5]
    · cases hF
      simp (maxSteps := 999999) (disch := first | exact D (by decide) | exact K (by kernel_rfl)) only [E, EE, ↓reduceIte, simprocAttr, xk B24 [2, 2] .rt rfl, finK_norm, finK_ret, fin24, R24_ai10rzi.st, hc3, h5]
noncomputable def f24_ai10rzi (k : Nat) (a0 a0_1 a0_2 a0_3 a0_4 a0_5 a0_6 a0_7 a0_8 a0_9 : Int) (a0_10 : List Int) (a1 : Int) : Option R24_ai10rzi := match k with | 0 => none | k + 1 => f24_ai10rzi_e k a0 a0_1 a0_2 a0_3 a0_4 a0_5 a0_6 a0_7 a0_8 a0_9 a0_10 a1
theorem f24_ai10rzi_ok (k : Nat) (a0 a0_1 a0_2 a0_3 a0_4 a0_5 a0_6 a0_7 a0_8 a0_9 : Int) (a0_10 : List Int) (a1 : Int) (r : R24_ai10rzi) (hF : f24_ai10rzi k a0 a0_1 a0_2 a0_3 a0_4 a0_5 a0_6 a0_7 a0_8 a0_9 a0_10 a1 = some r) : CV k 24 [V.agg [V.p (Value.int .i64 a0), V.p (Value.int .i64 a0_1), V.p (Value.int .u32 a0_2), V.p (Value.int .i64 a0_3), V.p (Value.int .i64 a0_4), V.p (Value.int .i64 a0_5), V.p (Value.int .i64 a0_6), V.p (Value.int .i64 a0_7), V.p (Value.int .i64 a0_8), V.p (Value.int .i64 a0_9), V.sl 1 (rowsOf (encI .u8) a0_10)], V.p (Value.int .i64 a1)] [] = some r.st := by
  cases k with
  | zero => cases hF
  | succ k =>
    unfold CV
    rw [ev_call (F := Tryd.f24) (c := (nav B24 [])) rfl Tryd.func24 rfl rfl rfl rfl]
    exact f24_ai10rzi_e_ok k a0 a0_1 a0_2 a0_3 a0_4 a0_5 a0_6 a0_7 a0_8 a0_9 a0_10 a1 r hF
-- f15_ai10rz: f15 heliograph/heliographref09.Right
inductive R15_ai10rz where
  | o0 (y : Bool)
noncomputable def R15_ai10rz.st : R15_ai10rz → V × List O × List O
  | .o0 y => (V.p (Value.bool y), [], [])
noncomputable def f15_ai10rz_j2 (k : Nat) (x85 : Bool) (m1 m1_1 m1_2 m1_3 m1_4 m1_5 m1_6 m1_7 m1_8 m1_9 : Int) (m1_10 : List Int) : Option R15_ai10rz :=
  cond ((decide (((List.length m1_10) : Int) ≥ 1)))
    (
      cond ((decide (((List.length m1_10) : Int) ≤ m1_9)))
        (
          cond ((decide (m1_8 ≥ 0)))
            (some (R15_ai10rz.o0 (decide (m1_8 ≤ (IntKind.i64.wrap (m1_9 - ((List.length m1_10) : Int)))))))
            (some (R15_ai10rz.o0 false)))
        (some (R15_ai10rz.o0 false)))
    (some (R15_ai10rz.o0 false))
theorem f15_ai10rz_j2_ok (k : Nat) (x85 : Bool) (m1 m1_1 m1_2 m1_3 m1_4 m1_5 m1_6 m1_7 m1_8 m1_9 : Int) (m1_10 : List Int) (r : R15_ai10rz) (hF : f15_ai10rz_j2 k x85 m1 m1_1 m1_2 m1_3 m1_4 m1_5 m1_6 m1_7 m1_8 m1_9 m1_10 = some r) : finK Tryd.prog Tryd.f15 0 (EX 15 k (nav B15 [2, 2, 2]) ({ n := 114, F := [(1, V.ptr 1 0), (85, V.p (Value.bool x85))], M := [(1, O.box 26 [V.p (Value.int .i64 m1), V.p (Value.int .i64 m1_1), V.p (Value.int .u32 m1_2), V.p (Value.int .i64 m1_3), V.p (Value.int .i64 m1_4), V.p (Value.int .i64 m1_5), V.p (Value.int .i64 m1_6), V.p (Value.int .i64 m1_7), V.p (Value.int .i64 m1_8), V.p (Value.int .i64 m1_9), V.sl 1 (rowsOf (encI .u8) m1_10)])] } : St)) = some r.st := by
  unfold f15_ai10rz_j2 at hF
  simp (maxSteps := 999999) (disch := first | exact D (by decide) | exact K (by kernel_rfl)) only [E, EE, ↓reduceIte, simprocAttr, xk B15 [2, 2, 2] .sq rfl, show (nav B15 [1, 2, 2, 2]) = Code.region 5 _ false from rfl, hk_15_5, hz_15_5, hs_15_5, fieldAddrV, u_26, i_26, is_26, ib_26, iz_26, u_22, i_22, is_22, ib_22, iz_22]
  replace hF := cond_some hF
  rcases hF with ⟨h1, hF⟩ | ⟨h1, hF⟩
  · simp (maxSteps := 999999) (disch := first | exact D (by decide) | exact K (by kernel_rfl)) only [E, EE, ↓reduceIte, simprocAttr, fieldAddrV, u_26, i_26, is_26, ib_26, iz_26, u_22, i_22, is_22, ib_22, iz_22, u_3, i_3, is_3, ib_3, iz_3, h1]
    replace hF := cond_some hF
    rcases hF with ⟨h2, hF⟩ | ⟨h2, hF⟩
    · simp (maxSteps := 999999) (disch := first | exact D (by decide) | exact K (by kernel_rfl)) only [E, EE, ↓reduceIte, simprocAttr, fieldAddrV, u_26, i_26, is_26, ib_26, iz_26, u_3, i_3, is_3, ib_3, iz_3, h1, h2]
      replace hF := cond_some hF
      rcases hF with ⟨h3, hF⟩ | ⟨h3, hF⟩
      · cases hF
        simp (maxSteps := 999999) (disch := first | exact D (by decide) | exact K (by kernel_rfl)) only [E, EE, ↓reduceIte, simprocAttr, fieldAddrV, u_26, i_26, is_26, ib_26, iz_26, u_3, i_3, is_3, ib_3, iz_3, u_22, i_22, is_22, ib_22, iz_22, xk B15 [2, 2, 2, 2] .rt rfl, finK_norm, finK_ret, fin15, R15_ai10rz.st, h1, h2, h3]
      · cases hF
        simp (maxSteps := 999999) (disch := first | exact D (by decide) | exact K (by kernel_rfl)) only [E, EE, ↓reduceIte, simprocAttr, xk B15 [2, 2, 2, 2] .rt rfl, finK_norm, finK_ret, fin15, R15_ai10rz.st, h1, h2, h3]
    · cases hF
      simp (maxSteps := 999999) (disch := first | exact D (by decide) | exact K (by kernel_rfl)) only [E, EE, ↓reduceIte, simprocAttr, xk B15 [2, 2, 2, 2] .rt rfl, finK_norm, finK_ret, fin15, R15_ai10rz.st, h1, h2]
  · cases hF
    simp (maxSteps := 999999) (disch := first | exact D (by decide) | exact K (by kernel_rfl)) only [E, EE, ↓reduceIte, simprocAttr, xk B15 [2, 2, 2, 2] .rt rfl, finK_norm, finK_ret, fin15, R15_ai10rz.st, h1]
noncomputable def f15_ai10rz_j1 (k : Nat) (x45 : Bool) (m1 m1_1 m1_2 m1_3 m1_4 m1_5 m1_6 m1_7 m1_8 m1_9 : Int) (m1_10 : List Int) : Option R15_ai10rz :=
  cond ((decide (m1_5 < 1)))
    (some (R15_ai10rz.o0 false))
    (
      cond ((decide (m1_5 > 16)))
        (some (R15_ai10rz.o0 false))
        (
          cond ((decide (m1_6 < 0)))
            (some (R15_ai10rz.o0 false))
            (
              cond ((decide (m1_6 > m1_5)))
                (some (R15_ai10rz.o0 false))
                (
                  cond ((decide (m1_7 < 0)))
                    (some (R15_ai10rz.o0 false))
                    (
                      cond ((decide (m1_7 > 2)))
                        (some (R15_ai10rz.o0 false))
                        (
                          cond ((decide (m1_9 < 1)))
                            (some (R15_ai10rz.o0 false))
                            (
                              cond ((decide (m1_9 > 400)))
                                (some (R15_ai10rz.o0 false))
                                (f15_ai10rz_j2 k false m1 m1_1 m1_2 m1_3 m1_4 m1_5 m1_6 m1_7 m1_8 m1_9 m1_10))))))))
theorem f15_ai10rz_j1_ok (k : Nat) (x45 : Bool) (m1 m1_1 m1_2 m1_3 m1_4 m1_5 m1_6 m1_7 m1_8 m1_9 : Int) (m1_10 : List Int) (r : R15_ai10rz) (hF : f15_ai10rz_j1 k x45 m1 m1_1 m1_2 m1_3 m1_4 m1_5 m1_6 m1_7 m1_8 m1_9 m1_10 = some r) : finK Tryd.prog Tryd.f15 0 (EX 15 k (nav B15 [2, 2]) ({ n := 114, F := [(1, V.ptr 1 0), (45, V.p (Value.bool x45))], M := [(1, O.box 26 [V.p (Value.int .i64 m1), V.p (Value.int .i64 m1_1), V.p (Value.int .u32 m1_2), V.p (Value.int .i64 m1_3), V.p (Value.int .i64 m1_4), V.p (Value.int .i64 m1_5), V.p (Value.int .i64 m1_6), V.p (Value.int .i64 m1_7), V.p (Value.int .i64 m1_8), V.p (Value.int .i64 m1_9), V.sl 1 (rowsOf (encI .u8) m1_10)])] } : St)) = some r.st := by
  unfold f15_ai10rz_j1 at hF
  simp (maxSteps := 999999) (disch := first | exact D (by decide) | exact K (by kernel_rfl)) only [E, EE, ↓reduceIte, simprocAttr, xk B15 [2, 2] .sq rfl, xk B15 [1, 2, 2] .sq rfl, show (nav B15 [1, 1, 2, 2]) = Code.region 3 _ false from rfl, hk_15_3, hz_15_3, hs_15_3, fieldAddrV, u_26, i_26, is_26, ib_26, iz_26, u_3, i_3, is_3, ib_3, iz_3]
  replace hF := cond_some hF
  rcases hF with ⟨h1, hF⟩ | ⟨h1, hF⟩
  · cases hF
    simp (maxSteps := 999999) (disch := first | exact D (by decide) | exact K (by kernel_rfl)) only [E, EE, ↓reduceIte, simprocAttr, xk B15 [2, 1, 2, 2] (.cd 85) rfl, xk B15 [2, 2, 1, 2, 2] .sq rfl, show (nav B15 [1, 2, 2, 1, 2, 2]) = Code.region 4 _ false from rfl, hk_15_4, hz_15_4, hs_15_4, xk B15 [2, 2, 2, 1, 2, 2] .rt rfl, finK_norm, finK_ret, fin15, R15_ai10rz.st, h1]
  · simp (maxSteps := 999999) (disch := first | exact D (by decide) | exact K (by kernel_rfl)) only [E, EE, ↓reduceIte, simprocAttr, fieldAddrV, u_26, i_26, is_26, ib_26, iz_26, u_3, i_3, is_3, ib_3, iz_3, h1]
    replace hF := cond_some hF
    rcases hF with ⟨h2, hF⟩ | ⟨h2, hF⟩
    · cases hF
      simp (maxSteps := 999999) (disch := first | exact D (by decide) | exact K (by kernel_rfl)) only [E, EE, ↓reduceIte, simprocAttr, xk B15 [2, 1, 2, 2] (.cd 85) rfl, xk B15 [2, 2, 1, 2, 2] .sq rfl, show (nav B15 [1, 2, 2, 1, 2, 2]) = Code.region 4 _ false from rfl, hk_15_4, hz_15_4, hs_15_4, xk B15 [2, 2, 2, 1, 2, 2] .rt rfl, finK_norm, finK_ret, fin15, R15_ai10rz.st, h1, h2]
    · simp (maxSteps := 999999) (disch := first | exact D (by decide) | exact K (by kernel_rfl)) only [E, EE, ↓reduceIte, simprocAttr, fieldAddrV, u_26, i_26, is_26, ib_26, iz_26, u_3, i_3, is_3, ib_3, iz_3, h1, h2]
      replace hF := cond_some hF
      rcases hF with ⟨h3, hF⟩ | ⟨h3, hF⟩
      · cases hF
        simp (maxSteps := 999999) (disch := first | exact D (by decide) | exact K (by kernel_rfl)) only [E, EE, ↓reduceIte, simprocAttr, xk B15 [2, 1, 2, 2] (.cd 85) rfl, xk B15 [2, 2, 1, 2, 2] .sq rfl, show (nav B15 [1, 2, 2, 1, 2, 2]) = Code.region 4 _ false from rfl, hk_15_4, hz_15_4, hs_15_4, xk B15 [2, 2, 2, 1, 2, 2] .rt rfl, finK_norm, finK_ret, fin15, R15_ai10rz.st, h1, h2, h3]
      · simp (maxSteps := 999999) (disch := first | exact D (by decide) | exact K (by kernel_rfl)) only [E, EE, ↓reduceIte, simprocAttr, fieldAddrV, u_26, i_26, is_26, ib_26, iz_26, u_3, i_3, is_3, ib_3, iz_3, h1, h2, h3]
        replace hF := cond_some hF
        rcases hF with ⟨h4, hF⟩ | ⟨h4, hF⟩
        · cases hF
          simp (maxSteps := 999999) (disch := first | exact D (by decide) | exact K (by kernel_rfl)) only [E, EE, ↓reduceIte, simprocAttr, xk B15 [2, 1, 2, 2] (.cd 85) rfl, xk B15 [2, 2, 1, 2, 2] .sq rfl, show (nav B15 [1, 2, 2, 1, 2, 2]) = Code.region 4 _ false from rfl, hk_15_4, hz_15_4, hs_15_4, xk B15 [2, 2, 2, 1, 2, 2] .rt rfl, finK_norm, finK_ret, fin15, R15_ai10rz.st, h1, h2, h3, h4]
        · simp (maxSteps := 999999) (disch := first | exact D (by decide) | exact K (by kernel_rfl)) only [E, EE, ↓reduceIte, simprocAttr, fieldAddrV, u_26, i_26, is_26, ib_26, iz_26, u_3, i_3, is_3, ib_3, iz_3, h1, h2, h3, h4]
          replace hF := cond_some hF
          rcases hF with ⟨h5, hF⟩ | ⟨h5, hF⟩
          · cases hF
            simp (maxSteps := 999999) (disch := first | exact D (by decide) | exact K (by kernel_rfl)) only [E, EE, ↓reduceIte, simprocAttr, xk B15 [2, 1, 2, 2] (.cd 85) rfl, xk B15 [2, 2, 1, 2, 2] .sq rfl, show (nav B15 [1, 2, 2, 1, 2, 2]) = Code.region 4 _ false from rfl, hk_15_4, hz_15_4, hs_15_4, xk B15 [2, 2, 2, 1, 2, 2] .rt rfl, finK_norm, finK_ret, fin15, R15_ai10rz.st, h1, h2, h3, h4, h5]
          · simp (maxSteps := 999999) (disch := first | exact D (by decide) | exact K (by kernel_rfl)) only [E, EE, ↓reduceIte, simprocAttr, fieldAddrV, u_26, i_26, is_26, ib_26, iz_26, u_3, i_3, is_3, ib_3, iz_3, h1, h2, h3, h4, h5]
            replace hF := cond_some hF
            rcases hF with ⟨h6, hF⟩ | ⟨h6, hF⟩
            · cases hF
              simp (maxSteps := 999999) (disch := first | exact D (by decide) | exact K (by kernel_rfl)) only [E, EE, ↓reduceIte, simprocAttr, xk B15 [2, 1, 2, 2] (.cd 85) rfl, xk B15 [2, 2, 1, 2, 2] .sq rfl, show (nav B15 [1, 2, 2, 1, 2, 2]) = Code.region 4 _ false from rfl, hk_15_4, hz_15_4, hs_15_4, xk B15 [2, 2, 2, 1, 2, 2] .rt rfl, finK_norm, finK_ret, fin15, R15_ai10rz.st, h1, h2, h3, h4, h5, h6]
            · simp (maxSteps := 999999) (disch := first | exact D (by decide) | exact K (by kernel_rfl)) only [E, EE, ↓reduceIte, simprocAttr, fieldAddrV, u_26, i_26, is_26, ib_26, iz_26, u_3, i_3, is_3, ib_3, iz_3, h1, h2, h3, h4, h5, h6]
              replace hF := cond_some hF
              rcases hF with ⟨h7, hF⟩ | ⟨h7, hF⟩
              · cases hF
                simp (maxSteps := 999999) (disch := first | exact D (by decide) | exact K (by kernel_rfl)) only [E, EE, ↓reduceIte, simprocAttr, xk B15 [2, 1, 2, 2] (.cd 85) rfl, xk B15 [2, 2, 1, 2, 2] .sq rfl, show (nav B15 [1, 2, 2, 1, 2, 2]) = Code.region 4 _ false from rfl, hk_15_4, hz_15_4, hs_15_4, xk B15 [2, 2, 2, 1, 2, 2] .rt rfl, finK_norm, finK_ret, fin15, R15_ai10rz.st, h1, h2, h3, h4, h5, h6, h7]
              · simp (maxSteps := 999999) (disch := first | exact D (by decide) | exact K (by kernel_rfl)) only [E, EE, ↓reduceIte, simprocAttr, fieldAddrV, u_26, i_26, is_26, ib_26, iz_26, u_3, i_3, is_3, ib_3, iz_3, xk B15 [2, 1, 2, 2] (.cd 85) rfl, h1, h2, h3, h4, h5, h6, h7]
                replace hF := cond_some hF
                rcases hF with ⟨h8, hF⟩ | ⟨h8, hF⟩
                · cases hF
                  simp (maxSteps := 999999) (disch := first | exact D (by decide) | exact K (by kernel_rfl)) only [E, EE, ↓reduceIte, simprocAttr, xk B15 [2, 2, 1, 2, 2] .sq rfl, show (nav B15 [1, 2, 2, 1, 2, 2]) = Code.region 4 _ false from rfl, hk_15_4, hz_15_4, hs_15_4, xk B15 [2, 2, 2, 1, 2, 2] .rt rfl, finK_norm, finK_ret, fin15, R15_ai10rz.st, h1, h2, h3, h4, h5, h6, h7, h8]
                · have hJ := f15_ai10rz_j2_ok k false m1 m1_1 m1_2 m1_3 m1_4 m1_5 m1_6 m1_7 m1_8 m1_9 m1_10 _ hF
                  simp (maxSteps := 999999) (disch := first | exact D (by decide) | exact K (by kernel_rfl)) only [E, EE, ↓reduceIte, simprocAttr, xk B15 [3, 2, 1, 2, 2] .sk rfl, h1, h2, h3, h4, h5, h6, h7, h8]
                  try simp only [NM, EE] at hJ
                  exact hJ
noncomputable def f15_ai10rz_e (k : Nat) (a0 a0_1 a0_2 a0_3 a0_4 a0_5 a0_6 a0_7 a0_8 a0_9 : Int) (a0_10 : List Int) : Option R15_ai10rz :=
  cond ((decide (a0 < 1)))
    (some (R15_ai10rz.o0 false))
    (
      cond ((decide (a0 > 6)))
        (some (R15_ai10rz.o0 false))
        (
          cond ((decide (a0_1 < 1)))
            (some (R15_ai10rz.o0 false))
            (
              cond ((decide (a0_1 > 6)))
                (some (R15_ai10rz.o0 false))
                (
                  cond ((a0_2 == 0))
                    (some (R15_ai10rz.o0 false))
                    (
                      cond ((decide (a0_3 < 0)))
                        (some (R15_ai10rz.o0 false))
                        (
                          cond ((decide (a0_3 > 1048576)))
                            (some (R15_ai10rz.o0 false))
                            (
                              cond ((decide (a0_4 < 1)))
                                (some (R15_ai10rz.o0 false))
                                (
                                  cond ((decide (a0_4 > 1048576)))
                                    (some (R15_ai10rz.o0 false))
                                    (f15_ai10rz_j1 k false a0 a0_1 a0_2 a0_3 a0_4 a0_5 a0_6 a0_7 a0_8 a0_9 a0_10)))))))))
theorem f15_ai10rz_e_ok (k : Nat) (a0 a0_1 a0_2 a0_3 a0_4 a0_5 a0_6 a0_7 a0_8 a0_9 : Int) (a0_10 : List Int) (r : R15_ai10rz) (hF : f15_ai10rz_e k a0 a0_1 a0_2 a0_3 a0_4 a0_5 a0_6 a0_7 a0_8 a0_9 a0_10 = some r) : finK Tryd.prog Tryd.f15 0 (EX 15 k (nav B15 []) ({ n := 114, F := [(0, V.agg [V.p (Value.int .i64 a0), V.p (Value.int .i64 a0_1), V.p (Value.int .u32 a0_2), V.p (Value.int .i64 a0_3), V.p (Value.int .i64 a0_4), V.p (Value.int .i64 a0_5), V.p (Value.int .i64 a0_6), V.p (Value.int .i64 a0_7), V.p (Value.int .i64 a0_8), V.p (Value.int .i64 a0_9), V.sl 1 (rowsOf (encI .u8) a0_10)])], M := [] } : St)) = some r.st := by
  unfold f15_ai10rz_e at hF
  simp (maxSteps := 999999) (disch := first | exact D (by decide) | exact K (by kernel_rfl)) only [E, EE, ↓reduceIte, simprocAttr, xk B15 [] .sq rfl, show (nav B15 [1]) = Code.region 0 _ false from rfl, hk_15_0, hz_15_0, hs_15_0, xk B15 [2] .sq rfl, xk B15 [1, 2] .sq rfl, show (nav B15 [1, 1, 2]) = Code.region 1 _ false from rfl, hk_15_1, hz_15_1, hs_15_1, fieldAddrV, u_26, i_26, is_26, ib_26, iz_26, u_3, i_3, is_3, ib_3, iz_3]
  replace hF := cond_some hF
  rcases hF with ⟨h1, hF⟩ | ⟨h1, hF⟩
  · cases hF
    simp (maxSteps := 999999) (disch := first | exact D (by decide) | exact K (by kernel_rfl)) only [E, EE, ↓reduceIte, simprocAttr, xk B15 [2, 1, 2] (.cd 45) rfl, xk B15 [2, 2, 1, 2] .sq rfl, show (nav B15 [1, 2, 2, 1, 2]) = Code.region 2 _ false from rfl, hk_15_2, hz_15_2, hs_15_2, xk B15 [2, 2, 2, 1, 2] .rt rfl, finK_norm, finK_ret, fin15, R15_ai10rz.st, h1]
  · simp (maxSteps := 999999) (disch := first | exact D (by decide) | exact K (by kernel_rfl)) only [E, EE, ↓reduceIte, simprocAttr, fieldAddrV, u_26, i_26, is_26, ib_26, iz_26, u_3, i_3, is_3, ib_3, iz_3, h1]
    replace hF := cond_some hF
    rcases hF with ⟨h2, hF⟩ | ⟨h2, hF⟩
    · cases hF
      simp (maxSteps := 999999) (disch := first | exact D (by decide) | exact K (by kernel_rfl)) only [E, EE, ↓reduceIte, simprocAttr, xk B15 [2, 1, 2] (.cd 45) rfl, xk B15 [2, 2, 1, 2] .sq rfl, show (nav B15 [1, 2, 2, 1, 2]) = Code.region 2 _ false from rfl, hk_15_2, hz_15_2, hs_15_2, xk B15 [2, 2, 2, 1, 2] .rt rfl, finK_norm, finK_ret, fin15, R15_ai10rz.st, h1, h2]
    · simp (maxSteps := 999999) (disch := first | exact D (by decide) | exact K (by kernel_rfl)) only [E, EE, ↓reduceIte, simprocAttr, fieldAddrV, u_26, i_26, is_26, ib_26, iz_26, u_3, i_3, is_3, ib_3, iz_3, h1, h2]
      replace hF := cond_some hF
      rcases hF with ⟨h3, hF⟩ | ⟨h3, hF⟩
      · cases hF
        simp (maxSteps := 999999) (disch := first | exact D (by decide) | exact K (by kernel_rfl)) only [E, EE, ↓reduceIte, simprocAttr, xk B15 [2, 1, 2] (.cd 45) rfl, xk B15 [2, 2, 1, 2] .sq rfl, show (nav B15 [1, 2, 2, 1, 2]) = Code.region 2 _ false from rfl, hk_15_2, hz_15_2, hs_15_2, xk B15 [2, 2, 2, 1, 2] .rt rfl, finK_norm, finK_ret, fin15, R15_ai10rz.st, h1, h2, h3]
      · simp (maxSteps := 999999) (disch := first | exact D (by decide) | exact K (by kernel_rfl)) only [E, EE, ↓reduceIte, simprocAttr, fieldAddrV, u_26, i_26, is_26, ib_26, iz_26, u_3, i_3, is_3, ib_3, iz_3, h1, h2, h3]
        replace hF := cond_some hF
        rcases hF with ⟨h4, hF⟩ | ⟨h4, hF⟩
        · cases hF
          simp (maxSteps := 999999) (disch := first | exact D (by decide) | exact K (by kernel_rfl)) only [E, EE, ↓reduceIte, simprocAttr, xk B15 [2, 1, 2] (.cd 45) rfl, xk B15 [2, 2, 1, 2] .sq rfl, show (nav B15 [1, 2, 2, 1, 2]) = Code.region 2 _ false from rfl, hk_15_2, hz_15_2, hs_15_2, xk B15 [2, 2, 2, 1, 2] .rt rfl, finK_norm, finK_ret, fin15, R15_ai10rz.st, h1, h2, h3, h4]
        · simp (maxSteps := 999999) (disch := first | exact D (by decide) | exact K (by kernel_rfl)) only [E, EE, ↓reduceIte, simprocAttr, fieldAddrV, u_26, i_26, is_26, ib_26, iz_26, u_24, i_24, is_24, ib_24, iz_24, h1, h2, h3, h4]
          replace hF := cond_some hF
          rcases hF with ⟨h5, hF⟩ | ⟨h5, hF⟩
          · cases hF
            simp (maxSteps := 999999) (disch := first | exact D (by decide) | exact K (by kernel_rfl)) only [E, EE, ↓reduceIte, simprocAttr, xk B15 [2, 1, 2] (.cd 45) rfl, xk B15 [2, 2, 1, 2] .sq rfl, show (nav B15 [1, 2, 2, 1, 2]) = Code.region 2 _ false from rfl, hk_15_2, hz_15_2, hs_15_2, xk B15 [2, 2, 2, 1, 2] .rt rfl, finK_norm, finK_ret, fin15, R15_ai10rz.st, h1, h2, h3, h4, h5]
          · simp (maxSteps := 999999) (disch := first | exact D (by decide) | exact K (by kernel_rfl)) only [E, EE, ↓reduceIte, simprocAttr, fieldAddrV, u_26, i_26, is_26, ib_26, iz_26, u_3, i_3, is_3, ib_3, iz_3, h1, h2, h3, h4, h5]
            replace hF := cond_some hF
            rcases hF with ⟨h6, hF⟩ | ⟨h6, hF⟩
            · cases hF
              simp (maxSteps := 999999) (disch := first | exact D (by decide) | exact K (by kernel_rfl)) only [E, EE, ↓reduceIte, simprocAttr, xk B15 [2, 1, 2] (.cd 45) rfl, xk B15 [2, 2, 1, 2] .sq rfl, show (nav B15 [1, 2, 2, 1, 2]) = Code.region 2 _ false from rfl, hk_15_2, hz_15_2, hs_15_2, xk B15 [2, 2, 2, 1, 2] .rt rfl, finK_norm, finK_ret, fin15, R15_ai10rz.st, h1, h2, h3, h4, h5, h6]
            · simp (maxSteps := 999999) (disch := first | exact D (by decide) | exact K (by kernel_rfl)) only [E, EE, ↓reduceIte, simprocAttr, fieldAddrV, u_26, i_26, is_26, ib_26, iz_26, u_3, i_3, is_3, ib_3, iz_3, h1, h2, h3, h4, h5, h6]
              replace hF := cond_some hF
              rcases hF with ⟨h7, hF⟩ | ⟨h7, hF⟩
              · cases hF
                simp (maxSteps := 999999) (disch := first | exact D (by decide) | exact K (by kernel_rfl)) only [E, EE, ↓reduceIte, simprocAttr, xk B15 [2, 1, 2] (.cd 45) rfl, xk B15 [2, 2, 1, 2] .sq rfl, show (nav B15 [1, 2, 2, 1, 2]) = Code.region 2 _ false from rfl, hk_15_2, hz_15_2, hs_15_2, xk B15 [2, 2, 2, 1, 2] .rt rfl, finK_norm, finK_ret, fin15, R15_ai10rz.st, h1, h2, h3, h4, h5, h6, h7]
              · simp (maxSteps := 999999) (disch := first | exact D (by decide) | exact K (by kernel_rfl)) only [E, EE, ↓reduceIte, simprocAttr, fieldAddrV, u_26, i_26, is_26, ib_26, iz_26, u_3, i_3, is_3, ib_3, iz_3, h1, h2, h3, h4, h5, h6, h7]
                replace hF := cond_some hF
                rcases hF with ⟨h8, hF⟩ | ⟨h8, hF⟩
                · cases hF
                  simp (maxSteps := 999999) (disch := first | exact D (by decide) | exact K (by kernel_rfl)) only [E, EE, ↓reduceIte, simprocAttr, xk B15 [2, 1, 2] (.cd 45) rfl, xk B15 [2, 2, 1, 2] .sq rfl, show (nav B15 [1, 2, 2, 1, 2]) = Code.region 2 _ false from rfl, hk_15_2, hz_15_2, hs_15_2, xk B15 [2, 2, 2, 1, 2] .rt rfl, finK_norm, finK_ret, fin15, R15_ai10rz.st, h1, h2, h3, h4, h5, h6, h7, h8]
                · simp (maxSteps := 999999) (disch := first | exact D (by decide) | exact K (by kernel_rfl)) only [E, EE, ↓reduceIte, simprocAttr, fieldAddrV, u_26, i_26, is_26, ib_26, iz_26, u_3, i_3, is_3, ib_3, iz_3, xk B15 [2, 1, 2] (.cd 45) rfl, h1, h2, h3, h4, h5, h6, h7, h8]
                  replace hF := cond_some hF
                  rcases hF with ⟨h9, hF⟩ | ⟨h9, hF⟩
                  · cases hF
                    simp (maxSteps := 999999) (disch := first | exact D (by decide) | exact K (by kernel_rfl)) only [E, EE, ↓reduceIte, simprocAttr, xk B15 [2, 2, 1, 2] .sq rfl, show (nav B15 [1, 2, 2, 1, 2]) = Code.region 2 _ false from rfl, hk_15_2, hz_15_2, hs_15_2, xk B15 [2, 2, 2, 1, 2] .rt rfl, finK_norm, finK_ret, fin15, R15_ai10rz.st, h1, h2, h3, h4, h5, h6, h7, h8, h9]
                  · have hJ := f15_ai10rz_j1_ok k false a0 a0_1 a0_2 a0_3 a0_4 a0_5 a0_6 a0_7 a0_8 a0_9 a0_10 _ hF
                    simp (maxSteps := 999999) (disch := first | exact D (by decide) | exact K (by kernel_rfl)) only [E, EE, ↓reduceIte, simprocAttr, xk B15 [3, 2, 1, 2] .sk rfl, h1, h2, h3, h4, h5, h6, h7, h8, h9]
                    try simp only [NM, EE] at hJ
                    exact hJ
noncomputable def f15_ai10rz (k : Nat) (a0 a0_1 a0_2 a0_3 a0_4 a0_5 a0_6 a0_7 a0_8 a0_9 : Int) (a0_10 : List Int) : Option R15_ai10rz := match k with | 0 => none | k + 1 => f15_ai10rz_e k a0 a0_1 a0_2 a0_3 a0_4 a0_5 a0_6 a0_7 a0_8 a0_9 a0_10
theorem f15_ai10rz_ok (k : Nat) (a0 a0_1 a0_2 a0_3 a0_4 a0_5 a0_6 a0_7 a0_8 a0_9 : Int) (a0_10 : List Int) (r : R15_ai10rz) (hF : f15_ai10rz k a0 a0_1 a0_2 a0_3 a0_4 a0_5 a0_6 a0_7 a0_8 a0_9 a0_10 = some r) : CV k 15 [V.agg [V.p (Value.int .i64 a0), V.p (Value.int .i64 a0_1), V.p (Value.int .u32 a0_2), V.p (Value.int .i64 a0_3), V.p (Value.int .i64 a0_4), V.p (Value.int .i64 a0_5), V.p (Value.int .i64 a0_6), V.p (Value.int .i64 a0_7), V.p (Value.int .i64 a0_8), V.p (Value.int .i64 a0_9), V.sl 1 (rowsOf (encI .u8) a0_10)]] [] = some r.st := by
  cases k with
  | zero => cases hF
  | succ k =>
    unfold CV
    rw [ev_call (F := Tryd.f15) (c := (nav B15 [])) rfl Tryd.func15 rfl rfl rfl rfl]
    exact f15_ai10rz_e_ok k a0 a0_1 a0_2 a0_3 a0_4 a0_5 a0_6 a0_7 a0_8 a0_9 a0_10 r hF
end Go.Proofs.YtbnnmplkbpgcaaaDoorV
