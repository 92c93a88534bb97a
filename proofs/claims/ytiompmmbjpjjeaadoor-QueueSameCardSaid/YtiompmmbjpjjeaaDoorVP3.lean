/- What the program's functions answer: plain functions, and that the interpreter answers what they do. Written by a program of this session, out of the translation. -/
import Derived.Test.YtiompmmbjpjjeaaDoorVP2
namespace Go.Proofs.YtiompmmbjpjjeaaDoorV
open Go
set_option linter.unusedVariables false
set_option linter.unusedSimpArgs false
set_option maxRecDepth 8000
set_option maxHeartbeats 4000000
-- f7_arrrrzarrrrz: f7 heliograph/heliographlaw20.QueueSame
inductive R7_arrrrzarrrrz where
  | o0 (y : Bool)
noncomputable def R7_arrrrzarrrrz.st : R7_arrrrzarrrrz → V × List O × List O
  | .o0 y => (V.p (Value.bool y), [], [])
noncomputable def f7_arrrrzarrrrz_j1 (k : Nat) (x7 : Bool) (m2 : List T56) (m2_1 m2_2 : List T44) (m2_3 : List Int) (m3 : List T56) (m3_1 m3_2 : List T44) (m3_3 : List Int) : Option R7_arrrrzarrrrz :=
  Option.bind (f21_arrrrz k m2 m2_1 m2_2 m2_3) fun o1 =>
    match o1 with
    | .o0 v4 v5 v6 v7 =>
      Option.bind (f21_arrrrz k m3 m3_1 m3_2 m3_3) fun o8 =>
        match o8 with
        | .o0 v11 v12 v13 v14 =>
          Option.bind (f22_arrrrzarrrrz k v4 v5 v6 v7 v11 v12 v13 v14) fun o15 =>
            match o15 with
            | .o0 v18 =>
              Option.bind (f23_arrrrzarrrrz k v4 v5 v6 v7 v11 v12 v13 v14) fun o19 =>
                match o19 with
                | .o0 v22 =>
                  cond ((v18 == v22))
                    (
                      Option.bind (f22_arrrrzarrrrz k v4 v5 v6 v7 v4 v5 v6 v7) fun o24 =>
                        match o24 with
                        | .o0 v27 =>
                          some (R7_arrrrzarrrrz.o0 v27))
                    (some (R7_arrrrzarrrrz.o0 false))
theorem f7_arrrrzarrrrz_j1_ok (k : Nat) (x7 : Bool) (m2 : List T56) (m2_1 m2_2 : List T44) (m2_3 : List Int) (m3 : List T56) (m3_1 m3_2 : List T44) (m3_3 : List Int) (r : R7_arrrrzarrrrz) (hF : f7_arrrrzarrrrz_j1 k x7 m2 m2_1 m2_2 m2_3 m3 m3_1 m3_2 m3_3 = some r) : finK Tryd.prog Tryd.f7 0 (EX 7 k (nav B7 [2, 2]) ({ n := 26, F := [(2, V.ptr 2 0), (3, V.ptr 3 0), (7, V.p (Value.bool x7))], M := [(2, O.box 37 [V.sl 5 (rowsOf encT56 m2), V.sl 3 (rowsOf encT44 m2_1), V.sl 3 (rowsOf encT44 m2_2), V.sl 1 (rowsOf (encI .i64) m2_3)]), (3, O.box 37 [V.sl 5 (rowsOf encT56 m3), V.sl 3 (rowsOf encT44 m3_1), V.sl 3 (rowsOf encT44 m3_2), V.sl 1 (rowsOf (encI .i64) m3_3)])] } : St)) = some r.st := by
  unfold f7_arrrrzarrrrz_j1 at hF
  replace hF := Option.bind_eq_some_iff.1 hF
  obtain ⟨o1, h2, hF⟩ := hF
  have hc3 := f21_arrrrz_ok k m2 m2_1 m2_2 m2_3 _ h2
  cases o1 with
  | o0 v4 v5 v6 v7 =>
    (try dsimp only at hF)
    (try simp only [NM, EE, R21_arrrrz.st] at hc3)
    replace hF := Option.bind_eq_some_iff.1 hF
    obtain ⟨o8, h9, hF⟩ := hF
    have hc10 := f21_arrrrz_ok k m3 m3_1 m3_2 m3_3 _ h9
    cases o8 with
    | o0 v11 v12 v13 v14 =>
      (try dsimp only at hF)
      (try simp only [NM, EE, R21_arrrrz.st] at hc10)
      replace hF := Option.bind_eq_some_iff.1 hF
      obtain ⟨o15, h16, hF⟩ := hF
      have hc17 := f22_arrrrzarrrrz_ok k v4 v5 v6 v7 v11 v12 v13 v14 _ h16
      cases o15 with
      | o0 v18 =>
        (try dsimp only at hF)
        (try simp only [NM, EE, R22_arrrrzarrrrz.st] at hc17)
        replace hF := Option.bind_eq_some_iff.1 hF
        obtain ⟨o19, h20, hF⟩ := hF
        have hc21 := f23_arrrrzarrrrz_ok k v4 v5 v6 v7 v11 v12 v13 v14 _ h20
        cases o19 with
        | o0 v22 =>
          (try dsimp only at hF)
          (try simp only [NM, EE, R23_arrrrzarrrrz.st] at hc21)
          simp (maxSteps := 999999) (disch := first | exact D (by decide) | exact K (by kernel_rfl)) only [E, EE, ↓reduceIte, simprocAttr, xk B7 [2, 2] .sq rfl, show (nav B7 [1, 2, 2]) = Code.region 3 _ false from rfl, hk_7_3, hz_7_3, hs_7_3, xk B7 [2, 2, 2] .sq rfl, show (nav B7 [1, 2, 2, 2]) = Code.region 4 _ true from rfl, hk_7_4, hz_7_4, hs_7_4, u_37, i_37, is_37, ib_37, iz_37, callStep, CL, gv, List.contains, xk B7 [2, 2, 2, 2] .sq rfl, show (nav B7 [1, 2, 2, 2, 2]) = Code.region 5 _ true from rfl, hk_7_5, hz_7_5, hs_7_5, u_4, i_4, is_4, ib_4, iz_4, hc3, hc10, hc17, hc21]
          replace hF := cond_some hF
          rcases hF with ⟨h23, hF⟩ | ⟨h23, hF⟩
          · replace hF := Option.bind_eq_some_iff.1 hF
            obtain ⟨o24, h25, hF⟩ := hF
            have hc26 := f22_arrrrzarrrrz_ok k v4 v5 v6 v7 v4 v5 v6 v7 _ h25
            cases o24 with
            | o0 v27 =>
              (try dsimp only at hF)
              (try simp only [NM, EE, R22_arrrrzarrrrz.st] at hc26)
              cases hF
              simp (maxSteps := 999999) (disch := first | exact D (by decide) | exact K (by kernel_rfl)) only [E, EE, ↓reduceIte, simprocAttr, u_37, i_37, is_37, ib_37, iz_37, callStep, CL, gv, List.contains, xk B7 [2, 2, 2, 2, 2] .rt rfl, finK_norm, finK_ret, fin7, R7_arrrrzarrrrz.st, hc3, hc10, hc17, hc21, h23, hc26]
          · cases hF
            simp (maxSteps := 999999) (disch := first | exact D (by decide) | exact K (by kernel_rfl)) only [E, EE, ↓reduceIte, simprocAttr, xk B7 [2, 2, 2, 2, 2] .rt rfl, finK_norm, finK_ret, fin7, R7_arrrrzarrrrz.st, hc3, hc10, hc17, hc21, h23]
noncomputable def f7_arrrrzarrrrz_e (k : Nat) (a0 : List T56) (a0_1 a0_2 : List T44) (a0_3 : List Int) (a1 : List T56) (a1_1 a1_2 : List T44) (a1_3 : List Int) : Option R7_arrrrzarrrrz :=
  Option.bind (f8_ k) fun o1 =>
    match o1 with
    | .o0 v4 =>
      cond ((!v4))
        (some (R7_arrrrzarrrrz.o0 false))
        (f7_arrrrzarrrrz_j1 k false a0 a0_1 a0_2 a0_3 a1 a1_1 a1_2 a1_3)
theorem f7_arrrrzarrrrz_e_ok (k : Nat) (a0 : List T56) (a0_1 a0_2 : List T44) (a0_3 : List Int) (a1 : List T56) (a1_1 a1_2 : List T44) (a1_3 : List Int) (r : R7_arrrrzarrrrz) (hF : f7_arrrrzarrrrz_e k a0 a0_1 a0_2 a0_3 a1 a1_1 a1_2 a1_3 = some r) : finK Tryd.prog Tryd.f7 0 (EX 7 k (nav B7 []) ({ n := 26, F := [(0, V.agg [V.sl 5 (rowsOf encT56 a0), V.sl 3 (rowsOf encT44 a0_1), V.sl 3 (rowsOf encT44 a0_2), V.sl 1 (rowsOf (encI .i64) a0_3)]), (1, V.agg [V.sl 5 (rowsOf encT56 a1), V.sl 3 (rowsOf encT44 a1_1), V.sl 3 (rowsOf encT44 a1_2), V.sl 1 (rowsOf (encI .i64) a1_3)])], M := [] } : St)) = some r.st := by
  unfold f7_arrrrzarrrrz_e at hF
  replace hF := Option.bind_eq_some_iff.1 hF
  obtain ⟨o1, h2, hF⟩ := hF
  have hc3 := f8__ok k _ h2
  cases o1 with
  | o0 v4 =>
    (try dsimp only at hF)
    (try simp only [NM, EE, R8_.st] at hc3)
    simp (maxSteps := 999999) (disch := first | exact D (by decide) | exact K (by kernel_rfl)) only [E, EE, ↓reduceIte, simprocAttr, xk B7 [] .sq rfl, show (nav B7 [1]) = Code.region 0 _ false from rfl, hk_7_0, hz_7_0, hs_7_0, xk B7 [2] .sq rfl, xk B7 [1, 2] .sq rfl, show (nav B7 [1, 1, 2]) = Code.region 1 _ false from rfl, hk_7_1, hz_7_1, hs_7_1, callStep, CL, gv, List.contains, xk B7 [2, 1, 2] (.cd 7) rfl, hc3]
    replace hF := cond_some hF
    rcases hF with ⟨h5, hF⟩ | ⟨h5, hF⟩
    · cases hF
      simp (maxSteps := 999999) (disch := first | exact D (by decide) | exact K (by kernel_rfl)) only [E, EE, ↓reduceIte, simprocAttr, xk B7 [2, 2, 1, 2] .sq rfl, show (nav B7 [1, 2, 2, 1, 2]) = Code.region 2 _ false from rfl, hk_7_2, hz_7_2, hs_7_2, xk B7 [2, 2, 2, 1, 2] .rt rfl, finK_norm, finK_ret, fin7, R7_arrrrzarrrrz.st, hc3, h5]
    · have hJ := f7_arrrrzarrrrz_j1_ok k false a0 a0_1 a0_2 a0_3 a1 a1_1 a1_2 a1_3 _ hF
      simp (maxSteps := 999999) (disch := first | exact D (by decide) | exact K (by kernel_rfl)) only [E, EE, ↓reduceIte, simprocAttr, xk B7 [3, 2, 1, 2] .sk rfl, hc3, h5]
      try simp only [NM, EE] at hJ
      exact hJ
noncomputable def f7_arrrrzarrrrz (k : Nat) (a0 : List T56) (a0_1 a0_2 : List T44) (a0_3 : List Int) (a1 : List T56) (a1_1 a1_2 : List T44) (a1_3 : List Int) : Option R7_arrrrzarrrrz := match k with | 0 => none | k + 1 => f7_arrrrzarrrrz_e k a0 a0_1 a0_2 a0_3 a1 a1_1 a1_2 a1_3
theorem f7_arrrrzarrrrz_ok (k : Nat) (a0 : List T56) (a0_1 a0_2 : List T44) (a0_3 : List Int) (a1 : List T56) (a1_1 a1_2 : List T44) (a1_3 : List Int) (r : R7_arrrrzarrrrz) (hF : f7_arrrrzarrrrz k a0 a0_1 a0_2 a0_3 a1 a1_1 a1_2 a1_3 = some r) : CV k 7 [V.agg [V.sl 5 (rowsOf encT56 a0), V.sl 3 (rowsOf encT44 a0_1), V.sl 3 (rowsOf encT44 a0_2), V.sl 1 (rowsOf (encI .i64) a0_3)], V.agg [V.sl 5 (rowsOf encT56 a1), V.sl 3 (rowsOf encT44 a1_1), V.sl 3 (rowsOf encT44 a1_2), V.sl 1 (rowsOf (encI .i64) a1_3)]] [] = some r.st := by
  cases k with
  | zero => cases hF
  | succ k =>
    unfold CV
    rw [ev_call (F := Tryd.f7) (c := (nav B7 [])) rfl Tryd.func7 rfl rfl rfl rfl]
    exact f7_arrrrzarrrrz_e_ok k a0 a0_1 a0_2 a0_3 a1 a1_1 a1_2 a1_3 r hF
end Go.Proofs.YtiompmmbjpjjeaaDoorV
