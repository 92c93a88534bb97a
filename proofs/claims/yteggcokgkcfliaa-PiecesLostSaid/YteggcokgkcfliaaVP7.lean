/- What the program's functions answer: plain functions, and that the interpreter answers what they do. Written by a program of this session, out of the translation. -/
import Derived.Test.YteggcokgkcfliaaVP6
namespace Go.Proofs.YteggcokgkcfliaaV
open Go
set_option linter.unusedVariables false
set_option linter.unusedSimpArgs false
set_option maxRecDepth 8000
set_option maxHeartbeats 4000000
-- f8_ai10rzii: f8 heliograph/heliographlaw18.PiecesLost
inductive R8_ai10rzii where
  | o0 (y : Bool)
noncomputable def R8_ai10rzii.st : R8_ai10rzii → V × List O × List O
  | .o0 y => (V.p (Value.bool y), [], [])
noncomputable def f8_ai10rzii_j2 (k : Nat) (x2 : Int) (x36 : Bool) (m22 : List T25) : Option R8_ai10rzii :=
  ifE (¬ (IntKind.u64.wrap ((List.length m22) : Int)) = 0) (
    ifE ((0 : Int) ≤ (IntKind.i64.wrap (Int.tmod (IntKind.u64.wrap x2) (IntKind.u64.wrap ((List.length m22) : Int))))) (
      ifE ((IntKind.i64.wrap (Int.tmod (IntKind.u64.wrap x2) (IntKind.u64.wrap ((List.length m22) : Int)))) < ((List.length m22) : Int)) (
        Option.bind (m22[(Int.toNat ((IntKind.i64.wrap (Int.tmod (IntKind.u64.wrap x2) (IntKind.u64.wrap ((List.length m22) : Int))))))]?) fun v4 =>
          ifE ((Int.toNat ((IntKind.i64.wrap (Int.tmod (IntKind.u64.wrap x2) (IntKind.u64.wrap ((List.length m22) : Int)))))) ≤ (List.length m22)) (
            ifE ((List.length ((List.take ((Int.toNat ((IntKind.i64.wrap (Int.tmod (IntKind.u64.wrap x2) (IntKind.u64.wrap ((List.length m22) : Int))))))) m22))) * 104 ≤ roomy) (
              ifE ((0 : Int) ≤ (IntKind.i64.wrap ((IntKind.i64.wrap (Int.tmod (IntKind.u64.wrap x2) (IntKind.u64.wrap ((List.length m22) : Int)))) + (1 : Int)))) (
                ifE ((Int.toNat ((IntKind.i64.wrap ((IntKind.i64.wrap (Int.tmod (IntKind.u64.wrap x2) (IntKind.u64.wrap ((List.length m22) : Int)))) + (1 : Int))))) ≤ (List.length m22)) (
                  ifE (((Int.toNat ((IntKind.i64.wrap ((IntKind.i64.wrap (Int.tmod (IntKind.u64.wrap x2) (IntKind.u64.wrap ((List.length m22) : Int)))) + (1 : Int))))) + ((List.length m22) - (Int.toNat ((IntKind.i64.wrap ((IntKind.i64.wrap (Int.tmod (IntKind.u64.wrap x2) (IntKind.u64.wrap ((List.length m22) : Int)))) + (1 : Int))))))) ≤ (List.length m22)) (
                    ifE (((List.length ((List.take ((Int.toNat ((IntKind.i64.wrap (Int.tmod (IntKind.u64.wrap x2) (IntKind.u64.wrap ((List.length m22) : Int))))))) m22))) + (List.length ((List.take (((List.length m22) - (Int.toNat ((IntKind.i64.wrap ((IntKind.i64.wrap (Int.tmod (IntKind.u64.wrap x2) (IntKind.u64.wrap ((List.length m22) : Int)))) + (1 : Int))))))) ((List.drop ((Int.toNat ((IntKind.i64.wrap ((IntKind.i64.wrap (Int.tmod (IntKind.u64.wrap x2) (IntKind.u64.wrap ((List.length m22) : Int)))) + (1 : Int)))))) m22)))))) * 104 ≤ roomy) (
                      Option.bind (f18_r k (((List.take ((Int.toNat ((IntKind.i64.wrap (Int.tmod (IntKind.u64.wrap x2) (IntKind.u64.wrap ((List.length m22) : Int))))))) m22) ++ (List.take (((List.length m22) - (Int.toNat ((IntKind.i64.wrap ((IntKind.i64.wrap (Int.tmod (IntKind.u64.wrap x2) (IntKind.u64.wrap ((List.length m22) : Int)))) + (1 : Int))))))) ((List.drop ((Int.toNat ((IntKind.i64.wrap ((IntKind.i64.wrap (Int.tmod (IntKind.u64.wrap x2) (IntKind.u64.wrap ((List.length m22) : Int)))) + (1 : Int)))))) m22)))))) fun o12 =>
                        match o12 with
                        | .o0 v15 v16 v17 v18 v19 v20 v21 v22 v23 v24 v25 v26 =>
                          Option.bind (f23_r k (((List.take ((Int.toNat ((IntKind.i64.wrap (Int.tmod (IntKind.u64.wrap x2) (IntKind.u64.wrap ((List.length m22) : Int))))))) m22) ++ (List.take (((List.length m22) - (Int.toNat ((IntKind.i64.wrap ((IntKind.i64.wrap (Int.tmod (IntKind.u64.wrap x2) (IntKind.u64.wrap ((List.length m22) : Int)))) + (1 : Int))))))) ((List.drop ((Int.toNat ((IntKind.i64.wrap ((IntKind.i64.wrap (Int.tmod (IntKind.u64.wrap x2) (IntKind.u64.wrap ((List.length m22) : Int)))) + (1 : Int)))))) m22)))))) fun o27 =>
                            match o27 with
                            | .o0 v30 v31 =>
                              cond ((v26 == 4))
                                (
                                  Option.bind (f20_ai10rzai10nz k v15 v16 v17 v18 v19 v20 v21 v22 v23 v24 v25 0 0 0 0 0 0 0 0 0 0) fun o33 =>
                                    match o33 with
                                    | .o0 v36 =>
                                      cond (v36)
                                        (
                                          cond ((v30 == 0))
                                            (
                                              cond ((((List.length v31) : Int) == 1))
                                                (
                                                  ifE ((0 : Int) < ((List.length v31) : Int)) (
                                                    Option.bind (v31[0]?) fun v41 =>
                                                      cond ((v41.At == v4.Offset))
                                                        (some (R8_ai10rzii.o0 (v41.N == ((List.length v4.Payload) : Int))))
                                                        (some (R8_ai10rzii.o0 false))))
                                                (some (R8_ai10rzii.o0 false)))
                                            (some (R8_ai10rzii.o0 false)))
                                        (some (R8_ai10rzii.o0 false)))
                                (some (R8_ai10rzii.o0 false))
                        | .o1 v44 v45 v46 v47 v48 v49 v50 v51 v52 v53 v54 v55 =>
                          Option.bind (f23_r k (((List.take ((Int.toNat ((IntKind.i64.wrap (Int.tmod (IntKind.u64.wrap x2) (IntKind.u64.wrap ((List.length m22) : Int))))))) m22) ++ (List.take (((List.length m22) - (Int.toNat ((IntKind.i64.wrap ((IntKind.i64.wrap (Int.tmod (IntKind.u64.wrap x2) (IntKind.u64.wrap ((List.length m22) : Int)))) + (1 : Int))))))) ((List.drop ((Int.toNat ((IntKind.i64.wrap ((IntKind.i64.wrap (Int.tmod (IntKind.u64.wrap x2) (IntKind.u64.wrap ((List.length m22) : Int)))) + (1 : Int)))))) m22)))))) fun o56 =>
                            match o56 with
                            | .o0 v59 v60 =>
                              cond ((v54 == 4))
                                (
                                  Option.bind (f20_ai10rzai10nz k v44 v45 v46 v47 v48 v49 v50 v51 v52 v53 v55 0 0 0 0 0 0 0 0 0 0) fun o62 =>
                                    match o62 with
                                    | .o0 v65 =>
                                      cond (v65)
                                        (
                                          cond ((v59 == 0))
                                            (
                                              cond ((((List.length v60) : Int) == 1))
                                                (
                                                  ifE ((0 : Int) < ((List.length v60) : Int)) (
                                                    Option.bind (v60[0]?) fun v70 =>
                                                      cond ((v70.At == v4.Offset))
                                                        (some (R8_ai10rzii.o0 (v70.N == ((List.length v4.Payload) : Int))))
                                                        (some (R8_ai10rzii.o0 false))))
                                                (some (R8_ai10rzii.o0 false)))
                                            (some (R8_ai10rzii.o0 false)))
                                        (some (R8_ai10rzii.o0 false)))
                                (some (R8_ai10rzii.o0 false)))))))))))
theorem f8_ai10rzii_j2_ok (k : Nat) (x2 : Int) (x36 : Bool) (m22 : List T25) (r : R8_ai10rzii) (hF : f8_ai10rzii_j2 k x2 x36 m22 = some r) : finK Try.prog Try.f8 0 (EX 8 k (nav B8 [2, 2, 2, 2, 2]) ({ n := 103, F := [(2, V.p (Value.int .i64 x2)), (7, V.own 22), (36, V.p (Value.bool x36))], M := [(22, O.row true 11 25 (rowsOf encT25 m22))] } : St)) = some r.st := by
  unfold f8_ai10rzii_j2 at hF
  replace hF := ifE_some.1 hF
  obtain ⟨h1, hF⟩ := hF
  replace hF := ifE_some.1 hF
  obtain ⟨h2, hF⟩ := hF
  replace hF := ifE_some.1 hF
  obtain ⟨h3, hF⟩ := hF
  replace hF := Option.bind_eq_some_iff.1 hF
  obtain ⟨v4, h5, hF⟩ := hF
  replace hF := ifE_some.1 hF
  obtain ⟨h6, hF⟩ := hF
  replace hF := ifE_some.1 hF
  obtain ⟨h7, hF⟩ := hF
  replace hF := ifE_some.1 hF
  obtain ⟨h8, hF⟩ := hF
  replace hF := ifE_some.1 hF
  obtain ⟨h9, hF⟩ := hF
  replace hF := ifE_some.1 hF
  obtain ⟨h10, hF⟩ := hF
  replace hF := ifE_some.1 hF
  obtain ⟨h11, hF⟩ := hF
  simp (maxSteps := 999999) (disch := first | exact D (by decide) | exact K (by kernel_rfl)) only [E, EE, ↓reduceIte, simprocAttr, xk B8 [2, 2, 2, 2, 2] .sq rfl, show (nav B8 [1, 2, 2, 2, 2, 2]) = Code.region 7 _ false from rfl, hk_8_7, hz_8_7, hs_8_7, u_3, i_3, is_3, ib_3, iz_3, u_49, i_49, is_49, ib_49, iz_49, convV, u_28, i_28, is_28, ib_28, iz_28, xk B8 [2, 2, 2, 2, 2, 2] .sq rfl, show (nav B8 [1, 2, 2, 2, 2, 2, 2]) = Code.region 8 _ false from rfl, hk_8_8, hz_8_8, hs_8_8, indexAddrV, u_25, i_25, is_25, ib_25, iz_25, encT25_eq, xk B8 [2, 2, 2, 2, 2, 2, 2] .sq rfl, show (nav B8 [1, 2, 2, 2, 2, 2, 2, 2]) = Code.region 9 _ true from rfl, hk_8_9, hz_8_9, hs_8_9, buildSliceV, fillRows, sm_25, sliceV, bound, appendV, content, xk B8 [2, 2, 2, 2, 2, 2, 2, 2] .sq rfl, show (nav B8 [1, 2, 2, 2, 2, 2, 2, 2, 2]) = Code.region 10 _ false from rfl, hk_8_10, hz_8_10, hs_8_10, callStep, CL, gv, List.contains, h1, h2, h3, h5, h6, h7, h8, h9, h10, h11]
  replace hF := Option.bind_eq_some_iff.1 hF
  obtain ⟨o12, h13, hF⟩ := hF
  have hc14 := f18_r_ok k (((List.take ((Int.toNat ((IntKind.i64.wrap (Int.tmod (IntKind.u64.wrap x2) (IntKind.u64.wrap ((List.length m22) : Int))))))) m22) ++ (List.take (((List.length m22) - (Int.toNat ((IntKind.i64.wrap ((IntKind.i64.wrap (Int.tmod (IntKind.u64.wrap x2) (IntKind.u64.wrap ((List.length m22) : Int)))) + (1 : Int))))))) ((List.drop ((Int.toNat ((IntKind.i64.wrap ((IntKind.i64.wrap (Int.tmod (IntKind.u64.wrap x2) (IntKind.u64.wrap ((List.length m22) : Int)))) + (1 : Int)))))) m22))))) _ h13
  cases o12 with
  | o0 v15 v16 v17 v18 v19 v20 v21 v22 v23 v24 v25 v26 =>
    (try dsimp only at hF)
    (try simp only [NM, EE, R18_r.st] at hc14)
    replace hF := Option.bind_eq_some_iff.1 hF
    obtain ⟨o27, h28, hF⟩ := hF
    have hc29 := f23_r_ok k (((List.take ((Int.toNat ((IntKind.i64.wrap (Int.tmod (IntKind.u64.wrap x2) (IntKind.u64.wrap ((List.length m22) : Int))))))) m22) ++ (List.take (((List.length m22) - (Int.toNat ((IntKind.i64.wrap ((IntKind.i64.wrap (Int.tmod (IntKind.u64.wrap x2) (IntKind.u64.wrap ((List.length m22) : Int)))) + (1 : Int))))))) ((List.drop ((Int.toNat ((IntKind.i64.wrap ((IntKind.i64.wrap (Int.tmod (IntKind.u64.wrap x2) (IntKind.u64.wrap ((List.length m22) : Int)))) + (1 : Int)))))) m22))))) _ h28
    cases o27 with
    | o0 v30 v31 =>
      (try dsimp only at hF)
      (try simp only [NM, EE, R23_r.st] at hc29)
      simp (maxSteps := 999999) (disch := first | exact D (by decide) | exact K (by kernel_rfl)) only [E, EE, ↓reduceIte, simprocAttr, u_25, i_25, is_25, ib_25, iz_25, xk B8 [2, 2, 2, 2, 2, 2, 2, 2, 2] .sq rfl, show (nav B8 [1, 2, 2, 2, 2, 2, 2, 2, 2, 2]) = Code.region 11 _ false from rfl, hk_8_11, hz_8_11, hs_8_11, callStep, CL, gv, List.contains, xk B8 [2, 2, 2, 2, 2, 2, 2, 2, 2, 2] .sq rfl, show (nav B8 [1, 2, 2, 2, 2, 2, 2, 2, 2, 2, 2]) = Code.region 12 _ true from rfl, hk_8_12, hz_8_12, hs_8_12, h1, h2, h3, h5, h6, h7, h8, h9, h10, h11, hc14, hc29]
      replace hF := cond_some hF
      rcases hF with ⟨h32, hF⟩ | ⟨h32, hF⟩
      · replace hF := Option.bind_eq_some_iff.1 hF
        obtain ⟨o33, h34, hF⟩ := hF
        have hc35 := f20_ai10rzai10nz_ok k v15 v16 v17 v18 v19 v20 v21 v22 v23 v24 v25 0 0 0 0 0 0 0 0 0 0 _ h34
        cases o33 with
        | o0 v36 =>
          (try dsimp only at hF)
          (try simp only [NM, EE, R20_ai10rzai10nz.st] at hc35)
          simp (maxSteps := 999999) (disch := first | exact D (by decide) | exact K (by kernel_rfl)) only [E, EE, ↓reduceIte, simprocAttr, u_25, i_25, is_25, ib_25, iz_25, bl_25, callStep, CL, gv, List.contains, h1, h2, h3, h5, h6, h7, h8, h9, h10, h11, hc14, hc29, h32, hc35]
          replace hF := cond_some hF
          rcases hF with ⟨h37, hF⟩ | ⟨h37, hF⟩
          · replace hF := cond_some hF
            rcases hF with ⟨h38, hF⟩ | ⟨h38, hF⟩
            · simp (maxSteps := 999999) (disch := first | exact D (by decide) | exact K (by kernel_rfl)) only [E, EE, ↓reduceIte, simprocAttr, u_41, i_41, is_41, ib_41, iz_41, h1, h2, h3, h5, h6, h7, h8, h9, h10, h11, hc14, hc29, h32, hc35, h37, h38]
              replace hF := cond_some hF
              rcases hF with ⟨h39, hF⟩ | ⟨h39, hF⟩
              · replace hF := ifE_some.1 hF
                obtain ⟨h40, hF⟩ := hF
                replace hF := Option.bind_eq_some_iff.1 hF
                obtain ⟨v41, h42, hF⟩ := hF
                simp (maxSteps := 999999) (disch := first | exact D (by decide) | exact K (by kernel_rfl)) only [E, EE, ↓reduceIte, simprocAttr, indexAddrV, u_41, i_41, is_41, ib_41, iz_41, u_47, i_47, is_47, ib_47, iz_47, fieldAddrV, u_3, i_3, is_3, ib_3, iz_3, encT47_eq, u_25, i_25, is_25, ib_25, iz_25, h1, h2, h3, h5, h6, h7, h8, h9, h10, h11, hc14, hc29, h32, hc35, h37, h38, h39, h40, h42]
                replace hF := cond_some hF
                rcases hF with ⟨h43, hF⟩ | ⟨h43, hF⟩
                · cases hF
                  simp (maxSteps := 999999) (disch := first | exact D (by decide) | exact K (by kernel_rfl)) only [E, EE, ↓reduceIte, simprocAttr, indexAddrV, u_41, i_41, is_41, ib_41, iz_41, u_47, i_47, is_47, ib_47, iz_47, fieldAddrV, u_3, i_3, is_3, ib_3, iz_3, encT47_eq, u_25, i_25, is_25, ib_25, iz_25, u_23, i_23, is_23, ib_23, iz_23, xk B8 [2, 2, 2, 2, 2, 2, 2, 2, 2, 2, 2] .rt rfl, finK_norm, finK_ret, fin8, R8_ai10rzii.st, h1, h2, h3, h5, h6, h7, h8, h9, h10, h11, hc14, hc29, h32, hc35, h37, h38, h39, h40, h42, h43]
                · cases hF
                  simp (maxSteps := 999999) (disch := first | exact D (by decide) | exact K (by kernel_rfl)) only [E, EE, ↓reduceIte, simprocAttr, xk B8 [2, 2, 2, 2, 2, 2, 2, 2, 2, 2, 2] .rt rfl, finK_norm, finK_ret, fin8, R8_ai10rzii.st, h1, h2, h3, h5, h6, h7, h8, h9, h10, h11, hc14, hc29, h32, hc35, h37, h38, h39, h40, h42, h43]
              · cases hF
                simp (maxSteps := 999999) (disch := first | exact D (by decide) | exact K (by kernel_rfl)) only [E, EE, ↓reduceIte, simprocAttr, xk B8 [2, 2, 2, 2, 2, 2, 2, 2, 2, 2, 2] .rt rfl, finK_norm, finK_ret, fin8, R8_ai10rzii.st, h1, h2, h3, h5, h6, h7, h8, h9, h10, h11, hc14, hc29, h32, hc35, h37, h38, h39]
            · cases hF
              simp (maxSteps := 999999) (disch := first | exact D (by decide) | exact K (by kernel_rfl)) only [E, EE, ↓reduceIte, simprocAttr, xk B8 [2, 2, 2, 2, 2, 2, 2, 2, 2, 2, 2] .rt rfl, finK_norm, finK_ret, fin8, R8_ai10rzii.st, h1, h2, h3, h5, h6, h7, h8, h9, h10, h11, hc14, hc29, h32, hc35, h37, h38]
          · cases hF
            simp (maxSteps := 999999) (disch := first | exact D (by decide) | exact K (by kernel_rfl)) only [E, EE, ↓reduceIte, simprocAttr, xk B8 [2, 2, 2, 2, 2, 2, 2, 2, 2, 2, 2] .rt rfl, finK_norm, finK_ret, fin8, R8_ai10rzii.st, h1, h2, h3, h5, h6, h7, h8, h9, h10, h11, hc14, hc29, h32, hc35, h37]
      · cases hF
        simp (maxSteps := 999999) (disch := first | exact D (by decide) | exact K (by kernel_rfl)) only [E, EE, ↓reduceIte, simprocAttr, xk B8 [2, 2, 2, 2, 2, 2, 2, 2, 2, 2, 2] .rt rfl, finK_norm, finK_ret, fin8, R8_ai10rzii.st, h1, h2, h3, h5, h6, h7, h8, h9, h10, h11, hc14, hc29, h32]
  | o1 v44 v45 v46 v47 v48 v49 v50 v51 v52 v53 v54 v55 =>
    (try dsimp only at hF)
    (try simp only [NM, EE, R18_r.st] at hc14)
    replace hF := Option.bind_eq_some_iff.1 hF
    obtain ⟨o56, h57, hF⟩ := hF
    have hc58 := f23_r_ok k (((List.take ((Int.toNat ((IntKind.i64.wrap (Int.tmod (IntKind.u64.wrap x2) (IntKind.u64.wrap ((List.length m22) : Int))))))) m22) ++ (List.take (((List.length m22) - (Int.toNat ((IntKind.i64.wrap ((IntKind.i64.wrap (Int.tmod (IntKind.u64.wrap x2) (IntKind.u64.wrap ((List.length m22) : Int)))) + (1 : Int))))))) ((List.drop ((Int.toNat ((IntKind.i64.wrap ((IntKind.i64.wrap (Int.tmod (IntKind.u64.wrap x2) (IntKind.u64.wrap ((List.length m22) : Int)))) + (1 : Int)))))) m22))))) _ h57
    cases o56 with
    | o0 v59 v60 =>
      (try dsimp only at hF)
      (try simp only [NM, EE, R23_r.st] at hc58)
      simp (maxSteps := 999999) (disch := first | exact D (by decide) | exact K (by kernel_rfl)) only [E, EE, ↓reduceIte, simprocAttr, u_25, i_25, is_25, ib_25, iz_25, xk B8 [2, 2, 2, 2, 2, 2, 2, 2, 2] .sq rfl, show (nav B8 [1, 2, 2, 2, 2, 2, 2, 2, 2, 2]) = Code.region 11 _ false from rfl, hk_8_11, hz_8_11, hs_8_11, callStep, CL, gv, List.contains, xk B8 [2, 2, 2, 2, 2, 2, 2, 2, 2, 2] .sq rfl, show (nav B8 [1, 2, 2, 2, 2, 2, 2, 2, 2, 2, 2]) = Code.region 12 _ true from rfl, hk_8_12, hz_8_12, hs_8_12, h1, h2, h3, h5, h6, h7, h8, h9, h10, h11, hc14, hc58]
      replace hF := cond_some hF
      rcases hF with ⟨h61, hF⟩ | ⟨h61, hF⟩
      · replace hF := Option.bind_eq_some_iff.1 hF
        obtain ⟨o62, h63, hF⟩ := hF
        have hc64 := f20_ai10rzai10nz_ok k v44 v45 v46 v47 v48 v49 v50 v51 v52 v53 v55 0 0 0 0 0 0 0 0 0 0 _ h63
        cases o62 with
        | o0 v65 =>
          (try dsimp only at hF)
          (try simp only [NM, EE, R20_ai10rzai10nz.st] at hc64)
          simp (maxSteps := 999999) (disch := first | exact D (by decide) | exact K (by kernel_rfl)) only [E, EE, ↓reduceIte, simprocAttr, u_25, i_25, is_25, ib_25, iz_25, bl_25, callStep, CL, gv, List.contains, h1, h2, h3, h5, h6, h7, h8, h9, h10, h11, hc14, hc58, h61, hc64]
          replace hF := cond_some hF
          rcases hF with ⟨h66, hF⟩ | ⟨h66, hF⟩
          · replace hF := cond_some hF
            rcases hF with ⟨h67, hF⟩ | ⟨h67, hF⟩
            · simp (maxSteps := 999999) (disch := first | exact D (by decide) | exact K (by kernel_rfl)) only [E, EE, ↓reduceIte, simprocAttr, u_41, i_41, is_41, ib_41, iz_41, h1, h2, h3, h5, h6, h7, h8, h9, h10, h11, hc14, hc58, h61, hc64, h66, h67]
              replace hF := cond_some hF
              rcases hF with ⟨h68, hF⟩ | ⟨h68, hF⟩
              · replace hF := ifE_some.1 hF
                obtain ⟨h69, hF⟩ := hF
                replace hF := Option.bind_eq_some_iff.1 hF
                obtain ⟨v70, h71, hF⟩ := hF
                simp (maxSteps := 999999) (disch := first | exact D (by decide) | exact K (by kernel_rfl)) only [E, EE, ↓reduceIte, simprocAttr, indexAddrV, u_41, i_41, is_41, ib_41, iz_41, u_47, i_47, is_47, ib_47, iz_47, fieldAddrV, u_3, i_3, is_3, ib_3, iz_3, encT47_eq, u_25, i_25, is_25, ib_25, iz_25, h1, h2, h3, h5, h6, h7, h8, h9, h10, h11, hc14, hc58, h61, hc64, h66, h67, h68, h69, h71]
                replace hF := cond_some hF
                rcases hF with ⟨h72, hF⟩ | ⟨h72, hF⟩
                · cases hF
                  simp (maxSteps := 999999) (disch := first | exact D (by decide) | exact K (by kernel_rfl)) only [E, EE, ↓reduceIte, simprocAttr, indexAddrV, u_41, i_41, is_41, ib_41, iz_41, u_47, i_47, is_47, ib_47, iz_47, fieldAddrV, u_3, i_3, is_3, ib_3, iz_3, encT47_eq, u_25, i_25, is_25, ib_25, iz_25, u_23, i_23, is_23, ib_23, iz_23, xk B8 [2, 2, 2, 2, 2, 2, 2, 2, 2, 2, 2] .rt rfl, finK_norm, finK_ret, fin8, R8_ai10rzii.st, h1, h2, h3, h5, h6, h7, h8, h9, h10, h11, hc14, hc58, h61, hc64, h66, h67, h68, h69, h71, h72]
                · cases hF
                  simp (maxSteps := 999999) (disch := first | exact D (by decide) | exact K (by kernel_rfl)) only [E, EE, ↓reduceIte, simprocAttr, xk B8 [2, 2, 2, 2, 2, 2, 2, 2, 2, 2, 2] .rt rfl, finK_norm, finK_ret, fin8, R8_ai10rzii.st, h1, h2, h3, h5, h6, h7, h8, h9, h10, h11, hc14, hc58, h61, hc64, h66, h67, h68, h69, h71, h72]
              · cases hF
                simp (maxSteps := 999999) (disch := first | exact D (by decide) | exact K (by kernel_rfl)) only [E, EE, ↓reduceIte, simprocAttr, xk B8 [2, 2, 2, 2, 2, 2, 2, 2, 2, 2, 2] .rt rfl, finK_norm, finK_ret, fin8, R8_ai10rzii.st, h1, h2, h3, h5, h6, h7, h8, h9, h10, h11, hc14, hc58, h61, hc64, h66, h67, h68]
            · cases hF
              simp (maxSteps := 999999) (disch := first | exact D (by decide) | exact K (by kernel_rfl)) only [E, EE, ↓reduceIte, simprocAttr, xk B8 [2, 2, 2, 2, 2, 2, 2, 2, 2, 2, 2] .rt rfl, finK_norm, finK_ret, fin8, R8_ai10rzii.st, h1, h2, h3, h5, h6, h7, h8, h9, h10, h11, hc14, hc58, h61, hc64, h66, h67]
          · cases hF
            simp (maxSteps := 999999) (disch := first | exact D (by decide) | exact K (by kernel_rfl)) only [E, EE, ↓reduceIte, simprocAttr, xk B8 [2, 2, 2, 2, 2, 2, 2, 2, 2, 2, 2] .rt rfl, finK_norm, finK_ret, fin8, R8_ai10rzii.st, h1, h2, h3, h5, h6, h7, h8, h9, h10, h11, hc14, hc58, h61, hc64, h66]
      · cases hF
        simp (maxSteps := 999999) (disch := first | exact D (by decide) | exact K (by kernel_rfl)) only [E, EE, ↓reduceIte, simprocAttr, xk B8 [2, 2, 2, 2, 2, 2, 2, 2, 2, 2, 2] .rt rfl, finK_norm, finK_ret, fin8, R8_ai10rzii.st, h1, h2, h3, h5, h6, h7, h8, h9, h10, h11, hc14, hc58, h61]
noncomputable def f8_ai10rzii_j1 (k : Nat) (x1 x2 : Int) (x16 : Bool) (m3 m3_1 m3_2 m3_3 m3_4 m3_5 m3_6 m3_7 m3_8 m3_9 : Int) (m3_10 : List Int) : Option R8_ai10rzii :=
  Option.bind (f10_ai10rz k m3 m3_1 m3_2 m3_3 m3_4 m3_5 m3_6 m3_7 m3_8 m3_9 m3_10) fun o1 =>
    match o1 with
    | .o0 v4 v5 v6 v7 v8 v9 v10 v11 v12 v13 v14 =>
      Option.bind (f11_ai10rzi k v4 v5 v6 v7 v8 v9 v10 v11 v12 v13 v14 x1) fun o15 =>
        match o15 with
        | .o0 v18 v19 =>
          cond ((v18 != 0))
            (some (R8_ai10rzii.o0 true))
            (
              Option.bind (f19_ai10rz k v4 v5 v6 v7 v8 v9 v10 v11 v12 v13 v14) fun o21 =>
                match o21 with
                | .o0 v24 =>
                  cond ((!v24))
                    (some (R8_ai10rzii.o0 true))
                    (
                      cond ((decide (((List.length v19) : Int) < 2)))
                        (some (R8_ai10rzii.o0 true))
                        (f8_ai10rzii_j2 k x2 false v19)))
theorem f8_ai10rzii_j1_ok (k : Nat) (x1 x2 : Int) (x16 : Bool) (m3 m3_1 m3_2 m3_3 m3_4 m3_5 m3_6 m3_7 m3_8 m3_9 : Int) (m3_10 : List Int) (r : R8_ai10rzii) (hF : f8_ai10rzii_j1 k x1 x2 x16 m3 m3_1 m3_2 m3_3 m3_4 m3_5 m3_6 m3_7 m3_8 m3_9 m3_10 = some r) : finK Try.prog Try.f8 0 (EX 8 k (nav B8 [2, 2]) ({ n := 103, F := [(1, V.p (Value.int .i64 x1)), (2, V.p (Value.int .i64 x2)), (3, V.ptr 3 0), (16, V.p (Value.bool x16))], M := [(3, O.box 25 [V.p (Value.int .i64 m3), V.p (Value.int .i64 m3_1), V.p (Value.int .u32 m3_2), V.p (Value.int .i64 m3_3), V.p (Value.int .i64 m3_4), V.p (Value.int .i64 m3_5), V.p (Value.int .i64 m3_6), V.p (Value.int .i64 m3_7), V.p (Value.int .i64 m3_8), V.p (Value.int .i64 m3_9), V.sl 1 (rowsOf (encI .u8) m3_10)])] } : St)) = some r.st := by
  unfold f8_ai10rzii_j1 at hF
  replace hF := Option.bind_eq_some_iff.1 hF
  obtain ⟨o1, h2, hF⟩ := hF
  have hc3 := f10_ai10rz_ok k m3 m3_1 m3_2 m3_3 m3_4 m3_5 m3_6 m3_7 m3_8 m3_9 m3_10 _ h2
  cases o1 with
  | o0 v4 v5 v6 v7 v8 v9 v10 v11 v12 v13 v14 =>
    (try dsimp only at hF)
    (try simp only [NM, EE, R10_ai10rz.st] at hc3)
    replace hF := Option.bind_eq_some_iff.1 hF
    obtain ⟨o15, h16, hF⟩ := hF
    have hc17 := f11_ai10rzi_ok k v4 v5 v6 v7 v8 v9 v10 v11 v12 v13 v14 x1 _ h16
    cases o15 with
    | o0 v18 v19 =>
      (try dsimp only at hF)
      (try simp only [NM, EE, R11_ai10rzi.st] at hc17)
      simp (maxSteps := 999999) (disch := first | exact D (by decide) | exact K (by kernel_rfl)) only [E, EE, ↓reduceIte, simprocAttr, xk B8 [2, 2] .sq rfl, show (nav B8 [1, 2, 2]) = Code.region 3 _ false from rfl, hk_8_3, hz_8_3, hs_8_3, u_25, i_25, is_25, ib_25, iz_25, callStep, CL, gv, List.contains, xk B8 [2, 2, 2] .sq rfl, show (nav B8 [1, 2, 2, 2]) = Code.region 4 _ false from rfl, hk_8_4, hz_8_4, hs_8_4, xk B8 [2, 2, 2, 2] .sq rfl, xk B8 [1, 2, 2, 2, 2] .sq rfl, show (nav B8 [1, 1, 2, 2, 2, 2]) = Code.region 5 _ false from rfl, hk_8_5, hz_8_5, hs_8_5, hc3, hc17]
      replace hF := cond_some hF
      rcases hF with ⟨h20, hF⟩ | ⟨h20, hF⟩
      · cases hF
        simp (maxSteps := 999999) (disch := first | exact D (by decide) | exact K (by kernel_rfl)) only [E, EE, ↓reduceIte, simprocAttr, xk B8 [2, 1, 2, 2, 2, 2] (.cd 36) rfl, xk B8 [2, 2, 1, 2, 2, 2, 2] .sq rfl, show (nav B8 [1, 2, 2, 1, 2, 2, 2, 2]) = Code.region 6 _ false from rfl, hk_8_6, hz_8_6, hs_8_6, xk B8 [2, 2, 2, 1, 2, 2, 2, 2] .rt rfl, finK_norm, finK_ret, fin8, R8_ai10rzii.st, hc3, hc17, h20]
      · replace hF := Option.bind_eq_some_iff.1 hF
        obtain ⟨o21, h22, hF⟩ := hF
        have hc23 := f19_ai10rz_ok k v4 v5 v6 v7 v8 v9 v10 v11 v12 v13 v14 _ h22
        cases o21 with
        | o0 v24 =>
          (try dsimp only at hF)
          (try simp only [NM, EE, R19_ai10rz.st] at hc23)
          simp (maxSteps := 999999) (disch := first | exact D (by decide) | exact K (by kernel_rfl)) only [E, EE, ↓reduceIte, simprocAttr, u_25, i_25, is_25, ib_25, iz_25, callStep, CL, gv, List.contains, hc3, hc17, h20, hc23]
          replace hF := cond_some hF
          rcases hF with ⟨h25, hF⟩ | ⟨h25, hF⟩
          · cases hF
            simp (maxSteps := 999999) (disch := first | exact D (by decide) | exact K (by kernel_rfl)) only [E, EE, ↓reduceIte, simprocAttr, xk B8 [2, 1, 2, 2, 2, 2] (.cd 36) rfl, xk B8 [2, 2, 1, 2, 2, 2, 2] .sq rfl, show (nav B8 [1, 2, 2, 1, 2, 2, 2, 2]) = Code.region 6 _ false from rfl, hk_8_6, hz_8_6, hs_8_6, xk B8 [2, 2, 2, 1, 2, 2, 2, 2] .rt rfl, finK_norm, finK_ret, fin8, R8_ai10rzii.st, hc3, hc17, h20, hc23, h25]
          · simp (maxSteps := 999999) (disch := first | exact D (by decide) | exact K (by kernel_rfl)) only [E, EE, ↓reduceIte, simprocAttr, u_28, i_28, is_28, ib_28, iz_28, xk B8 [2, 1, 2, 2, 2, 2] (.cd 36) rfl, hc3, hc17, h20, hc23, h25]
            replace hF := cond_some hF
            rcases hF with ⟨h26, hF⟩ | ⟨h26, hF⟩
            · cases hF
              simp (maxSteps := 999999) (disch := first | exact D (by decide) | exact K (by kernel_rfl)) only [E, EE, ↓reduceIte, simprocAttr, xk B8 [2, 2, 1, 2, 2, 2, 2] .sq rfl, show (nav B8 [1, 2, 2, 1, 2, 2, 2, 2]) = Code.region 6 _ false from rfl, hk_8_6, hz_8_6, hs_8_6, xk B8 [2, 2, 2, 1, 2, 2, 2, 2] .rt rfl, finK_norm, finK_ret, fin8, R8_ai10rzii.st, hc3, hc17, h20, hc23, h25, h26]
            · have hJ := f8_ai10rzii_j2_ok k x2 false v19 _ hF
              simp (maxSteps := 999999) (disch := first | exact D (by decide) | exact K (by kernel_rfl)) only [E, EE, ↓reduceIte, simprocAttr, xk B8 [3, 2, 1, 2, 2, 2, 2] .sk rfl, hc3, hc17, h20, hc23, h25, h26]
              try simp only [NM, EE] at hJ
              exact hJ
noncomputable def f8_ai10rzii_e (k : Nat) (a0 a0_1 a0_2 a0_3 a0_4 a0_5 a0_6 a0_7 a0_8 a0_9 : Int) (a0_10 : List Int) (a1 a2 : Int) : Option R8_ai10rzii :=
  Option.bind (f9_ k) fun o1 =>
    match o1 with
    | .o0 v4 =>
      cond ((!v4))
        (some (R8_ai10rzii.o0 false))
        (f8_ai10rzii_j1 k a1 a2 false a0 a0_1 a0_2 a0_3 a0_4 a0_5 a0_6 a0_7 a0_8 a0_9 a0_10)
theorem f8_ai10rzii_e_ok (k : Nat) (a0 a0_1 a0_2 a0_3 a0_4 a0_5 a0_6 a0_7 a0_8 a0_9 : Int) (a0_10 : List Int) (a1 a2 : Int) (r : R8_ai10rzii) (hF : f8_ai10rzii_e k a0 a0_1 a0_2 a0_3 a0_4 a0_5 a0_6 a0_7 a0_8 a0_9 a0_10 a1 a2 = some r) : finK Try.prog Try.f8 0 (EX 8 k (nav B8 []) ({ n := 103, F := [(0, V.agg [V.p (Value.int .i64 a0), V.p (Value.int .i64 a0_1), V.p (Value.int .u32 a0_2), V.p (Value.int .i64 a0_3), V.p (Value.int .i64 a0_4), V.p (Value.int .i64 a0_5), V.p (Value.int .i64 a0_6), V.p (Value.int .i64 a0_7), V.p (Value.int .i64 a0_8), V.p (Value.int .i64 a0_9), V.sl 1 (rowsOf (encI .u8) a0_10)]), (1, V.p (Value.int .i64 a1)), (2, V.p (Value.int .i64 a2))], M := [] } : St)) = some r.st := by
  unfold f8_ai10rzii_e at hF
  replace hF := Option.bind_eq_some_iff.1 hF
  obtain ⟨o1, h2, hF⟩ := hF
  have hc3 := f9__ok k _ h2
  cases o1 with
  | o0 v4 =>
    (try dsimp only at hF)
    (try simp only [NM, EE, R9_.st] at hc3)
    simp (maxSteps := 999999) (disch := first | exact D (by decide) | exact K (by kernel_rfl)) only [E, EE, ↓reduceIte, simprocAttr, xk B8 [] .sq rfl, show (nav B8 [1]) = Code.region 0 _ false from rfl, hk_8_0, hz_8_0, hs_8_0, xk B8 [2] .sq rfl, xk B8 [1, 2] .sq rfl, show (nav B8 [1, 1, 2]) = Code.region 1 _ false from rfl, hk_8_1, hz_8_1, hs_8_1, callStep, CL, gv, List.contains, xk B8 [2, 1, 2] (.cd 16) rfl, hc3]
    replace hF := cond_some hF
    rcases hF with ⟨h5, hF⟩ | ⟨h5, hF⟩
    · cases hF
      simp (maxSteps := 999999) (disch := first | exact D (by decide) | exact K (by kernel_rfl)) only [E, EE, ↓reduceIte, simprocAttr, xk B8 [2, 2, 1, 2] .sq rfl, show (nav B8 [1, 2, 2, 1, 2]) = Code.region 2 _ false from rfl, hk_8_2, hz_8_2, hs_8_2, xk B8 [2, 2, 2, 1, 2] .rt rfl, finK_norm, finK_ret, fin8, R8_ai10rzii.st, hc3, h5]
    · have hJ := f8_ai10rzii_j1_ok k a1 a2 false a0 a0_1 a0_2 a0_3 a0_4 a0_5 a0_6 a0_7 a0_8 a0_9 a0_10 _ hF
      simp (maxSteps := 999999) (disch := first | exact D (by decide) | exact K (by kernel_rfl)) only [E, EE, ↓reduceIte, simprocAttr, xk B8 [3, 2, 1, 2] .sk rfl, hc3, h5]
      try simp only [NM, EE] at hJ
      exact hJ
noncomputable def f8_ai10rzii (k : Nat) (a0 a0_1 a0_2 a0_3 a0_4 a0_5 a0_6 a0_7 a0_8 a0_9 : Int) (a0_10 : List Int) (a1 a2 : Int) : Option R8_ai10rzii := match k with | 0 => none | k + 1 => f8_ai10rzii_e k a0 a0_1 a0_2 a0_3 a0_4 a0_5 a0_6 a0_7 a0_8 a0_9 a0_10 a1 a2
theorem f8_ai10rzii_ok (k : Nat) (a0 a0_1 a0_2 a0_3 a0_4 a0_5 a0_6 a0_7 a0_8 a0_9 : Int) (a0_10 : List Int) (a1 a2 : Int) (r : R8_ai10rzii) (hF : f8_ai10rzii k a0 a0_1 a0_2 a0_3 a0_4 a0_5 a0_6 a0_7 a0_8 a0_9 a0_10 a1 a2 = some r) : CV k 8 [V.agg [V.p (Value.int .i64 a0), V.p (Value.int .i64 a0_1), V.p (Value.int .u32 a0_2), V.p (Value.int .i64 a0_3), V.p (Value.int .i64 a0_4), V.p (Value.int .i64 a0_5), V.p (Value.int .i64 a0_6), V.p (Value.int .i64 a0_7), V.p (Value.int .i64 a0_8), V.p (Value.int .i64 a0_9), V.sl 1 (rowsOf (encI .u8) a0_10)], V.p (Value.int .i64 a1), V.p (Value.int .i64 a2)] [] = some r.st := by
  cases k with
  | zero => cases hF
  | succ k =>
    unfold CV
    rw [ev_call (F := Try.f8) (c := (nav B8 [])) rfl Try.func8 rfl rfl rfl rfl]
    exact f8_ai10rzii_e_ok k a0 a0_1 a0_2 a0_3 a0_4 a0_5 a0_6 a0_7 a0_8 a0_9 a0_10 a1 a2 r hF
end Go.Proofs.YteggcokgkcfliaaV
