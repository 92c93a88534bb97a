/- What the program's functions answer: plain functions, and that the interpreter answers what they do. Written by a program of this session, out of the translation. -/
import Derived.Test.YthjefcamonmjpaaVP2
namespace Go.Proofs.YthjefcamonmjpaaV
open Go
set_option linter.unusedVariables false
set_option linter.unusedSimpArgs false
set_option maxRecDepth 8000
set_option maxHeartbeats 4000000
-- f3_ai10brrzai10brrz: f3 heliograph/heliographlaw10.SegmentSame
inductive R3_ai10brrzai10brrz where
  | o0 (y : Bool)
noncomputable def R3_ai10brrzai10brrz.st : R3_ai10brrzai10brrz → V × List O × List O
  | .o0 y => (V.p (Value.bool y), [], [])
noncomputable def f3_ai10brrzai10brrz_j1 (k : Nat) (x6 : Bool) (m2 : Int) (m2_1 : Int) (m2_2 : Int) (m2_3 : Int) (m2_4 : Int) (m2_5 : Int) (m2_6 : Int) (m2_7 : Int) (m2_8 : Int) (m2_9 : Int) (m2_10 : Bool) (m2_11 : List Int) (m2_12 : List T45) (m3 : Int) (m3_1 : Int) (m3_2 : Int) (m3_3 : Int) (m3_4 : Int) (m3_5 : Int) (m3_6 : Int) (m3_7 : Int) (m3_8 : Int) (m3_9 : Int) (m3_10 : Bool) (m3_11 : List Int) (m3_12 : List T45) : Option R3_ai10brrzai10brrz :=
  Option.bind (f8_ai10brrz k m2 m2_1 m2_2 m2_3 m2_4 m2_5 m2_6 m2_7 m2_8 m2_9 m2_10 m2_11 m2_12) fun o1 =>
    match o1 with
    | .o0 v4 v5 v6 v7 v8 v9 v10 v11 v12 v13 v14 v15 v16 v17 v18 v19 v20 =>
      Option.bind (f8_ai10brrz k m3 m3_1 m3_2 m3_3 m3_4 m3_5 m3_6 m3_7 m3_8 m3_9 m3_10 m3_11 m3_12) fun o21 =>
        match o21 with
        | .o0 v24 v25 v26 v27 v28 v29 v30 v31 v32 v33 v34 v35 v36 v37 v38 v39 v40 =>
          ifE ((v15 + v16) ≤ (List.length v19)) (
            ifE ((v17 + v18) ≤ (List.length v20)) (
              ifE ((v35 + v36) ≤ (List.length v39)) (
                ifE ((v37 + v38) ≤ (List.length v40)) (
                  Option.bind (f9_ai10brrzai10brrz k v4 v5 v6 v7 v8 v9 v10 v11 v12 v13 v14 (List.take v16 (List.drop v15 v19)) (List.take v18 (List.drop v17 v20)) v24 v25 v26 v27 v28 v29 v30 v31 v32 v33 v34 (List.take v36 (List.drop v35 v39)) (List.take v38 (List.drop v37 v40))) fun o45 =>
                    match o45 with
                    | .o0 v48 =>
                      Option.bind (f10_ai10brrzai10brrz k v4 v5 v6 v7 v8 v9 v10 v11 v12 v13 v14 (List.take v16 (List.drop v15 v19)) (List.take v18 (List.drop v17 v20)) v24 v25 v26 v27 v28 v29 v30 v31 v32 v33 v34 (List.take v36 (List.drop v35 v39)) (List.take v38 (List.drop v37 v40))) fun o49 =>
                        match o49 with
                        | .o0 v52 =>
                          cond ((v48 == v52))
                            (
                              Option.bind (f11_ai10brrz k v4 v5 v6 v7 v8 v9 v10 v11 v12 v13 v14 (List.take v16 (List.drop v15 v19)) (List.take v18 (List.drop v17 v20))) fun o54 =>
                                match o54 with
                                | .o0 v57 v58 v59 v60 v61 v62 v63 v64 v65 v66 v67 v68 v69 =>
                                  Option.bind (f9_ai10brrzai10brrz k v4 v5 v6 v7 v8 v9 v10 v11 v12 v13 v14 (List.take v16 (List.drop v15 v19)) (List.take v18 (List.drop v17 v20)) v57 v58 v59 v60 v61 v62 v63 v64 v65 v66 v67 v68 v69) fun o70 =>
                                    match o70 with
                                    | .o0 v73 =>
                                      some (R3_ai10brrzai10brrz.o0 v73))
                            (some (R3_ai10brrzai10brrz.o0 false))))))
theorem f3_ai10brrzai10brrz_j1_ok (k : Nat) (x6 : Bool) (m2 : Int) (m2_1 : Int) (m2_2 : Int) (m2_3 : Int) (m2_4 : Int) (m2_5 : Int) (m2_6 : Int) (m2_7 : Int) (m2_8 : Int) (m2_9 : Int) (m2_10 : Bool) (m2_11 : List Int) (m2_12 : List T45) (m3 : Int) (m3_1 : Int) (m3_2 : Int) (m3_3 : Int) (m3_4 : Int) (m3_5 : Int) (m3_6 : Int) (m3_7 : Int) (m3_8 : Int) (m3_9 : Int) (m3_10 : Bool) (m3_11 : List Int) (m3_12 : List T45) (r : R3_ai10brrzai10brrz) (hF : f3_ai10brrzai10brrz_j1 k x6 m2 m2_1 m2_2 m2_3 m2_4 m2_5 m2_6 m2_7 m2_8 m2_9 m2_10 m2_11 m2_12 m3 m3_1 m3_2 m3_3 m3_4 m3_5 m3_6 m3_7 m3_8 m3_9 m3_10 m3_11 m3_12 = some r) : finK Try.prog Try.f3 0 (EX 3 k (nav B3 [2, 2]) ({ n := 24, F := [(2, V.ptr 2 0), (3, V.ptr 3 0), (6, V.p (Value.bool x6))], M := [(2, O.box 26 [V.p (Value.int .i64 m2), V.p (Value.int .i64 m2_1), V.p (Value.int .u32 m2_2), V.p (Value.int .u32 m2_3), V.p (Value.int .u32 m2_4), V.p (Value.int .i64 m2_5), V.p (Value.int .i64 m2_6), V.p (Value.int .i64 m2_7), V.p (Value.int .i64 m2_8), V.p (Value.int .i64 m2_9), V.p (Value.bool m2_10), V.sl 1 (rowsOf (encI .u8) m2_11), V.sl 2 (rowsOf encT45 m2_12)]), (3, O.box 26 [V.p (Value.int .i64 m3), V.p (Value.int .i64 m3_1), V.p (Value.int .u32 m3_2), V.p (Value.int .u32 m3_3), V.p (Value.int .u32 m3_4), V.p (Value.int .i64 m3_5), V.p (Value.int .i64 m3_6), V.p (Value.int .i64 m3_7), V.p (Value.int .i64 m3_8), V.p (Value.int .i64 m3_9), V.p (Value.bool m3_10), V.sl 1 (rowsOf (encI .u8) m3_11), V.sl 2 (rowsOf encT45 m3_12)])] } : St)) = some r.st := by
  unfold f3_ai10brrzai10brrz_j1 at hF
  replace hF := Option.bind_eq_some_iff.1 hF
  obtain ⟨o1, h2, hF⟩ := hF
  have hc3 := f8_ai10brrz_ok k m2 m2_1 m2_2 m2_3 m2_4 m2_5 m2_6 m2_7 m2_8 m2_9 m2_10 m2_11 m2_12 _ h2
  cases o1 with
  | o0 v4 v5 v6 v7 v8 v9 v10 v11 v12 v13 v14 v15 v16 v17 v18 v19 v20 =>
    (try dsimp only at hF)
    (try simp only [NM, EE, R8_ai10brrz.st] at hc3)
    replace hF := Option.bind_eq_some_iff.1 hF
    obtain ⟨o21, h22, hF⟩ := hF
    have hc23 := f8_ai10brrz_ok k m3 m3_1 m3_2 m3_3 m3_4 m3_5 m3_6 m3_7 m3_8 m3_9 m3_10 m3_11 m3_12 _ h22
    cases o21 with
    | o0 v24 v25 v26 v27 v28 v29 v30 v31 v32 v33 v34 v35 v36 v37 v38 v39 v40 =>
      (try dsimp only at hF)
      (try simp only [NM, EE, R8_ai10brrz.st] at hc23)
      replace hF := ifE_some.1 hF
      obtain ⟨h41, hF⟩ := hF
      replace hF := ifE_some.1 hF
      obtain ⟨h42, hF⟩ := hF
      replace hF := ifE_some.1 hF
      obtain ⟨h43, hF⟩ := hF
      replace hF := ifE_some.1 hF
      obtain ⟨h44, hF⟩ := hF
      replace hF := Option.bind_eq_some_iff.1 hF
      obtain ⟨o45, h46, hF⟩ := hF
      have hc47 := f9_ai10brrzai10brrz_ok k v4 v5 v6 v7 v8 v9 v10 v11 v12 v13 v14 (List.take v16 (List.drop v15 v19)) (List.take v18 (List.drop v17 v20)) v24 v25 v26 v27 v28 v29 v30 v31 v32 v33 v34 (List.take v36 (List.drop v35 v39)) (List.take v38 (List.drop v37 v40)) _ h46
      cases o45 with
      | o0 v48 =>
        (try dsimp only at hF)
        (try simp only [NM, EE, R9_ai10brrzai10brrz.st] at hc47)
        replace hF := Option.bind_eq_some_iff.1 hF
        obtain ⟨o49, h50, hF⟩ := hF
        have hc51 := f10_ai10brrzai10brrz_ok k v4 v5 v6 v7 v8 v9 v10 v11 v12 v13 v14 (List.take v16 (List.drop v15 v19)) (List.take v18 (List.drop v17 v20)) v24 v25 v26 v27 v28 v29 v30 v31 v32 v33 v34 (List.take v36 (List.drop v35 v39)) (List.take v38 (List.drop v37 v40)) _ h50
        cases o49 with
        | o0 v52 =>
          (try dsimp only at hF)
          (try simp only [NM, EE, R10_ai10brrzai10brrz.st] at hc51)
          simp (maxSteps := 999999) (disch := first | exact D (by decide) | exact K (by kernel_rfl)) only [EA, EE, EG, EF, ED, ofVal, ofVal1, ofCell, lenV, aggEqV, cellEq, intBin, isShift, V.ids, lendV, frz, flatV, cellsOf, addOff, firstReg, oneOf, cellsAt, isAggD, isPure, ↓reduceIte, reduceCtorEq, Nat.reduceAdd, Nat.reduceSub, Nat.reduceMul, Nat.reduceLeDiff, Nat.reduceEqDiff, Nat.reduceBEq, Int.reduceToNat, Int.reduceLE, Int.reduceLT, Nat.reduceLT, Int.reduceBEq, Int.reduceBNe, Int.reduceEq, String.reduceEq, xk B3 [2, 2] .sq rfl, show (nav B3 [1, 2, 2]) = Code.region 3 _ true from rfl, hk_3_3, hz_3_3, hs_3_3, u_26, i_26, is_26, ib_26, iz_26, callStep, calleeOf, gv, List.contains, xk B3 [2, 2, 2] .sq rfl, show (nav B3 [1, 2, 2, 2]) = Code.region 4 _ true from rfl, hk_3_4, hz_3_4, hs_3_4, u_4, i_4, is_4, ib_4, iz_4, hc3, hc23, h41, h42, h43, h44, hc47, hc51]
          replace hF := cond_some hF
          rcases hF with ⟨h53, hF⟩ | ⟨h53, hF⟩
          · replace hF := Option.bind_eq_some_iff.1 hF
            obtain ⟨o54, h55, hF⟩ := hF
            have hc56 := f11_ai10brrz_ok k v4 v5 v6 v7 v8 v9 v10 v11 v12 v13 v14 (List.take v16 (List.drop v15 v19)) (List.take v18 (List.drop v17 v20)) _ h55
            cases o54 with
            | o0 v57 v58 v59 v60 v61 v62 v63 v64 v65 v66 v67 v68 v69 =>
              (try dsimp only at hF)
              (try simp only [NM, EE, R11_ai10brrz.st] at hc56)
              replace hF := Option.bind_eq_some_iff.1 hF
              obtain ⟨o70, h71, hF⟩ := hF
              have hc72 := f9_ai10brrzai10brrz_ok k v4 v5 v6 v7 v8 v9 v10 v11 v12 v13 v14 (List.take v16 (List.drop v15 v19)) (List.take v18 (List.drop v17 v20)) v57 v58 v59 v60 v61 v62 v63 v64 v65 v66 v67 v68 v69 _ h71
              cases o70 with
              | o0 v73 =>
                (try dsimp only at hF)
                (try simp only [NM, EE, R9_ai10brrzai10brrz.st] at hc72)
                cases hF
                simp (maxSteps := 999999) (disch := first | exact D (by decide) | exact K (by kernel_rfl)) only [EA, EE, EG, EF, ED, ofVal, ofVal1, ofCell, lenV, aggEqV, cellEq, intBin, isShift, V.ids, lendV, frz, flatV, cellsOf, addOff, firstReg, oneOf, cellsAt, isAggD, isPure, ↓reduceIte, reduceCtorEq, Nat.reduceAdd, Nat.reduceSub, Nat.reduceMul, Nat.reduceLeDiff, Nat.reduceEqDiff, Nat.reduceBEq, Int.reduceToNat, Int.reduceLE, Int.reduceLT, Nat.reduceLT, Int.reduceBEq, Int.reduceBNe, Int.reduceEq, String.reduceEq, u_26, i_26, is_26, ib_26, iz_26, callStep, calleeOf, gv, List.contains, xk B3 [2, 2, 2, 2] .rt rfl, finK_norm, finK_ret, fin3, R3_ai10brrzai10brrz.st, hc3, hc23, h41, h42, h43, h44, hc47, hc51, h53, hc56, hc72]
          · cases hF
            simp (maxSteps := 999999) (disch := first | exact D (by decide) | exact K (by kernel_rfl)) only [EA, EE, EG, EF, ED, ofVal, ofVal1, ofCell, lenV, aggEqV, cellEq, intBin, isShift, V.ids, lendV, frz, flatV, cellsOf, addOff, firstReg, oneOf, cellsAt, isAggD, isPure, ↓reduceIte, reduceCtorEq, Nat.reduceAdd, Nat.reduceSub, Nat.reduceMul, Nat.reduceLeDiff, Nat.reduceEqDiff, Nat.reduceBEq, Int.reduceToNat, Int.reduceLE, Int.reduceLT, Nat.reduceLT, Int.reduceBEq, Int.reduceBNe, Int.reduceEq, String.reduceEq, xk B3 [2, 2, 2, 2] .rt rfl, finK_norm, finK_ret, fin3, R3_ai10brrzai10brrz.st, hc3, hc23, h41, h42, h43, h44, hc47, hc51, h53]
noncomputable def f3_ai10brrzai10brrz_e (k : Nat) (a0 : Int) (a0_1 : Int) (a0_2 : Int) (a0_3 : Int) (a0_4 : Int) (a0_5 : Int) (a0_6 : Int) (a0_7 : Int) (a0_8 : Int) (a0_9 : Int) (a0_10 : Bool) (a0_11 : List Int) (a0_12 : List T45) (a1 : Int) (a1_1 : Int) (a1_2 : Int) (a1_3 : Int) (a1_4 : Int) (a1_5 : Int) (a1_6 : Int) (a1_7 : Int) (a1_8 : Int) (a1_9 : Int) (a1_10 : Bool) (a1_11 : List Int) (a1_12 : List T45) : Option R3_ai10brrzai10brrz :=
  Option.bind (f7_ k) fun o1 =>
    match o1 with
    | .o0 v4 =>
      cond ((!v4))
        (some (R3_ai10brrzai10brrz.o0 false))
        (f3_ai10brrzai10brrz_j1 k false a0 a0_1 a0_2 a0_3 a0_4 a0_5 a0_6 a0_7 a0_8 a0_9 a0_10 a0_11 a0_12 a1 a1_1 a1_2 a1_3 a1_4 a1_5 a1_6 a1_7 a1_8 a1_9 a1_10 a1_11 a1_12)
theorem f3_ai10brrzai10brrz_e_ok (k : Nat) (a0 : Int) (a0_1 : Int) (a0_2 : Int) (a0_3 : Int) (a0_4 : Int) (a0_5 : Int) (a0_6 : Int) (a0_7 : Int) (a0_8 : Int) (a0_9 : Int) (a0_10 : Bool) (a0_11 : List Int) (a0_12 : List T45) (a1 : Int) (a1_1 : Int) (a1_2 : Int) (a1_3 : Int) (a1_4 : Int) (a1_5 : Int) (a1_6 : Int) (a1_7 : Int) (a1_8 : Int) (a1_9 : Int) (a1_10 : Bool) (a1_11 : List Int) (a1_12 : List T45) (r : R3_ai10brrzai10brrz) (hF : f3_ai10brrzai10brrz_e k a0 a0_1 a0_2 a0_3 a0_4 a0_5 a0_6 a0_7 a0_8 a0_9 a0_10 a0_11 a0_12 a1 a1_1 a1_2 a1_3 a1_4 a1_5 a1_6 a1_7 a1_8 a1_9 a1_10 a1_11 a1_12 = some r) : finK Try.prog Try.f3 0 (EX 3 k (nav B3 []) ({ n := 24, F := [(0, V.agg [V.p (Value.int .i64 a0), V.p (Value.int .i64 a0_1), V.p (Value.int .u32 a0_2), V.p (Value.int .u32 a0_3), V.p (Value.int .u32 a0_4), V.p (Value.int .i64 a0_5), V.p (Value.int .i64 a0_6), V.p (Value.int .i64 a0_7), V.p (Value.int .i64 a0_8), V.p (Value.int .i64 a0_9), V.p (Value.bool a0_10), V.sl 1 (rowsOf (encI .u8) a0_11), V.sl 2 (rowsOf encT45 a0_12)]), (1, V.agg [V.p (Value.int .i64 a1), V.p (Value.int .i64 a1_1), V.p (Value.int .u32 a1_2), V.p (Value.int .u32 a1_3), V.p (Value.int .u32 a1_4), V.p (Value.int .i64 a1_5), V.p (Value.int .i64 a1_6), V.p (Value.int .i64 a1_7), V.p (Value.int .i64 a1_8), V.p (Value.int .i64 a1_9), V.p (Value.bool a1_10), V.sl 1 (rowsOf (encI .u8) a1_11), V.sl 2 (rowsOf encT45 a1_12)])], M := [] } : St)) = some r.st := by
  unfold f3_ai10brrzai10brrz_e at hF
  replace hF := Option.bind_eq_some_iff.1 hF
  obtain ⟨o1, h2, hF⟩ := hF
  have hc3 := f7__ok k _ h2
  cases o1 with
  | o0 v4 =>
    (try dsimp only at hF)
    (try simp only [NM, EE, R7_.st] at hc3)
    simp (maxSteps := 999999) (disch := first | exact D (by decide) | exact K (by kernel_rfl)) only [EA, EE, EG, EF, ED, ofVal, ofVal1, ofCell, lenV, aggEqV, cellEq, intBin, isShift, V.ids, lendV, frz, flatV, cellsOf, addOff, firstReg, oneOf, cellsAt, isAggD, isPure, ↓reduceIte, reduceCtorEq, Nat.reduceAdd, Nat.reduceSub, Nat.reduceMul, Nat.reduceLeDiff, Nat.reduceEqDiff, Nat.reduceBEq, Int.reduceToNat, Int.reduceLE, Int.reduceLT, Nat.reduceLT, Int.reduceBEq, Int.reduceBNe, Int.reduceEq, String.reduceEq, xk B3 [] .sq rfl, show (nav B3 [1]) = Code.region 0 _ false from rfl, hk_3_0, hz_3_0, hs_3_0, xk B3 [2] .sq rfl, xk B3 [1, 2] .sq rfl, show (nav B3 [1, 1, 2]) = Code.region 1 _ false from rfl, hk_3_1, hz_3_1, hs_3_1, callStep, calleeOf, gv, List.contains, xk B3 [2, 1, 2] (.cd 6) rfl, hc3]
    replace hF := cond_some hF
    rcases hF with ⟨h5, hF⟩ | ⟨h5, hF⟩
    · cases hF
      simp (maxSteps := 999999) (disch := first | exact D (by decide) | exact K (by kernel_rfl)) only [EA, EE, EG, EF, ED, ofVal, ofVal1, ofCell, lenV, aggEqV, cellEq, intBin, isShift, V.ids, lendV, frz, flatV, cellsOf, addOff, firstReg, oneOf, cellsAt, isAggD, isPure, ↓reduceIte, reduceCtorEq, Nat.reduceAdd, Nat.reduceSub, Nat.reduceMul, Nat.reduceLeDiff, Nat.reduceEqDiff, Nat.reduceBEq, Int.reduceToNat, Int.reduceLE, Int.reduceLT, Nat.reduceLT, Int.reduceBEq, Int.reduceBNe, Int.reduceEq, String.reduceEq, xk B3 [2, 2, 1, 2] .sq rfl, show (nav B3 [1, 2, 2, 1, 2]) = Code.region 2 _ false from rfl, hk_3_2, hz_3_2, hs_3_2, xk B3 [2, 2, 2, 1, 2] .rt rfl, finK_norm, finK_ret, fin3, R3_ai10brrzai10brrz.st, hc3, h5]
    · have hJ := f3_ai10brrzai10brrz_j1_ok k false a0 a0_1 a0_2 a0_3 a0_4 a0_5 a0_6 a0_7 a0_8 a0_9 a0_10 a0_11 a0_12 a1 a1_1 a1_2 a1_3 a1_4 a1_5 a1_6 a1_7 a1_8 a1_9 a1_10 a1_11 a1_12 _ hF
      simp (maxSteps := 999999) (disch := first | exact D (by decide) | exact K (by kernel_rfl)) only [EA, EE, EG, EF, ED, ofVal, ofVal1, ofCell, lenV, aggEqV, cellEq, intBin, isShift, V.ids, lendV, frz, flatV, cellsOf, addOff, firstReg, oneOf, cellsAt, isAggD, isPure, ↓reduceIte, reduceCtorEq, Nat.reduceAdd, Nat.reduceSub, Nat.reduceMul, Nat.reduceLeDiff, Nat.reduceEqDiff, Nat.reduceBEq, Int.reduceToNat, Int.reduceLE, Int.reduceLT, Nat.reduceLT, Int.reduceBEq, Int.reduceBNe, Int.reduceEq, String.reduceEq, xk B3 [3, 2, 1, 2] .sk rfl, hc3, h5]
      try simp only [NM, EE] at hJ
      exact hJ
noncomputable def f3_ai10brrzai10brrz (k : Nat) (a0 : Int) (a0_1 : Int) (a0_2 : Int) (a0_3 : Int) (a0_4 : Int) (a0_5 : Int) (a0_6 : Int) (a0_7 : Int) (a0_8 : Int) (a0_9 : Int) (a0_10 : Bool) (a0_11 : List Int) (a0_12 : List T45) (a1 : Int) (a1_1 : Int) (a1_2 : Int) (a1_3 : Int) (a1_4 : Int) (a1_5 : Int) (a1_6 : Int) (a1_7 : Int) (a1_8 : Int) (a1_9 : Int) (a1_10 : Bool) (a1_11 : List Int) (a1_12 : List T45) : Option R3_ai10brrzai10brrz := match k with | 0 => none | k + 1 => f3_ai10brrzai10brrz_e k a0 a0_1 a0_2 a0_3 a0_4 a0_5 a0_6 a0_7 a0_8 a0_9 a0_10 a0_11 a0_12 a1 a1_1 a1_2 a1_3 a1_4 a1_5 a1_6 a1_7 a1_8 a1_9 a1_10 a1_11 a1_12
theorem f3_ai10brrzai10brrz_ok (k : Nat) (a0 : Int) (a0_1 : Int) (a0_2 : Int) (a0_3 : Int) (a0_4 : Int) (a0_5 : Int) (a0_6 : Int) (a0_7 : Int) (a0_8 : Int) (a0_9 : Int) (a0_10 : Bool) (a0_11 : List Int) (a0_12 : List T45) (a1 : Int) (a1_1 : Int) (a1_2 : Int) (a1_3 : Int) (a1_4 : Int) (a1_5 : Int) (a1_6 : Int) (a1_7 : Int) (a1_8 : Int) (a1_9 : Int) (a1_10 : Bool) (a1_11 : List Int) (a1_12 : List T45) (r : R3_ai10brrzai10brrz) (hF : f3_ai10brrzai10brrz k a0 a0_1 a0_2 a0_3 a0_4 a0_5 a0_6 a0_7 a0_8 a0_9 a0_10 a0_11 a0_12 a1 a1_1 a1_2 a1_3 a1_4 a1_5 a1_6 a1_7 a1_8 a1_9 a1_10 a1_11 a1_12 = some r) : CV k 3 [V.agg [V.p (Value.int .i64 a0), V.p (Value.int .i64 a0_1), V.p (Value.int .u32 a0_2), V.p (Value.int .u32 a0_3), V.p (Value.int .u32 a0_4), V.p (Value.int .i64 a0_5), V.p (Value.int .i64 a0_6), V.p (Value.int .i64 a0_7), V.p (Value.int .i64 a0_8), V.p (Value.int .i64 a0_9), V.p (Value.bool a0_10), V.sl 1 (rowsOf (encI .u8) a0_11), V.sl 2 (rowsOf encT45 a0_12)], V.agg [V.p (Value.int .i64 a1), V.p (Value.int .i64 a1_1), V.p (Value.int .u32 a1_2), V.p (Value.int .u32 a1_3), V.p (Value.int .u32 a1_4), V.p (Value.int .i64 a1_5), V.p (Value.int .i64 a1_6), V.p (Value.int .i64 a1_7), V.p (Value.int .i64 a1_8), V.p (Value.int .i64 a1_9), V.p (Value.bool a1_10), V.sl 1 (rowsOf (encI .u8) a1_11), V.sl 2 (rowsOf encT45 a1_12)]] [] = some r.st := by
  cases k with
  | zero => cases hF
  | succ k =>
    unfold CV
    rw [ev_call (F := Try.f3) (c := (nav B3 [])) rfl Try.func3 rfl rfl rfl]
    exact f3_ai10brrzai10brrz_e_ok k a0 a0_1 a0_2 a0_3 a0_4 a0_5 a0_6 a0_7 a0_8 a0_9 a0_10 a0_11 a0_12 a1 a1_1 a1_2 a1_3 a1_4 a1_5 a1_6 a1_7 a1_8 a1_9 a1_10 a1_11 a1_12 r hF
end Go.Proofs.YthjefcamonmjpaaV
