/- What the program's functions answer: plain functions, and that the interpreter answers what they do. Written by a program of this session, out of the translation. -/
import Derived.Test.YthjefcamonmjpaaVP9
namespace Go.Proofs.YthjefcamonmjpaaV
open Go
set_option linter.unusedVariables false
set_option linter.unusedSimpArgs false
set_option maxRecDepth 8000
set_option maxHeartbeats 4000000
-- f5_ai10brrzr: f5 heliograph/heliographlaw10.SegmentBack
inductive R5_ai10brrzr where
  | o0 (y : Bool)
noncomputable def R5_ai10brrzr.st : R5_ai10brrzr → V × List O × List O
  | .o0 y => (V.p (Value.bool y), [], [])
noncomputable def f5_ai10brrzr_j3 (k : Nat) (x1 : List Int) (x10 : Int) (x67 : Bool) (m9 : Int) (m9_1 : Int) (m9_2 : Int) (m9_3 : Int) (m9_4 : Int) (m9_5 : Int) (m9_6 : Int) (m9_7 : Int) (m9_8 : Int) (m9_9 : Int) (m9_10 : Bool) (m9_11 : List Int) (m63 : List T45) : Option R5_ai10brrzr :=
  Option.bind (f12_ai10brrz k m9 m9_1 m9_2 m9_3 m9_4 m9_5 m9_6 m9_7 m9_8 m9_9 m9_10 m9_11 m63) fun o1 =>
    match o1 with
    | .o0 v4 v5 =>
      cond ((v4 == 0))
        (
          Option.bind (f16_rr k v5 x1) fun o7 =>
            match o7 with
            | .o0 v10 =>
              cond (v10)
                (
                  Option.bind (f15_ai10brrz k m9 m9_1 m9_2 m9_3 m9_4 m9_5 m9_6 m9_7 m9_8 m9_9 m9_10 m9_11 m63) fun o12 =>
                    match o12 with
                    | .o0 v15 =>
                      some (R5_ai10brrzr.o0 (v15 == 0)))
                (some (R5_ai10brrzr.o0 false)))
        (some (R5_ai10brrzr.o0 false))
theorem f5_ai10brrzr_j3_ok (k : Nat) (x1 : List Int) (x10 : Int) (x67 : Bool) (m9 : Int) (m9_1 : Int) (m9_2 : Int) (m9_3 : Int) (m9_4 : Int) (m9_5 : Int) (m9_6 : Int) (m9_7 : Int) (m9_8 : Int) (m9_9 : Int) (m9_10 : Bool) (m9_11 : List Int) (m63 : List T45) (r : R5_ai10brrzr) (hF : f5_ai10brrzr_j3 k x1 x10 x67 m9 m9_1 m9_2 m9_3 m9_4 m9_5 m9_6 m9_7 m9_8 m9_9 m9_10 m9_11 m63 = some r) : finK Try.prog Try.f5 0 (EX 5 k (nav B5 [2, 2, 2, 2, 2, 2, 2]) ({ n := 100, F := [(1, V.sl 1 (rowsOf (encI .u8) x1)), (9, V.ptr 9 0), (10, V.p (Value.int .i64 x10)), (67, V.p (Value.bool x67))], M := [(9, O.box 26 [V.p (Value.int .i64 m9), V.p (Value.int .i64 m9_1), V.p (Value.int .u32 m9_2), V.p (Value.int .u32 m9_3), V.p (Value.int .u32 m9_4), V.p (Value.int .i64 m9_5), V.p (Value.int .i64 m9_6), V.p (Value.int .i64 m9_7), V.p (Value.int .i64 m9_8), V.p (Value.int .i64 m9_9), V.p (Value.bool m9_10), V.sl 1 (rowsOf (encI .u8) m9_11), V.own 63]), (63, O.row true 2 45 (rowsOf encT45 m63))] } : St)) = some r.st := by
  unfold f5_ai10brrzr_j3 at hF
  replace hF := Option.bind_eq_some_iff.1 hF
  obtain ⟨o1, h2, hF⟩ := hF
  have hc3 := f12_ai10brrz_ok k m9 m9_1 m9_2 m9_3 m9_4 m9_5 m9_6 m9_7 m9_8 m9_9 m9_10 m9_11 m63 _ h2
  cases o1 with
  | o0 v4 v5 =>
    (try dsimp only at hF)
    (try simp only [NM, EE, R12_ai10brrz.st] at hc3)
    simp (maxSteps := 999999) (disch := first | exact D (by decide) | exact K (by kernel_rfl)) only [EA, EE, EG, EF, ED, ofVal, ofVal1, ofCell, lenV, aggEqV, cellEq, intBin, isShift, V.ids, lendV, frz, flatV, cellsOf, addOff, firstReg, oneOf, cellsAt, isAggD, isPure, ↓reduceIte, reduceCtorEq, Nat.reduceAdd, Nat.reduceSub, Nat.reduceMul, Nat.reduceLeDiff, Nat.reduceEqDiff, Nat.reduceBEq, Int.reduceToNat, Int.reduceLE, Int.reduceLT, Nat.reduceLT, Int.reduceBEq, Int.reduceBNe, Int.reduceEq, String.reduceEq, xk B5 [2, 2, 2, 2, 2, 2, 2] .sq rfl, show (nav B5 [1, 2, 2, 2, 2, 2, 2, 2]) = Code.region 14 _ false from rfl, hk_5_14, hz_5_14, hs_5_14, u_26, i_26, is_26, ib_26, iz_26, callStep, calleeOf, gv, List.contains, xk B5 [2, 2, 2, 2, 2, 2, 2, 2] .sq rfl, show (nav B5 [1, 2, 2, 2, 2, 2, 2, 2, 2]) = Code.region 15 _ false from rfl, hk_5_15, hz_5_15, hs_5_15, hc3]
    replace hF := cond_some hF
    rcases hF with ⟨h6, hF⟩ | ⟨h6, hF⟩
    · replace hF := Option.bind_eq_some_iff.1 hF
      obtain ⟨o7, h8, hF⟩ := hF
      have hc9 := f16_rr_ok k v5 x1 _ h8
      cases o7 with
      | o0 v10 =>
        (try dsimp only at hF)
        (try simp only [NM, EE, R16_rr.st] at hc9)
        simp (maxSteps := 999999) (disch := first | exact D (by decide) | exact K (by kernel_rfl)) only [EA, EE, EG, EF, ED, ofVal, ofVal1, ofCell, lenV, aggEqV, cellEq, intBin, isShift, V.ids, lendV, frz, flatV, cellsOf, addOff, firstReg, oneOf, cellsAt, isAggD, isPure, ↓reduceIte, reduceCtorEq, Nat.reduceAdd, Nat.reduceSub, Nat.reduceMul, Nat.reduceLeDiff, Nat.reduceEqDiff, Nat.reduceBEq, Int.reduceToNat, Int.reduceLE, Int.reduceLT, Nat.reduceLT, Int.reduceBEq, Int.reduceBNe, Int.reduceEq, String.reduceEq, callStep, calleeOf, gv, List.contains, hc3, h6, hc9]
        replace hF := cond_some hF
        rcases hF with ⟨h11, hF⟩ | ⟨h11, hF⟩
        · replace hF := Option.bind_eq_some_iff.1 hF
          obtain ⟨o12, h13, hF⟩ := hF
          have hc14 := f15_ai10brrz_ok k m9 m9_1 m9_2 m9_3 m9_4 m9_5 m9_6 m9_7 m9_8 m9_9 m9_10 m9_11 m63 _ h13
          cases o12 with
          | o0 v15 =>
            (try dsimp only at hF)
            (try simp only [NM, EE, R15_ai10brrz.st] at hc14)
            cases hF
            simp (maxSteps := 999999) (disch := first | exact D (by decide) | exact K (by kernel_rfl)) only [EA, EE, EG, EF, ED, ofVal, ofVal1, ofCell, lenV, aggEqV, cellEq, intBin, isShift, V.ids, lendV, frz, flatV, cellsOf, addOff, firstReg, oneOf, cellsAt, isAggD, isPure, ↓reduceIte, reduceCtorEq, Nat.reduceAdd, Nat.reduceSub, Nat.reduceMul, Nat.reduceLeDiff, Nat.reduceEqDiff, Nat.reduceBEq, Int.reduceToNat, Int.reduceLE, Int.reduceLT, Nat.reduceLT, Int.reduceBEq, Int.reduceBNe, Int.reduceEq, String.reduceEq, u_26, i_26, is_26, ib_26, iz_26, callStep, calleeOf, gv, List.contains, xk B5 [2, 2, 2, 2, 2, 2, 2, 2, 2] .rt rfl, finK_norm, finK_ret, fin5, R5_ai10brrzr.st, hc3, h6, hc9, h11, hc14]
        · cases hF
          simp (maxSteps := 999999) (disch := first | exact D (by decide) | exact K (by kernel_rfl)) only [EA, EE, EG, EF, ED, ofVal, ofVal1, ofCell, lenV, aggEqV, cellEq, intBin, isShift, V.ids, lendV, frz, flatV, cellsOf, addOff, firstReg, oneOf, cellsAt, isAggD, isPure, ↓reduceIte, reduceCtorEq, Nat.reduceAdd, Nat.reduceSub, Nat.reduceMul, Nat.reduceLeDiff, Nat.reduceEqDiff, Nat.reduceBEq, Int.reduceToNat, Int.reduceLE, Int.reduceLT, Nat.reduceLT, Int.reduceBEq, Int.reduceBNe, Int.reduceEq, String.reduceEq, xk B5 [2, 2, 2, 2, 2, 2, 2, 2, 2] .rt rfl, finK_norm, finK_ret, fin5, R5_ai10brrzr.st, hc3, h6, hc9, h11]
    · cases hF
      simp (maxSteps := 999999) (disch := first | exact D (by decide) | exact K (by kernel_rfl)) only [EA, EE, EG, EF, ED, ofVal, ofVal1, ofCell, lenV, aggEqV, cellEq, intBin, isShift, V.ids, lendV, frz, flatV, cellsOf, addOff, firstReg, oneOf, cellsAt, isAggD, isPure, ↓reduceIte, reduceCtorEq, Nat.reduceAdd, Nat.reduceSub, Nat.reduceMul, Nat.reduceLeDiff, Nat.reduceEqDiff, Nat.reduceBEq, Int.reduceToNat, Int.reduceLE, Int.reduceLT, Nat.reduceLT, Int.reduceBEq, Int.reduceBNe, Int.reduceEq, String.reduceEq, xk B5 [2, 2, 2, 2, 2, 2, 2, 2, 2] .rt rfl, finK_norm, finK_ret, fin5, R5_ai10brrzr.st, hc3, h6]
noncomputable def f5_ai10brrzr_j4 (k : Nat) (x1 : List Int) (x10 : Int) (x67 : Bool) (m9 : Int) (m9_1 : Int) (m9_2 : Int) (m9_3 : Int) (m9_4 : Int) (m9_5 : Int) (m9_6 : Int) (m9_7 : Int) (m9_8 : Int) (m9_9 : Int) (m9_10 : Bool) (m63 : List Int) (m63_1_ : List T45) : Option R5_ai10brrzr :=
  Option.bind (f12_ai10brrz k m9 m9_1 m9_2 m9_3 m9_4 m9_5 m9_6 m9_7 m9_8 m9_9 m9_10 m63 m63_1_) fun o1 =>
    match o1 with
    | .o0 v4 v5 =>
      cond ((v4 == 0))
        (
          Option.bind (f16_rr k v5 x1) fun o7 =>
            match o7 with
            | .o0 v10 =>
              cond (v10)
                (
                  Option.bind (f15_ai10brrz k m9 m9_1 m9_2 m9_3 m9_4 m9_5 m9_6 m9_7 m9_8 m9_9 m9_10 m63 m63_1_) fun o12 =>
                    match o12 with
                    | .o0 v15 =>
                      some (R5_ai10brrzr.o0 (v15 == 0)))
                (some (R5_ai10brrzr.o0 false)))
        (some (R5_ai10brrzr.o0 false))
theorem f5_ai10brrzr_j4_ok (k : Nat) (x1 : List Int) (x10 : Int) (x67 : Bool) (m9 : Int) (m9_1 : Int) (m9_2 : Int) (m9_3 : Int) (m9_4 : Int) (m9_5 : Int) (m9_6 : Int) (m9_7 : Int) (m9_8 : Int) (m9_9 : Int) (m9_10 : Bool) (m63 : List Int) (m63_1_ : List T45) (r : R5_ai10brrzr) (hF : f5_ai10brrzr_j4 k x1 x10 x67 m9 m9_1 m9_2 m9_3 m9_4 m9_5 m9_6 m9_7 m9_8 m9_9 m9_10 m63 m63_1_ = some r) : finK Try.prog Try.f5 0 (EX 5 k (nav B5 [2, 2, 2, 2, 2, 2, 2]) ({ n := 100, F := [(1, V.sl 1 (rowsOf (encI .u8) x1)), (9, V.ptr 9 0), (10, V.p (Value.int .i64 x10)), (67, V.p (Value.bool x67))], M := [(9, O.box 26 [V.p (Value.int .i64 m9), V.p (Value.int .i64 m9_1), V.p (Value.int .u32 m9_2), V.p (Value.int .u32 m9_3), V.p (Value.int .u32 m9_4), V.p (Value.int .i64 m9_5), V.p (Value.int .i64 m9_6), V.p (Value.int .i64 m9_7), V.p (Value.int .i64 m9_8), V.p (Value.int .i64 m9_9), V.p (Value.bool m9_10), V.own 63, V.own 10063]), (63, O.row true 1 5 (rowsOf (encI .u8) m63)), (10063, O.row true 2 45 (rowsOf encT45 m63_1_))] } : St)) = some r.st := by
  unfold f5_ai10brrzr_j4 at hF
  replace hF := Option.bind_eq_some_iff.1 hF
  obtain ⟨o1, h2, hF⟩ := hF
  have hc3 := f12_ai10brrz_ok k m9 m9_1 m9_2 m9_3 m9_4 m9_5 m9_6 m9_7 m9_8 m9_9 m9_10 m63 m63_1_ _ h2
  cases o1 with
  | o0 v4 v5 =>
    (try dsimp only at hF)
    (try simp only [NM, EE, R12_ai10brrz.st] at hc3)
    simp (maxSteps := 999999) (disch := first | exact D (by decide) | exact K (by kernel_rfl)) only [EA, EE, EG, EF, ED, ofVal, ofVal1, ofCell, lenV, aggEqV, cellEq, intBin, isShift, V.ids, lendV, frz, flatV, cellsOf, addOff, firstReg, oneOf, cellsAt, isAggD, isPure, ↓reduceIte, reduceCtorEq, Nat.reduceAdd, Nat.reduceSub, Nat.reduceMul, Nat.reduceLeDiff, Nat.reduceEqDiff, Nat.reduceBEq, Int.reduceToNat, Int.reduceLE, Int.reduceLT, Nat.reduceLT, Int.reduceBEq, Int.reduceBNe, Int.reduceEq, String.reduceEq, xk B5 [2, 2, 2, 2, 2, 2, 2] .sq rfl, show (nav B5 [1, 2, 2, 2, 2, 2, 2, 2]) = Code.region 14 _ false from rfl, hk_5_14, hz_5_14, hs_5_14, u_26, i_26, is_26, ib_26, iz_26, callStep, calleeOf, gv, List.contains, xk B5 [2, 2, 2, 2, 2, 2, 2, 2] .sq rfl, show (nav B5 [1, 2, 2, 2, 2, 2, 2, 2, 2]) = Code.region 15 _ false from rfl, hk_5_15, hz_5_15, hs_5_15, hc3]
    replace hF := cond_some hF
    rcases hF with ⟨h6, hF⟩ | ⟨h6, hF⟩
    · replace hF := Option.bind_eq_some_iff.1 hF
      obtain ⟨o7, h8, hF⟩ := hF
      have hc9 := f16_rr_ok k v5 x1 _ h8
      cases o7 with
      | o0 v10 =>
        (try dsimp only at hF)
        (try simp only [NM, EE, R16_rr.st] at hc9)
        simp (maxSteps := 999999) (disch := first | exact D (by decide) | exact K (by kernel_rfl)) only [EA, EE, EG, EF, ED, ofVal, ofVal1, ofCell, lenV, aggEqV, cellEq, intBin, isShift, V.ids, lendV, frz, flatV, cellsOf, addOff, firstReg, oneOf, cellsAt, isAggD, isPure, ↓reduceIte, reduceCtorEq, Nat.reduceAdd, Nat.reduceSub, Nat.reduceMul, Nat.reduceLeDiff, Nat.reduceEqDiff, Nat.reduceBEq, Int.reduceToNat, Int.reduceLE, Int.reduceLT, Nat.reduceLT, Int.reduceBEq, Int.reduceBNe, Int.reduceEq, String.reduceEq, callStep, calleeOf, gv, List.contains, hc3, h6, hc9]
        replace hF := cond_some hF
        rcases hF with ⟨h11, hF⟩ | ⟨h11, hF⟩
        · replace hF := Option.bind_eq_some_iff.1 hF
          obtain ⟨o12, h13, hF⟩ := hF
          have hc14 := f15_ai10brrz_ok k m9 m9_1 m9_2 m9_3 m9_4 m9_5 m9_6 m9_7 m9_8 m9_9 m9_10 m63 m63_1_ _ h13
          cases o12 with
          | o0 v15 =>
            (try dsimp only at hF)
            (try simp only [NM, EE, R15_ai10brrz.st] at hc14)
            cases hF
            simp (maxSteps := 999999) (disch := first | exact D (by decide) | exact K (by kernel_rfl)) only [EA, EE, EG, EF, ED, ofVal, ofVal1, ofCell, lenV, aggEqV, cellEq, intBin, isShift, V.ids, lendV, frz, flatV, cellsOf, addOff, firstReg, oneOf, cellsAt, isAggD, isPure, ↓reduceIte, reduceCtorEq, Nat.reduceAdd, Nat.reduceSub, Nat.reduceMul, Nat.reduceLeDiff, Nat.reduceEqDiff, Nat.reduceBEq, Int.reduceToNat, Int.reduceLE, Int.reduceLT, Nat.reduceLT, Int.reduceBEq, Int.reduceBNe, Int.reduceEq, String.reduceEq, u_26, i_26, is_26, ib_26, iz_26, callStep, calleeOf, gv, List.contains, xk B5 [2, 2, 2, 2, 2, 2, 2, 2, 2] .rt rfl, finK_norm, finK_ret, fin5, R5_ai10brrzr.st, hc3, h6, hc9, h11, hc14]
        · cases hF
          simp (maxSteps := 999999) (disch := first | exact D (by decide) | exact K (by kernel_rfl)) only [EA, EE, EG, EF, ED, ofVal, ofVal1, ofCell, lenV, aggEqV, cellEq, intBin, isShift, V.ids, lendV, frz, flatV, cellsOf, addOff, firstReg, oneOf, cellsAt, isAggD, isPure, ↓reduceIte, reduceCtorEq, Nat.reduceAdd, Nat.reduceSub, Nat.reduceMul, Nat.reduceLeDiff, Nat.reduceEqDiff, Nat.reduceBEq, Int.reduceToNat, Int.reduceLE, Int.reduceLT, Nat.reduceLT, Int.reduceBEq, Int.reduceBNe, Int.reduceEq, String.reduceEq, xk B5 [2, 2, 2, 2, 2, 2, 2, 2, 2] .rt rfl, finK_norm, finK_ret, fin5, R5_ai10brrzr.st, hc3, h6, hc9, h11]
    · cases hF
      simp (maxSteps := 999999) (disch := first | exact D (by decide) | exact K (by kernel_rfl)) only [EA, EE, EG, EF, ED, ofVal, ofVal1, ofCell, lenV, aggEqV, cellEq, intBin, isShift, V.ids, lendV, frz, flatV, cellsOf, addOff, firstReg, oneOf, cellsAt, isAggD, isPure, ↓reduceIte, reduceCtorEq, Nat.reduceAdd, Nat.reduceSub, Nat.reduceMul, Nat.reduceLeDiff, Nat.reduceEqDiff, Nat.reduceBEq, Int.reduceToNat, Int.reduceLE, Int.reduceLT, Nat.reduceLT, Int.reduceBEq, Int.reduceBNe, Int.reduceEq, String.reduceEq, xk B5 [2, 2, 2, 2, 2, 2, 2, 2, 2] .rt rfl, finK_norm, finK_ret, fin5, R5_ai10brrzr.st, hc3, h6]
noncomputable def f5_ai10brrzr_j2 (k : Nat) (x1 : List Int) (x52 : Bool) : Option R5_ai10brrzr :=
  Option.bind (f13_r k x1) fun o1 =>
    match o1 with
    | .o0 v4 v5 v6 v7 v8 v9 v10 v11 v12 v13 v14 v15 v16 v17 =>
      cond ((v16 != 0))
        (
          Option.bind (f9_ai10brrzai10bnnz k v4 v5 v6 v7 v8 v9 v10 v11 v12 v13 v14 v15 v17 0 0 0 0 0 0 0 0 0 0 false) fun o19 =>
            match o19 with
            | .o0 v22 =>
              cond (v22)
                (
                  cond ((v16 == 7))
                    (some (R5_ai10brrzr.o0 true))
                    (
                      cond ((v16 == 130))
                        (some (R5_ai10brrzr.o0 true))
                        (some (R5_ai10brrzr.o0 (v16 == 200)))))
                (some (R5_ai10brrzr.o0 false)))
        (f5_ai10brrzr_j3 k x1 v16 false v4 v5 v6 v7 v8 v9 v10 v11 v12 v13 v14 v15 v17)
    | .o1 v26 v27 v28 v29 v30 v31 v32 v33 v34 v35 v36 v37 v38 v39 =>
      cond ((v37 != 0))
        (
          Option.bind (f9_ai10brrzai10bnnz k v26 v27 v28 v29 v30 v31 v32 v33 v34 v35 v36 v38 v39 0 0 0 0 0 0 0 0 0 0 false) fun o41 =>
            match o41 with
            | .o0 v44 =>
              cond (v44)
                (
                  cond ((v37 == 7))
                    (some (R5_ai10brrzr.o0 true))
                    (
                      cond ((v37 == 130))
                        (some (R5_ai10brrzr.o0 true))
                        (some (R5_ai10brrzr.o0 (v37 == 200)))))
                (some (R5_ai10brrzr.o0 false)))
        (f5_ai10brrzr_j4 k x1 v37 false v26 v27 v28 v29 v30 v31 v32 v33 v34 v35 v36 v38 v39)
theorem f5_ai10brrzr_j2_ok (k : Nat) (x1 : List Int) (x52 : Bool) (r : R5_ai10brrzr) (hF : f5_ai10brrzr_j2 k x1 x52 = some r) : finK Try.prog Try.f5 0 (EX 5 k (nav B5 [2, 2, 2, 2, 2]) ({ n := 100, F := [(1, V.sl 1 (rowsOf (encI .u8) x1)), (52, V.p (Value.bool x52))], M := [] } : St)) = some r.st := by
  unfold f5_ai10brrzr_j2 at hF
  simp (maxSteps := 999999) (disch := first | exact D (by decide) | exact K (by kernel_rfl)) only [EA, EE, EG, EF, ED, ofVal, ofVal1, ofCell, lenV, aggEqV, cellEq, intBin, isShift, V.ids, lendV, frz, flatV, cellsOf, addOff, firstReg, oneOf, cellsAt, isAggD, isPure, ↓reduceIte, reduceCtorEq, Nat.reduceAdd, Nat.reduceSub, Nat.reduceMul, Nat.reduceLeDiff, Nat.reduceEqDiff, Nat.reduceBEq, Int.reduceToNat, Int.reduceLE, Int.reduceLT, Nat.reduceLT, Int.reduceBEq, Int.reduceBNe, Int.reduceEq, String.reduceEq, xk B5 [2, 2, 2, 2, 2] .sq rfl, show (nav B5 [1, 2, 2, 2, 2, 2]) = Code.region 11 _ false from rfl, hk_5_11, hz_5_11, hs_5_11, callStep, calleeOf, gv, List.contains]
  replace hF := Option.bind_eq_some_iff.1 hF
  obtain ⟨o1, h2, hF⟩ := hF
  have hc3 := f13_r_ok k x1 _ h2
  cases o1 with
  | o0 v4 v5 v6 v7 v8 v9 v10 v11 v12 v13 v14 v15 v16 v17 =>
    (try dsimp only at hF)
    (try simp only [NM, EE, R13_r.st] at hc3)
    simp (maxSteps := 999999) (disch := first | exact D (by decide) | exact K (by kernel_rfl)) only [EA, EE, EG, EF, ED, ofVal, ofVal1, ofCell, lenV, aggEqV, cellEq, intBin, isShift, V.ids, lendV, frz, flatV, cellsOf, addOff, firstReg, oneOf, cellsAt, isAggD, isPure, ↓reduceIte, reduceCtorEq, Nat.reduceAdd, Nat.reduceSub, Nat.reduceMul, Nat.reduceLeDiff, Nat.reduceEqDiff, Nat.reduceBEq, Int.reduceToNat, Int.reduceLE, Int.reduceLT, Nat.reduceLT, Int.reduceBEq, Int.reduceBNe, Int.reduceEq, String.reduceEq, u_26, i_26, is_26, ib_26, iz_26, xk B5 [2, 2, 2, 2, 2, 2] .sq rfl, xk B5 [1, 2, 2, 2, 2, 2, 2] .sq rfl, show (nav B5 [1, 1, 2, 2, 2, 2, 2, 2]) = Code.region 12 _ false from rfl, hk_5_12, hz_5_12, hs_5_12, xk B5 [2, 1, 2, 2, 2, 2, 2, 2] (.cd 67) rfl, hc3]
    replace hF := cond_some hF
    rcases hF with ⟨h18, hF⟩ | ⟨h18, hF⟩
    · replace hF := Option.bind_eq_some_iff.1 hF
      obtain ⟨o19, h20, hF⟩ := hF
      have hc21 := f9_ai10brrzai10bnnz_ok k v4 v5 v6 v7 v8 v9 v10 v11 v12 v13 v14 v15 v17 0 0 0 0 0 0 0 0 0 0 false _ h20
      cases o19 with
      | o0 v22 =>
        (try dsimp only at hF)
        (try simp only [NM, EE, R9_ai10brrzai10bnnz.st] at hc21)
        simp (maxSteps := 999999) (disch := first | exact D (by decide) | exact K (by kernel_rfl)) only [EA, EE, EG, EF, ED, ofVal, ofVal1, ofCell, lenV, aggEqV, cellEq, intBin, isShift, V.ids, lendV, frz, flatV, cellsOf, addOff, firstReg, oneOf, cellsAt, isAggD, isPure, ↓reduceIte, reduceCtorEq, Nat.reduceAdd, Nat.reduceSub, Nat.reduceMul, Nat.reduceLeDiff, Nat.reduceEqDiff, Nat.reduceBEq, Int.reduceToNat, Int.reduceLE, Int.reduceLT, Nat.reduceLT, Int.reduceBEq, Int.reduceBNe, Int.reduceEq, String.reduceEq, xk B5 [2, 2, 1, 2, 2, 2, 2, 2, 2] .sq rfl, show (nav B5 [1, 2, 2, 1, 2, 2, 2, 2, 2, 2]) = Code.region 13 _ false from rfl, hk_5_13, hz_5_13, hs_5_13, u_26, i_26, is_26, ib_26, iz_26, bl_26, callStep, calleeOf, gv, List.contains, hc3, h18, hc21]
        replace hF := cond_some hF
        rcases hF with ⟨h23, hF⟩ | ⟨h23, hF⟩
        · replace hF := cond_some hF
          rcases hF with ⟨h24, hF⟩ | ⟨h24, hF⟩
          · cases hF
            simp (maxSteps := 999999) (disch := first | exact D (by decide) | exact K (by kernel_rfl)) only [EA, EE, EG, EF, ED, ofVal, ofVal1, ofCell, lenV, aggEqV, cellEq, intBin, isShift, V.ids, lendV, frz, flatV, cellsOf, addOff, firstReg, oneOf, cellsAt, isAggD, isPure, ↓reduceIte, reduceCtorEq, Nat.reduceAdd, Nat.reduceSub, Nat.reduceMul, Nat.reduceLeDiff, Nat.reduceEqDiff, Nat.reduceBEq, Int.reduceToNat, Int.reduceLE, Int.reduceLT, Nat.reduceLT, Int.reduceBEq, Int.reduceBNe, Int.reduceEq, String.reduceEq, xk B5 [2, 2, 2, 1, 2, 2, 2, 2, 2, 2] .rt rfl, finK_norm, finK_ret, fin5, R5_ai10brrzr.st, hc3, h18, hc21, h23, h24]
          · replace hF := cond_some hF
            rcases hF with ⟨h25, hF⟩ | ⟨h25, hF⟩
            · cases hF
              simp (maxSteps := 999999) (disch := first | exact D (by decide) | exact K (by kernel_rfl)) only [EA, EE, EG, EF, ED, ofVal, ofVal1, ofCell, lenV, aggEqV, cellEq, intBin, isShift, V.ids, lendV, frz, flatV, cellsOf, addOff, firstReg, oneOf, cellsAt, isAggD, isPure, ↓reduceIte, reduceCtorEq, Nat.reduceAdd, Nat.reduceSub, Nat.reduceMul, Nat.reduceLeDiff, Nat.reduceEqDiff, Nat.reduceBEq, Int.reduceToNat, Int.reduceLE, Int.reduceLT, Nat.reduceLT, Int.reduceBEq, Int.reduceBNe, Int.reduceEq, String.reduceEq, xk B5 [2, 2, 2, 1, 2, 2, 2, 2, 2, 2] .rt rfl, finK_norm, finK_ret, fin5, R5_ai10brrzr.st, hc3, h18, hc21, h23, h24, h25]
            · cases hF
              simp (maxSteps := 999999) (disch := first | exact D (by decide) | exact K (by kernel_rfl)) only [EA, EE, EG, EF, ED, ofVal, ofVal1, ofCell, lenV, aggEqV, cellEq, intBin, isShift, V.ids, lendV, frz, flatV, cellsOf, addOff, firstReg, oneOf, cellsAt, isAggD, isPure, ↓reduceIte, reduceCtorEq, Nat.reduceAdd, Nat.reduceSub, Nat.reduceMul, Nat.reduceLeDiff, Nat.reduceEqDiff, Nat.reduceBEq, Int.reduceToNat, Int.reduceLE, Int.reduceLT, Nat.reduceLT, Int.reduceBEq, Int.reduceBNe, Int.reduceEq, String.reduceEq, xk B5 [2, 2, 2, 1, 2, 2, 2, 2, 2, 2] .rt rfl, finK_norm, finK_ret, fin5, R5_ai10brrzr.st, hc3, h18, hc21, h23, h24, h25]
        · cases hF
          simp (maxSteps := 999999) (disch := first | exact D (by decide) | exact K (by kernel_rfl)) only [EA, EE, EG, EF, ED, ofVal, ofVal1, ofCell, lenV, aggEqV, cellEq, intBin, isShift, V.ids, lendV, frz, flatV, cellsOf, addOff, firstReg, oneOf, cellsAt, isAggD, isPure, ↓reduceIte, reduceCtorEq, Nat.reduceAdd, Nat.reduceSub, Nat.reduceMul, Nat.reduceLeDiff, Nat.reduceEqDiff, Nat.reduceBEq, Int.reduceToNat, Int.reduceLE, Int.reduceLT, Nat.reduceLT, Int.reduceBEq, Int.reduceBNe, Int.reduceEq, String.reduceEq, xk B5 [2, 2, 2, 1, 2, 2, 2, 2, 2, 2] .rt rfl, finK_norm, finK_ret, fin5, R5_ai10brrzr.st, hc3, h18, hc21, h23]
    · have hJ := f5_ai10brrzr_j3_ok k x1 v16 false v4 v5 v6 v7 v8 v9 v10 v11 v12 v13 v14 v15 v17 _ hF
      simp (maxSteps := 999999) (disch := first | exact D (by decide) | exact K (by kernel_rfl)) only [EA, EE, EG, EF, ED, ofVal, ofVal1, ofCell, lenV, aggEqV, cellEq, intBin, isShift, V.ids, lendV, frz, flatV, cellsOf, addOff, firstReg, oneOf, cellsAt, isAggD, isPure, ↓reduceIte, reduceCtorEq, Nat.reduceAdd, Nat.reduceSub, Nat.reduceMul, Nat.reduceLeDiff, Nat.reduceEqDiff, Nat.reduceBEq, Int.reduceToNat, Int.reduceLE, Int.reduceLT, Nat.reduceLT, Int.reduceBEq, Int.reduceBNe, Int.reduceEq, String.reduceEq, xk B5 [3, 2, 1, 2, 2, 2, 2, 2, 2] .sk rfl, hc3, h18]
      try simp only [NM, EE] at hJ
      exact hJ
  | o1 v26 v27 v28 v29 v30 v31 v32 v33 v34 v35 v36 v37 v38 v39 =>
    (try dsimp only at hF)
    (try simp only [NM, EE, R13_r.st] at hc3)
    simp (maxSteps := 999999) (disch := first | exact D (by decide) | exact K (by kernel_rfl)) only [EA, EE, EG, EF, ED, ofVal, ofVal1, ofCell, lenV, aggEqV, cellEq, intBin, isShift, V.ids, lendV, frz, flatV, cellsOf, addOff, firstReg, oneOf, cellsAt, isAggD, isPure, ↓reduceIte, reduceCtorEq, Nat.reduceAdd, Nat.reduceSub, Nat.reduceMul, Nat.reduceLeDiff, Nat.reduceEqDiff, Nat.reduceBEq, Int.reduceToNat, Int.reduceLE, Int.reduceLT, Nat.reduceLT, Int.reduceBEq, Int.reduceBNe, Int.reduceEq, String.reduceEq, u_26, i_26, is_26, ib_26, iz_26, xk B5 [2, 2, 2, 2, 2, 2] .sq rfl, xk B5 [1, 2, 2, 2, 2, 2, 2] .sq rfl, show (nav B5 [1, 1, 2, 2, 2, 2, 2, 2]) = Code.region 12 _ false from rfl, hk_5_12, hz_5_12, hs_5_12, xk B5 [2, 1, 2, 2, 2, 2, 2, 2] (.cd 67) rfl, hc3]
    replace hF := cond_some hF
    rcases hF with ⟨h40, hF⟩ | ⟨h40, hF⟩
    · replace hF := Option.bind_eq_some_iff.1 hF
      obtain ⟨o41, h42, hF⟩ := hF
      have hc43 := f9_ai10brrzai10bnnz_ok k v26 v27 v28 v29 v30 v31 v32 v33 v34 v35 v36 v38 v39 0 0 0 0 0 0 0 0 0 0 false _ h42
      cases o41 with
      | o0 v44 =>
        (try dsimp only at hF)
        (try simp only [NM, EE, R9_ai10brrzai10bnnz.st] at hc43)
        simp (maxSteps := 999999) (disch := first | exact D (by decide) | exact K (by kernel_rfl)) only [EA, EE, EG, EF, ED, ofVal, ofVal1, ofCell, lenV, aggEqV, cellEq, intBin, isShift, V.ids, lendV, frz, flatV, cellsOf, addOff, firstReg, oneOf, cellsAt, isAggD, isPure, ↓reduceIte, reduceCtorEq, Nat.reduceAdd, Nat.reduceSub, Nat.reduceMul, Nat.reduceLeDiff, Nat.reduceEqDiff, Nat.reduceBEq, Int.reduceToNat, Int.reduceLE, Int.reduceLT, Nat.reduceLT, Int.reduceBEq, Int.reduceBNe, Int.reduceEq, String.reduceEq, xk B5 [2, 2, 1, 2, 2, 2, 2, 2, 2] .sq rfl, show (nav B5 [1, 2, 2, 1, 2, 2, 2, 2, 2, 2]) = Code.region 13 _ false from rfl, hk_5_13, hz_5_13, hs_5_13, u_26, i_26, is_26, ib_26, iz_26, bl_26, callStep, calleeOf, gv, List.contains, hc3, h40, hc43]
        replace hF := cond_some hF
        rcases hF with ⟨h45, hF⟩ | ⟨h45, hF⟩
        · replace hF := cond_some hF
          rcases hF with ⟨h46, hF⟩ | ⟨h46, hF⟩
          · cases hF
            simp (maxSteps := 999999) (disch := first | exact D (by decide) | exact K (by kernel_rfl)) only [EA, EE, EG, EF, ED, ofVal, ofVal1, ofCell, lenV, aggEqV, cellEq, intBin, isShift, V.ids, lendV, frz, flatV, cellsOf, addOff, firstReg, oneOf, cellsAt, isAggD, isPure, ↓reduceIte, reduceCtorEq, Nat.reduceAdd, Nat.reduceSub, Nat.reduceMul, Nat.reduceLeDiff, Nat.reduceEqDiff, Nat.reduceBEq, Int.reduceToNat, Int.reduceLE, Int.reduceLT, Nat.reduceLT, Int.reduceBEq, Int.reduceBNe, Int.reduceEq, String.reduceEq, xk B5 [2, 2, 2, 1, 2, 2, 2, 2, 2, 2] .rt rfl, finK_norm, finK_ret, fin5, R5_ai10brrzr.st, hc3, h40, hc43, h45, h46]
          · replace hF := cond_some hF
            rcases hF with ⟨h47, hF⟩ | ⟨h47, hF⟩
            · cases hF
              simp (maxSteps := 999999) (disch := first | exact D (by decide) | exact K (by kernel_rfl)) only [EA, EE, EG, EF, ED, ofVal, ofVal1, ofCell, lenV, aggEqV, cellEq, intBin, isShift, V.ids, lendV, frz, flatV, cellsOf, addOff, firstReg, oneOf, cellsAt, isAggD, isPure, ↓reduceIte, reduceCtorEq, Nat.reduceAdd, Nat.reduceSub, Nat.reduceMul, Nat.reduceLeDiff, Nat.reduceEqDiff, Nat.reduceBEq, Int.reduceToNat, Int.reduceLE, Int.reduceLT, Nat.reduceLT, Int.reduceBEq, Int.reduceBNe, Int.reduceEq, String.reduceEq, xk B5 [2, 2, 2, 1, 2, 2, 2, 2, 2, 2] .rt rfl, finK_norm, finK_ret, fin5, R5_ai10brrzr.st, hc3, h40, hc43, h45, h46, h47]
            · cases hF
              simp (maxSteps := 999999) (disch := first | exact D (by decide) | exact K (by kernel_rfl)) only [EA, EE, EG, EF, ED, ofVal, ofVal1, ofCell, lenV, aggEqV, cellEq, intBin, isShift, V.ids, lendV, frz, flatV, cellsOf, addOff, firstReg, oneOf, cellsAt, isAggD, isPure, ↓reduceIte, reduceCtorEq, Nat.reduceAdd, Nat.reduceSub, Nat.reduceMul, Nat.reduceLeDiff, Nat.reduceEqDiff, Nat.reduceBEq, Int.reduceToNat, Int.reduceLE, Int.reduceLT, Nat.reduceLT, Int.reduceBEq, Int.reduceBNe, Int.reduceEq, String.reduceEq, xk B5 [2, 2, 2, 1, 2, 2, 2, 2, 2, 2] .rt rfl, finK_norm, finK_ret, fin5, R5_ai10brrzr.st, hc3, h40, hc43, h45, h46, h47]
        · cases hF
          simp (maxSteps := 999999) (disch := first | exact D (by decide) | exact K (by kernel_rfl)) only [EA, EE, EG, EF, ED, ofVal, ofVal1, ofCell, lenV, aggEqV, cellEq, intBin, isShift, V.ids, lendV, frz, flatV, cellsOf, addOff, firstReg, oneOf, cellsAt, isAggD, isPure, ↓reduceIte, reduceCtorEq, Nat.reduceAdd, Nat.reduceSub, Nat.reduceMul, Nat.reduceLeDiff, Nat.reduceEqDiff, Nat.reduceBEq, Int.reduceToNat, Int.reduceLE, Int.reduceLT, Nat.reduceLT, Int.reduceBEq, Int.reduceBNe, Int.reduceEq, String.reduceEq, xk B5 [2, 2, 2, 1, 2, 2, 2, 2, 2, 2] .rt rfl, finK_norm, finK_ret, fin5, R5_ai10brrzr.st, hc3, h40, hc43, h45]
    · have hJ := f5_ai10brrzr_j4_ok k x1 v37 false v26 v27 v28 v29 v30 v31 v32 v33 v34 v35 v36 v38 v39 _ hF
      simp (maxSteps := 999999) (disch := first | exact D (by decide) | exact K (by kernel_rfl)) only [EA, EE, EG, EF, ED, ofVal, ofVal1, ofCell, lenV, aggEqV, cellEq, intBin, isShift, V.ids, lendV, frz, flatV, cellsOf, addOff, firstReg, oneOf, cellsAt, isAggD, isPure, ↓reduceIte, reduceCtorEq, Nat.reduceAdd, Nat.reduceSub, Nat.reduceMul, Nat.reduceLeDiff, Nat.reduceEqDiff, Nat.reduceBEq, Int.reduceToNat, Int.reduceLE, Int.reduceLT, Nat.reduceLT, Int.reduceBEq, Int.reduceBNe, Int.reduceEq, String.reduceEq, xk B5 [3, 2, 1, 2, 2, 2, 2, 2, 2] .sk rfl, hc3, h40]
      try simp only [NM, EE] at hJ
      exact hJ
noncomputable def f5_ai10brrzr_j5 (k : Nat) (x1 : List Int) (x60 : Bool) : Option R5_ai10brrzr :=
  Option.bind (f13_r k x1) fun o1 =>
    match o1 with
    | .o0 v4 v5 v6 v7 v8 v9 v10 v11 v12 v13 v14 v15 v16 v17 =>
      cond ((v16 != 0))
        (
          Option.bind (f9_ai10brrzai10bnnz k v4 v5 v6 v7 v8 v9 v10 v11 v12 v13 v14 v15 v17 0 0 0 0 0 0 0 0 0 0 false) fun o19 =>
            match o19 with
            | .o0 v22 =>
              cond (v22)
                (
                  cond ((v16 == 7))
                    (some (R5_ai10brrzr.o0 true))
                    (
                      cond ((v16 == 130))
                        (some (R5_ai10brrzr.o0 true))
                        (some (R5_ai10brrzr.o0 (v16 == 200)))))
                (some (R5_ai10brrzr.o0 false)))
        (f5_ai10brrzr_j3 k x1 v16 false v4 v5 v6 v7 v8 v9 v10 v11 v12 v13 v14 v15 v17)
    | .o1 v26 v27 v28 v29 v30 v31 v32 v33 v34 v35 v36 v37 v38 v39 =>
      cond ((v37 != 0))
        (
          Option.bind (f9_ai10brrzai10bnnz k v26 v27 v28 v29 v30 v31 v32 v33 v34 v35 v36 v38 v39 0 0 0 0 0 0 0 0 0 0 false) fun o41 =>
            match o41 with
            | .o0 v44 =>
              cond (v44)
                (
                  cond ((v37 == 7))
                    (some (R5_ai10brrzr.o0 true))
                    (
                      cond ((v37 == 130))
                        (some (R5_ai10brrzr.o0 true))
                        (some (R5_ai10brrzr.o0 (v37 == 200)))))
                (some (R5_ai10brrzr.o0 false)))
        (f5_ai10brrzr_j4 k x1 v37 false v26 v27 v28 v29 v30 v31 v32 v33 v34 v35 v36 v38 v39)
theorem f5_ai10brrzr_j5_ok (k : Nat) (x1 : List Int) (x60 : Bool) (r : R5_ai10brrzr) (hF : f5_ai10brrzr_j5 k x1 x60 = some r) : finK Try.prog Try.f5 0 (EX 5 k (nav B5 [2, 2, 2, 2, 2]) ({ n := 100, F := [(1, V.sl 1 (rowsOf (encI .u8) x1)), (60, V.p (Value.bool x60))], M := [] } : St)) = some r.st := by
  unfold f5_ai10brrzr_j5 at hF
  simp (maxSteps := 999999) (disch := first | exact D (by decide) | exact K (by kernel_rfl)) only [EA, EE, EG, EF, ED, ofVal, ofVal1, ofCell, lenV, aggEqV, cellEq, intBin, isShift, V.ids, lendV, frz, flatV, cellsOf, addOff, firstReg, oneOf, cellsAt, isAggD, isPure, ↓reduceIte, reduceCtorEq, Nat.reduceAdd, Nat.reduceSub, Nat.reduceMul, Nat.reduceLeDiff, Nat.reduceEqDiff, Nat.reduceBEq, Int.reduceToNat, Int.reduceLE, Int.reduceLT, Nat.reduceLT, Int.reduceBEq, Int.reduceBNe, Int.reduceEq, String.reduceEq, xk B5 [2, 2, 2, 2, 2] .sq rfl, show (nav B5 [1, 2, 2, 2, 2, 2]) = Code.region 11 _ false from rfl, hk_5_11, hz_5_11, hs_5_11, callStep, calleeOf, gv, List.contains]
  replace hF := Option.bind_eq_some_iff.1 hF
  obtain ⟨o1, h2, hF⟩ := hF
  have hc3 := f13_r_ok k x1 _ h2
  cases o1 with
  | o0 v4 v5 v6 v7 v8 v9 v10 v11 v12 v13 v14 v15 v16 v17 =>
    (try dsimp only at hF)
    (try simp only [NM, EE, R13_r.st] at hc3)
    simp (maxSteps := 999999) (disch := first | exact D (by decide) | exact K (by kernel_rfl)) only [EA, EE, EG, EF, ED, ofVal, ofVal1, ofCell, lenV, aggEqV, cellEq, intBin, isShift, V.ids, lendV, frz, flatV, cellsOf, addOff, firstReg, oneOf, cellsAt, isAggD, isPure, ↓reduceIte, reduceCtorEq, Nat.reduceAdd, Nat.reduceSub, Nat.reduceMul, Nat.reduceLeDiff, Nat.reduceEqDiff, Nat.reduceBEq, Int.reduceToNat, Int.reduceLE, Int.reduceLT, Nat.reduceLT, Int.reduceBEq, Int.reduceBNe, Int.reduceEq, String.reduceEq, u_26, i_26, is_26, ib_26, iz_26, xk B5 [2, 2, 2, 2, 2, 2] .sq rfl, xk B5 [1, 2, 2, 2, 2, 2, 2] .sq rfl, show (nav B5 [1, 1, 2, 2, 2, 2, 2, 2]) = Code.region 12 _ false from rfl, hk_5_12, hz_5_12, hs_5_12, xk B5 [2, 1, 2, 2, 2, 2, 2, 2] (.cd 67) rfl, hc3]
    replace hF := cond_some hF
    rcases hF with ⟨h18, hF⟩ | ⟨h18, hF⟩
    · replace hF := Option.bind_eq_some_iff.1 hF
      obtain ⟨o19, h20, hF⟩ := hF
      have hc21 := f9_ai10brrzai10bnnz_ok k v4 v5 v6 v7 v8 v9 v10 v11 v12 v13 v14 v15 v17 0 0 0 0 0 0 0 0 0 0 false _ h20
      cases o19 with
      | o0 v22 =>
        (try dsimp only at hF)
        (try simp only [NM, EE, R9_ai10brrzai10bnnz.st] at hc21)
        simp (maxSteps := 999999) (disch := first | exact D (by decide) | exact K (by kernel_rfl)) only [EA, EE, EG, EF, ED, ofVal, ofVal1, ofCell, lenV, aggEqV, cellEq, intBin, isShift, V.ids, lendV, frz, flatV, cellsOf, addOff, firstReg, oneOf, cellsAt, isAggD, isPure, ↓reduceIte, reduceCtorEq, Nat.reduceAdd, Nat.reduceSub, Nat.reduceMul, Nat.reduceLeDiff, Nat.reduceEqDiff, Nat.reduceBEq, Int.reduceToNat, Int.reduceLE, Int.reduceLT, Nat.reduceLT, Int.reduceBEq, Int.reduceBNe, Int.reduceEq, String.reduceEq, xk B5 [2, 2, 1, 2, 2, 2, 2, 2, 2] .sq rfl, show (nav B5 [1, 2, 2, 1, 2, 2, 2, 2, 2, 2]) = Code.region 13 _ false from rfl, hk_5_13, hz_5_13, hs_5_13, u_26, i_26, is_26, ib_26, iz_26, bl_26, callStep, calleeOf, gv, List.contains, hc3, h18, hc21]
        replace hF := cond_some hF
        rcases hF with ⟨h23, hF⟩ | ⟨h23, hF⟩
        · replace hF := cond_some hF
          rcases hF with ⟨h24, hF⟩ | ⟨h24, hF⟩
          · cases hF
            simp (maxSteps := 999999) (disch := first | exact D (by decide) | exact K (by kernel_rfl)) only [EA, EE, EG, EF, ED, ofVal, ofVal1, ofCell, lenV, aggEqV, cellEq, intBin, isShift, V.ids, lendV, frz, flatV, cellsOf, addOff, firstReg, oneOf, cellsAt, isAggD, isPure, ↓reduceIte, reduceCtorEq, Nat.reduceAdd, Nat.reduceSub, Nat.reduceMul, Nat.reduceLeDiff, Nat.reduceEqDiff, Nat.reduceBEq, Int.reduceToNat, Int.reduceLE, Int.reduceLT, Nat.reduceLT, Int.reduceBEq, Int.reduceBNe, Int.reduceEq, String.reduceEq, xk B5 [2, 2, 2, 1, 2, 2, 2, 2, 2, 2] .rt rfl, finK_norm, finK_ret, fin5, R5_ai10brrzr.st, hc3, h18, hc21, h23, h24]
          · replace hF := cond_some hF
            rcases hF with ⟨h25, hF⟩ | ⟨h25, hF⟩
            · cases hF
              simp (maxSteps := 999999) (disch := first | exact D (by decide) | exact K (by kernel_rfl)) only [EA, EE, EG, EF, ED, ofVal, ofVal1, ofCell, lenV, aggEqV, cellEq, intBin, isShift, V.ids, lendV, frz, flatV, cellsOf, addOff, firstReg, oneOf, cellsAt, isAggD, isPure, ↓reduceIte, reduceCtorEq, Nat.reduceAdd, Nat.reduceSub, Nat.reduceMul, Nat.reduceLeDiff, Nat.reduceEqDiff, Nat.reduceBEq, Int.reduceToNat, Int.reduceLE, Int.reduceLT, Nat.reduceLT, Int.reduceBEq, Int.reduceBNe, Int.reduceEq, String.reduceEq, xk B5 [2, 2, 2, 1, 2, 2, 2, 2, 2, 2] .rt rfl, finK_norm, finK_ret, fin5, R5_ai10brrzr.st, hc3, h18, hc21, h23, h24, h25]
            · cases hF
              simp (maxSteps := 999999) (disch := first | exact D (by decide) | exact K (by kernel_rfl)) only [EA, EE, EG, EF, ED, ofVal, ofVal1, ofCell, lenV, aggEqV, cellEq, intBin, isShift, V.ids, lendV, frz, flatV, cellsOf, addOff, firstReg, oneOf, cellsAt, isAggD, isPure, ↓reduceIte, reduceCtorEq, Nat.reduceAdd, Nat.reduceSub, Nat.reduceMul, Nat.reduceLeDiff, Nat.reduceEqDiff, Nat.reduceBEq, Int.reduceToNat, Int.reduceLE, Int.reduceLT, Nat.reduceLT, Int.reduceBEq, Int.reduceBNe, Int.reduceEq, String.reduceEq, xk B5 [2, 2, 2, 1, 2, 2, 2, 2, 2, 2] .rt rfl, finK_norm, finK_ret, fin5, R5_ai10brrzr.st, hc3, h18, hc21, h23, h24, h25]
        · cases hF
          simp (maxSteps := 999999) (disch := first | exact D (by decide) | exact K (by kernel_rfl)) only [EA, EE, EG, EF, ED, ofVal, ofVal1, ofCell, lenV, aggEqV, cellEq, intBin, isShift, V.ids, lendV, frz, flatV, cellsOf, addOff, firstReg, oneOf, cellsAt, isAggD, isPure, ↓reduceIte, reduceCtorEq, Nat.reduceAdd, Nat.reduceSub, Nat.reduceMul, Nat.reduceLeDiff, Nat.reduceEqDiff, Nat.reduceBEq, Int.reduceToNat, Int.reduceLE, Int.reduceLT, Nat.reduceLT, Int.reduceBEq, Int.reduceBNe, Int.reduceEq, String.reduceEq, xk B5 [2, 2, 2, 1, 2, 2, 2, 2, 2, 2] .rt rfl, finK_norm, finK_ret, fin5, R5_ai10brrzr.st, hc3, h18, hc21, h23]
    · have hJ := f5_ai10brrzr_j3_ok k x1 v16 false v4 v5 v6 v7 v8 v9 v10 v11 v12 v13 v14 v15 v17 _ hF
      simp (maxSteps := 999999) (disch := first | exact D (by decide) | exact K (by kernel_rfl)) only [EA, EE, EG, EF, ED, ofVal, ofVal1, ofCell, lenV, aggEqV, cellEq, intBin, isShift, V.ids, lendV, frz, flatV, cellsOf, addOff, firstReg, oneOf, cellsAt, isAggD, isPure, ↓reduceIte, reduceCtorEq, Nat.reduceAdd, Nat.reduceSub, Nat.reduceMul, Nat.reduceLeDiff, Nat.reduceEqDiff, Nat.reduceBEq, Int.reduceToNat, Int.reduceLE, Int.reduceLT, Nat.reduceLT, Int.reduceBEq, Int.reduceBNe, Int.reduceEq, String.reduceEq, xk B5 [3, 2, 1, 2, 2, 2, 2, 2, 2] .sk rfl, hc3, h18]
      try simp only [NM, EE] at hJ
      exact hJ
  | o1 v26 v27 v28 v29 v30 v31 v32 v33 v34 v35 v36 v37 v38 v39 =>
    (try dsimp only at hF)
    (try simp only [NM, EE, R13_r.st] at hc3)
    simp (maxSteps := 999999) (disch := first | exact D (by decide) | exact K (by kernel_rfl)) only [EA, EE, EG, EF, ED, ofVal, ofVal1, ofCell, lenV, aggEqV, cellEq, intBin, isShift, V.ids, lendV, frz, flatV, cellsOf, addOff, firstReg, oneOf, cellsAt, isAggD, isPure, ↓reduceIte, reduceCtorEq, Nat.reduceAdd, Nat.reduceSub, Nat.reduceMul, Nat.reduceLeDiff, Nat.reduceEqDiff, Nat.reduceBEq, Int.reduceToNat, Int.reduceLE, Int.reduceLT, Nat.reduceLT, Int.reduceBEq, Int.reduceBNe, Int.reduceEq, String.reduceEq, u_26, i_26, is_26, ib_26, iz_26, xk B5 [2, 2, 2, 2, 2, 2] .sq rfl, xk B5 [1, 2, 2, 2, 2, 2, 2] .sq rfl, show (nav B5 [1, 1, 2, 2, 2, 2, 2, 2]) = Code.region 12 _ false from rfl, hk_5_12, hz_5_12, hs_5_12, xk B5 [2, 1, 2, 2, 2, 2, 2, 2] (.cd 67) rfl, hc3]
    replace hF := cond_some hF
    rcases hF with ⟨h40, hF⟩ | ⟨h40, hF⟩
    · replace hF := Option.bind_eq_some_iff.1 hF
      obtain ⟨o41, h42, hF⟩ := hF
      have hc43 := f9_ai10brrzai10bnnz_ok k v26 v27 v28 v29 v30 v31 v32 v33 v34 v35 v36 v38 v39 0 0 0 0 0 0 0 0 0 0 false _ h42
      cases o41 with
      | o0 v44 =>
        (try dsimp only at hF)
        (try simp only [NM, EE, R9_ai10brrzai10bnnz.st] at hc43)
        simp (maxSteps := 999999) (disch := first | exact D (by decide) | exact K (by kernel_rfl)) only [EA, EE, EG, EF, ED, ofVal, ofVal1, ofCell, lenV, aggEqV, cellEq, intBin, isShift, V.ids, lendV, frz, flatV, cellsOf, addOff, firstReg, oneOf, cellsAt, isAggD, isPure, ↓reduceIte, reduceCtorEq, Nat.reduceAdd, Nat.reduceSub, Nat.reduceMul, Nat.reduceLeDiff, Nat.reduceEqDiff, Nat.reduceBEq, Int.reduceToNat, Int.reduceLE, Int.reduceLT, Nat.reduceLT, Int.reduceBEq, Int.reduceBNe, Int.reduceEq, String.reduceEq, xk B5 [2, 2, 1, 2, 2, 2, 2, 2, 2] .sq rfl, show (nav B5 [1, 2, 2, 1, 2, 2, 2, 2, 2, 2]) = Code.region 13 _ false from rfl, hk_5_13, hz_5_13, hs_5_13, u_26, i_26, is_26, ib_26, iz_26, bl_26, callStep, calleeOf, gv, List.contains, hc3, h40, hc43]
        replace hF := cond_some hF
        rcases hF with ⟨h45, hF⟩ | ⟨h45, hF⟩
        · replace hF := cond_some hF
          rcases hF with ⟨h46, hF⟩ | ⟨h46, hF⟩
          · cases hF
            simp (maxSteps := 999999) (disch := first | exact D (by decide) | exact K (by kernel_rfl)) only [EA, EE, EG, EF, ED, ofVal, ofVal1, ofCell, lenV, aggEqV, cellEq, intBin, isShift, V.ids, lendV, frz, flatV, cellsOf, addOff, firstReg, oneOf, cellsAt, isAggD, isPure, ↓reduceIte, reduceCtorEq, Nat.reduceAdd, Nat.reduceSub, Nat.reduceMul, Nat.reduceLeDiff, Nat.reduceEqDiff, Nat.reduceBEq, Int.reduceToNat, Int.reduceLE, Int.reduceLT, Nat.reduceLT, Int.reduceBEq, Int.reduceBNe, Int.reduceEq, String.reduceEq, xk B5 [2, 2, 2, 1, 2, 2, 2, 2, 2, 2] .rt rfl, finK_norm, finK_ret, fin5, R5_ai10brrzr.st, hc3, h40, hc43, h45, h46]
          · replace hF := cond_some hF
            rcases hF with ⟨h47, hF⟩ | ⟨h47, hF⟩
            · cases hF
              simp (maxSteps := 999999) (disch := first | exact D (by decide) | exact K (by kernel_rfl)) only [EA, EE, EG, EF, ED, ofVal, ofVal1, ofCell, lenV, aggEqV, cellEq, intBin, isShift, V.ids, lendV, frz, flatV, cellsOf, addOff, firstReg, oneOf, cellsAt, isAggD, isPure, ↓reduceIte, reduceCtorEq, Nat.reduceAdd, Nat.reduceSub, Nat.reduceMul, Nat.reduceLeDiff, Nat.reduceEqDiff, Nat.reduceBEq, Int.reduceToNat, Int.reduceLE, Int.reduceLT, Nat.reduceLT, Int.reduceBEq, Int.reduceBNe, Int.reduceEq, String.reduceEq, xk B5 [2, 2, 2, 1, 2, 2, 2, 2, 2, 2] .rt rfl, finK_norm, finK_ret, fin5, R5_ai10brrzr.st, hc3, h40, hc43, h45, h46, h47]
            · cases hF
              simp (maxSteps := 999999) (disch := first | exact D (by decide) | exact K (by kernel_rfl)) only [EA, EE, EG, EF, ED, ofVal, ofVal1, ofCell, lenV, aggEqV, cellEq, intBin, isShift, V.ids, lendV, frz, flatV, cellsOf, addOff, firstReg, oneOf, cellsAt, isAggD, isPure, ↓reduceIte, reduceCtorEq, Nat.reduceAdd, Nat.reduceSub, Nat.reduceMul, Nat.reduceLeDiff, Nat.reduceEqDiff, Nat.reduceBEq, Int.reduceToNat, Int.reduceLE, Int.reduceLT, Nat.reduceLT, Int.reduceBEq, Int.reduceBNe, Int.reduceEq, String.reduceEq, xk B5 [2, 2, 2, 1, 2, 2, 2, 2, 2, 2] .rt rfl, finK_norm, finK_ret, fin5, R5_ai10brrzr.st, hc3, h40, hc43, h45, h46, h47]
        · cases hF
          simp (maxSteps := 999999) (disch := first | exact D (by decide) | exact K (by kernel_rfl)) only [EA, EE, EG, EF, ED, ofVal, ofVal1, ofCell, lenV, aggEqV, cellEq, intBin, isShift, V.ids, lendV, frz, flatV, cellsOf, addOff, firstReg, oneOf, cellsAt, isAggD, isPure, ↓reduceIte, reduceCtorEq, Nat.reduceAdd, Nat.reduceSub, Nat.reduceMul, Nat.reduceLeDiff, Nat.reduceEqDiff, Nat.reduceBEq, Int.reduceToNat, Int.reduceLE, Int.reduceLT, Nat.reduceLT, Int.reduceBEq, Int.reduceBNe, Int.reduceEq, String.reduceEq, xk B5 [2, 2, 2, 1, 2, 2, 2, 2, 2, 2] .rt rfl, finK_norm, finK_ret, fin5, R5_ai10brrzr.st, hc3, h40, hc43, h45]
    · have hJ := f5_ai10brrzr_j4_ok k x1 v37 false v26 v27 v28 v29 v30 v31 v32 v33 v34 v35 v36 v38 v39 _ hF
      simp (maxSteps := 999999) (disch := first | exact D (by decide) | exact K (by kernel_rfl)) only [EA, EE, EG, EF, ED, ofVal, ofVal1, ofCell, lenV, aggEqV, cellEq, intBin, isShift, V.ids, lendV, frz, flatV, cellsOf, addOff, firstReg, oneOf, cellsAt, isAggD, isPure, ↓reduceIte, reduceCtorEq, Nat.reduceAdd, Nat.reduceSub, Nat.reduceMul, Nat.reduceLeDiff, Nat.reduceEqDiff, Nat.reduceBEq, Int.reduceToNat, Int.reduceLE, Int.reduceLT, Nat.reduceLT, Int.reduceBEq, Int.reduceBNe, Int.reduceEq, String.reduceEq, xk B5 [3, 2, 1, 2, 2, 2, 2, 2, 2] .sk rfl, hc3, h40]
      try simp only [NM, EE] at hJ
      exact hJ
noncomputable def f5_ai10brrzr_j1 (k : Nat) (x1 : List Int) (x13 : Bool) (m2 : Int) (m2_1 : Int) (m2_2 : Int) (m2_3 : Int) (m2_4 : Int) (m2_5 : Int) (m2_6 : Int) (m2_7 : Int) (m2_8 : Int) (m2_9 : Int) (m2_10 : Bool) (m2_11 : List Int) (m2_12 : List T45) : Option R5_ai10brrzr :=
  Option.bind (f8_ai10brrz k m2 m2_1 m2_2 m2_3 m2_4 m2_5 m2_6 m2_7 m2_8 m2_9 m2_10 m2_11 m2_12) fun o1 =>
    match o1 with
    | .o0 v4 v5 v6 v7 v8 v9 v10 v11 v12 v13 v14 v15 v16 v17 v18 v19 v20 =>
      ifE ((0 : Int) ≤ (if (700 : Int) < ((List.length x1) : Int) then 700 else ((List.length x1) : Int))) (
        ifE ((Int.toNat ((if (700 : Int) < ((List.length x1) : Int) then 700 else ((List.length x1) : Int)))) ≤ (List.length x1)) (
          ifE ((v15 + v16) ≤ (List.length v19)) (
            ifE ((v17 + v18) ≤ (List.length v20)) (
              Option.bind (f12_ai10brrz k v4 v5 v6 v7 v8 v9 v10 v11 v12 v13 v14 (List.take v16 (List.drop v15 v19)) (List.take v18 (List.drop v17 v20))) fun o25 =>
                match o25 with
                | .o0 v28 v29 =>
                  cond ((v28 == 0))
                    (
                      Option.bind (f13_r k v29) fun o31 =>
                        match o31 with
                        | .o0 v34 v35 v36 v37 v38 v39 v40 v41 v42 v43 v44 v45 v46 v47 =>
                          cond ((v46 != 0))
                            (some (R5_ai10brrzr.o0 false))
                            (
                              Option.bind (f9_ai10brrzai10brrz k v4 v5 v6 v7 v8 v9 v10 v11 v12 v13 v14 (List.take v16 (List.drop v15 v19)) (List.take v18 (List.drop v17 v20)) v34 v35 v36 v37 v38 v39 v40 v41 v42 v43 v44 v45 v47) fun o49 =>
                                match o49 with
                                | .o0 v52 =>
                                  cond ((!v52))
                                    (some (R5_ai10brrzr.o0 false))
                                    (
                                      cond ((decide (((List.length v29) : Int) > 130)))
                                        (some (R5_ai10brrzr.o0 false))
                                        (
                                          Option.bind (f14_ai10brrz k v4 v5 v6 v7 v8 v9 v10 v11 v12 v13 v14 (List.take v16 (List.drop v15 v19)) (List.take v18 (List.drop v17 v20))) fun o55 =>
                                            match o55 with
                                            | .o0 v58 =>
                                              cond ((((List.length v29) : Int) != v58))
                                                (some (R5_ai10brrzr.o0 false))
                                                (f5_ai10brrzr_j2 k ((List.take ((Int.toNat ((if (700 : Int) < ((List.length x1) : Int) then 700 else ((List.length x1) : Int))))) x1)) false))))
                        | .o1 v60 v61 v62 v63 v64 v65 v66 v67 v68 v69 v70 v71 v72 v73 =>
                          cond ((v71 != 0))
                            (some (R5_ai10brrzr.o0 false))
                            (
                              Option.bind (f9_ai10brrzai10brrz k v4 v5 v6 v7 v8 v9 v10 v11 v12 v13 v14 (List.take v16 (List.drop v15 v19)) (List.take v18 (List.drop v17 v20)) v60 v61 v62 v63 v64 v65 v66 v67 v68 v69 v70 v72 v73) fun o75 =>
                                match o75 with
                                | .o0 v78 =>
                                  cond ((!v78))
                                    (some (R5_ai10brrzr.o0 false))
                                    (
                                      cond ((decide (((List.length v29) : Int) > 130)))
                                        (some (R5_ai10brrzr.o0 false))
                                        (
                                          Option.bind (f14_ai10brrz k v4 v5 v6 v7 v8 v9 v10 v11 v12 v13 v14 (List.take v16 (List.drop v15 v19)) (List.take v18 (List.drop v17 v20))) fun o81 =>
                                            match o81 with
                                            | .o0 v84 =>
                                              cond ((((List.length v29) : Int) != v84))
                                                (some (R5_ai10brrzr.o0 false))
                                                (f5_ai10brrzr_j2 k ((List.take ((Int.toNat ((if (700 : Int) < ((List.length x1) : Int) then 700 else ((List.length x1) : Int))))) x1)) false)))))
                    (
                      cond ((v28 != 200))
                        (some (R5_ai10brrzr.o0 false))
                        (
                          Option.bind (f15_ai10brrz k v4 v5 v6 v7 v8 v9 v10 v11 v12 v13 v14 (List.take v16 (List.drop v15 v19)) (List.take v18 (List.drop v17 v20))) fun o87 =>
                            match o87 with
                            | .o0 v90 =>
                              cond ((v90 != v28))
                                (some (R5_ai10brrzr.o0 false))
                                (f5_ai10brrzr_j5 k ((List.take ((Int.toNat ((if (700 : Int) < ((List.length x1) : Int) then 700 else ((List.length x1) : Int))))) x1)) false)))))))
theorem f5_ai10brrzr_j1_ok (k : Nat) (x1 : List Int) (x13 : Bool) (m2 : Int) (m2_1 : Int) (m2_2 : Int) (m2_3 : Int) (m2_4 : Int) (m2_5 : Int) (m2_6 : Int) (m2_7 : Int) (m2_8 : Int) (m2_9 : Int) (m2_10 : Bool) (m2_11 : List Int) (m2_12 : List T45) (r : R5_ai10brrzr) (hF : f5_ai10brrzr_j1 k x1 x13 m2 m2_1 m2_2 m2_3 m2_4 m2_5 m2_6 m2_7 m2_8 m2_9 m2_10 m2_11 m2_12 = some r) : finK Try.prog Try.f5 0 (EX 5 k (nav B5 [2, 2]) ({ n := 100, F := [(1, V.sl 1 (rowsOf (encI .u8) x1)), (2, V.ptr 2 0), (13, V.p (Value.bool x13))], M := [(2, O.box 26 [V.p (Value.int .i64 m2), V.p (Value.int .i64 m2_1), V.p (Value.int .u32 m2_2), V.p (Value.int .u32 m2_3), V.p (Value.int .u32 m2_4), V.p (Value.int .i64 m2_5), V.p (Value.int .i64 m2_6), V.p (Value.int .i64 m2_7), V.p (Value.int .i64 m2_8), V.p (Value.int .i64 m2_9), V.p (Value.bool m2_10), V.sl 1 (rowsOf (encI .u8) m2_11), V.sl 2 (rowsOf encT45 m2_12)])] } : St)) = some r.st := by
  unfold f5_ai10brrzr_j1 at hF
  replace hF := Option.bind_eq_some_iff.1 hF
  obtain ⟨o1, h2, hF⟩ := hF
  have hc3 := f8_ai10brrz_ok k m2 m2_1 m2_2 m2_3 m2_4 m2_5 m2_6 m2_7 m2_8 m2_9 m2_10 m2_11 m2_12 _ h2
  cases o1 with
  | o0 v4 v5 v6 v7 v8 v9 v10 v11 v12 v13 v14 v15 v16 v17 v18 v19 v20 =>
    (try dsimp only at hF)
    (try simp only [NM, EE, R8_ai10brrz.st] at hc3)
    replace hF := ifE_some.1 hF
    obtain ⟨h21, hF⟩ := hF
    replace hF := ifE_some.1 hF
    obtain ⟨h22, hF⟩ := hF
    replace hF := ifE_some.1 hF
    obtain ⟨h23, hF⟩ := hF
    replace hF := ifE_some.1 hF
    obtain ⟨h24, hF⟩ := hF
    replace hF := Option.bind_eq_some_iff.1 hF
    obtain ⟨o25, h26, hF⟩ := hF
    have hc27 := f12_ai10brrz_ok k v4 v5 v6 v7 v8 v9 v10 v11 v12 v13 v14 (List.take v16 (List.drop v15 v19)) (List.take v18 (List.drop v17 v20)) _ h26
    cases o25 with
    | o0 v28 v29 =>
      (try dsimp only at hF)
      (try simp only [NM, EE, R12_ai10brrz.st] at hc27)
      simp (maxSteps := 999999) (disch := first | exact D (by decide) | exact K (by kernel_rfl)) only [EA, EE, EG, EF, ED, ofVal, ofVal1, ofCell, lenV, aggEqV, cellEq, intBin, isShift, V.ids, lendV, frz, flatV, cellsOf, addOff, firstReg, oneOf, cellsAt, isAggD, isPure, ↓reduceIte, reduceCtorEq, Nat.reduceAdd, Nat.reduceSub, Nat.reduceMul, Nat.reduceLeDiff, Nat.reduceEqDiff, Nat.reduceBEq, Int.reduceToNat, Int.reduceLE, Int.reduceLT, Nat.reduceLT, Int.reduceBEq, Int.reduceBNe, Int.reduceEq, String.reduceEq, xk B5 [2, 2] .sq rfl, show (nav B5 [1, 2, 2]) = Code.region 3 _ true from rfl, hk_5_3, hz_5_3, hs_5_3, u_26, i_26, is_26, ib_26, iz_26, callStep, calleeOf, gv, List.contains, u_23, i_23, is_23, ib_23, iz_23, minmaxV, minmaxGo, sliceV, bound, u_5, i_5, is_5, ib_5, iz_5, xk B5 [2, 2, 2] .sq rfl, show (nav B5 [1, 2, 2, 2]) = Code.region 4 _ false from rfl, hk_5_4, hz_5_4, hs_5_4, xk B5 [2, 2, 2, 2] .sq rfl, xk B5 [1, 2, 2, 2, 2] .sq rfl, show (nav B5 [1, 1, 2, 2, 2, 2]) = Code.region 5 _ false from rfl, hk_5_5, hz_5_5, hs_5_5, xk B5 [2, 1, 2, 2, 2, 2] (.cd 27) rfl, hc3, h21, h22, h23, h24, hc27]
      replace hF := cond_some hF
      rcases hF with ⟨h30, hF⟩ | ⟨h30, hF⟩
      · simp (maxSteps := 999999) (disch := first | exact D (by decide) | exact K (by kernel_rfl)) only [EA, EE, EG, EF, ED, ofVal, ofVal1, ofCell, lenV, aggEqV, cellEq, intBin, isShift, V.ids, lendV, frz, flatV, cellsOf, addOff, firstReg, oneOf, cellsAt, isAggD, isPure, ↓reduceIte, reduceCtorEq, Nat.reduceAdd, Nat.reduceSub, Nat.reduceMul, Nat.reduceLeDiff, Nat.reduceEqDiff, Nat.reduceBEq, Int.reduceToNat, Int.reduceLE, Int.reduceLT, Nat.reduceLT, Int.reduceBEq, Int.reduceBNe, Int.reduceEq, String.reduceEq, xk B5 [2, 2, 1, 2, 2, 2, 2] .sq rfl, show (nav B5 [1, 2, 2, 1, 2, 2, 2, 2]) = Code.region 6 _ false from rfl, hk_5_6, hz_5_6, hs_5_6, callStep, calleeOf, gv, List.contains, hc3, h21, h22, h23, h24, hc27, h30]
        replace hF := Option.bind_eq_some_iff.1 hF
        obtain ⟨o31, h32, hF⟩ := hF
        have hc33 := f13_r_ok k v29 _ h32
        cases o31 with
        | o0 v34 v35 v36 v37 v38 v39 v40 v41 v42 v43 v44 v45 v46 v47 =>
          (try dsimp only at hF)
          (try simp only [NM, EE, R13_r.st] at hc33)
          simp (maxSteps := 999999) (disch := first | exact D (by decide) | exact K (by kernel_rfl)) only [EA, EE, EG, EF, ED, ofVal, ofVal1, ofCell, lenV, aggEqV, cellEq, intBin, isShift, V.ids, lendV, frz, flatV, cellsOf, addOff, firstReg, oneOf, cellsAt, isAggD, isPure, ↓reduceIte, reduceCtorEq, Nat.reduceAdd, Nat.reduceSub, Nat.reduceMul, Nat.reduceLeDiff, Nat.reduceEqDiff, Nat.reduceBEq, Int.reduceToNat, Int.reduceLE, Int.reduceLT, Nat.reduceLT, Int.reduceBEq, Int.reduceBNe, Int.reduceEq, String.reduceEq, u_26, i_26, is_26, ib_26, iz_26, xk B5 [2, 2, 2, 1, 2, 2, 2, 2] .sq rfl, show (nav B5 [1, 2, 2, 2, 1, 2, 2, 2, 2]) = Code.region 7 _ false from rfl, hk_5_7, hz_5_7, hs_5_7, hc3, h21, h22, h23, h24, hc27, h30, hc33]
          replace hF := cond_some hF
          rcases hF with ⟨h48, hF⟩ | ⟨h48, hF⟩
          · cases hF
            simp (maxSteps := 999999) (disch := first | exact D (by decide) | exact K (by kernel_rfl)) only [EA, EE, EG, EF, ED, ofVal, ofVal1, ofCell, lenV, aggEqV, cellEq, intBin, isShift, V.ids, lendV, frz, flatV, cellsOf, addOff, firstReg, oneOf, cellsAt, isAggD, isPure, ↓reduceIte, reduceCtorEq, Nat.reduceAdd, Nat.reduceSub, Nat.reduceMul, Nat.reduceLeDiff, Nat.reduceEqDiff, Nat.reduceBEq, Int.reduceToNat, Int.reduceLE, Int.reduceLT, Nat.reduceLT, Int.reduceBEq, Int.reduceBNe, Int.reduceEq, String.reduceEq, xk B5 [2, 2, 2, 2, 1, 2, 2, 2, 2] (.cd 52) rfl, xk B5 [2, 2, 2, 2, 2, 1, 2, 2, 2, 2] .sq rfl, show (nav B5 [1, 2, 2, 2, 2, 2, 1, 2, 2, 2, 2]) = Code.region 8 _ false from rfl, hk_5_8, hz_5_8, hs_5_8, xk B5 [2, 2, 2, 2, 2, 2, 1, 2, 2, 2, 2] .rt rfl, finK_norm, finK_ret, fin5, R5_ai10brrzr.st, hc3, h21, h22, h23, h24, hc27, h30, hc33, h48]
          · replace hF := Option.bind_eq_some_iff.1 hF
            obtain ⟨o49, h50, hF⟩ := hF
            have hc51 := f9_ai10brrzai10brrz_ok k v4 v5 v6 v7 v8 v9 v10 v11 v12 v13 v14 (List.take v16 (List.drop v15 v19)) (List.take v18 (List.drop v17 v20)) v34 v35 v36 v37 v38 v39 v40 v41 v42 v43 v44 v45 v47 _ h50
            cases o49 with
            | o0 v52 =>
              (try dsimp only at hF)
              (try simp only [NM, EE, R9_ai10brrzai10brrz.st] at hc51)
              simp (maxSteps := 999999) (disch := first | exact D (by decide) | exact K (by kernel_rfl)) only [EA, EE, EG, EF, ED, ofVal, ofVal1, ofCell, lenV, aggEqV, cellEq, intBin, isShift, V.ids, lendV, frz, flatV, cellsOf, addOff, firstReg, oneOf, cellsAt, isAggD, isPure, ↓reduceIte, reduceCtorEq, Nat.reduceAdd, Nat.reduceSub, Nat.reduceMul, Nat.reduceLeDiff, Nat.reduceEqDiff, Nat.reduceBEq, Int.reduceToNat, Int.reduceLE, Int.reduceLT, Nat.reduceLT, Int.reduceBEq, Int.reduceBNe, Int.reduceEq, String.reduceEq, u_26, i_26, is_26, ib_26, iz_26, callStep, calleeOf, gv, List.contains, hc3, h21, h22, h23, h24, hc27, h30, hc33, h48, hc51]
              replace hF := cond_some hF
              rcases hF with ⟨h53, hF⟩ | ⟨h53, hF⟩
              · cases hF
                simp (maxSteps := 999999) (disch := first | exact D (by decide) | exact K (by kernel_rfl)) only [EA, EE, EG, EF, ED, ofVal, ofVal1, ofCell, lenV, aggEqV, cellEq, intBin, isShift, V.ids, lendV, frz, flatV, cellsOf, addOff, firstReg, oneOf, cellsAt, isAggD, isPure, ↓reduceIte, reduceCtorEq, Nat.reduceAdd, Nat.reduceSub, Nat.reduceMul, Nat.reduceLeDiff, Nat.reduceEqDiff, Nat.reduceBEq, Int.reduceToNat, Int.reduceLE, Int.reduceLT, Nat.reduceLT, Int.reduceBEq, Int.reduceBNe, Int.reduceEq, String.reduceEq, xk B5 [2, 2, 2, 2, 1, 2, 2, 2, 2] (.cd 52) rfl, xk B5 [2, 2, 2, 2, 2, 1, 2, 2, 2, 2] .sq rfl, show (nav B5 [1, 2, 2, 2, 2, 2, 1, 2, 2, 2, 2]) = Code.region 8 _ false from rfl, hk_5_8, hz_5_8, hs_5_8, xk B5 [2, 2, 2, 2, 2, 2, 1, 2, 2, 2, 2] .rt rfl, finK_norm, finK_ret, fin5, R5_ai10brrzr.st, hc3, h21, h22, h23, h24, hc27, h30, hc33, h48, hc51, h53]
              · simp (maxSteps := 999999) (disch := first | exact D (by decide) | exact K (by kernel_rfl)) only [EA, EE, EG, EF, ED, ofVal, ofVal1, ofCell, lenV, aggEqV, cellEq, intBin, isShift, V.ids, lendV, frz, flatV, cellsOf, addOff, firstReg, oneOf, cellsAt, isAggD, isPure, ↓reduceIte, reduceCtorEq, Nat.reduceAdd, Nat.reduceSub, Nat.reduceMul, Nat.reduceLeDiff, Nat.reduceEqDiff, Nat.reduceBEq, Int.reduceToNat, Int.reduceLE, Int.reduceLT, Nat.reduceLT, Int.reduceBEq, Int.reduceBNe, Int.reduceEq, String.reduceEq, u_23, i_23, is_23, ib_23, iz_23, hc3, h21, h22, h23, h24, hc27, h30, hc33, h48, hc51, h53]
                replace hF := cond_some hF
                rcases hF with ⟨h54, hF⟩ | ⟨h54, hF⟩
                · cases hF
                  simp (maxSteps := 999999) (disch := first | exact D (by decide) | exact K (by kernel_rfl)) only [EA, EE, EG, EF, ED, ofVal, ofVal1, ofCell, lenV, aggEqV, cellEq, intBin, isShift, V.ids, lendV, frz, flatV, cellsOf, addOff, firstReg, oneOf, cellsAt, isAggD, isPure, ↓reduceIte, reduceCtorEq, Nat.reduceAdd, Nat.reduceSub, Nat.reduceMul, Nat.reduceLeDiff, Nat.reduceEqDiff, Nat.reduceBEq, Int.reduceToNat, Int.reduceLE, Int.reduceLT, Nat.reduceLT, Int.reduceBEq, Int.reduceBNe, Int.reduceEq, String.reduceEq, xk B5 [2, 2, 2, 2, 1, 2, 2, 2, 2] (.cd 52) rfl, xk B5 [2, 2, 2, 2, 2, 1, 2, 2, 2, 2] .sq rfl, show (nav B5 [1, 2, 2, 2, 2, 2, 1, 2, 2, 2, 2]) = Code.region 8 _ false from rfl, hk_5_8, hz_5_8, hs_5_8, xk B5 [2, 2, 2, 2, 2, 2, 1, 2, 2, 2, 2] .rt rfl, finK_norm, finK_ret, fin5, R5_ai10brrzr.st, hc3, h21, h22, h23, h24, hc27, h30, hc33, h48, hc51, h53, h54]
                · replace hF := Option.bind_eq_some_iff.1 hF
                  obtain ⟨o55, h56, hF⟩ := hF
                  have hc57 := f14_ai10brrz_ok k v4 v5 v6 v7 v8 v9 v10 v11 v12 v13 v14 (List.take v16 (List.drop v15 v19)) (List.take v18 (List.drop v17 v20)) _ h56
                  cases o55 with
                  | o0 v58 =>
                    (try dsimp only at hF)
                    (try simp only [NM, EE, R14_ai10brrz.st] at hc57)
                    simp (maxSteps := 999999) (disch := first | exact D (by decide) | exact K (by kernel_rfl)) only [EA, EE, EG, EF, ED, ofVal, ofVal1, ofCell, lenV, aggEqV, cellEq, intBin, isShift, V.ids, lendV, frz, flatV, cellsOf, addOff, firstReg, oneOf, cellsAt, isAggD, isPure, ↓reduceIte, reduceCtorEq, Nat.reduceAdd, Nat.reduceSub, Nat.reduceMul, Nat.reduceLeDiff, Nat.reduceEqDiff, Nat.reduceBEq, Int.reduceToNat, Int.reduceLE, Int.reduceLT, Nat.reduceLT, Int.reduceBEq, Int.reduceBNe, Int.reduceEq, String.reduceEq, u_23, i_23, is_23, ib_23, iz_23, u_26, i_26, is_26, ib_26, iz_26, callStep, calleeOf, gv, List.contains, xk B5 [2, 2, 2, 2, 1, 2, 2, 2, 2] (.cd 52) rfl, hc3, h21, h22, h23, h24, hc27, h30, hc33, h48, hc51, h53, h54, hc57]
                    replace hF := cond_some hF
                    rcases hF with ⟨h59, hF⟩ | ⟨h59, hF⟩
                    · cases hF
                      simp (maxSteps := 999999) (disch := first | exact D (by decide) | exact K (by kernel_rfl)) only [EA, EE, EG, EF, ED, ofVal, ofVal1, ofCell, lenV, aggEqV, cellEq, intBin, isShift, V.ids, lendV, frz, flatV, cellsOf, addOff, firstReg, oneOf, cellsAt, isAggD, isPure, ↓reduceIte, reduceCtorEq, Nat.reduceAdd, Nat.reduceSub, Nat.reduceMul, Nat.reduceLeDiff, Nat.reduceEqDiff, Nat.reduceBEq, Int.reduceToNat, Int.reduceLE, Int.reduceLT, Nat.reduceLT, Int.reduceBEq, Int.reduceBNe, Int.reduceEq, String.reduceEq, xk B5 [2, 2, 2, 2, 2, 1, 2, 2, 2, 2] .sq rfl, show (nav B5 [1, 2, 2, 2, 2, 2, 1, 2, 2, 2, 2]) = Code.region 8 _ false from rfl, hk_5_8, hz_5_8, hs_5_8, xk B5 [2, 2, 2, 2, 2, 2, 1, 2, 2, 2, 2] .rt rfl, finK_norm, finK_ret, fin5, R5_ai10brrzr.st, hc3, h21, h22, h23, h24, hc27, h30, hc33, h48, hc51, h53, h54, hc57, h59]
                    · have hJ := f5_ai10brrzr_j2_ok k ((List.take ((Int.toNat ((if (700 : Int) < ((List.length x1) : Int) then 700 else ((List.length x1) : Int))))) x1)) false _ hF
                      simp (maxSteps := 999999) (disch := first | exact D (by decide) | exact K (by kernel_rfl)) only [EA, EE, EG, EF, ED, ofVal, ofVal1, ofCell, lenV, aggEqV, cellEq, intBin, isShift, V.ids, lendV, frz, flatV, cellsOf, addOff, firstReg, oneOf, cellsAt, isAggD, isPure, ↓reduceIte, reduceCtorEq, Nat.reduceAdd, Nat.reduceSub, Nat.reduceMul, Nat.reduceLeDiff, Nat.reduceEqDiff, Nat.reduceBEq, Int.reduceToNat, Int.reduceLE, Int.reduceLT, Nat.reduceLT, Int.reduceBEq, Int.reduceBNe, Int.reduceEq, String.reduceEq, xk B5 [3, 2, 2, 2, 2, 1, 2, 2, 2, 2] .sk rfl, hc3, h21, h22, h23, h24, hc27, h30, hc33, h48, hc51, h53, h54, hc57, h59]
                      try simp only [NM, EE] at hJ
                      exact hJ
        | o1 v60 v61 v62 v63 v64 v65 v66 v67 v68 v69 v70 v71 v72 v73 =>
          (try dsimp only at hF)
          (try simp only [NM, EE, R13_r.st] at hc33)
          simp (maxSteps := 999999) (disch := first | exact D (by decide) | exact K (by kernel_rfl)) only [EA, EE, EG, EF, ED, ofVal, ofVal1, ofCell, lenV, aggEqV, cellEq, intBin, isShift, V.ids, lendV, frz, flatV, cellsOf, addOff, firstReg, oneOf, cellsAt, isAggD, isPure, ↓reduceIte, reduceCtorEq, Nat.reduceAdd, Nat.reduceSub, Nat.reduceMul, Nat.reduceLeDiff, Nat.reduceEqDiff, Nat.reduceBEq, Int.reduceToNat, Int.reduceLE, Int.reduceLT, Nat.reduceLT, Int.reduceBEq, Int.reduceBNe, Int.reduceEq, String.reduceEq, u_26, i_26, is_26, ib_26, iz_26, xk B5 [2, 2, 2, 1, 2, 2, 2, 2] .sq rfl, show (nav B5 [1, 2, 2, 2, 1, 2, 2, 2, 2]) = Code.region 7 _ false from rfl, hk_5_7, hz_5_7, hs_5_7, hc3, h21, h22, h23, h24, hc27, h30, hc33]
          replace hF := cond_some hF
          rcases hF with ⟨h74, hF⟩ | ⟨h74, hF⟩
          · cases hF
            simp (maxSteps := 999999) (disch := first | exact D (by decide) | exact K (by kernel_rfl)) only [EA, EE, EG, EF, ED, ofVal, ofVal1, ofCell, lenV, aggEqV, cellEq, intBin, isShift, V.ids, lendV, frz, flatV, cellsOf, addOff, firstReg, oneOf, cellsAt, isAggD, isPure, ↓reduceIte, reduceCtorEq, Nat.reduceAdd, Nat.reduceSub, Nat.reduceMul, Nat.reduceLeDiff, Nat.reduceEqDiff, Nat.reduceBEq, Int.reduceToNat, Int.reduceLE, Int.reduceLT, Nat.reduceLT, Int.reduceBEq, Int.reduceBNe, Int.reduceEq, String.reduceEq, xk B5 [2, 2, 2, 2, 1, 2, 2, 2, 2] (.cd 52) rfl, xk B5 [2, 2, 2, 2, 2, 1, 2, 2, 2, 2] .sq rfl, show (nav B5 [1, 2, 2, 2, 2, 2, 1, 2, 2, 2, 2]) = Code.region 8 _ false from rfl, hk_5_8, hz_5_8, hs_5_8, xk B5 [2, 2, 2, 2, 2, 2, 1, 2, 2, 2, 2] .rt rfl, finK_norm, finK_ret, fin5, R5_ai10brrzr.st, hc3, h21, h22, h23, h24, hc27, h30, hc33, h74]
          · replace hF := Option.bind_eq_some_iff.1 hF
            obtain ⟨o75, h76, hF⟩ := hF
            have hc77 := f9_ai10brrzai10brrz_ok k v4 v5 v6 v7 v8 v9 v10 v11 v12 v13 v14 (List.take v16 (List.drop v15 v19)) (List.take v18 (List.drop v17 v20)) v60 v61 v62 v63 v64 v65 v66 v67 v68 v69 v70 v72 v73 _ h76
            cases o75 with
            | o0 v78 =>
              (try dsimp only at hF)
              (try simp only [NM, EE, R9_ai10brrzai10brrz.st] at hc77)
              simp (maxSteps := 999999) (disch := first | exact D (by decide) | exact K (by kernel_rfl)) only [EA, EE, EG, EF, ED, ofVal, ofVal1, ofCell, lenV, aggEqV, cellEq, intBin, isShift, V.ids, lendV, frz, flatV, cellsOf, addOff, firstReg, oneOf, cellsAt, isAggD, isPure, ↓reduceIte, reduceCtorEq, Nat.reduceAdd, Nat.reduceSub, Nat.reduceMul, Nat.reduceLeDiff, Nat.reduceEqDiff, Nat.reduceBEq, Int.reduceToNat, Int.reduceLE, Int.reduceLT, Nat.reduceLT, Int.reduceBEq, Int.reduceBNe, Int.reduceEq, String.reduceEq, u_26, i_26, is_26, ib_26, iz_26, callStep, calleeOf, gv, List.contains, hc3, h21, h22, h23, h24, hc27, h30, hc33, h74, hc77]
              replace hF := cond_some hF
              rcases hF with ⟨h79, hF⟩ | ⟨h79, hF⟩
              · cases hF
                simp (maxSteps := 999999) (disch := first | exact D (by decide) | exact K (by kernel_rfl)) only [EA, EE, EG, EF, ED, ofVal, ofVal1, ofCell, lenV, aggEqV, cellEq, intBin, isShift, V.ids, lendV, frz, flatV, cellsOf, addOff, firstReg, oneOf, cellsAt, isAggD, isPure, ↓reduceIte, reduceCtorEq, Nat.reduceAdd, Nat.reduceSub, Nat.reduceMul, Nat.reduceLeDiff, Nat.reduceEqDiff, Nat.reduceBEq, Int.reduceToNat, Int.reduceLE, Int.reduceLT, Nat.reduceLT, Int.reduceBEq, Int.reduceBNe, Int.reduceEq, String.reduceEq, xk B5 [2, 2, 2, 2, 1, 2, 2, 2, 2] (.cd 52) rfl, xk B5 [2, 2, 2, 2, 2, 1, 2, 2, 2, 2] .sq rfl, show (nav B5 [1, 2, 2, 2, 2, 2, 1, 2, 2, 2, 2]) = Code.region 8 _ false from rfl, hk_5_8, hz_5_8, hs_5_8, xk B5 [2, 2, 2, 2, 2, 2, 1, 2, 2, 2, 2] .rt rfl, finK_norm, finK_ret, fin5, R5_ai10brrzr.st, hc3, h21, h22, h23, h24, hc27, h30, hc33, h74, hc77, h79]
              · simp (maxSteps := 999999) (disch := first | exact D (by decide) | exact K (by kernel_rfl)) only [EA, EE, EG, EF, ED, ofVal, ofVal1, ofCell, lenV, aggEqV, cellEq, intBin, isShift, V.ids, lendV, frz, flatV, cellsOf, addOff, firstReg, oneOf, cellsAt, isAggD, isPure, ↓reduceIte, reduceCtorEq, Nat.reduceAdd, Nat.reduceSub, Nat.reduceMul, Nat.reduceLeDiff, Nat.reduceEqDiff, Nat.reduceBEq, Int.reduceToNat, Int.reduceLE, Int.reduceLT, Nat.reduceLT, Int.reduceBEq, Int.reduceBNe, Int.reduceEq, String.reduceEq, u_23, i_23, is_23, ib_23, iz_23, hc3, h21, h22, h23, h24, hc27, h30, hc33, h74, hc77, h79]
                replace hF := cond_some hF
                rcases hF with ⟨h80, hF⟩ | ⟨h80, hF⟩
                · cases hF
                  simp (maxSteps := 999999) (disch := first | exact D (by decide) | exact K (by kernel_rfl)) only [EA, EE, EG, EF, ED, ofVal, ofVal1, ofCell, lenV, aggEqV, cellEq, intBin, isShift, V.ids, lendV, frz, flatV, cellsOf, addOff, firstReg, oneOf, cellsAt, isAggD, isPure, ↓reduceIte, reduceCtorEq, Nat.reduceAdd, Nat.reduceSub, Nat.reduceMul, Nat.reduceLeDiff, Nat.reduceEqDiff, Nat.reduceBEq, Int.reduceToNat, Int.reduceLE, Int.reduceLT, Nat.reduceLT, Int.reduceBEq, Int.reduceBNe, Int.reduceEq, String.reduceEq, xk B5 [2, 2, 2, 2, 1, 2, 2, 2, 2] (.cd 52) rfl, xk B5 [2, 2, 2, 2, 2, 1, 2, 2, 2, 2] .sq rfl, show (nav B5 [1, 2, 2, 2, 2, 2, 1, 2, 2, 2, 2]) = Code.region 8 _ false from rfl, hk_5_8, hz_5_8, hs_5_8, xk B5 [2, 2, 2, 2, 2, 2, 1, 2, 2, 2, 2] .rt rfl, finK_norm, finK_ret, fin5, R5_ai10brrzr.st, hc3, h21, h22, h23, h24, hc27, h30, hc33, h74, hc77, h79, h80]
                · replace hF := Option.bind_eq_some_iff.1 hF
                  obtain ⟨o81, h82, hF⟩ := hF
                  have hc83 := f14_ai10brrz_ok k v4 v5 v6 v7 v8 v9 v10 v11 v12 v13 v14 (List.take v16 (List.drop v15 v19)) (List.take v18 (List.drop v17 v20)) _ h82
                  cases o81 with
                  | o0 v84 =>
                    (try dsimp only at hF)
                    (try simp only [NM, EE, R14_ai10brrz.st] at hc83)
                    simp (maxSteps := 999999) (disch := first | exact D (by decide) | exact K (by kernel_rfl)) only [EA, EE, EG, EF, ED, ofVal, ofVal1, ofCell, lenV, aggEqV, cellEq, intBin, isShift, V.ids, lendV, frz, flatV, cellsOf, addOff, firstReg, oneOf, cellsAt, isAggD, isPure, ↓reduceIte, reduceCtorEq, Nat.reduceAdd, Nat.reduceSub, Nat.reduceMul, Nat.reduceLeDiff, Nat.reduceEqDiff, Nat.reduceBEq, Int.reduceToNat, Int.reduceLE, Int.reduceLT, Nat.reduceLT, Int.reduceBEq, Int.reduceBNe, Int.reduceEq, String.reduceEq, u_23, i_23, is_23, ib_23, iz_23, u_26, i_26, is_26, ib_26, iz_26, callStep, calleeOf, gv, List.contains, xk B5 [2, 2, 2, 2, 1, 2, 2, 2, 2] (.cd 52) rfl, hc3, h21, h22, h23, h24, hc27, h30, hc33, h74, hc77, h79, h80, hc83]
                    replace hF := cond_some hF
                    rcases hF with ⟨h85, hF⟩ | ⟨h85, hF⟩
                    · cases hF
                      simp (maxSteps := 999999) (disch := first | exact D (by decide) | exact K (by kernel_rfl)) only [EA, EE, EG, EF, ED, ofVal, ofVal1, ofCell, lenV, aggEqV, cellEq, intBin, isShift, V.ids, lendV, frz, flatV, cellsOf, addOff, firstReg, oneOf, cellsAt, isAggD, isPure, ↓reduceIte, reduceCtorEq, Nat.reduceAdd, Nat.reduceSub, Nat.reduceMul, Nat.reduceLeDiff, Nat.reduceEqDiff, Nat.reduceBEq, Int.reduceToNat, Int.reduceLE, Int.reduceLT, Nat.reduceLT, Int.reduceBEq, Int.reduceBNe, Int.reduceEq, String.reduceEq, xk B5 [2, 2, 2, 2, 2, 1, 2, 2, 2, 2] .sq rfl, show (nav B5 [1, 2, 2, 2, 2, 2, 1, 2, 2, 2, 2]) = Code.region 8 _ false from rfl, hk_5_8, hz_5_8, hs_5_8, xk B5 [2, 2, 2, 2, 2, 2, 1, 2, 2, 2, 2] .rt rfl, finK_norm, finK_ret, fin5, R5_ai10brrzr.st, hc3, h21, h22, h23, h24, hc27, h30, hc33, h74, hc77, h79, h80, hc83, h85]
                    · have hJ := f5_ai10brrzr_j2_ok k ((List.take ((Int.toNat ((if (700 : Int) < ((List.length x1) : Int) then 700 else ((List.length x1) : Int))))) x1)) false _ hF
                      simp (maxSteps := 999999) (disch := first | exact D (by decide) | exact K (by kernel_rfl)) only [EA, EE, EG, EF, ED, ofVal, ofVal1, ofCell, lenV, aggEqV, cellEq, intBin, isShift, V.ids, lendV, frz, flatV, cellsOf, addOff, firstReg, oneOf, cellsAt, isAggD, isPure, ↓reduceIte, reduceCtorEq, Nat.reduceAdd, Nat.reduceSub, Nat.reduceMul, Nat.reduceLeDiff, Nat.reduceEqDiff, Nat.reduceBEq, Int.reduceToNat, Int.reduceLE, Int.reduceLT, Nat.reduceLT, Int.reduceBEq, Int.reduceBNe, Int.reduceEq, String.reduceEq, xk B5 [3, 2, 2, 2, 2, 1, 2, 2, 2, 2] .sk rfl, hc3, h21, h22, h23, h24, hc27, h30, hc33, h74, hc77, h79, h80, hc83, h85]
                      try simp only [NM, EE] at hJ
                      exact hJ
      · simp (maxSteps := 999999) (disch := first | exact D (by decide) | exact K (by kernel_rfl)) only [EA, EE, EG, EF, ED, ofVal, ofVal1, ofCell, lenV, aggEqV, cellEq, intBin, isShift, V.ids, lendV, frz, flatV, cellsOf, addOff, firstReg, oneOf, cellsAt, isAggD, isPure, ↓reduceIte, reduceCtorEq, Nat.reduceAdd, Nat.reduceSub, Nat.reduceMul, Nat.reduceLeDiff, Nat.reduceEqDiff, Nat.reduceBEq, Int.reduceToNat, Int.reduceLE, Int.reduceLT, Nat.reduceLT, Int.reduceBEq, Int.reduceBNe, Int.reduceEq, String.reduceEq, xk B5 [3, 2, 1, 2, 2, 2, 2] .sq rfl, show (nav B5 [1, 3, 2, 1, 2, 2, 2, 2]) = Code.region 9 _ false from rfl, hk_5_9, hz_5_9, hs_5_9, hc3, h21, h22, h23, h24, hc27, h30]
        replace hF := cond_some hF
        rcases hF with ⟨h86, hF⟩ | ⟨h86, hF⟩
        · cases hF
          simp (maxSteps := 999999) (disch := first | exact D (by decide) | exact K (by kernel_rfl)) only [EA, EE, EG, EF, ED, ofVal, ofVal1, ofCell, lenV, aggEqV, cellEq, intBin, isShift, V.ids, lendV, frz, flatV, cellsOf, addOff, firstReg, oneOf, cellsAt, isAggD, isPure, ↓reduceIte, reduceCtorEq, Nat.reduceAdd, Nat.reduceSub, Nat.reduceMul, Nat.reduceLeDiff, Nat.reduceEqDiff, Nat.reduceBEq, Int.reduceToNat, Int.reduceLE, Int.reduceLT, Nat.reduceLT, Int.reduceBEq, Int.reduceBNe, Int.reduceEq, String.reduceEq, xk B5 [2, 3, 2, 1, 2, 2, 2, 2] (.cd 60) rfl, xk B5 [2, 2, 3, 2, 1, 2, 2, 2, 2] .sq rfl, show (nav B5 [1, 2, 2, 3, 2, 1, 2, 2, 2, 2]) = Code.region 10 _ false from rfl, hk_5_10, hz_5_10, hs_5_10, xk B5 [2, 2, 2, 3, 2, 1, 2, 2, 2, 2] .rt rfl, finK_norm, finK_ret, fin5, R5_ai10brrzr.st, hc3, h21, h22, h23, h24, hc27, h30, h86]
        · replace hF := Option.bind_eq_some_iff.1 hF
          obtain ⟨o87, h88, hF⟩ := hF
          have hc89 := f15_ai10brrz_ok k v4 v5 v6 v7 v8 v9 v10 v11 v12 v13 v14 (List.take v16 (List.drop v15 v19)) (List.take v18 (List.drop v17 v20)) _ h88
          cases o87 with
          | o0 v90 =>
            (try dsimp only at hF)
            (try simp only [NM, EE, R15_ai10brrz.st] at hc89)
            simp (maxSteps := 999999) (disch := first | exact D (by decide) | exact K (by kernel_rfl)) only [EA, EE, EG, EF, ED, ofVal, ofVal1, ofCell, lenV, aggEqV, cellEq, intBin, isShift, V.ids, lendV, frz, flatV, cellsOf, addOff, firstReg, oneOf, cellsAt, isAggD, isPure, ↓reduceIte, reduceCtorEq, Nat.reduceAdd, Nat.reduceSub, Nat.reduceMul, Nat.reduceLeDiff, Nat.reduceEqDiff, Nat.reduceBEq, Int.reduceToNat, Int.reduceLE, Int.reduceLT, Nat.reduceLT, Int.reduceBEq, Int.reduceBNe, Int.reduceEq, String.reduceEq, u_26, i_26, is_26, ib_26, iz_26, callStep, calleeOf, gv, List.contains, xk B5 [2, 3, 2, 1, 2, 2, 2, 2] (.cd 60) rfl, hc3, h21, h22, h23, h24, hc27, h30, h86, hc89]
            replace hF := cond_some hF
            rcases hF with ⟨h91, hF⟩ | ⟨h91, hF⟩
            · cases hF
              simp (maxSteps := 999999) (disch := first | exact D (by decide) | exact K (by kernel_rfl)) only [EA, EE, EG, EF, ED, ofVal, ofVal1, ofCell, lenV, aggEqV, cellEq, intBin, isShift, V.ids, lendV, frz, flatV, cellsOf, addOff, firstReg, oneOf, cellsAt, isAggD, isPure, ↓reduceIte, reduceCtorEq, Nat.reduceAdd, Nat.reduceSub, Nat.reduceMul, Nat.reduceLeDiff, Nat.reduceEqDiff, Nat.reduceBEq, Int.reduceToNat, Int.reduceLE, Int.reduceLT, Nat.reduceLT, Int.reduceBEq, Int.reduceBNe, Int.reduceEq, String.reduceEq, xk B5 [2, 2, 3, 2, 1, 2, 2, 2, 2] .sq rfl, show (nav B5 [1, 2, 2, 3, 2, 1, 2, 2, 2, 2]) = Code.region 10 _ false from rfl, hk_5_10, hz_5_10, hs_5_10, xk B5 [2, 2, 2, 3, 2, 1, 2, 2, 2, 2] .rt rfl, finK_norm, finK_ret, fin5, R5_ai10brrzr.st, hc3, h21, h22, h23, h24, hc27, h30, h86, hc89, h91]
            · have hJ := f5_ai10brrzr_j5_ok k ((List.take ((Int.toNat ((if (700 : Int) < ((List.length x1) : Int) then 700 else ((List.length x1) : Int))))) x1)) false _ hF
              simp (maxSteps := 999999) (disch := first | exact D (by decide) | exact K (by kernel_rfl)) only [EA, EE, EG, EF, ED, ofVal, ofVal1, ofCell, lenV, aggEqV, cellEq, intBin, isShift, V.ids, lendV, frz, flatV, cellsOf, addOff, firstReg, oneOf, cellsAt, isAggD, isPure, ↓reduceIte, reduceCtorEq, Nat.reduceAdd, Nat.reduceSub, Nat.reduceMul, Nat.reduceLeDiff, Nat.reduceEqDiff, Nat.reduceBEq, Int.reduceToNat, Int.reduceLE, Int.reduceLT, Nat.reduceLT, Int.reduceBEq, Int.reduceBNe, Int.reduceEq, String.reduceEq, xk B5 [3, 2, 3, 2, 1, 2, 2, 2, 2] .sk rfl, hc3, h21, h22, h23, h24, hc27, h30, h86, hc89, h91]
              try simp only [NM, EE] at hJ
              exact hJ
noncomputable def f5_ai10brrzr_e (k : Nat) (a0 : Int) (a0_1 : Int) (a0_2 : Int) (a0_3 : Int) (a0_4 : Int) (a0_5 : Int) (a0_6 : Int) (a0_7 : Int) (a0_8 : Int) (a0_9 : Int) (a0_10 : Bool) (a0_11 : List Int) (a0_12 : List T45) (a1 : List Int) : Option R5_ai10brrzr :=
  Option.bind (f7_ k) fun o1 =>
    match o1 with
    | .o0 v4 =>
      cond ((!v4))
        (some (R5_ai10brrzr.o0 false))
        (f5_ai10brrzr_j1 k a1 false a0 a0_1 a0_2 a0_3 a0_4 a0_5 a0_6 a0_7 a0_8 a0_9 a0_10 a0_11 a0_12)
theorem f5_ai10brrzr_e_ok (k : Nat) (a0 : Int) (a0_1 : Int) (a0_2 : Int) (a0_3 : Int) (a0_4 : Int) (a0_5 : Int) (a0_6 : Int) (a0_7 : Int) (a0_8 : Int) (a0_9 : Int) (a0_10 : Bool) (a0_11 : List Int) (a0_12 : List T45) (a1 : List Int) (r : R5_ai10brrzr) (hF : f5_ai10brrzr_e k a0 a0_1 a0_2 a0_3 a0_4 a0_5 a0_6 a0_7 a0_8 a0_9 a0_10 a0_11 a0_12 a1 = some r) : finK Try.prog Try.f5 0 (EX 5 k (nav B5 []) ({ n := 100, F := [(0, V.agg [V.p (Value.int .i64 a0), V.p (Value.int .i64 a0_1), V.p (Value.int .u32 a0_2), V.p (Value.int .u32 a0_3), V.p (Value.int .u32 a0_4), V.p (Value.int .i64 a0_5), V.p (Value.int .i64 a0_6), V.p (Value.int .i64 a0_7), V.p (Value.int .i64 a0_8), V.p (Value.int .i64 a0_9), V.p (Value.bool a0_10), V.sl 1 (rowsOf (encI .u8) a0_11), V.sl 2 (rowsOf encT45 a0_12)]), (1, V.sl 1 (rowsOf (encI .u8) a1))], M := [] } : St)) = some r.st := by
  unfold f5_ai10brrzr_e at hF
  replace hF := Option.bind_eq_some_iff.1 hF
  obtain ⟨o1, h2, hF⟩ := hF
  have hc3 := f7__ok k _ h2
  cases o1 with
  | o0 v4 =>
    (try dsimp only at hF)
    (try simp only [NM, EE, R7_.st] at hc3)
    simp (maxSteps := 999999) (disch := first | exact D (by decide) | exact K (by kernel_rfl)) only [EA, EE, EG, EF, ED, ofVal, ofVal1, ofCell, lenV, aggEqV, cellEq, intBin, isShift, V.ids, lendV, frz, flatV, cellsOf, addOff, firstReg, oneOf, cellsAt, isAggD, isPure, ↓reduceIte, reduceCtorEq, Nat.reduceAdd, Nat.reduceSub, Nat.reduceMul, Nat.reduceLeDiff, Nat.reduceEqDiff, Nat.reduceBEq, Int.reduceToNat, Int.reduceLE, Int.reduceLT, Nat.reduceLT, Int.reduceBEq, Int.reduceBNe, Int.reduceEq, String.reduceEq, xk B5 [] .sq rfl, show (nav B5 [1]) = Code.region 0 _ false from rfl, hk_5_0, hz_5_0, hs_5_0, xk B5 [2] .sq rfl, xk B5 [1, 2] .sq rfl, show (nav B5 [1, 1, 2]) = Code.region 1 _ false from rfl, hk_5_1, hz_5_1, hs_5_1, callStep, calleeOf, gv, List.contains, xk B5 [2, 1, 2] (.cd 13) rfl, hc3]
    replace hF := cond_some hF
    rcases hF with ⟨h5, hF⟩ | ⟨h5, hF⟩
    · cases hF
      simp (maxSteps := 999999) (disch := first | exact D (by decide) | exact K (by kernel_rfl)) only [EA, EE, EG, EF, ED, ofVal, ofVal1, ofCell, lenV, aggEqV, cellEq, intBin, isShift, V.ids, lendV, frz, flatV, cellsOf, addOff, firstReg, oneOf, cellsAt, isAggD, isPure, ↓reduceIte, reduceCtorEq, Nat.reduceAdd, Nat.reduceSub, Nat.reduceMul, Nat.reduceLeDiff, Nat.reduceEqDiff, Nat.reduceBEq, Int.reduceToNat, Int.reduceLE, Int.reduceLT, Nat.reduceLT, Int.reduceBEq, Int.reduceBNe, Int.reduceEq, String.reduceEq, xk B5 [2, 2, 1, 2] .sq rfl, show (nav B5 [1, 2, 2, 1, 2]) = Code.region 2 _ false from rfl, hk_5_2, hz_5_2, hs_5_2, xk B5 [2, 2, 2, 1, 2] .rt rfl, finK_norm, finK_ret, fin5, R5_ai10brrzr.st, hc3, h5]
    · have hJ := f5_ai10brrzr_j1_ok k a1 false a0 a0_1 a0_2 a0_3 a0_4 a0_5 a0_6 a0_7 a0_8 a0_9 a0_10 a0_11 a0_12 _ hF
      simp (maxSteps := 999999) (disch := first | exact D (by decide) | exact K (by kernel_rfl)) only [EA, EE, EG, EF, ED, ofVal, ofVal1, ofCell, lenV, aggEqV, cellEq, intBin, isShift, V.ids, lendV, frz, flatV, cellsOf, addOff, firstReg, oneOf, cellsAt, isAggD, isPure, ↓reduceIte, reduceCtorEq, Nat.reduceAdd, Nat.reduceSub, Nat.reduceMul, Nat.reduceLeDiff, Nat.reduceEqDiff, Nat.reduceBEq, Int.reduceToNat, Int.reduceLE, Int.reduceLT, Nat.reduceLT, Int.reduceBEq, Int.reduceBNe, Int.reduceEq, String.reduceEq, xk B5 [3, 2, 1, 2] .sk rfl, hc3, h5]
      try simp only [NM, EE] at hJ
      exact hJ
noncomputable def f5_ai10brrzr (k : Nat) (a0 : Int) (a0_1 : Int) (a0_2 : Int) (a0_3 : Int) (a0_4 : Int) (a0_5 : Int) (a0_6 : Int) (a0_7 : Int) (a0_8 : Int) (a0_9 : Int) (a0_10 : Bool) (a0_11 : List Int) (a0_12 : List T45) (a1 : List Int) : Option R5_ai10brrzr := match k with | 0 => none | k + 1 => f5_ai10brrzr_e k a0 a0_1 a0_2 a0_3 a0_4 a0_5 a0_6 a0_7 a0_8 a0_9 a0_10 a0_11 a0_12 a1
theorem f5_ai10brrzr_ok (k : Nat) (a0 : Int) (a0_1 : Int) (a0_2 : Int) (a0_3 : Int) (a0_4 : Int) (a0_5 : Int) (a0_6 : Int) (a0_7 : Int) (a0_8 : Int) (a0_9 : Int) (a0_10 : Bool) (a0_11 : List Int) (a0_12 : List T45) (a1 : List Int) (r : R5_ai10brrzr) (hF : f5_ai10brrzr k a0 a0_1 a0_2 a0_3 a0_4 a0_5 a0_6 a0_7 a0_8 a0_9 a0_10 a0_11 a0_12 a1 = some r) : CV k 5 [V.agg [V.p (Value.int .i64 a0), V.p (Value.int .i64 a0_1), V.p (Value.int .u32 a0_2), V.p (Value.int .u32 a0_3), V.p (Value.int .u32 a0_4), V.p (Value.int .i64 a0_5), V.p (Value.int .i64 a0_6), V.p (Value.int .i64 a0_7), V.p (Value.int .i64 a0_8), V.p (Value.int .i64 a0_9), V.p (Value.bool a0_10), V.sl 1 (rowsOf (encI .u8) a0_11), V.sl 2 (rowsOf encT45 a0_12)], V.sl 1 (rowsOf (encI .u8) a1)] [] = some r.st := by
  cases k with
  | zero => cases hF
  | succ k =>
    unfold CV
    rw [ev_call (F := Try.f5) (c := (nav B5 [])) rfl Try.func5 rfl rfl rfl]
    exact f5_ai10brrzr_e_ok k a0 a0_1 a0_2 a0_3 a0_4 a0_5 a0_6 a0_7 a0_8 a0_9 a0_10 a0_11 a0_12 a1 r hF
end Go.Proofs.YthjefcamonmjpaaV
