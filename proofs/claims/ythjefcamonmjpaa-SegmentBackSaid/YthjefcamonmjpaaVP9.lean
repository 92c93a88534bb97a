/- What the program's functions answer: plain functions, and that the interpreter answers what they do. Written by a program of this session, out of the translation. -/
import Derived.Test.YthjefcamonmjpaaVP8
namespace Go.Proofs.YthjefcamonmjpaaV
open Go
set_option linter.unusedVariables false
set_option linter.unusedSimpArgs false
set_option maxRecDepth 8000
set_option maxHeartbeats 4000000
-- f13_r: f13 heliograph/segment.Decode
inductive R13_r where
  | o0 (y : Int) (y_1 : Int) (y_2 : Int) (y_3 : Int) (y_4 : Int) (y_5 : Int) (y_6 : Int) (y_7 : Int) (y_8 : Int) (y_9 : Int) (y_10 : Bool) (y_11 : List Int) (y_12 : Int) (y_13 : List T45)
  | o1 (y : Int) (y_1 : Int) (y_2 : Int) (y_3 : Int) (y_4 : Int) (y_5 : Int) (y_6 : Int) (y_7 : Int) (y_8 : Int) (y_9 : Int) (y_10 : Bool) (y_11 : Int) (y_12 : List Int) (y_13 : List T45)
noncomputable def R13_r.st : R13_r → V × List O × List O
  | .o0 y y_1 y_2 y_3 y_4 y_5 y_6 y_7 y_8 y_9 y_10 y_11 y_12 y_13 => (V.tup [V.agg [V.p (Value.int .i64 y), V.p (Value.int .i64 y_1), V.p (Value.int .u32 y_2), V.p (Value.int .u32 y_3), V.p (Value.int .u32 y_4), V.p (Value.int .i64 y_5), V.p (Value.int .i64 y_6), V.p (Value.int .i64 y_7), V.p (Value.int .i64 y_8), V.p (Value.int .i64 y_9), V.p (Value.bool y_10), V.sl 1 (rowsOf (encI .u8) y_11), V.own 2000000], V.p (Value.int .i64 y_12)], [], [O.row true 2 45 (rowsOf encT45 y_13)])
  | .o1 y y_1 y_2 y_3 y_4 y_5 y_6 y_7 y_8 y_9 y_10 y_11 y_12 y_13 => (V.tup [V.agg [V.p (Value.int .i64 y), V.p (Value.int .i64 y_1), V.p (Value.int .u32 y_2), V.p (Value.int .u32 y_3), V.p (Value.int .u32 y_4), V.p (Value.int .i64 y_5), V.p (Value.int .i64 y_6), V.p (Value.int .i64 y_7), V.p (Value.int .i64 y_8), V.p (Value.int .i64 y_9), V.p (Value.bool y_10), V.own 2000000, V.own 2000001], V.p (Value.int .i64 y_11)], [], [O.row true 1 5 (rowsOf (encI .u8) y_12), O.row true 2 45 (rowsOf encT45 y_13)])
noncomputable def f13_r_j3 (k : Nat) (x52 : Bool) (m2 : Int) (m2_1 : Int) (m2_2 : Int) (m2_3 : Int) (m2_4 : Int) (m2_5 : Int) (m2_6 : Int) (m2_7 : Int) (m2_8 : Int) (m2_9 : Int) (m2_10 : Bool) (m2_11 : List Int) (s1 : List T45) (m7 : Int) (m7_1 : Int) (m7_2 : Int) (m7_3 : Int) (m7_4 : Int) (m7_5 : Int) (m7_6 : Int) (m7_7 : Int) (m7_8 : Int) (m7_9 : Int) (m7_10 : Bool) (m35 : List Int) (s449 : List T45) : Option R13_r :=
  some (R13_r.o1 m7 m7_1 m7_2 m7_3 m7_4 m7_5 m7_6 m7_7 m7_8 m7_9 m7_10 0 m35 s449)
theorem f13_r_j3_ok (k : Nat) (x52 : Bool) (m2 : Int) (m2_1 : Int) (m2_2 : Int) (m2_3 : Int) (m2_4 : Int) (m2_5 : Int) (m2_6 : Int) (m2_7 : Int) (m2_8 : Int) (m2_9 : Int) (m2_10 : Bool) (m2_11 : List Int) (s1 : List T45) (m7 : Int) (m7_1 : Int) (m7_2 : Int) (m7_3 : Int) (m7_4 : Int) (m7_5 : Int) (m7_6 : Int) (m7_7 : Int) (m7_8 : Int) (m7_9 : Int) (m7_10 : Bool) (m35 : List Int) (s449 : List T45) (r : R13_r) (hF : f13_r_j3 k x52 m2 m2_1 m2_2 m2_3 m2_4 m2_5 m2_6 m2_7 m2_8 m2_9 m2_10 m2_11 s1 m7 m7_1 m7_2 m7_3 m7_4 m7_5 m7_6 m7_7 m7_8 m7_9 m7_10 m35 s449 = some r) : finK Try.prog Try.f13 0 (EX 13 k (nav B13 [2, 2, 2, 2, 2, 2, 2, 2]) ({ n := 55, F := [(2, V.ptr 2 0), (7, V.ptr 7 0), (52, V.p (Value.bool x52))], M := [(2, O.box 26 [V.p (Value.int .i64 m2), V.p (Value.int .i64 m2_1), V.p (Value.int .u32 m2_2), V.p (Value.int .u32 m2_3), V.p (Value.int .u32 m2_4), V.p (Value.int .i64 m2_5), V.p (Value.int .i64 m2_6), V.p (Value.int .i64 m2_7), V.p (Value.int .i64 m2_8), V.p (Value.int .i64 m2_9), V.p (Value.bool m2_10), V.sl 1 (rowsOf (encI .u8) m2_11), V.own 700001]), (700001, O.row true 2 45 (rowsOf encT45 s1)), (7, O.box 26 [V.p (Value.int .i64 m7), V.p (Value.int .i64 m7_1), V.p (Value.int .u32 m7_2), V.p (Value.int .u32 m7_3), V.p (Value.int .u32 m7_4), V.p (Value.int .i64 m7_5), V.p (Value.int .i64 m7_6), V.p (Value.int .i64 m7_7), V.p (Value.int .i64 m7_8), V.p (Value.int .i64 m7_9), V.p (Value.bool m7_10), V.own 35, V.own 700449]), (35, O.row true 1 5 (rowsOf (encI .u8) m35)), (700449, O.row true 2 45 (rowsOf encT45 s449))] } : St)) = some r.st := by
  unfold f13_r_j3 at hF
  cases hF
  simp (maxSteps := 999999) (disch := first | exact D (by decide) | exact K (by kernel_rfl)) only [EA, EE, EG, EF, ED, ofVal, ofVal1, ofCell, lenV, aggEqV, cellEq, intBin, isShift, V.ids, lendV, frz, flatV, cellsOf, addOff, firstReg, oneOf, cellsAt, isAggD, isPure, ↓reduceIte, reduceCtorEq, Nat.reduceAdd, Nat.reduceSub, Nat.reduceMul, Nat.reduceLeDiff, Nat.reduceEqDiff, Nat.reduceBEq, Int.reduceToNat, Int.reduceLE, Int.reduceLT, Nat.reduceLT, Int.reduceBEq, Int.reduceBNe, Int.reduceEq, String.reduceEq, xk B13 [2, 2, 2, 2, 2, 2, 2, 2] .sq rfl, show (nav B13 [1, 2, 2, 2, 2, 2, 2, 2, 2]) = Code.region 11 _ false from rfl, hk_13_11, hz_13_11, hs_13_11, u_26, i_26, is_26, ib_26, iz_26, xk B13 [2, 2, 2, 2, 2, 2, 2, 2, 2] .rt rfl, finK_norm, finK_ret, fin13, R13_r.st]
noncomputable def f13_r_j4 (k : Nat) (x52 : Bool) (m2 : Int) (m2_1 : Int) (m2_2 : Int) (m2_3 : Int) (m2_4 : Int) (m2_5 : Int) (m2_6 : Int) (m2_7 : Int) (m2_8 : Int) (m2_9 : Int) (m2_10 : Bool) (m2_11 : List Int) (s1 : List T45) (m7 : Int) (m7_1 : Int) (m7_2 : Int) (m7_3 : Int) (m7_4 : Int) (m7_5 : Int) (m7_6 : Int) (m7_7 : Int) (m7_8 : Int) (m7_9 : Int) (m7_10 : Bool) (m7_11 : List Int) (s449 : List T45) : Option R13_r :=
  some (R13_r.o0 m7 m7_1 m7_2 m7_3 m7_4 m7_5 m7_6 m7_7 m7_8 m7_9 m7_10 m7_11 0 s449)
theorem f13_r_j4_ok (k : Nat) (x52 : Bool) (m2 : Int) (m2_1 : Int) (m2_2 : Int) (m2_3 : Int) (m2_4 : Int) (m2_5 : Int) (m2_6 : Int) (m2_7 : Int) (m2_8 : Int) (m2_9 : Int) (m2_10 : Bool) (m2_11 : List Int) (s1 : List T45) (m7 : Int) (m7_1 : Int) (m7_2 : Int) (m7_3 : Int) (m7_4 : Int) (m7_5 : Int) (m7_6 : Int) (m7_7 : Int) (m7_8 : Int) (m7_9 : Int) (m7_10 : Bool) (m7_11 : List Int) (s449 : List T45) (r : R13_r) (hF : f13_r_j4 k x52 m2 m2_1 m2_2 m2_3 m2_4 m2_5 m2_6 m2_7 m2_8 m2_9 m2_10 m2_11 s1 m7 m7_1 m7_2 m7_3 m7_4 m7_5 m7_6 m7_7 m7_8 m7_9 m7_10 m7_11 s449 = some r) : finK Try.prog Try.f13 0 (EX 13 k (nav B13 [2, 2, 2, 2, 2, 2, 2, 2]) ({ n := 55, F := [(2, V.ptr 2 0), (7, V.ptr 7 0), (52, V.p (Value.bool x52))], M := [(2, O.box 26 [V.p (Value.int .i64 m2), V.p (Value.int .i64 m2_1), V.p (Value.int .u32 m2_2), V.p (Value.int .u32 m2_3), V.p (Value.int .u32 m2_4), V.p (Value.int .i64 m2_5), V.p (Value.int .i64 m2_6), V.p (Value.int .i64 m2_7), V.p (Value.int .i64 m2_8), V.p (Value.int .i64 m2_9), V.p (Value.bool m2_10), V.sl 1 (rowsOf (encI .u8) m2_11), V.own 700001]), (700001, O.row true 2 45 (rowsOf encT45 s1)), (7, O.box 26 [V.p (Value.int .i64 m7), V.p (Value.int .i64 m7_1), V.p (Value.int .u32 m7_2), V.p (Value.int .u32 m7_3), V.p (Value.int .u32 m7_4), V.p (Value.int .i64 m7_5), V.p (Value.int .i64 m7_6), V.p (Value.int .i64 m7_7), V.p (Value.int .i64 m7_8), V.p (Value.int .i64 m7_9), V.p (Value.bool m7_10), V.sl 1 (rowsOf (encI .u8) m7_11), V.own 700449]), (700449, O.row true 2 45 (rowsOf encT45 s449))] } : St)) = some r.st := by
  unfold f13_r_j4 at hF
  cases hF
  simp (maxSteps := 999999) (disch := first | exact D (by decide) | exact K (by kernel_rfl)) only [EA, EE, EG, EF, ED, ofVal, ofVal1, ofCell, lenV, aggEqV, cellEq, intBin, isShift, V.ids, lendV, frz, flatV, cellsOf, addOff, firstReg, oneOf, cellsAt, isAggD, isPure, ↓reduceIte, reduceCtorEq, Nat.reduceAdd, Nat.reduceSub, Nat.reduceMul, Nat.reduceLeDiff, Nat.reduceEqDiff, Nat.reduceBEq, Int.reduceToNat, Int.reduceLE, Int.reduceLT, Nat.reduceLT, Int.reduceBEq, Int.reduceBNe, Int.reduceEq, String.reduceEq, xk B13 [2, 2, 2, 2, 2, 2, 2, 2] .sq rfl, show (nav B13 [1, 2, 2, 2, 2, 2, 2, 2, 2]) = Code.region 11 _ false from rfl, hk_13_11, hz_13_11, hs_13_11, u_26, i_26, is_26, ib_26, iz_26, xk B13 [2, 2, 2, 2, 2, 2, 2, 2, 2] .rt rfl, finK_norm, finK_ret, fin13, R13_r.st]
noncomputable def f13_r_j5 (k : Nat) (x52 : Bool) (m2 : Int) (m2_1 : Int) (m2_2 : Int) (m2_3 : Int) (m2_4 : Int) (m2_5 : Int) (m2_6 : Int) (m2_7 : Int) (m2_8 : Int) (m2_9 : Int) (m2_10 : Bool) (m2_11 : List Int) (s1 : List T45) (m7 : Int) (m7_1 : Int) (m7_2 : Int) (m7_3 : Int) (m7_4 : Int) (m7_5 : Int) (m7_6 : Int) (m7_7 : Int) (m7_8 : Int) (m7_9 : Int) (m7_10 : Bool) (m7_11 : List Int) (m35 : List T45) : Option R13_r :=
  some (R13_r.o0 m7 m7_1 m7_2 m7_3 m7_4 m7_5 m7_6 m7_7 m7_8 m7_9 m7_10 m7_11 0 m35)
theorem f13_r_j5_ok (k : Nat) (x52 : Bool) (m2 : Int) (m2_1 : Int) (m2_2 : Int) (m2_3 : Int) (m2_4 : Int) (m2_5 : Int) (m2_6 : Int) (m2_7 : Int) (m2_8 : Int) (m2_9 : Int) (m2_10 : Bool) (m2_11 : List Int) (s1 : List T45) (m7 : Int) (m7_1 : Int) (m7_2 : Int) (m7_3 : Int) (m7_4 : Int) (m7_5 : Int) (m7_6 : Int) (m7_7 : Int) (m7_8 : Int) (m7_9 : Int) (m7_10 : Bool) (m7_11 : List Int) (m35 : List T45) (r : R13_r) (hF : f13_r_j5 k x52 m2 m2_1 m2_2 m2_3 m2_4 m2_5 m2_6 m2_7 m2_8 m2_9 m2_10 m2_11 s1 m7 m7_1 m7_2 m7_3 m7_4 m7_5 m7_6 m7_7 m7_8 m7_9 m7_10 m7_11 m35 = some r) : finK Try.prog Try.f13 0 (EX 13 k (nav B13 [2, 2, 2, 2, 2, 2, 2, 2]) ({ n := 55, F := [(2, V.ptr 2 0), (7, V.ptr 7 0), (52, V.p (Value.bool x52))], M := [(2, O.box 26 [V.p (Value.int .i64 m2), V.p (Value.int .i64 m2_1), V.p (Value.int .u32 m2_2), V.p (Value.int .u32 m2_3), V.p (Value.int .u32 m2_4), V.p (Value.int .i64 m2_5), V.p (Value.int .i64 m2_6), V.p (Value.int .i64 m2_7), V.p (Value.int .i64 m2_8), V.p (Value.int .i64 m2_9), V.p (Value.bool m2_10), V.sl 1 (rowsOf (encI .u8) m2_11), V.own 700001]), (700001, O.row true 2 45 (rowsOf encT45 s1)), (7, O.box 26 [V.p (Value.int .i64 m7), V.p (Value.int .i64 m7_1), V.p (Value.int .u32 m7_2), V.p (Value.int .u32 m7_3), V.p (Value.int .u32 m7_4), V.p (Value.int .i64 m7_5), V.p (Value.int .i64 m7_6), V.p (Value.int .i64 m7_7), V.p (Value.int .i64 m7_8), V.p (Value.int .i64 m7_9), V.p (Value.bool m7_10), V.sl 1 (rowsOf (encI .u8) m7_11), V.own 35]), (35, O.row true 2 45 (rowsOf encT45 m35))] } : St)) = some r.st := by
  unfold f13_r_j5 at hF
  cases hF
  simp (maxSteps := 999999) (disch := first | exact D (by decide) | exact K (by kernel_rfl)) only [EA, EE, EG, EF, ED, ofVal, ofVal1, ofCell, lenV, aggEqV, cellEq, intBin, isShift, V.ids, lendV, frz, flatV, cellsOf, addOff, firstReg, oneOf, cellsAt, isAggD, isPure, ↓reduceIte, reduceCtorEq, Nat.reduceAdd, Nat.reduceSub, Nat.reduceMul, Nat.reduceLeDiff, Nat.reduceEqDiff, Nat.reduceBEq, Int.reduceToNat, Int.reduceLE, Int.reduceLT, Nat.reduceLT, Int.reduceBEq, Int.reduceBNe, Int.reduceEq, String.reduceEq, xk B13 [2, 2, 2, 2, 2, 2, 2, 2] .sq rfl, show (nav B13 [1, 2, 2, 2, 2, 2, 2, 2, 2]) = Code.region 11 _ false from rfl, hk_13_11, hz_13_11, hs_13_11, u_26, i_26, is_26, ib_26, iz_26, xk B13 [2, 2, 2, 2, 2, 2, 2, 2, 2] .rt rfl, finK_norm, finK_ret, fin13, R13_r.st]
noncomputable def f13_r_j2 (k : Nat) (x4 : List Int) (x18 : Bool) (m2 : Int) (m2_1 : Int) (m2_2 : Int) (m2_3 : Int) (m2_4 : Int) (m2_5 : Int) (m2_6 : Int) (m2_7 : Int) (m2_8 : Int) (m2_9 : Int) (m2_10 : Bool) (m2_11 : List Int) (s1 : List T45) : Option R13_r :=
  ifE (1 ≤ (List.length x4)) (
    Option.bind (x4[0]?) fun v2 =>
      Option.bind (f25_p_brb k (List.drop 1 (List.take (List.length x4) x4)) false) fun o4 =>
        match o4 with
        | .o0 v7 v8 v9 =>
          Option.bind (f25_p_brb k v8 v9) fun o10 =>
            match o10 with
            | .o0 v13 v14 v15 =>
              Option.bind (f26_pp_brbbiiiiiiiiiibrow k v14 v15 (IntKind.i64.wrap v2) v7 (IntKind.u32.wrap v13) 0 0 0 0 0 0 0 false [] []) fun o16 =>
                match o16 with
                | .o0 v19 v20 v21 v22 v23 v24 v25 v26 v27 v28 v29 v30 v31 v32 v33 =>
                  cond (v20)
                    (some (R13_r.o0 0 0 0 0 0 0 0 0 0 0 false [] 200 []))
                    (
                      cond ((decide (((List.length v19) : Int) > 0)))
                        (some (R13_r.o0 0 0 0 0 0 0 0 0 0 0 false [] 200 []))
                        (
                          Option.bind (f15_ai10brrz k v21 v22 v23 v24 v25 v26 v27 v28 v29 v30 v31 v33 v32) fun o36 =>
                            match o36 with
                            | .o0 v39 =>
                              cond ((v39 != 0))
                                (some (R13_r.o0 0 0 0 0 0 0 0 0 0 0 false [] 200 []))
                                (f13_r_j3 k false m2 m2_1 m2_2 m2_3 m2_4 m2_5 m2_6 m2_7 m2_8 m2_9 m2_10 m2_11 s1 v21 v22 v23 v24 v25 v26 v27 v28 v29 v30 v31 v33 v32)))
                | .o1 v41 v42 v43 v44 v45 v46 v47 v48 v49 v50 v51 v52 v53 v54 v55 =>
                  cond (v42)
                    (some (R13_r.o0 0 0 0 0 0 0 0 0 0 0 false [] 200 []))
                    (
                      cond ((decide (((List.length v41) : Int) > 0)))
                        (some (R13_r.o0 0 0 0 0 0 0 0 0 0 0 false [] 200 []))
                        (
                          Option.bind (f15_ai10brrz k v43 v44 v45 v46 v47 v48 v49 v50 v51 v52 v53 v54 v55) fun o58 =>
                            match o58 with
                            | .o0 v61 =>
                              cond ((v61 != 0))
                                (some (R13_r.o0 0 0 0 0 0 0 0 0 0 0 false [] 200 []))
                                (f13_r_j4 k false m2 m2_1 m2_2 m2_3 m2_4 m2_5 m2_6 m2_7 m2_8 m2_9 m2_10 m2_11 s1 v43 v44 v45 v46 v47 v48 v49 v50 v51 v52 v53 v54 v55)))
                | .o2 v63 v64 v65 v66 v67 v68 v69 v70 v71 v72 v73 v74 v75 v76 v77 =>
                  cond (v64)
                    (some (R13_r.o0 0 0 0 0 0 0 0 0 0 0 false [] 200 []))
                    (
                      cond ((decide (((List.length v63) : Int) > 0)))
                        (some (R13_r.o0 0 0 0 0 0 0 0 0 0 0 false [] 200 []))
                        (
                          Option.bind (f15_ai10brrz k v65 v66 v67 v68 v69 v70 v71 v72 v73 v74 v75 v76 v77) fun o80 =>
                            match o80 with
                            | .o0 v83 =>
                              cond ((v83 != 0))
                                (some (R13_r.o0 0 0 0 0 0 0 0 0 0 0 false [] 200 []))
                                (f13_r_j5 k false m2 m2_1 m2_2 m2_3 m2_4 m2_5 m2_6 m2_7 m2_8 m2_9 m2_10 m2_11 s1 v65 v66 v67 v68 v69 v70 v71 v72 v73 v74 v75 v76 v77))))
theorem f13_r_j2_ok (k : Nat) (x4 : List Int) (x18 : Bool) (m2 : Int) (m2_1 : Int) (m2_2 : Int) (m2_3 : Int) (m2_4 : Int) (m2_5 : Int) (m2_6 : Int) (m2_7 : Int) (m2_8 : Int) (m2_9 : Int) (m2_10 : Bool) (m2_11 : List Int) (s1 : List T45) (r : R13_r) (hF : f13_r_j2 k x4 x18 m2 m2_1 m2_2 m2_3 m2_4 m2_5 m2_6 m2_7 m2_8 m2_9 m2_10 m2_11 s1 = some r) : finK Try.prog Try.f13 0 (EX 13 k (nav B13 [2, 2, 2, 2]) ({ n := 55, F := [(2, V.ptr 2 0), (4, V.sl 1 (rowsOf (encI .u8) x4)), (18, V.p (Value.bool x18))], M := [(2, O.box 26 [V.p (Value.int .i64 m2), V.p (Value.int .i64 m2_1), V.p (Value.int .u32 m2_2), V.p (Value.int .u32 m2_3), V.p (Value.int .u32 m2_4), V.p (Value.int .i64 m2_5), V.p (Value.int .i64 m2_6), V.p (Value.int .i64 m2_7), V.p (Value.int .i64 m2_8), V.p (Value.int .i64 m2_9), V.p (Value.bool m2_10), V.sl 1 (rowsOf (encI .u8) m2_11), V.own 700001]), (700001, O.row true 2 45 (rowsOf encT45 s1))] } : St)) = some r.st := by
  unfold f13_r_j2 at hF
  replace hF := ifE_some.1 hF
  obtain ⟨h1, hF⟩ := hF
  replace hF := Option.bind_eq_some_iff.1 hF
  obtain ⟨v2, h3, hF⟩ := hF
  replace hF := Option.bind_eq_some_iff.1 hF
  obtain ⟨o4, h5, hF⟩ := hF
  have hc6 := f25_p_brb_ok k (List.drop 1 (List.take (List.length x4) x4)) false _ h5
  cases o4 with
  | o0 v7 v8 v9 =>
    (try dsimp only at hF)
    (try simp only [NM, EE, R25_p_brb.st] at hc6)
    replace hF := Option.bind_eq_some_iff.1 hF
    obtain ⟨o10, h11, hF⟩ := hF
    have hc12 := f25_p_brb_ok k v8 v9 _ h11
    cases o10 with
    | o0 v13 v14 v15 =>
      (try dsimp only at hF)
      (try simp only [NM, EE, R25_p_brb.st] at hc12)
      simp (maxSteps := 999999) (disch := first | exact D (by decide) | exact K (by kernel_rfl)) only [EA, EE, EG, EF, ED, ofVal, ofVal1, ofCell, lenV, aggEqV, cellEq, intBin, isShift, V.ids, lendV, frz, flatV, cellsOf, addOff, firstReg, oneOf, cellsAt, isAggD, isPure, ↓reduceIte, reduceCtorEq, Nat.reduceAdd, Nat.reduceSub, Nat.reduceMul, Nat.reduceLeDiff, Nat.reduceEqDiff, Nat.reduceBEq, Int.reduceToNat, Int.reduceLE, Int.reduceLT, Nat.reduceLT, Int.reduceBEq, Int.reduceBNe, Int.reduceEq, String.reduceEq, xk B13 [2, 2, 2, 2] .sq rfl, show (nav B13 [1, 2, 2, 2, 2]) = Code.region 6 _ false from rfl, hk_13_6, hz_13_6, hs_13_6, sliceV, bound, u_23, i_23, is_23, ib_23, iz_23, u_5, i_5, is_5, ib_5, iz_5, bl_57, u_57, i_57, is_57, ib_57, iz_57, xk B13 [2, 2, 2, 2, 2] .sq rfl, show (nav B13 [1, 2, 2, 2, 2, 2]) = Code.region 7 _ true from rfl, hk_13_7, hz_13_7, hs_13_7, indexAddrV, encI_eq, u_3, i_3, is_3, ib_3, iz_3, convV, callStep, calleeOf, gv, List.contains, u_22, i_22, is_22, ib_22, iz_22, bl_26, u_26, i_26, is_26, ib_26, iz_26, xk B13 [2, 2, 2, 2, 2, 2] .sq rfl, show (nav B13 [1, 2, 2, 2, 2, 2, 2]) = Code.region 8 _ false from rfl, hk_13_8, hz_13_8, hs_13_8, h1, h3, hc6, hc12]
      replace hF := Option.bind_eq_some_iff.1 hF
      obtain ⟨o16, h17, hF⟩ := hF
      have hc18 := f26_pp_brbbiiiiiiiiiibrow_ok k v14 v15 (IntKind.i64.wrap v2) v7 (IntKind.u32.wrap v13) 0 0 0 0 0 0 0 false [] [] _ h17
      cases o16 with
      | o0 v19 v20 v21 v22 v23 v24 v25 v26 v27 v28 v29 v30 v31 v32 v33 =>
        (try dsimp only at hF)
        (try simp only [NM, EE, R26_pp_brbbiiiiiiiiiibrow.st] at hc18)
        simp (maxSteps := 999999) (disch := first | exact D (by decide) | exact K (by kernel_rfl)) only [EA, EE, EG, EF, ED, ofVal, ofVal1, ofCell, lenV, aggEqV, cellEq, intBin, isShift, V.ids, lendV, frz, flatV, cellsOf, addOff, firstReg, oneOf, cellsAt, isAggD, isPure, ↓reduceIte, reduceCtorEq, Nat.reduceAdd, Nat.reduceSub, Nat.reduceMul, Nat.reduceLeDiff, Nat.reduceEqDiff, Nat.reduceBEq, Int.reduceToNat, Int.reduceLE, Int.reduceLT, Nat.reduceLT, Int.reduceBEq, Int.reduceBNe, Int.reduceEq, String.reduceEq, xk B13 [2, 2, 2, 2, 2, 2, 2] .sq rfl, xk B13 [1, 2, 2, 2, 2, 2, 2, 2] .sq rfl, show (nav B13 [1, 1, 2, 2, 2, 2, 2, 2, 2]) = Code.region 9 _ false from rfl, hk_13_9, hz_13_9, hs_13_9, fieldAddrV, u_57, i_57, is_57, ib_57, iz_57, u_4, i_4, is_4, ib_4, iz_4, h1, h3, hc6, hc12, hc18]
        replace hF := cond_some hF
        rcases hF with ⟨h34, hF⟩ | ⟨h34, hF⟩
        · cases hF
          simp (maxSteps := 999999) (disch := first | exact D (by decide) | exact K (by kernel_rfl)) only [EA, EE, EG, EF, ED, ofVal, ofVal1, ofCell, lenV, aggEqV, cellEq, intBin, isShift, V.ids, lendV, frz, flatV, cellsOf, addOff, firstReg, oneOf, cellsAt, isAggD, isPure, ↓reduceIte, reduceCtorEq, Nat.reduceAdd, Nat.reduceSub, Nat.reduceMul, Nat.reduceLeDiff, Nat.reduceEqDiff, Nat.reduceBEq, Int.reduceToNat, Int.reduceLE, Int.reduceLT, Nat.reduceLT, Int.reduceBEq, Int.reduceBNe, Int.reduceEq, String.reduceEq, xk B13 [2, 1, 2, 2, 2, 2, 2, 2, 2] (.cd 52) rfl, xk B13 [2, 2, 1, 2, 2, 2, 2, 2, 2, 2] .sq rfl, show (nav B13 [1, 2, 2, 1, 2, 2, 2, 2, 2, 2, 2]) = Code.region 10 _ false from rfl, hk_13_10, hz_13_10, hs_13_10, bl_26, u_26, i_26, is_26, ib_26, iz_26, xk B13 [2, 2, 2, 1, 2, 2, 2, 2, 2, 2, 2] .rt rfl, finK_norm, finK_ret, fin13, R13_r.st, h1, h3, hc6, hc12, hc18, h34]
        · simp (maxSteps := 999999) (disch := first | exact D (by decide) | exact K (by kernel_rfl)) only [EA, EE, EG, EF, ED, ofVal, ofVal1, ofCell, lenV, aggEqV, cellEq, intBin, isShift, V.ids, lendV, frz, flatV, cellsOf, addOff, firstReg, oneOf, cellsAt, isAggD, isPure, ↓reduceIte, reduceCtorEq, Nat.reduceAdd, Nat.reduceSub, Nat.reduceMul, Nat.reduceLeDiff, Nat.reduceEqDiff, Nat.reduceBEq, Int.reduceToNat, Int.reduceLE, Int.reduceLT, Nat.reduceLT, Int.reduceBEq, Int.reduceBNe, Int.reduceEq, String.reduceEq, fieldAddrV, u_57, i_57, is_57, ib_57, iz_57, u_23, i_23, is_23, ib_23, iz_23, h1, h3, hc6, hc12, hc18, h34]
          replace hF := cond_some hF
          rcases hF with ⟨h35, hF⟩ | ⟨h35, hF⟩
          · cases hF
            simp (maxSteps := 999999) (disch := first | exact D (by decide) | exact K (by kernel_rfl)) only [EA, EE, EG, EF, ED, ofVal, ofVal1, ofCell, lenV, aggEqV, cellEq, intBin, isShift, V.ids, lendV, frz, flatV, cellsOf, addOff, firstReg, oneOf, cellsAt, isAggD, isPure, ↓reduceIte, reduceCtorEq, Nat.reduceAdd, Nat.reduceSub, Nat.reduceMul, Nat.reduceLeDiff, Nat.reduceEqDiff, Nat.reduceBEq, Int.reduceToNat, Int.reduceLE, Int.reduceLT, Nat.reduceLT, Int.reduceBEq, Int.reduceBNe, Int.reduceEq, String.reduceEq, xk B13 [2, 1, 2, 2, 2, 2, 2, 2, 2] (.cd 52) rfl, xk B13 [2, 2, 1, 2, 2, 2, 2, 2, 2, 2] .sq rfl, show (nav B13 [1, 2, 2, 1, 2, 2, 2, 2, 2, 2, 2]) = Code.region 10 _ false from rfl, hk_13_10, hz_13_10, hs_13_10, bl_26, u_26, i_26, is_26, ib_26, iz_26, xk B13 [2, 2, 2, 1, 2, 2, 2, 2, 2, 2, 2] .rt rfl, finK_norm, finK_ret, fin13, R13_r.st, h1, h3, hc6, hc12, hc18, h34, h35]
          · replace hF := Option.bind_eq_some_iff.1 hF
            obtain ⟨o36, h37, hF⟩ := hF
            have hc38 := f15_ai10brrz_ok k v21 v22 v23 v24 v25 v26 v27 v28 v29 v30 v31 v33 v32 _ h37
            cases o36 with
            | o0 v39 =>
              (try dsimp only at hF)
              (try simp only [NM, EE, R15_ai10brrz.st] at hc38)
              simp (maxSteps := 999999) (disch := first | exact D (by decide) | exact K (by kernel_rfl)) only [EA, EE, EG, EF, ED, ofVal, ofVal1, ofCell, lenV, aggEqV, cellEq, intBin, isShift, V.ids, lendV, frz, flatV, cellsOf, addOff, firstReg, oneOf, cellsAt, isAggD, isPure, ↓reduceIte, reduceCtorEq, Nat.reduceAdd, Nat.reduceSub, Nat.reduceMul, Nat.reduceLeDiff, Nat.reduceEqDiff, Nat.reduceBEq, Int.reduceToNat, Int.reduceLE, Int.reduceLT, Nat.reduceLT, Int.reduceBEq, Int.reduceBNe, Int.reduceEq, String.reduceEq, u_26, i_26, is_26, ib_26, iz_26, callStep, calleeOf, gv, List.contains, xk B13 [2, 1, 2, 2, 2, 2, 2, 2, 2] (.cd 52) rfl, h1, h3, hc6, hc12, hc18, h34, h35, hc38]
              replace hF := cond_some hF
              rcases hF with ⟨h40, hF⟩ | ⟨h40, hF⟩
              · cases hF
                simp (maxSteps := 999999) (disch := first | exact D (by decide) | exact K (by kernel_rfl)) only [EA, EE, EG, EF, ED, ofVal, ofVal1, ofCell, lenV, aggEqV, cellEq, intBin, isShift, V.ids, lendV, frz, flatV, cellsOf, addOff, firstReg, oneOf, cellsAt, isAggD, isPure, ↓reduceIte, reduceCtorEq, Nat.reduceAdd, Nat.reduceSub, Nat.reduceMul, Nat.reduceLeDiff, Nat.reduceEqDiff, Nat.reduceBEq, Int.reduceToNat, Int.reduceLE, Int.reduceLT, Nat.reduceLT, Int.reduceBEq, Int.reduceBNe, Int.reduceEq, String.reduceEq, xk B13 [2, 2, 1, 2, 2, 2, 2, 2, 2, 2] .sq rfl, show (nav B13 [1, 2, 2, 1, 2, 2, 2, 2, 2, 2, 2]) = Code.region 10 _ false from rfl, hk_13_10, hz_13_10, hs_13_10, bl_26, u_26, i_26, is_26, ib_26, iz_26, xk B13 [2, 2, 2, 1, 2, 2, 2, 2, 2, 2, 2] .rt rfl, finK_norm, finK_ret, fin13, R13_r.st, h1, h3, hc6, hc12, hc18, h34, h35, hc38, h40]
              · have hJ := f13_r_j3_ok k false m2 m2_1 m2_2 m2_3 m2_4 m2_5 m2_6 m2_7 m2_8 m2_9 m2_10 m2_11 s1 v21 v22 v23 v24 v25 v26 v27 v28 v29 v30 v31 v33 v32 _ hF
                simp (maxSteps := 999999) (disch := first | exact D (by decide) | exact K (by kernel_rfl)) only [EA, EE, EG, EF, ED, ofVal, ofVal1, ofCell, lenV, aggEqV, cellEq, intBin, isShift, V.ids, lendV, frz, flatV, cellsOf, addOff, firstReg, oneOf, cellsAt, isAggD, isPure, ↓reduceIte, reduceCtorEq, Nat.reduceAdd, Nat.reduceSub, Nat.reduceMul, Nat.reduceLeDiff, Nat.reduceEqDiff, Nat.reduceBEq, Int.reduceToNat, Int.reduceLE, Int.reduceLT, Nat.reduceLT, Int.reduceBEq, Int.reduceBNe, Int.reduceEq, String.reduceEq, xk B13 [3, 2, 1, 2, 2, 2, 2, 2, 2, 2] .sk rfl, h1, h3, hc6, hc12, hc18, h34, h35, hc38, h40]
                try simp only [NM, EE] at hJ
                exact hJ
      | o1 v41 v42 v43 v44 v45 v46 v47 v48 v49 v50 v51 v52 v53 v54 v55 =>
        (try dsimp only at hF)
        (try simp only [NM, EE, R26_pp_brbbiiiiiiiiiibrow.st] at hc18)
        simp (maxSteps := 999999) (disch := first | exact D (by decide) | exact K (by kernel_rfl)) only [EA, EE, EG, EF, ED, ofVal, ofVal1, ofCell, lenV, aggEqV, cellEq, intBin, isShift, V.ids, lendV, frz, flatV, cellsOf, addOff, firstReg, oneOf, cellsAt, isAggD, isPure, ↓reduceIte, reduceCtorEq, Nat.reduceAdd, Nat.reduceSub, Nat.reduceMul, Nat.reduceLeDiff, Nat.reduceEqDiff, Nat.reduceBEq, Int.reduceToNat, Int.reduceLE, Int.reduceLT, Nat.reduceLT, Int.reduceBEq, Int.reduceBNe, Int.reduceEq, String.reduceEq, xk B13 [2, 2, 2, 2, 2, 2, 2] .sq rfl, xk B13 [1, 2, 2, 2, 2, 2, 2, 2] .sq rfl, show (nav B13 [1, 1, 2, 2, 2, 2, 2, 2, 2]) = Code.region 9 _ false from rfl, hk_13_9, hz_13_9, hs_13_9, fieldAddrV, u_57, i_57, is_57, ib_57, iz_57, u_4, i_4, is_4, ib_4, iz_4, h1, h3, hc6, hc12, hc18]
        replace hF := cond_some hF
        rcases hF with ⟨h56, hF⟩ | ⟨h56, hF⟩
        · cases hF
          simp (maxSteps := 999999) (disch := first | exact D (by decide) | exact K (by kernel_rfl)) only [EA, EE, EG, EF, ED, ofVal, ofVal1, ofCell, lenV, aggEqV, cellEq, intBin, isShift, V.ids, lendV, frz, flatV, cellsOf, addOff, firstReg, oneOf, cellsAt, isAggD, isPure, ↓reduceIte, reduceCtorEq, Nat.reduceAdd, Nat.reduceSub, Nat.reduceMul, Nat.reduceLeDiff, Nat.reduceEqDiff, Nat.reduceBEq, Int.reduceToNat, Int.reduceLE, Int.reduceLT, Nat.reduceLT, Int.reduceBEq, Int.reduceBNe, Int.reduceEq, String.reduceEq, xk B13 [2, 1, 2, 2, 2, 2, 2, 2, 2] (.cd 52) rfl, xk B13 [2, 2, 1, 2, 2, 2, 2, 2, 2, 2] .sq rfl, show (nav B13 [1, 2, 2, 1, 2, 2, 2, 2, 2, 2, 2]) = Code.region 10 _ false from rfl, hk_13_10, hz_13_10, hs_13_10, bl_26, u_26, i_26, is_26, ib_26, iz_26, xk B13 [2, 2, 2, 1, 2, 2, 2, 2, 2, 2, 2] .rt rfl, finK_norm, finK_ret, fin13, R13_r.st, h1, h3, hc6, hc12, hc18, h56]
        · simp (maxSteps := 999999) (disch := first | exact D (by decide) | exact K (by kernel_rfl)) only [EA, EE, EG, EF, ED, ofVal, ofVal1, ofCell, lenV, aggEqV, cellEq, intBin, isShift, V.ids, lendV, frz, flatV, cellsOf, addOff, firstReg, oneOf, cellsAt, isAggD, isPure, ↓reduceIte, reduceCtorEq, Nat.reduceAdd, Nat.reduceSub, Nat.reduceMul, Nat.reduceLeDiff, Nat.reduceEqDiff, Nat.reduceBEq, Int.reduceToNat, Int.reduceLE, Int.reduceLT, Nat.reduceLT, Int.reduceBEq, Int.reduceBNe, Int.reduceEq, String.reduceEq, fieldAddrV, u_57, i_57, is_57, ib_57, iz_57, u_23, i_23, is_23, ib_23, iz_23, h1, h3, hc6, hc12, hc18, h56]
          replace hF := cond_some hF
          rcases hF with ⟨h57, hF⟩ | ⟨h57, hF⟩
          · cases hF
            simp (maxSteps := 999999) (disch := first | exact D (by decide) | exact K (by kernel_rfl)) only [EA, EE, EG, EF, ED, ofVal, ofVal1, ofCell, lenV, aggEqV, cellEq, intBin, isShift, V.ids, lendV, frz, flatV, cellsOf, addOff, firstReg, oneOf, cellsAt, isAggD, isPure, ↓reduceIte, reduceCtorEq, Nat.reduceAdd, Nat.reduceSub, Nat.reduceMul, Nat.reduceLeDiff, Nat.reduceEqDiff, Nat.reduceBEq, Int.reduceToNat, Int.reduceLE, Int.reduceLT, Nat.reduceLT, Int.reduceBEq, Int.reduceBNe, Int.reduceEq, String.reduceEq, xk B13 [2, 1, 2, 2, 2, 2, 2, 2, 2] (.cd 52) rfl, xk B13 [2, 2, 1, 2, 2, 2, 2, 2, 2, 2] .sq rfl, show (nav B13 [1, 2, 2, 1, 2, 2, 2, 2, 2, 2, 2]) = Code.region 10 _ false from rfl, hk_13_10, hz_13_10, hs_13_10, bl_26, u_26, i_26, is_26, ib_26, iz_26, xk B13 [2, 2, 2, 1, 2, 2, 2, 2, 2, 2, 2] .rt rfl, finK_norm, finK_ret, fin13, R13_r.st, h1, h3, hc6, hc12, hc18, h56, h57]
          · replace hF := Option.bind_eq_some_iff.1 hF
            obtain ⟨o58, h59, hF⟩ := hF
            have hc60 := f15_ai10brrz_ok k v43 v44 v45 v46 v47 v48 v49 v50 v51 v52 v53 v54 v55 _ h59
            cases o58 with
            | o0 v61 =>
              (try dsimp only at hF)
              (try simp only [NM, EE, R15_ai10brrz.st] at hc60)
              simp (maxSteps := 999999) (disch := first | exact D (by decide) | exact K (by kernel_rfl)) only [EA, EE, EG, EF, ED, ofVal, ofVal1, ofCell, lenV, aggEqV, cellEq, intBin, isShift, V.ids, lendV, frz, flatV, cellsOf, addOff, firstReg, oneOf, cellsAt, isAggD, isPure, ↓reduceIte, reduceCtorEq, Nat.reduceAdd, Nat.reduceSub, Nat.reduceMul, Nat.reduceLeDiff, Nat.reduceEqDiff, Nat.reduceBEq, Int.reduceToNat, Int.reduceLE, Int.reduceLT, Nat.reduceLT, Int.reduceBEq, Int.reduceBNe, Int.reduceEq, String.reduceEq, u_26, i_26, is_26, ib_26, iz_26, callStep, calleeOf, gv, List.contains, xk B13 [2, 1, 2, 2, 2, 2, 2, 2, 2] (.cd 52) rfl, h1, h3, hc6, hc12, hc18, h56, h57, hc60]
              replace hF := cond_some hF
              rcases hF with ⟨h62, hF⟩ | ⟨h62, hF⟩
              · cases hF
                simp (maxSteps := 999999) (disch := first | exact D (by decide) | exact K (by kernel_rfl)) only [EA, EE, EG, EF, ED, ofVal, ofVal1, ofCell, lenV, aggEqV, cellEq, intBin, isShift, V.ids, lendV, frz, flatV, cellsOf, addOff, firstReg, oneOf, cellsAt, isAggD, isPure, ↓reduceIte, reduceCtorEq, Nat.reduceAdd, Nat.reduceSub, Nat.reduceMul, Nat.reduceLeDiff, Nat.reduceEqDiff, Nat.reduceBEq, Int.reduceToNat, Int.reduceLE, Int.reduceLT, Nat.reduceLT, Int.reduceBEq, Int.reduceBNe, Int.reduceEq, String.reduceEq, xk B13 [2, 2, 1, 2, 2, 2, 2, 2, 2, 2] .sq rfl, show (nav B13 [1, 2, 2, 1, 2, 2, 2, 2, 2, 2, 2]) = Code.region 10 _ false from rfl, hk_13_10, hz_13_10, hs_13_10, bl_26, u_26, i_26, is_26, ib_26, iz_26, xk B13 [2, 2, 2, 1, 2, 2, 2, 2, 2, 2, 2] .rt rfl, finK_norm, finK_ret, fin13, R13_r.st, h1, h3, hc6, hc12, hc18, h56, h57, hc60, h62]
              · have hJ := f13_r_j4_ok k false m2 m2_1 m2_2 m2_3 m2_4 m2_5 m2_6 m2_7 m2_8 m2_9 m2_10 m2_11 s1 v43 v44 v45 v46 v47 v48 v49 v50 v51 v52 v53 v54 v55 _ hF
                simp (maxSteps := 999999) (disch := first | exact D (by decide) | exact K (by kernel_rfl)) only [EA, EE, EG, EF, ED, ofVal, ofVal1, ofCell, lenV, aggEqV, cellEq, intBin, isShift, V.ids, lendV, frz, flatV, cellsOf, addOff, firstReg, oneOf, cellsAt, isAggD, isPure, ↓reduceIte, reduceCtorEq, Nat.reduceAdd, Nat.reduceSub, Nat.reduceMul, Nat.reduceLeDiff, Nat.reduceEqDiff, Nat.reduceBEq, Int.reduceToNat, Int.reduceLE, Int.reduceLT, Nat.reduceLT, Int.reduceBEq, Int.reduceBNe, Int.reduceEq, String.reduceEq, xk B13 [3, 2, 1, 2, 2, 2, 2, 2, 2, 2] .sk rfl, h1, h3, hc6, hc12, hc18, h56, h57, hc60, h62]
                try simp only [NM, EE] at hJ
                exact hJ
      | o2 v63 v64 v65 v66 v67 v68 v69 v70 v71 v72 v73 v74 v75 v76 v77 =>
        (try dsimp only at hF)
        (try simp only [NM, EE, R26_pp_brbbiiiiiiiiiibrow.st] at hc18)
        simp (maxSteps := 999999) (disch := first | exact D (by decide) | exact K (by kernel_rfl)) only [EA, EE, EG, EF, ED, ofVal, ofVal1, ofCell, lenV, aggEqV, cellEq, intBin, isShift, V.ids, lendV, frz, flatV, cellsOf, addOff, firstReg, oneOf, cellsAt, isAggD, isPure, ↓reduceIte, reduceCtorEq, Nat.reduceAdd, Nat.reduceSub, Nat.reduceMul, Nat.reduceLeDiff, Nat.reduceEqDiff, Nat.reduceBEq, Int.reduceToNat, Int.reduceLE, Int.reduceLT, Nat.reduceLT, Int.reduceBEq, Int.reduceBNe, Int.reduceEq, String.reduceEq, xk B13 [2, 2, 2, 2, 2, 2, 2] .sq rfl, xk B13 [1, 2, 2, 2, 2, 2, 2, 2] .sq rfl, show (nav B13 [1, 1, 2, 2, 2, 2, 2, 2, 2]) = Code.region 9 _ false from rfl, hk_13_9, hz_13_9, hs_13_9, fieldAddrV, u_57, i_57, is_57, ib_57, iz_57, u_4, i_4, is_4, ib_4, iz_4, h1, h3, hc6, hc12, hc18]
        replace hF := cond_some hF
        rcases hF with ⟨h78, hF⟩ | ⟨h78, hF⟩
        · cases hF
          simp (maxSteps := 999999) (disch := first | exact D (by decide) | exact K (by kernel_rfl)) only [EA, EE, EG, EF, ED, ofVal, ofVal1, ofCell, lenV, aggEqV, cellEq, intBin, isShift, V.ids, lendV, frz, flatV, cellsOf, addOff, firstReg, oneOf, cellsAt, isAggD, isPure, ↓reduceIte, reduceCtorEq, Nat.reduceAdd, Nat.reduceSub, Nat.reduceMul, Nat.reduceLeDiff, Nat.reduceEqDiff, Nat.reduceBEq, Int.reduceToNat, Int.reduceLE, Int.reduceLT, Nat.reduceLT, Int.reduceBEq, Int.reduceBNe, Int.reduceEq, String.reduceEq, xk B13 [2, 1, 2, 2, 2, 2, 2, 2, 2] (.cd 52) rfl, xk B13 [2, 2, 1, 2, 2, 2, 2, 2, 2, 2] .sq rfl, show (nav B13 [1, 2, 2, 1, 2, 2, 2, 2, 2, 2, 2]) = Code.region 10 _ false from rfl, hk_13_10, hz_13_10, hs_13_10, bl_26, u_26, i_26, is_26, ib_26, iz_26, xk B13 [2, 2, 2, 1, 2, 2, 2, 2, 2, 2, 2] .rt rfl, finK_norm, finK_ret, fin13, R13_r.st, h1, h3, hc6, hc12, hc18, h78]
        · simp (maxSteps := 999999) (disch := first | exact D (by decide) | exact K (by kernel_rfl)) only [EA, EE, EG, EF, ED, ofVal, ofVal1, ofCell, lenV, aggEqV, cellEq, intBin, isShift, V.ids, lendV, frz, flatV, cellsOf, addOff, firstReg, oneOf, cellsAt, isAggD, isPure, ↓reduceIte, reduceCtorEq, Nat.reduceAdd, Nat.reduceSub, Nat.reduceMul, Nat.reduceLeDiff, Nat.reduceEqDiff, Nat.reduceBEq, Int.reduceToNat, Int.reduceLE, Int.reduceLT, Nat.reduceLT, Int.reduceBEq, Int.reduceBNe, Int.reduceEq, String.reduceEq, fieldAddrV, u_57, i_57, is_57, ib_57, iz_57, u_23, i_23, is_23, ib_23, iz_23, h1, h3, hc6, hc12, hc18, h78]
          replace hF := cond_some hF
          rcases hF with ⟨h79, hF⟩ | ⟨h79, hF⟩
          · cases hF
            simp (maxSteps := 999999) (disch := first | exact D (by decide) | exact K (by kernel_rfl)) only [EA, EE, EG, EF, ED, ofVal, ofVal1, ofCell, lenV, aggEqV, cellEq, intBin, isShift, V.ids, lendV, frz, flatV, cellsOf, addOff, firstReg, oneOf, cellsAt, isAggD, isPure, ↓reduceIte, reduceCtorEq, Nat.reduceAdd, Nat.reduceSub, Nat.reduceMul, Nat.reduceLeDiff, Nat.reduceEqDiff, Nat.reduceBEq, Int.reduceToNat, Int.reduceLE, Int.reduceLT, Nat.reduceLT, Int.reduceBEq, Int.reduceBNe, Int.reduceEq, String.reduceEq, xk B13 [2, 1, 2, 2, 2, 2, 2, 2, 2] (.cd 52) rfl, xk B13 [2, 2, 1, 2, 2, 2, 2, 2, 2, 2] .sq rfl, show (nav B13 [1, 2, 2, 1, 2, 2, 2, 2, 2, 2, 2]) = Code.region 10 _ false from rfl, hk_13_10, hz_13_10, hs_13_10, bl_26, u_26, i_26, is_26, ib_26, iz_26, xk B13 [2, 2, 2, 1, 2, 2, 2, 2, 2, 2, 2] .rt rfl, finK_norm, finK_ret, fin13, R13_r.st, h1, h3, hc6, hc12, hc18, h78, h79]
          · replace hF := Option.bind_eq_some_iff.1 hF
            obtain ⟨o80, h81, hF⟩ := hF
            have hc82 := f15_ai10brrz_ok k v65 v66 v67 v68 v69 v70 v71 v72 v73 v74 v75 v76 v77 _ h81
            cases o80 with
            | o0 v83 =>
              (try dsimp only at hF)
              (try simp only [NM, EE, R15_ai10brrz.st] at hc82)
              simp (maxSteps := 999999) (disch := first | exact D (by decide) | exact K (by kernel_rfl)) only [EA, EE, EG, EF, ED, ofVal, ofVal1, ofCell, lenV, aggEqV, cellEq, intBin, isShift, V.ids, lendV, frz, flatV, cellsOf, addOff, firstReg, oneOf, cellsAt, isAggD, isPure, ↓reduceIte, reduceCtorEq, Nat.reduceAdd, Nat.reduceSub, Nat.reduceMul, Nat.reduceLeDiff, Nat.reduceEqDiff, Nat.reduceBEq, Int.reduceToNat, Int.reduceLE, Int.reduceLT, Nat.reduceLT, Int.reduceBEq, Int.reduceBNe, Int.reduceEq, String.reduceEq, u_26, i_26, is_26, ib_26, iz_26, callStep, calleeOf, gv, List.contains, xk B13 [2, 1, 2, 2, 2, 2, 2, 2, 2] (.cd 52) rfl, h1, h3, hc6, hc12, hc18, h78, h79, hc82]
              replace hF := cond_some hF
              rcases hF with ⟨h84, hF⟩ | ⟨h84, hF⟩
              · cases hF
                simp (maxSteps := 999999) (disch := first | exact D (by decide) | exact K (by kernel_rfl)) only [EA, EE, EG, EF, ED, ofVal, ofVal1, ofCell, lenV, aggEqV, cellEq, intBin, isShift, V.ids, lendV, frz, flatV, cellsOf, addOff, firstReg, oneOf, cellsAt, isAggD, isPure, ↓reduceIte, reduceCtorEq, Nat.reduceAdd, Nat.reduceSub, Nat.reduceMul, Nat.reduceLeDiff, Nat.reduceEqDiff, Nat.reduceBEq, Int.reduceToNat, Int.reduceLE, Int.reduceLT, Nat.reduceLT, Int.reduceBEq, Int.reduceBNe, Int.reduceEq, String.reduceEq, xk B13 [2, 2, 1, 2, 2, 2, 2, 2, 2, 2] .sq rfl, show (nav B13 [1, 2, 2, 1, 2, 2, 2, 2, 2, 2, 2]) = Code.region 10 _ false from rfl, hk_13_10, hz_13_10, hs_13_10, bl_26, u_26, i_26, is_26, ib_26, iz_26, xk B13 [2, 2, 2, 1, 2, 2, 2, 2, 2, 2, 2] .rt rfl, finK_norm, finK_ret, fin13, R13_r.st, h1, h3, hc6, hc12, hc18, h78, h79, hc82, h84]
              · have hJ := f13_r_j5_ok k false m2 m2_1 m2_2 m2_3 m2_4 m2_5 m2_6 m2_7 m2_8 m2_9 m2_10 m2_11 s1 v65 v66 v67 v68 v69 v70 v71 v72 v73 v74 v75 v76 v77 _ hF
                simp (maxSteps := 999999) (disch := first | exact D (by decide) | exact K (by kernel_rfl)) only [EA, EE, EG, EF, ED, ofVal, ofVal1, ofCell, lenV, aggEqV, cellEq, intBin, isShift, V.ids, lendV, frz, flatV, cellsOf, addOff, firstReg, oneOf, cellsAt, isAggD, isPure, ↓reduceIte, reduceCtorEq, Nat.reduceAdd, Nat.reduceSub, Nat.reduceMul, Nat.reduceLeDiff, Nat.reduceEqDiff, Nat.reduceBEq, Int.reduceToNat, Int.reduceLE, Int.reduceLT, Nat.reduceLT, Int.reduceBEq, Int.reduceBNe, Int.reduceEq, String.reduceEq, xk B13 [3, 2, 1, 2, 2, 2, 2, 2, 2, 2] .sk rfl, h1, h3, hc6, hc12, hc18, h78, h79, hc82, h84]
                try simp only [NM, EE] at hJ
                exact hJ
noncomputable def f13_r_j1 (k : Nat) (x0 : List Int) (x10 : Bool) (m2 : Int) (m2_1 : Int) (m2_2 : Int) (m2_3 : Int) (m2_4 : Int) (m2_5 : Int) (m2_6 : Int) (m2_7 : Int) (m2_8 : Int) (m2_9 : Int) (m2_10 : Bool) (m2_11 : List Int) (s1 : List T45) : Option R13_r :=
  Option.bind (f24_r k x0) fun o1 =>
    match o1 with
    | .o0 v4 v5 =>
      cond ((v5 != 0))
        (some (R13_r.o0 0 0 0 0 0 0 0 0 0 0 false [] 130 []))
        (f13_r_j2 k v4 false m2 m2_1 m2_2 m2_3 m2_4 m2_5 m2_6 m2_7 m2_8 m2_9 m2_10 m2_11 s1)
    | .o1 v7 v8 =>
      cond ((v7 != 0))
        (some (R13_r.o0 0 0 0 0 0 0 0 0 0 0 false [] 130 []))
        (f13_r_j2 k v8 false m2 m2_1 m2_2 m2_3 m2_4 m2_5 m2_6 m2_7 m2_8 m2_9 m2_10 m2_11 s1)
theorem f13_r_j1_ok (k : Nat) (x0 : List Int) (x10 : Bool) (m2 : Int) (m2_1 : Int) (m2_2 : Int) (m2_3 : Int) (m2_4 : Int) (m2_5 : Int) (m2_6 : Int) (m2_7 : Int) (m2_8 : Int) (m2_9 : Int) (m2_10 : Bool) (m2_11 : List Int) (s1 : List T45) (r : R13_r) (hF : f13_r_j1 k x0 x10 m2 m2_1 m2_2 m2_3 m2_4 m2_5 m2_6 m2_7 m2_8 m2_9 m2_10 m2_11 s1 = some r) : finK Try.prog Try.f13 0 (EX 13 k (nav B13 [2, 2]) ({ n := 55, F := [(0, V.sl 1 (rowsOf (encI .u8) x0)), (2, V.ptr 2 0), (10, V.p (Value.bool x10))], M := [(2, O.box 26 [V.p (Value.int .i64 m2), V.p (Value.int .i64 m2_1), V.p (Value.int .u32 m2_2), V.p (Value.int .u32 m2_3), V.p (Value.int .u32 m2_4), V.p (Value.int .i64 m2_5), V.p (Value.int .i64 m2_6), V.p (Value.int .i64 m2_7), V.p (Value.int .i64 m2_8), V.p (Value.int .i64 m2_9), V.p (Value.bool m2_10), V.sl 1 (rowsOf (encI .u8) m2_11), V.own 700001]), (700001, O.row true 2 45 (rowsOf encT45 s1))] } : St)) = some r.st := by
  unfold f13_r_j1 at hF
  simp (maxSteps := 999999) (disch := first | exact D (by decide) | exact K (by kernel_rfl)) only [EA, EE, EG, EF, ED, ofVal, ofVal1, ofCell, lenV, aggEqV, cellEq, intBin, isShift, V.ids, lendV, frz, flatV, cellsOf, addOff, firstReg, oneOf, cellsAt, isAggD, isPure, ↓reduceIte, reduceCtorEq, Nat.reduceAdd, Nat.reduceSub, Nat.reduceMul, Nat.reduceLeDiff, Nat.reduceEqDiff, Nat.reduceBEq, Int.reduceToNat, Int.reduceLE, Int.reduceLT, Nat.reduceLT, Int.reduceBEq, Int.reduceBNe, Int.reduceEq, String.reduceEq, xk B13 [2, 2] .sq rfl, show (nav B13 [1, 2, 2]) = Code.region 3 _ false from rfl, hk_13_3, hz_13_3, hs_13_3, callStep, calleeOf, gv, List.contains]
  replace hF := Option.bind_eq_some_iff.1 hF
  obtain ⟨o1, h2, hF⟩ := hF
  have hc3 := f24_r_ok k x0 _ h2
  cases o1 with
  | o0 v4 v5 =>
    (try dsimp only at hF)
    (try simp only [NM, EE, R24_r.st] at hc3)
    simp (maxSteps := 999999) (disch := first | exact D (by decide) | exact K (by kernel_rfl)) only [EA, EE, EG, EF, ED, ofVal, ofVal1, ofCell, lenV, aggEqV, cellEq, intBin, isShift, V.ids, lendV, frz, flatV, cellsOf, addOff, firstReg, oneOf, cellsAt, isAggD, isPure, ↓reduceIte, reduceCtorEq, Nat.reduceAdd, Nat.reduceSub, Nat.reduceMul, Nat.reduceLeDiff, Nat.reduceEqDiff, Nat.reduceBEq, Int.reduceToNat, Int.reduceLE, Int.reduceLT, Nat.reduceLT, Int.reduceBEq, Int.reduceBNe, Int.reduceEq, String.reduceEq, xk B13 [2, 2, 2] .sq rfl, xk B13 [1, 2, 2, 2] .sq rfl, show (nav B13 [1, 1, 2, 2, 2]) = Code.region 4 _ false from rfl, hk_13_4, hz_13_4, hs_13_4, xk B13 [2, 1, 2, 2, 2] (.cd 18) rfl, hc3]
    replace hF := cond_some hF
    rcases hF with ⟨h6, hF⟩ | ⟨h6, hF⟩
    · cases hF
      simp (maxSteps := 999999) (disch := first | exact D (by decide) | exact K (by kernel_rfl)) only [EA, EE, EG, EF, ED, ofVal, ofVal1, ofCell, lenV, aggEqV, cellEq, intBin, isShift, V.ids, lendV, frz, flatV, cellsOf, addOff, firstReg, oneOf, cellsAt, isAggD, isPure, ↓reduceIte, reduceCtorEq, Nat.reduceAdd, Nat.reduceSub, Nat.reduceMul, Nat.reduceLeDiff, Nat.reduceEqDiff, Nat.reduceBEq, Int.reduceToNat, Int.reduceLE, Int.reduceLT, Nat.reduceLT, Int.reduceBEq, Int.reduceBNe, Int.reduceEq, String.reduceEq, xk B13 [2, 2, 1, 2, 2, 2] .sq rfl, show (nav B13 [1, 2, 2, 1, 2, 2, 2]) = Code.region 5 _ false from rfl, hk_13_5, hz_13_5, hs_13_5, bl_26, u_26, i_26, is_26, ib_26, iz_26, xk B13 [2, 2, 2, 1, 2, 2, 2] .rt rfl, finK_norm, finK_ret, fin13, R13_r.st, hc3, h6]
    · have hJ := f13_r_j2_ok k v4 false m2 m2_1 m2_2 m2_3 m2_4 m2_5 m2_6 m2_7 m2_8 m2_9 m2_10 m2_11 s1 _ hF
      simp (maxSteps := 999999) (disch := first | exact D (by decide) | exact K (by kernel_rfl)) only [EA, EE, EG, EF, ED, ofVal, ofVal1, ofCell, lenV, aggEqV, cellEq, intBin, isShift, V.ids, lendV, frz, flatV, cellsOf, addOff, firstReg, oneOf, cellsAt, isAggD, isPure, ↓reduceIte, reduceCtorEq, Nat.reduceAdd, Nat.reduceSub, Nat.reduceMul, Nat.reduceLeDiff, Nat.reduceEqDiff, Nat.reduceBEq, Int.reduceToNat, Int.reduceLE, Int.reduceLT, Nat.reduceLT, Int.reduceBEq, Int.reduceBNe, Int.reduceEq, String.reduceEq, xk B13 [3, 2, 1, 2, 2, 2] .sk rfl, hc3, h6]
      try simp only [NM, EE] at hJ
      exact hJ
  | o1 v7 v8 =>
    (try dsimp only at hF)
    (try simp only [NM, EE, R24_r.st] at hc3)
    simp (maxSteps := 999999) (disch := first | exact D (by decide) | exact K (by kernel_rfl)) only [EA, EE, EG, EF, ED, ofVal, ofVal1, ofCell, lenV, aggEqV, cellEq, intBin, isShift, V.ids, lendV, frz, flatV, cellsOf, addOff, firstReg, oneOf, cellsAt, isAggD, isPure, ↓reduceIte, reduceCtorEq, Nat.reduceAdd, Nat.reduceSub, Nat.reduceMul, Nat.reduceLeDiff, Nat.reduceEqDiff, Nat.reduceBEq, Int.reduceToNat, Int.reduceLE, Int.reduceLT, Nat.reduceLT, Int.reduceBEq, Int.reduceBNe, Int.reduceEq, String.reduceEq, xk B13 [2, 2, 2] .sq rfl, xk B13 [1, 2, 2, 2] .sq rfl, show (nav B13 [1, 1, 2, 2, 2]) = Code.region 4 _ false from rfl, hk_13_4, hz_13_4, hs_13_4, xk B13 [2, 1, 2, 2, 2] (.cd 18) rfl, hc3]
    replace hF := cond_some hF
    rcases hF with ⟨h9, hF⟩ | ⟨h9, hF⟩
    · cases hF
      simp (maxSteps := 999999) (disch := first | exact D (by decide) | exact K (by kernel_rfl)) only [EA, EE, EG, EF, ED, ofVal, ofVal1, ofCell, lenV, aggEqV, cellEq, intBin, isShift, V.ids, lendV, frz, flatV, cellsOf, addOff, firstReg, oneOf, cellsAt, isAggD, isPure, ↓reduceIte, reduceCtorEq, Nat.reduceAdd, Nat.reduceSub, Nat.reduceMul, Nat.reduceLeDiff, Nat.reduceEqDiff, Nat.reduceBEq, Int.reduceToNat, Int.reduceLE, Int.reduceLT, Nat.reduceLT, Int.reduceBEq, Int.reduceBNe, Int.reduceEq, String.reduceEq, xk B13 [2, 2, 1, 2, 2, 2] .sq rfl, show (nav B13 [1, 2, 2, 1, 2, 2, 2]) = Code.region 5 _ false from rfl, hk_13_5, hz_13_5, hs_13_5, bl_26, u_26, i_26, is_26, ib_26, iz_26, xk B13 [2, 2, 2, 1, 2, 2, 2] .rt rfl, finK_norm, finK_ret, fin13, R13_r.st, hc3, h9]
    · have hJ := f13_r_j2_ok k v8 false m2 m2_1 m2_2 m2_3 m2_4 m2_5 m2_6 m2_7 m2_8 m2_9 m2_10 m2_11 s1 _ hF
      simp (maxSteps := 999999) (disch := first | exact D (by decide) | exact K (by kernel_rfl)) only [EA, EE, EG, EF, ED, ofVal, ofVal1, ofCell, lenV, aggEqV, cellEq, intBin, isShift, V.ids, lendV, frz, flatV, cellsOf, addOff, firstReg, oneOf, cellsAt, isAggD, isPure, ↓reduceIte, reduceCtorEq, Nat.reduceAdd, Nat.reduceSub, Nat.reduceMul, Nat.reduceLeDiff, Nat.reduceEqDiff, Nat.reduceBEq, Int.reduceToNat, Int.reduceLE, Int.reduceLT, Nat.reduceLT, Int.reduceBEq, Int.reduceBNe, Int.reduceEq, String.reduceEq, xk B13 [3, 2, 1, 2, 2, 2] .sk rfl, hc3, h9]
      try simp only [NM, EE] at hJ
      exact hJ
noncomputable def f13_r_e (k : Nat) (a0 : List Int) : Option R13_r :=
  cond ((decide (((List.length a0) : Int) < 7)))
    (some (R13_r.o0 0 0 0 0 0 0 0 0 0 0 false [] 7 []))
    (f13_r_j1 k a0 false 0 0 0 0 0 0 0 0 0 0 false [] [])
theorem f13_r_e_ok (k : Nat) (a0 : List Int) (r : R13_r) (hF : f13_r_e k a0 = some r) : finK Try.prog Try.f13 0 (EX 13 k (nav B13 []) ({ n := 55, F := [(0, V.sl 1 (rowsOf (encI .u8) a0))], M := [] } : St)) = some r.st := by
  unfold f13_r_e at hF
  simp (maxSteps := 999999) (disch := first | exact D (by decide) | exact K (by kernel_rfl)) only [EA, EE, EG, EF, ED, ofVal, ofVal1, ofCell, lenV, aggEqV, cellEq, intBin, isShift, V.ids, lendV, frz, flatV, cellsOf, addOff, firstReg, oneOf, cellsAt, isAggD, isPure, ↓reduceIte, reduceCtorEq, Nat.reduceAdd, Nat.reduceSub, Nat.reduceMul, Nat.reduceLeDiff, Nat.reduceEqDiff, Nat.reduceBEq, Int.reduceToNat, Int.reduceLE, Int.reduceLT, Nat.reduceLT, Int.reduceBEq, Int.reduceBNe, Int.reduceEq, String.reduceEq, xk B13 [] .sq rfl, show (nav B13 [1]) = Code.region 0 _ false from rfl, hk_13_0, hz_13_0, hs_13_0, u_26, i_26, is_26, ib_26, iz_26, xk B13 [2] .sq rfl, xk B13 [1, 2] .sq rfl, show (nav B13 [1, 1, 2]) = Code.region 1 _ false from rfl, hk_13_1, hz_13_1, hs_13_1, u_23, i_23, is_23, ib_23, iz_23, xk B13 [2, 1, 2] (.cd 10) rfl]
  replace hF := cond_some hF
  rcases hF with ⟨h1, hF⟩ | ⟨h1, hF⟩
  · cases hF
    simp (maxSteps := 999999) (disch := first | exact D (by decide) | exact K (by kernel_rfl)) only [EA, EE, EG, EF, ED, ofVal, ofVal1, ofCell, lenV, aggEqV, cellEq, intBin, isShift, V.ids, lendV, frz, flatV, cellsOf, addOff, firstReg, oneOf, cellsAt, isAggD, isPure, ↓reduceIte, reduceCtorEq, Nat.reduceAdd, Nat.reduceSub, Nat.reduceMul, Nat.reduceLeDiff, Nat.reduceEqDiff, Nat.reduceBEq, Int.reduceToNat, Int.reduceLE, Int.reduceLT, Nat.reduceLT, Int.reduceBEq, Int.reduceBNe, Int.reduceEq, String.reduceEq, xk B13 [2, 2, 1, 2] .sq rfl, show (nav B13 [1, 2, 2, 1, 2]) = Code.region 2 _ false from rfl, hk_13_2, hz_13_2, hs_13_2, bl_26, u_26, i_26, is_26, ib_26, iz_26, xk B13 [2, 2, 2, 1, 2] .rt rfl, finK_norm, finK_ret, fin13, R13_r.st, h1]
  · have hJ := f13_r_j1_ok k a0 false 0 0 0 0 0 0 0 0 0 0 false [] [] _ hF
    simp (maxSteps := 999999) (disch := first | exact D (by decide) | exact K (by kernel_rfl)) only [EA, EE, EG, EF, ED, ofVal, ofVal1, ofCell, lenV, aggEqV, cellEq, intBin, isShift, V.ids, lendV, frz, flatV, cellsOf, addOff, firstReg, oneOf, cellsAt, isAggD, isPure, ↓reduceIte, reduceCtorEq, Nat.reduceAdd, Nat.reduceSub, Nat.reduceMul, Nat.reduceLeDiff, Nat.reduceEqDiff, Nat.reduceBEq, Int.reduceToNat, Int.reduceLE, Int.reduceLT, Nat.reduceLT, Int.reduceBEq, Int.reduceBNe, Int.reduceEq, String.reduceEq, xk B13 [3, 2, 1, 2] .sk rfl, h1]
    try simp only [NM, EE] at hJ
    exact hJ
noncomputable def f13_r (k : Nat) (a0 : List Int) : Option R13_r := match k with | 0 => none | k + 1 => f13_r_e k a0
theorem f13_r_ok (k : Nat) (a0 : List Int) (r : R13_r) (hF : f13_r k a0 = some r) : CV k 13 [V.sl 1 (rowsOf (encI .u8) a0)] [] = some r.st := by
  cases k with
  | zero => cases hF
  | succ k =>
    unfold CV
    rw [ev_call (F := Try.f13) (c := (nav B13 [])) rfl Try.func13 rfl rfl rfl]
    exact f13_r_e_ok k a0 r hF
-- f14_ai10brrz: f14 heliograph/segment.Size
inductive R14_ai10brrz where
  | o0 (y : Int)
noncomputable def R14_ai10brrz.st : R14_ai10brrz → V × List O × List O
  | .o0 y => (V.p (Value.int .i64 y), [], [])
noncomputable def f14_ai10brrz_e (k : Nat) (a0 : Int) (a0_1 : Int) (a0_2 : Int) (a0_3 : Int) (a0_4 : Int) (a0_5 : Int) (a0_6 : Int) (a0_7 : Int) (a0_8 : Int) (a0_9 : Int) (a0_10 : Bool) (a0_11 : List Int) (a0_12 : List T45) : Option R14_ai10brrz :=
  Option.bind (f12_ai10brrz k a0 a0_1 a0_2 a0_3 a0_4 a0_5 a0_6 a0_7 a0_8 a0_9 a0_10 a0_11 a0_12) fun o1 =>
    match o1 with
    | .o0 v4 v5 =>
      some (R14_ai10brrz.o0 ((List.length v5) : Int))
theorem f14_ai10brrz_e_ok (k : Nat) (a0 : Int) (a0_1 : Int) (a0_2 : Int) (a0_3 : Int) (a0_4 : Int) (a0_5 : Int) (a0_6 : Int) (a0_7 : Int) (a0_8 : Int) (a0_9 : Int) (a0_10 : Bool) (a0_11 : List Int) (a0_12 : List T45) (r : R14_ai10brrz) (hF : f14_ai10brrz_e k a0 a0_1 a0_2 a0_3 a0_4 a0_5 a0_6 a0_7 a0_8 a0_9 a0_10 a0_11 a0_12 = some r) : finK Try.prog Try.f14 0 (EX 14 k (nav B14 []) ({ n := 12, F := [(0, V.agg [V.p (Value.int .i64 a0), V.p (Value.int .i64 a0_1), V.p (Value.int .u32 a0_2), V.p (Value.int .u32 a0_3), V.p (Value.int .u32 a0_4), V.p (Value.int .i64 a0_5), V.p (Value.int .i64 a0_6), V.p (Value.int .i64 a0_7), V.p (Value.int .i64 a0_8), V.p (Value.int .i64 a0_9), V.p (Value.bool a0_10), V.sl 1 (rowsOf (encI .u8) a0_11), V.sl 2 (rowsOf encT45 a0_12)])], M := [] } : St)) = some r.st := by
  unfold f14_ai10brrz_e at hF
  replace hF := Option.bind_eq_some_iff.1 hF
  obtain ⟨o1, h2, hF⟩ := hF
  have hc3 := f12_ai10brrz_ok k a0 a0_1 a0_2 a0_3 a0_4 a0_5 a0_6 a0_7 a0_8 a0_9 a0_10 a0_11 a0_12 _ h2
  cases o1 with
  | o0 v4 v5 =>
    (try dsimp only at hF)
    (try simp only [NM, EE, R12_ai10brrz.st] at hc3)
    cases hF
    simp (maxSteps := 999999) (disch := first | exact D (by decide) | exact K (by kernel_rfl)) only [EA, EE, EG, EF, ED, ofVal, ofVal1, ofCell, lenV, aggEqV, cellEq, intBin, isShift, V.ids, lendV, frz, flatV, cellsOf, addOff, firstReg, oneOf, cellsAt, isAggD, isPure, ↓reduceIte, reduceCtorEq, Nat.reduceAdd, Nat.reduceSub, Nat.reduceMul, Nat.reduceLeDiff, Nat.reduceEqDiff, Nat.reduceBEq, Int.reduceToNat, Int.reduceLE, Int.reduceLT, Nat.reduceLT, Int.reduceBEq, Int.reduceBNe, Int.reduceEq, String.reduceEq, xk B14 [] .sq rfl, show (nav B14 [1]) = Code.region 0 _ false from rfl, hk_14_0, hz_14_0, hs_14_0, xk B14 [2] .sq rfl, show (nav B14 [1, 2]) = Code.region 1 _ false from rfl, hk_14_1, hz_14_1, hs_14_1, u_26, i_26, is_26, ib_26, iz_26, callStep, calleeOf, gv, List.contains, xk B14 [2, 2] .sq rfl, show (nav B14 [1, 2, 2]) = Code.region 2 _ false from rfl, hk_14_2, hz_14_2, hs_14_2, u_23, i_23, is_23, ib_23, iz_23, xk B14 [2, 2, 2] .rt rfl, finK_norm, finK_ret, fin14, R14_ai10brrz.st, hc3]
noncomputable def f14_ai10brrz (k : Nat) (a0 : Int) (a0_1 : Int) (a0_2 : Int) (a0_3 : Int) (a0_4 : Int) (a0_5 : Int) (a0_6 : Int) (a0_7 : Int) (a0_8 : Int) (a0_9 : Int) (a0_10 : Bool) (a0_11 : List Int) (a0_12 : List T45) : Option R14_ai10brrz := match k with | 0 => none | k + 1 => f14_ai10brrz_e k a0 a0_1 a0_2 a0_3 a0_4 a0_5 a0_6 a0_7 a0_8 a0_9 a0_10 a0_11 a0_12
theorem f14_ai10brrz_ok (k : Nat) (a0 : Int) (a0_1 : Int) (a0_2 : Int) (a0_3 : Int) (a0_4 : Int) (a0_5 : Int) (a0_6 : Int) (a0_7 : Int) (a0_8 : Int) (a0_9 : Int) (a0_10 : Bool) (a0_11 : List Int) (a0_12 : List T45) (r : R14_ai10brrz) (hF : f14_ai10brrz k a0 a0_1 a0_2 a0_3 a0_4 a0_5 a0_6 a0_7 a0_8 a0_9 a0_10 a0_11 a0_12 = some r) : CV k 14 [V.agg [V.p (Value.int .i64 a0), V.p (Value.int .i64 a0_1), V.p (Value.int .u32 a0_2), V.p (Value.int .u32 a0_3), V.p (Value.int .u32 a0_4), V.p (Value.int .i64 a0_5), V.p (Value.int .i64 a0_6), V.p (Value.int .i64 a0_7), V.p (Value.int .i64 a0_8), V.p (Value.int .i64 a0_9), V.p (Value.bool a0_10), V.sl 1 (rowsOf (encI .u8) a0_11), V.sl 2 (rowsOf encT45 a0_12)]] [] = some r.st := by
  cases k with
  | zero => cases hF
  | succ k =>
    unfold CV
    rw [ev_call (F := Try.f14) (c := (nav B14 [])) rfl Try.func14 rfl rfl rfl]
    exact f14_ai10brrz_e_ok k a0 a0_1 a0_2 a0_3 a0_4 a0_5 a0_6 a0_7 a0_8 a0_9 a0_10 a0_11 a0_12 r hF
-- f9_ai10brrzai10bnnz: f9 heliograph/segment.Same
inductive R9_ai10brrzai10bnnz where
  | o0 (y : Bool)
noncomputable def R9_ai10brrzai10bnnz.st : R9_ai10brrzai10bnnz → V × List O × List O
  | .o0 y => (V.p (Value.bool y), [], [])
noncomputable def f9_ai10brrzai10bnnz_e (k : Nat) (a0 : Int) (a0_1 : Int) (a0_2 : Int) (a0_3 : Int) (a0_4 : Int) (a0_5 : Int) (a0_6 : Int) (a0_7 : Int) (a0_8 : Int) (a0_9 : Int) (a0_10 : Bool) (a0_11 : List Int) (a0_12 : List T45) (a1 : Int) (a1_1 : Int) (a1_2 : Int) (a1_3 : Int) (a1_4 : Int) (a1_5 : Int) (a1_6 : Int) (a1_7 : Int) (a1_8 : Int) (a1_9 : Int) (a1_10 : Bool) : Option R9_ai10brrzai10bnnz :=
  Option.bind (f19_ai10brrz k a0 a0_1 a0_2 a0_3 a0_4 a0_5 a0_6 a0_7 a0_8 a0_9 a0_10 a0_11 a0_12) fun o1 =>
    match o1 with
    | .o0 v4 v5 v6 v7 v8 v9 v10 v11 v12 v13 v14 =>
      Option.bind (f19_ai10brrz k a1 a1_1 a1_2 a1_3 a1_4 a1_5 a1_6 a1_7 a1_8 a1_9 a1_10 [] []) fun o15 =>
        match o15 with
        | .o0 v18 v19 v20 v21 v22 v23 v24 v25 v26 v27 v28 =>
          cond (((v4 == v18) && ((v5 == v19) && ((v6 == v20) && ((v7 == v21) && ((v8 == v22) && ((v9 == v23) && ((v10 == v24) && ((v11 == v25) && ((v12 == v26) && ((v13 == v27) && (v14 == v28))))))))))))
            (
              Option.bind (f20_rr k a0_11 []) fun o30 =>
                match o30 with
                | .o0 v33 =>
                  cond (v33)
                    (
                      Option.bind (f21_rr k a0_12 []) fun o35 =>
                        match o35 with
                        | .o0 v38 =>
                          some (R9_ai10brrzai10bnnz.o0 v38))
                    (some (R9_ai10brrzai10bnnz.o0 false)))
            (some (R9_ai10brrzai10bnnz.o0 false))
theorem f9_ai10brrzai10bnnz_e_ok (k : Nat) (a0 : Int) (a0_1 : Int) (a0_2 : Int) (a0_3 : Int) (a0_4 : Int) (a0_5 : Int) (a0_6 : Int) (a0_7 : Int) (a0_8 : Int) (a0_9 : Int) (a0_10 : Bool) (a0_11 : List Int) (a0_12 : List T45) (a1 : Int) (a1_1 : Int) (a1_2 : Int) (a1_3 : Int) (a1_4 : Int) (a1_5 : Int) (a1_6 : Int) (a1_7 : Int) (a1_8 : Int) (a1_9 : Int) (a1_10 : Bool) (r : R9_ai10brrzai10bnnz) (hF : f9_ai10brrzai10bnnz_e k a0 a0_1 a0_2 a0_3 a0_4 a0_5 a0_6 a0_7 a0_8 a0_9 a0_10 a0_11 a0_12 a1 a1_1 a1_2 a1_3 a1_4 a1_5 a1_6 a1_7 a1_8 a1_9 a1_10 = some r) : finK Try.prog Try.f9 0 (EX 9 k (nav B9 []) ({ n := 27, F := [(0, V.agg [V.p (Value.int .i64 a0), V.p (Value.int .i64 a0_1), V.p (Value.int .u32 a0_2), V.p (Value.int .u32 a0_3), V.p (Value.int .u32 a0_4), V.p (Value.int .i64 a0_5), V.p (Value.int .i64 a0_6), V.p (Value.int .i64 a0_7), V.p (Value.int .i64 a0_8), V.p (Value.int .i64 a0_9), V.p (Value.bool a0_10), V.sl 1 (rowsOf (encI .u8) a0_11), V.sl 2 (rowsOf encT45 a0_12)]), (1, V.agg [V.p (Value.int .i64 a1), V.p (Value.int .i64 a1_1), V.p (Value.int .u32 a1_2), V.p (Value.int .u32 a1_3), V.p (Value.int .u32 a1_4), V.p (Value.int .i64 a1_5), V.p (Value.int .i64 a1_6), V.p (Value.int .i64 a1_7), V.p (Value.int .i64 a1_8), V.p (Value.int .i64 a1_9), V.p (Value.bool a1_10), V.nil, V.nil])], M := [] } : St)) = some r.st := by
  unfold f9_ai10brrzai10bnnz_e at hF
  replace hF := Option.bind_eq_some_iff.1 hF
  obtain ⟨o1, h2, hF⟩ := hF
  have hc3 := f19_ai10brrz_ok k a0 a0_1 a0_2 a0_3 a0_4 a0_5 a0_6 a0_7 a0_8 a0_9 a0_10 a0_11 a0_12 _ h2
  cases o1 with
  | o0 v4 v5 v6 v7 v8 v9 v10 v11 v12 v13 v14 =>
    (try dsimp only at hF)
    (try simp only [NM, EE, R19_ai10brrz.st] at hc3)
    replace hF := Option.bind_eq_some_iff.1 hF
    obtain ⟨o15, h16, hF⟩ := hF
    have hc17 := f19_ai10brrz_ok k a1 a1_1 a1_2 a1_3 a1_4 a1_5 a1_6 a1_7 a1_8 a1_9 a1_10 [] [] _ h16
    cases o15 with
    | o0 v18 v19 v20 v21 v22 v23 v24 v25 v26 v27 v28 =>
      (try dsimp only at hF)
      (try simp only [NM, EE, R19_ai10brrz.st] at hc17)
      simp (maxSteps := 999999) (disch := first | exact D (by decide) | exact K (by kernel_rfl)) only [EA, EE, EG, EF, ED, ofVal, ofVal1, ofCell, lenV, aggEqV, cellEq, intBin, isShift, V.ids, lendV, frz, flatV, cellsOf, addOff, firstReg, oneOf, cellsAt, isAggD, isPure, ↓reduceIte, reduceCtorEq, Nat.reduceAdd, Nat.reduceSub, Nat.reduceMul, Nat.reduceLeDiff, Nat.reduceEqDiff, Nat.reduceBEq, Int.reduceToNat, Int.reduceLE, Int.reduceLT, Nat.reduceLT, Int.reduceBEq, Int.reduceBNe, Int.reduceEq, String.reduceEq, xk B9 [] .sq rfl, show (nav B9 [1]) = Code.region 0 _ false from rfl, hk_9_0, hz_9_0, hs_9_0, xk B9 [2] .sq rfl, show (nav B9 [1, 2]) = Code.region 1 _ false from rfl, hk_9_1, hz_9_1, hs_9_1, xk B9 [2, 2] .sq rfl, show (nav B9 [1, 2, 2]) = Code.region 2 _ true from rfl, hk_9_2, hz_9_2, hs_9_2, u_26, i_26, is_26, ib_26, iz_26, callStep, calleeOf, gv, List.contains, u_47, i_47, is_47, ib_47, iz_47, ag_47, u_3, i_3, is_3, ib_3, iz_3, u_22, i_22, is_22, ib_22, iz_22, u_4, i_4, is_4, ib_4, iz_4, hc3, hc17]
      replace hF := cond_some hF
      rcases hF with ⟨h29, hF⟩ | ⟨h29, hF⟩
      · replace hF := Option.bind_eq_some_iff.1 hF
        obtain ⟨o30, h31, hF⟩ := hF
        have hc32 := f20_rr_ok k a0_11 [] _ h31
        cases o30 with
        | o0 v33 =>
          (try dsimp only at hF)
          (try simp only [NM, EE, R20_rr.st] at hc32)
          simp (maxSteps := 999999) (disch := first | exact D (by decide) | exact K (by kernel_rfl)) only [EA, EE, EG, EF, ED, ofVal, ofVal1, ofCell, lenV, aggEqV, cellEq, intBin, isShift, V.ids, lendV, frz, flatV, cellsOf, addOff, firstReg, oneOf, cellsAt, isAggD, isPure, ↓reduceIte, reduceCtorEq, Nat.reduceAdd, Nat.reduceSub, Nat.reduceMul, Nat.reduceLeDiff, Nat.reduceEqDiff, Nat.reduceBEq, Int.reduceToNat, Int.reduceLE, Int.reduceLT, Nat.reduceLT, Int.reduceBEq, Int.reduceBNe, Int.reduceEq, String.reduceEq, fieldAddrV, u_26, i_26, is_26, ib_26, iz_26, u_23, i_23, is_23, ib_23, iz_23, callStep, calleeOf, gv, List.contains, hc3, hc17, h29, hc32]
          replace hF := cond_some hF
          rcases hF with ⟨h34, hF⟩ | ⟨h34, hF⟩
          · replace hF := Option.bind_eq_some_iff.1 hF
            obtain ⟨o35, h36, hF⟩ := hF
            have hc37 := f21_rr_ok k a0_12 [] _ h36
            cases o35 with
            | o0 v38 =>
              (try dsimp only at hF)
              (try simp only [NM, EE, R21_rr.st] at hc37)
              cases hF
              simp (maxSteps := 999999) (disch := first | exact D (by decide) | exact K (by kernel_rfl)) only [EA, EE, EG, EF, ED, ofVal, ofVal1, ofCell, lenV, aggEqV, cellEq, intBin, isShift, V.ids, lendV, frz, flatV, cellsOf, addOff, firstReg, oneOf, cellsAt, isAggD, isPure, ↓reduceIte, reduceCtorEq, Nat.reduceAdd, Nat.reduceSub, Nat.reduceMul, Nat.reduceLeDiff, Nat.reduceEqDiff, Nat.reduceBEq, Int.reduceToNat, Int.reduceLE, Int.reduceLT, Nat.reduceLT, Int.reduceBEq, Int.reduceBNe, Int.reduceEq, String.reduceEq, fieldAddrV, u_26, i_26, is_26, ib_26, iz_26, u_24, i_24, is_24, ib_24, iz_24, callStep, calleeOf, gv, List.contains, xk B9 [2, 2, 2] .rt rfl, finK_norm, finK_ret, fin9, R9_ai10brrzai10bnnz.st, hc3, hc17, h29, hc32, h34, hc37]
          · cases hF
            simp (maxSteps := 999999) (disch := first | exact D (by decide) | exact K (by kernel_rfl)) only [EA, EE, EG, EF, ED, ofVal, ofVal1, ofCell, lenV, aggEqV, cellEq, intBin, isShift, V.ids, lendV, frz, flatV, cellsOf, addOff, firstReg, oneOf, cellsAt, isAggD, isPure, ↓reduceIte, reduceCtorEq, Nat.reduceAdd, Nat.reduceSub, Nat.reduceMul, Nat.reduceLeDiff, Nat.reduceEqDiff, Nat.reduceBEq, Int.reduceToNat, Int.reduceLE, Int.reduceLT, Nat.reduceLT, Int.reduceBEq, Int.reduceBNe, Int.reduceEq, String.reduceEq, xk B9 [2, 2, 2] .rt rfl, finK_norm, finK_ret, fin9, R9_ai10brrzai10bnnz.st, hc3, hc17, h29, hc32, h34]
      · cases hF
        simp (maxSteps := 999999) (disch := first | exact D (by decide) | exact K (by kernel_rfl)) only [EA, EE, EG, EF, ED, ofVal, ofVal1, ofCell, lenV, aggEqV, cellEq, intBin, isShift, V.ids, lendV, frz, flatV, cellsOf, addOff, firstReg, oneOf, cellsAt, isAggD, isPure, ↓reduceIte, reduceCtorEq, Nat.reduceAdd, Nat.reduceSub, Nat.reduceMul, Nat.reduceLeDiff, Nat.reduceEqDiff, Nat.reduceBEq, Int.reduceToNat, Int.reduceLE, Int.reduceLT, Nat.reduceLT, Int.reduceBEq, Int.reduceBNe, Int.reduceEq, String.reduceEq, xk B9 [2, 2, 2] .rt rfl, finK_norm, finK_ret, fin9, R9_ai10brrzai10bnnz.st, hc3, hc17, h29]
noncomputable def f9_ai10brrzai10bnnz (k : Nat) (a0 : Int) (a0_1 : Int) (a0_2 : Int) (a0_3 : Int) (a0_4 : Int) (a0_5 : Int) (a0_6 : Int) (a0_7 : Int) (a0_8 : Int) (a0_9 : Int) (a0_10 : Bool) (a0_11 : List Int) (a0_12 : List T45) (a1 : Int) (a1_1 : Int) (a1_2 : Int) (a1_3 : Int) (a1_4 : Int) (a1_5 : Int) (a1_6 : Int) (a1_7 : Int) (a1_8 : Int) (a1_9 : Int) (a1_10 : Bool) : Option R9_ai10brrzai10bnnz := match k with | 0 => none | k + 1 => f9_ai10brrzai10bnnz_e k a0 a0_1 a0_2 a0_3 a0_4 a0_5 a0_6 a0_7 a0_8 a0_9 a0_10 a0_11 a0_12 a1 a1_1 a1_2 a1_3 a1_4 a1_5 a1_6 a1_7 a1_8 a1_9 a1_10
theorem f9_ai10brrzai10bnnz_ok (k : Nat) (a0 : Int) (a0_1 : Int) (a0_2 : Int) (a0_3 : Int) (a0_4 : Int) (a0_5 : Int) (a0_6 : Int) (a0_7 : Int) (a0_8 : Int) (a0_9 : Int) (a0_10 : Bool) (a0_11 : List Int) (a0_12 : List T45) (a1 : Int) (a1_1 : Int) (a1_2 : Int) (a1_3 : Int) (a1_4 : Int) (a1_5 : Int) (a1_6 : Int) (a1_7 : Int) (a1_8 : Int) (a1_9 : Int) (a1_10 : Bool) (r : R9_ai10brrzai10bnnz) (hF : f9_ai10brrzai10bnnz k a0 a0_1 a0_2 a0_3 a0_4 a0_5 a0_6 a0_7 a0_8 a0_9 a0_10 a0_11 a0_12 a1 a1_1 a1_2 a1_3 a1_4 a1_5 a1_6 a1_7 a1_8 a1_9 a1_10 = some r) : CV k 9 [V.agg [V.p (Value.int .i64 a0), V.p (Value.int .i64 a0_1), V.p (Value.int .u32 a0_2), V.p (Value.int .u32 a0_3), V.p (Value.int .u32 a0_4), V.p (Value.int .i64 a0_5), V.p (Value.int .i64 a0_6), V.p (Value.int .i64 a0_7), V.p (Value.int .i64 a0_8), V.p (Value.int .i64 a0_9), V.p (Value.bool a0_10), V.sl 1 (rowsOf (encI .u8) a0_11), V.sl 2 (rowsOf encT45 a0_12)], V.agg [V.p (Value.int .i64 a1), V.p (Value.int .i64 a1_1), V.p (Value.int .u32 a1_2), V.p (Value.int .u32 a1_3), V.p (Value.int .u32 a1_4), V.p (Value.int .i64 a1_5), V.p (Value.int .i64 a1_6), V.p (Value.int .i64 a1_7), V.p (Value.int .i64 a1_8), V.p (Value.int .i64 a1_9), V.p (Value.bool a1_10), V.nil, V.nil]] [] = some r.st := by
  cases k with
  | zero => cases hF
  | succ k =>
    unfold CV
    rw [ev_call (F := Try.f9) (c := (nav B9 [])) rfl Try.func9 rfl rfl rfl]
    exact f9_ai10brrzai10bnnz_e_ok k a0 a0_1 a0_2 a0_3 a0_4 a0_5 a0_6 a0_7 a0_8 a0_9 a0_10 a0_11 a0_12 a1 a1_1 a1_2 a1_3 a1_4 a1_5 a1_6 a1_7 a1_8 a1_9 a1_10 r hF
-- f16_rr: f16 bytes.Equal
inductive R16_rr where
  | o0 (y : Bool)
noncomputable def R16_rr.st : R16_rr → V × List O × List O
  | .o0 y => (V.p (Value.bool y), [], [])
noncomputable def f16_rr_e (k : Nat) (a0 : List Int) (a1 : List Int) : Option R16_rr :=
  some (R16_rr.o0 (((strOf a0).toList == (strOf a1).toList)))
theorem f16_rr_e_ok (k : Nat) (a0 : List Int) (a1 : List Int) (r : R16_rr) (hF : f16_rr_e k a0 a1 = some r) : finK Try.prog Try.f16 0 (EX 16 k (nav B16 []) ({ n := 10, F := [(0, V.sl 1 (rowsOf (encI .u8) a0)), (1, V.sl 1 (rowsOf (encI .u8) a1))], M := [] } : St)) = some r.st := by
  unfold f16_rr_e at hF
  cases hF
  simp (maxSteps := 999999) (disch := first | exact D (by decide) | exact K (by kernel_rfl)) only [EA, EE, EG, EF, ED, ofVal, ofVal1, ofCell, lenV, aggEqV, cellEq, intBin, isShift, V.ids, lendV, frz, flatV, cellsOf, addOff, firstReg, oneOf, cellsAt, isAggD, isPure, ↓reduceIte, reduceCtorEq, Nat.reduceAdd, Nat.reduceSub, Nat.reduceMul, Nat.reduceLeDiff, Nat.reduceEqDiff, Nat.reduceBEq, Int.reduceToNat, Int.reduceLE, Int.reduceLT, Nat.reduceLT, Int.reduceBEq, Int.reduceBNe, Int.reduceEq, String.reduceEq, xk B16 [] .sq rfl, show (nav B16 [1]) = Code.region 0 _ false from rfl, hk_16_0, hz_16_0, hs_16_0, xk B16 [2] .sq rfl, show (nav B16 [1, 2]) = Code.region 1 _ false from rfl, hk_16_1, hz_16_1, hs_16_1, u_23, i_23, is_23, ib_23, iz_23, u_9, i_9, is_9, ib_9, iz_9, strV, content, strRows_map, u_5, i_5, is_5, ib_5, iz_5, xk B16 [2, 2] .rt rfl, finK_norm, finK_ret, fin16, R16_rr.st]
noncomputable def f16_rr (k : Nat) (a0 : List Int) (a1 : List Int) : Option R16_rr := match k with | 0 => none | k + 1 => f16_rr_e k a0 a1
theorem f16_rr_ok (k : Nat) (a0 : List Int) (a1 : List Int) (r : R16_rr) (hF : f16_rr k a0 a1 = some r) : CV k 16 [V.sl 1 (rowsOf (encI .u8) a0), V.sl 1 (rowsOf (encI .u8) a1)] [] = some r.st := by
  cases k with
  | zero => cases hF
  | succ k =>
    unfold CV
    rw [ev_call (F := Try.f16) (c := (nav B16 [])) rfl Try.func16 rfl rfl rfl]
    exact f16_rr_e_ok k a0 a1 r hF
end Go.Proofs.YthjefcamonmjpaaV
