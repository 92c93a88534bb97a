/- What the program's functions answer: plain functions, and that the interpreter answers what they do. Written by a program of this session, out of the translation. -/
import Derived.Test.YthjefcamonmjpaaVP5
namespace Go.Proofs.YthjefcamonmjpaaV
open Go
set_option linter.unusedVariables false
set_option linter.unusedSimpArgs false
set_option maxRecDepth 8000
set_option maxHeartbeats 4000000
-- f12_ai10brrz: f12 heliograph/segment.Encode
inductive R12_ai10brrz where
  | o0 (y : Int) (y_1 : List Int)
noncomputable def R12_ai10brrz.st : R12_ai10brrz → V × List O × List O
  | .o0 y y_1 => (V.tup [V.own 2000000, V.p (Value.int .i64 y)], [], [O.row true 1 5 (rowsOf (encI .u8) y_1)])
noncomputable def f12_ai10brrz_j3 (k : Nat) (m59 : List Int) : Option R12_ai10brrz :=
  Option.bind (f23_r k m59) fun o1 =>
    match o1 with
    | .o0 v4 =>
      some (R12_ai10brrz.o0 0 v4)
theorem f12_ai10brrz_j3_ok (k : Nat) (m59 : List Int) (r : R12_ai10brrz) (hF : f12_ai10brrz_j3 k m59 = some r) : finK Try.prog Try.f12 0 (EX 12 k (nav B12 [2, 2, 2, 2, 2]) ({ n := 116, F := [(5, V.ptr 18 0)], M := [(18, O.box 52 [V.own 59]), (59, O.row true 1 5 (rowsOf (encI .u8) m59))] } : St)) = some r.st := by
  unfold f12_ai10brrz_j3 at hF
  replace hF := Option.bind_eq_some_iff.1 hF
  obtain ⟨o1, h2, hF⟩ := hF
  have hc3 := f23_r_ok k m59 _ h2
  cases o1 with
  | o0 v4 =>
    (try dsimp only at hF)
    (try simp only [NM, EE, R23_r.st] at hc3)
    cases hF
    simp (maxSteps := 999999) (disch := first | exact D (by decide) | exact K (by kernel_rfl)) only [EA, EE, EG, EF, ED, ofVal, ofVal1, ofCell, lenV, aggEqV, cellEq, intBin, isShift, V.ids, lendV, frz, flatV, cellsOf, addOff, firstReg, oneOf, cellsAt, isAggD, isPure, ↓reduceIte, reduceCtorEq, Nat.reduceAdd, Nat.reduceSub, Nat.reduceMul, Nat.reduceLeDiff, Nat.reduceEqDiff, Nat.reduceBEq, Int.reduceToNat, Int.reduceLE, Int.reduceLT, Nat.reduceLT, Int.reduceBEq, Int.reduceBNe, Int.reduceEq, String.reduceEq, xk B12 [2, 2, 2, 2, 2] .sq rfl, show (nav B12 [1, 2, 2, 2, 2, 2]) = Code.region 25 _ false from rfl, hk_12_25, hz_12_25, hs_12_25, fieldAddrV, u_52, i_52, is_52, ib_52, iz_52, u_23, i_23, is_23, ib_23, iz_23, callStep, calleeOf, gv, List.contains, xk B12 [2, 2, 2, 2, 2, 2] .rt rfl, finK_norm, finK_ret, fin12, R12_ai10brrz.st, hc3]
noncomputable def f12_ai10brrz_j2 (k : Nat) (m1 : Int) (m1_1 : Int) (m1_2 : Int) (m1_3 : Int) (m1_4 : Int) (m1_5 : Int) (m1_6 : Int) (m1_7 : Int) (m1_8 : Int) (m1_9 : Int) (m1_10 : Bool) (m1_11 : List Int) (m1_12 : List T45) (m16 : List Int) : Option R12_ai10brrz :=
  Option.bind (f22_pr_bow k ([m1_5, m1_6, ((List.length m1_11) : Int)] : List Int) m16) fun o3 =>
    match o3 with
    | .o0 v6 =>
      ifE (((List.length v6) + (List.length m1_11)) ≤ roomy) (
        f12_ai10brrz_j3 k (v6 ++ m1_11))
    | .o1 v8 v9 =>
      ifE (((List.length v9) + (List.length m1_11)) ≤ roomy) (
        f12_ai10brrz_j3 k (v9 ++ m1_11))
theorem f12_ai10brrz_j2_ok (k : Nat) (m1 : Int) (m1_1 : Int) (m1_2 : Int) (m1_3 : Int) (m1_4 : Int) (m1_5 : Int) (m1_6 : Int) (m1_7 : Int) (m1_8 : Int) (m1_9 : Int) (m1_10 : Bool) (m1_11 : List Int) (m1_12 : List T45) (m16 : List Int) (r : R12_ai10brrz) (hF : f12_ai10brrz_j2 k m1 m1_1 m1_2 m1_3 m1_4 m1_5 m1_6 m1_7 m1_8 m1_9 m1_10 m1_11 m1_12 m16 = some r) : finK Try.prog Try.f12 0 (SQ 12 k (nav B12 [2, 2, 2, 2, 2]) (blockK 0 (EX 12 k (nav B12 [2, 2, 2, 2, 2, 1, 2, 2, 2, 2]) ({ n := 116, F := [(1, V.ptr 1 0), (5, V.ptr 18 0)], M := [(1, O.box 26 [V.p (Value.int .i64 m1), V.p (Value.int .i64 m1_1), V.p (Value.int .u32 m1_2), V.p (Value.int .u32 m1_3), V.p (Value.int .u32 m1_4), V.p (Value.int .i64 m1_5), V.p (Value.int .i64 m1_6), V.p (Value.int .i64 m1_7), V.p (Value.int .i64 m1_8), V.p (Value.int .i64 m1_9), V.p (Value.bool m1_10), V.sl 1 (rowsOf (encI .u8) m1_11), V.sl 2 (rowsOf encT45 m1_12)]), (18, O.box 52 [V.own 16]), (16, O.row true 1 5 (rowsOf (encI .u8) m16))] } : St)))) = some r.st := by
  unfold f12_ai10brrz_j2 at hF
  have q1 : [[V.p (Value.int .i64 m1_5)], [V.p (Value.int .i64 m1_6)], [V.p (Value.int .i64 ((List.length m1_11) : Int))]] = rowsOf (encI .i64) ([m1_5, m1_6, ((List.length m1_11) : Int)] : List Int) := rfl
  have q2 : List.map (tell [0]) (rowsOf (encI .i64) ([m1_5, m1_6, ((List.length m1_11) : Int)] : List Int)) = rowsOf (encI .i64) ([m1_5, m1_6, ((List.length m1_11) : Int)] : List Int) := rfl
  simp (maxSteps := 999999) (disch := first | exact D (by decide) | exact K (by kernel_rfl)) only [EA, EE, EG, EF, ED, ofVal, ofVal1, ofCell, lenV, aggEqV, cellEq, intBin, isShift, V.ids, lendV, frz, flatV, cellsOf, addOff, firstReg, oneOf, cellsAt, isAggD, isPure, ↓reduceIte, reduceCtorEq, Nat.reduceAdd, Nat.reduceSub, Nat.reduceMul, Nat.reduceLeDiff, Nat.reduceEqDiff, Nat.reduceBEq, Int.reduceToNat, Int.reduceLE, Int.reduceLT, Nat.reduceLT, Int.reduceBEq, Int.reduceBNe, Int.reduceEq, String.reduceEq, xk B12 [2, 2, 2, 2, 2, 1, 2, 2, 2, 2] .sq rfl, show (nav B12 [1, 2, 2, 2, 2, 2, 1, 2, 2, 2, 2]) = Code.region 11 _ false from rfl, hk_12_11, hz_12_11, hs_12_11, fieldAddrV, u_26, i_26, is_26, ib_26, iz_26, u_3, i_3, is_3, ib_3, iz_3, u_23, i_23, is_23, ib_23, iz_23, buildSliceV, fillRows, sm_3, u_63, i_63, is_63, ib_63, iz_63, callStep, calleeOf, gv, List.contains, q1, q2]
  replace hF := Option.bind_eq_some_iff.1 hF
  obtain ⟨o3, h4, hF⟩ := hF
  have hc5 := f22_pr_bow_ok k ([m1_5, m1_6, ((List.length m1_11) : Int)] : List Int) m16 _ h4
  cases o3 with
  | o0 v6 =>
    (try dsimp only at hF)
    (try simp only [NM, EE, R22_pr_bow.st] at hc5)
    replace hF := ifE_some.1 hF
    obtain ⟨h7, hF⟩ := hF
    have hJ := f12_ai10brrz_j3_ok k (v6 ++ m1_11) _ hF
    simp (maxSteps := 999999) (disch := first | exact D (by decide) | exact K (by kernel_rfl)) only [EA, EE, EG, EF, ED, ofVal, ofVal1, ofCell, lenV, aggEqV, cellEq, intBin, isShift, V.ids, lendV, frz, flatV, cellsOf, addOff, firstReg, oneOf, cellsAt, isAggD, isPure, ↓reduceIte, reduceCtorEq, Nat.reduceAdd, Nat.reduceSub, Nat.reduceMul, Nat.reduceLeDiff, Nat.reduceEqDiff, Nat.reduceBEq, Int.reduceToNat, Int.reduceLE, Int.reduceLT, Nat.reduceLT, Int.reduceBEq, Int.reduceBNe, Int.reduceEq, String.reduceEq, show (nav B12 [2, 2, 2, 2, 2, 2, 1, 2, 2, 2, 2]) = Code.region 12 _ true from rfl, hk_12_12, hz_12_12, hs_12_12, fieldAddrV, u_52, i_52, is_52, ib_52, iz_52, u_23, i_23, is_23, ib_23, iz_23, u_26, i_26, is_26, ib_26, iz_26, appendV, content, u_5, i_5, is_5, ib_5, iz_5, q1, q2, hc5, h7]
    try simp only [NM, EE] at hJ
    exact hJ
  | o1 v8 v9 =>
    (try dsimp only at hF)
    (try simp only [NM, EE, R22_pr_bow.st] at hc5)
    replace hF := ifE_some.1 hF
    obtain ⟨h10, hF⟩ := hF
    have hJ := f12_ai10brrz_j3_ok k (v9 ++ m1_11) _ hF
    simp (maxSteps := 999999) (disch := first | exact D (by decide) | exact K (by kernel_rfl)) only [EA, EE, EG, EF, ED, ofVal, ofVal1, ofCell, lenV, aggEqV, cellEq, intBin, isShift, V.ids, lendV, frz, flatV, cellsOf, addOff, firstReg, oneOf, cellsAt, isAggD, isPure, ↓reduceIte, reduceCtorEq, Nat.reduceAdd, Nat.reduceSub, Nat.reduceMul, Nat.reduceLeDiff, Nat.reduceEqDiff, Nat.reduceBEq, Int.reduceToNat, Int.reduceLE, Int.reduceLT, Nat.reduceLT, Int.reduceBEq, Int.reduceBNe, Int.reduceEq, String.reduceEq, show (nav B12 [2, 2, 2, 2, 2, 2, 1, 2, 2, 2, 2]) = Code.region 12 _ true from rfl, hk_12_12, hz_12_12, hs_12_12, fieldAddrV, u_52, i_52, is_52, ib_52, iz_52, u_23, i_23, is_23, ib_23, iz_23, u_26, i_26, is_26, ib_26, iz_26, appendV, content, u_5, i_5, is_5, ib_5, iz_5, q1, q2, hc5, h10]
    try simp only [NM, EE] at hJ
    exact hJ
noncomputable def f12_ai10brrz_j4 (k : Nat) (m1 : Int) (m1_1 : Int) (m1_2 : Int) (m1_3 : Int) (m1_4 : Int) (m1_5 : Int) (m1_6 : Int) (m1_7 : Int) (m1_8 : Int) (m1_9 : Int) (m1_10 : Bool) (m1_11 : List Int) (m1_12 : List T45) (m38 : List Int) : Option R12_ai10brrz :=
  Option.bind (f22_pr_bow k ([m1_5, m1_6, ((List.length m1_11) : Int)] : List Int) m38) fun o3 =>
    match o3 with
    | .o0 v6 =>
      ifE (((List.length v6) + (List.length m1_11)) ≤ roomy) (
        f12_ai10brrz_j3 k (v6 ++ m1_11))
    | .o1 v8 v9 =>
      ifE (((List.length v9) + (List.length m1_11)) ≤ roomy) (
        f12_ai10brrz_j3 k (v9 ++ m1_11))
theorem f12_ai10brrz_j4_ok (k : Nat) (m1 : Int) (m1_1 : Int) (m1_2 : Int) (m1_3 : Int) (m1_4 : Int) (m1_5 : Int) (m1_6 : Int) (m1_7 : Int) (m1_8 : Int) (m1_9 : Int) (m1_10 : Bool) (m1_11 : List Int) (m1_12 : List T45) (m38 : List Int) (r : R12_ai10brrz) (hF : f12_ai10brrz_j4 k m1 m1_1 m1_2 m1_3 m1_4 m1_5 m1_6 m1_7 m1_8 m1_9 m1_10 m1_11 m1_12 m38 = some r) : finK Try.prog Try.f12 0 (SQ 12 k (nav B12 [2, 2, 2, 2, 2]) (blockK 0 (EX 12 k (nav B12 [2, 2, 2, 2, 2, 1, 2, 2, 2, 2]) ({ n := 116, F := [(1, V.ptr 1 0), (5, V.ptr 18 0)], M := [(1, O.box 26 [V.p (Value.int .i64 m1), V.p (Value.int .i64 m1_1), V.p (Value.int .u32 m1_2), V.p (Value.int .u32 m1_3), V.p (Value.int .u32 m1_4), V.p (Value.int .i64 m1_5), V.p (Value.int .i64 m1_6), V.p (Value.int .i64 m1_7), V.p (Value.int .i64 m1_8), V.p (Value.int .i64 m1_9), V.p (Value.bool m1_10), V.sl 1 (rowsOf (encI .u8) m1_11), V.sl 2 (rowsOf encT45 m1_12)]), (18, O.box 52 [V.own 38]), (38, O.row true 1 5 (rowsOf (encI .u8) m38))] } : St)))) = some r.st := by
  unfold f12_ai10brrz_j4 at hF
  have q1 : [[V.p (Value.int .i64 m1_5)], [V.p (Value.int .i64 m1_6)], [V.p (Value.int .i64 ((List.length m1_11) : Int))]] = rowsOf (encI .i64) ([m1_5, m1_6, ((List.length m1_11) : Int)] : List Int) := rfl
  have q2 : List.map (tell [0]) (rowsOf (encI .i64) ([m1_5, m1_6, ((List.length m1_11) : Int)] : List Int)) = rowsOf (encI .i64) ([m1_5, m1_6, ((List.length m1_11) : Int)] : List Int) := rfl
  simp (maxSteps := 999999) (disch := first | exact D (by decide) | exact K (by kernel_rfl)) only [EA, EE, EG, EF, ED, ofVal, ofVal1, ofCell, lenV, aggEqV, cellEq, intBin, isShift, V.ids, lendV, frz, flatV, cellsOf, addOff, firstReg, oneOf, cellsAt, isAggD, isPure, ↓reduceIte, reduceCtorEq, Nat.reduceAdd, Nat.reduceSub, Nat.reduceMul, Nat.reduceLeDiff, Nat.reduceEqDiff, Nat.reduceBEq, Int.reduceToNat, Int.reduceLE, Int.reduceLT, Nat.reduceLT, Int.reduceBEq, Int.reduceBNe, Int.reduceEq, String.reduceEq, xk B12 [2, 2, 2, 2, 2, 1, 2, 2, 2, 2] .sq rfl, show (nav B12 [1, 2, 2, 2, 2, 2, 1, 2, 2, 2, 2]) = Code.region 11 _ false from rfl, hk_12_11, hz_12_11, hs_12_11, fieldAddrV, u_26, i_26, is_26, ib_26, iz_26, u_3, i_3, is_3, ib_3, iz_3, u_23, i_23, is_23, ib_23, iz_23, buildSliceV, fillRows, sm_3, u_63, i_63, is_63, ib_63, iz_63, callStep, calleeOf, gv, List.contains, q1, q2]
  replace hF := Option.bind_eq_some_iff.1 hF
  obtain ⟨o3, h4, hF⟩ := hF
  have hc5 := f22_pr_bow_ok k ([m1_5, m1_6, ((List.length m1_11) : Int)] : List Int) m38 _ h4
  cases o3 with
  | o0 v6 =>
    (try dsimp only at hF)
    (try simp only [NM, EE, R22_pr_bow.st] at hc5)
    replace hF := ifE_some.1 hF
    obtain ⟨h7, hF⟩ := hF
    have hJ := f12_ai10brrz_j3_ok k (v6 ++ m1_11) _ hF
    simp (maxSteps := 999999) (disch := first | exact D (by decide) | exact K (by kernel_rfl)) only [EA, EE, EG, EF, ED, ofVal, ofVal1, ofCell, lenV, aggEqV, cellEq, intBin, isShift, V.ids, lendV, frz, flatV, cellsOf, addOff, firstReg, oneOf, cellsAt, isAggD, isPure, ↓reduceIte, reduceCtorEq, Nat.reduceAdd, Nat.reduceSub, Nat.reduceMul, Nat.reduceLeDiff, Nat.reduceEqDiff, Nat.reduceBEq, Int.reduceToNat, Int.reduceLE, Int.reduceLT, Nat.reduceLT, Int.reduceBEq, Int.reduceBNe, Int.reduceEq, String.reduceEq, show (nav B12 [2, 2, 2, 2, 2, 2, 1, 2, 2, 2, 2]) = Code.region 12 _ true from rfl, hk_12_12, hz_12_12, hs_12_12, fieldAddrV, u_52, i_52, is_52, ib_52, iz_52, u_23, i_23, is_23, ib_23, iz_23, u_26, i_26, is_26, ib_26, iz_26, appendV, content, u_5, i_5, is_5, ib_5, iz_5, q1, q2, hc5, h7]
    try simp only [NM, EE] at hJ
    exact hJ
  | o1 v8 v9 =>
    (try dsimp only at hF)
    (try simp only [NM, EE, R22_pr_bow.st] at hc5)
    replace hF := ifE_some.1 hF
    obtain ⟨h10, hF⟩ := hF
    have hJ := f12_ai10brrz_j3_ok k (v9 ++ m1_11) _ hF
    simp (maxSteps := 999999) (disch := first | exact D (by decide) | exact K (by kernel_rfl)) only [EA, EE, EG, EF, ED, ofVal, ofVal1, ofCell, lenV, aggEqV, cellEq, intBin, isShift, V.ids, lendV, frz, flatV, cellsOf, addOff, firstReg, oneOf, cellsAt, isAggD, isPure, ↓reduceIte, reduceCtorEq, Nat.reduceAdd, Nat.reduceSub, Nat.reduceMul, Nat.reduceLeDiff, Nat.reduceEqDiff, Nat.reduceBEq, Int.reduceToNat, Int.reduceLE, Int.reduceLT, Nat.reduceLT, Int.reduceBEq, Int.reduceBNe, Int.reduceEq, String.reduceEq, show (nav B12 [2, 2, 2, 2, 2, 2, 1, 2, 2, 2, 2]) = Code.region 12 _ true from rfl, hk_12_12, hz_12_12, hs_12_12, fieldAddrV, u_52, i_52, is_52, ib_52, iz_52, u_23, i_23, is_23, ib_23, iz_23, u_26, i_26, is_26, ib_26, iz_26, appendV, content, u_5, i_5, is_5, ib_5, iz_5, q1, q2, hc5, h10]
    try simp only [NM, EE] at hJ
    exact hJ
noncomputable def f12_ai10brrz_j5 (k : Nat) (m1 : Int) (m1_1 : Int) (m1_2 : Int) (m1_3 : Int) (m1_4 : Int) (m1_5 : Int) (m1_6 : Int) (m1_7 : Int) (m1_8 : Int) (m1_9 : Int) (m1_10 : Bool) (m1_11 : List Int) (m1_12 : List T45) (m41 : List Int) : Option R12_ai10brrz :=
  Option.bind (f22_pr_bow k ([m1_5, m1_6, ((List.length m1_11) : Int)] : List Int) m41) fun o3 =>
    match o3 with
    | .o0 v6 =>
      ifE (((List.length v6) + (List.length m1_11)) ≤ roomy) (
        f12_ai10brrz_j3 k (v6 ++ m1_11))
    | .o1 v8 v9 =>
      ifE (((List.length v9) + (List.length m1_11)) ≤ roomy) (
        f12_ai10brrz_j3 k (v9 ++ m1_11))
theorem f12_ai10brrz_j5_ok (k : Nat) (m1 : Int) (m1_1 : Int) (m1_2 : Int) (m1_3 : Int) (m1_4 : Int) (m1_5 : Int) (m1_6 : Int) (m1_7 : Int) (m1_8 : Int) (m1_9 : Int) (m1_10 : Bool) (m1_11 : List Int) (m1_12 : List T45) (m41 : List Int) (r : R12_ai10brrz) (hF : f12_ai10brrz_j5 k m1 m1_1 m1_2 m1_3 m1_4 m1_5 m1_6 m1_7 m1_8 m1_9 m1_10 m1_11 m1_12 m41 = some r) : finK Try.prog Try.f12 0 (SQ 12 k (nav B12 [2, 2, 2, 2, 2]) (blockK 0 (EX 12 k (nav B12 [2, 2, 2, 2, 2, 1, 2, 2, 2, 2]) ({ n := 116, F := [(1, V.ptr 1 0), (5, V.ptr 18 0)], M := [(1, O.box 26 [V.p (Value.int .i64 m1), V.p (Value.int .i64 m1_1), V.p (Value.int .u32 m1_2), V.p (Value.int .u32 m1_3), V.p (Value.int .u32 m1_4), V.p (Value.int .i64 m1_5), V.p (Value.int .i64 m1_6), V.p (Value.int .i64 m1_7), V.p (Value.int .i64 m1_8), V.p (Value.int .i64 m1_9), V.p (Value.bool m1_10), V.sl 1 (rowsOf (encI .u8) m1_11), V.sl 2 (rowsOf encT45 m1_12)]), (18, O.box 52 [V.own 41]), (41, O.row true 1 5 (rowsOf (encI .u8) m41))] } : St)))) = some r.st := by
  unfold f12_ai10brrz_j5 at hF
  have q1 : [[V.p (Value.int .i64 m1_5)], [V.p (Value.int .i64 m1_6)], [V.p (Value.int .i64 ((List.length m1_11) : Int))]] = rowsOf (encI .i64) ([m1_5, m1_6, ((List.length m1_11) : Int)] : List Int) := rfl
  have q2 : List.map (tell [0]) (rowsOf (encI .i64) ([m1_5, m1_6, ((List.length m1_11) : Int)] : List Int)) = rowsOf (encI .i64) ([m1_5, m1_6, ((List.length m1_11) : Int)] : List Int) := rfl
  simp (maxSteps := 999999) (disch := first | exact D (by decide) | exact K (by kernel_rfl)) only [EA, EE, EG, EF, ED, ofVal, ofVal1, ofCell, lenV, aggEqV, cellEq, intBin, isShift, V.ids, lendV, frz, flatV, cellsOf, addOff, firstReg, oneOf, cellsAt, isAggD, isPure, ↓reduceIte, reduceCtorEq, Nat.reduceAdd, Nat.reduceSub, Nat.reduceMul, Nat.reduceLeDiff, Nat.reduceEqDiff, Nat.reduceBEq, Int.reduceToNat, Int.reduceLE, Int.reduceLT, Nat.reduceLT, Int.reduceBEq, Int.reduceBNe, Int.reduceEq, String.reduceEq, xk B12 [2, 2, 2, 2, 2, 1, 2, 2, 2, 2] .sq rfl, show (nav B12 [1, 2, 2, 2, 2, 2, 1, 2, 2, 2, 2]) = Code.region 11 _ false from rfl, hk_12_11, hz_12_11, hs_12_11, fieldAddrV, u_26, i_26, is_26, ib_26, iz_26, u_3, i_3, is_3, ib_3, iz_3, u_23, i_23, is_23, ib_23, iz_23, buildSliceV, fillRows, sm_3, u_63, i_63, is_63, ib_63, iz_63, callStep, calleeOf, gv, List.contains, q1, q2]
  replace hF := Option.bind_eq_some_iff.1 hF
  obtain ⟨o3, h4, hF⟩ := hF
  have hc5 := f22_pr_bow_ok k ([m1_5, m1_6, ((List.length m1_11) : Int)] : List Int) m41 _ h4
  cases o3 with
  | o0 v6 =>
    (try dsimp only at hF)
    (try simp only [NM, EE, R22_pr_bow.st] at hc5)
    replace hF := ifE_some.1 hF
    obtain ⟨h7, hF⟩ := hF
    have hJ := f12_ai10brrz_j3_ok k (v6 ++ m1_11) _ hF
    simp (maxSteps := 999999) (disch := first | exact D (by decide) | exact K (by kernel_rfl)) only [EA, EE, EG, EF, ED, ofVal, ofVal1, ofCell, lenV, aggEqV, cellEq, intBin, isShift, V.ids, lendV, frz, flatV, cellsOf, addOff, firstReg, oneOf, cellsAt, isAggD, isPure, ↓reduceIte, reduceCtorEq, Nat.reduceAdd, Nat.reduceSub, Nat.reduceMul, Nat.reduceLeDiff, Nat.reduceEqDiff, Nat.reduceBEq, Int.reduceToNat, Int.reduceLE, Int.reduceLT, Nat.reduceLT, Int.reduceBEq, Int.reduceBNe, Int.reduceEq, String.reduceEq, show (nav B12 [2, 2, 2, 2, 2, 2, 1, 2, 2, 2, 2]) = Code.region 12 _ true from rfl, hk_12_12, hz_12_12, hs_12_12, fieldAddrV, u_52, i_52, is_52, ib_52, iz_52, u_23, i_23, is_23, ib_23, iz_23, u_26, i_26, is_26, ib_26, iz_26, appendV, content, u_5, i_5, is_5, ib_5, iz_5, q1, q2, hc5, h7]
    try simp only [NM, EE] at hJ
    exact hJ
  | o1 v8 v9 =>
    (try dsimp only at hF)
    (try simp only [NM, EE, R22_pr_bow.st] at hc5)
    replace hF := ifE_some.1 hF
    obtain ⟨h10, hF⟩ := hF
    have hJ := f12_ai10brrz_j3_ok k (v9 ++ m1_11) _ hF
    simp (maxSteps := 999999) (disch := first | exact D (by decide) | exact K (by kernel_rfl)) only [EA, EE, EG, EF, ED, ofVal, ofVal1, ofCell, lenV, aggEqV, cellEq, intBin, isShift, V.ids, lendV, frz, flatV, cellsOf, addOff, firstReg, oneOf, cellsAt, isAggD, isPure, ↓reduceIte, reduceCtorEq, Nat.reduceAdd, Nat.reduceSub, Nat.reduceMul, Nat.reduceLeDiff, Nat.reduceEqDiff, Nat.reduceBEq, Int.reduceToNat, Int.reduceLE, Int.reduceLT, Nat.reduceLT, Int.reduceBEq, Int.reduceBNe, Int.reduceEq, String.reduceEq, show (nav B12 [2, 2, 2, 2, 2, 2, 1, 2, 2, 2, 2]) = Code.region 12 _ true from rfl, hk_12_12, hz_12_12, hs_12_12, fieldAddrV, u_52, i_52, is_52, ib_52, iz_52, u_23, i_23, is_23, ib_23, iz_23, u_26, i_26, is_26, ib_26, iz_26, appendV, content, u_5, i_5, is_5, ib_5, iz_5, q1, q2, hc5, h10]
    try simp only [NM, EE] at hJ
    exact hJ
inductive R12_ai10brrz_l6 where
  | o0 (y : List T45) (y_1 : Int) (y_2 : Int) (y_3 : List Int)
  | o1 (y : List T45) (y_1 : Int) (y_2 : Int) (y_3 : List Int)
  | o2 (y : List T45) (y_1 : Int) (y_2 : Int) (y_3 : Bool) (y_4 : List Int)
noncomputable def R12_ai10brrz_l6.st : R12_ai10brrz_l6 → Out × St
  | .o0 y y_1 y_2 y_3 => (.norm, ({ n := 116, F := [(5, V.ptr 30000 0), (81, V.sl 2 (rowsOf encT45 y)), (82, V.p (Value.int .i64 y_1)), (83, V.p (Value.int .i64 y_2))], M := [(30000, O.box 52 [V.own 30001]), (30001, O.row true 1 5 (rowsOf (encI .u8) y_3))] } : St))
  | .o1 y y_1 y_2 y_3 => (.norm, ({ n := 116, F := [(5, V.ptr 30000 0), (81, V.sl 2 (rowsOf encT45 y)), (82, V.p (Value.int .i64 y_1)), (83, V.p (Value.int .i64 y_2))], M := [(30000, O.box 52 [V.own 93]), (93, O.row true 1 5 (rowsOf (encI .u8) y_3))] } : St))
  | .o2 y y_1 y_2 y_3 y_4 => (.exit 1, ({ n := 116, F := [(5, V.ptr 30000 0), (81, V.sl 2 (rowsOf encT45 y)), (82, V.p (Value.int .i64 y_1)), (83, V.p (Value.int .i64 y_2)), (84, V.p (Value.bool y_3))], M := [(30000, O.box 52 [V.own 30001]), (30001, O.row true 1 5 (rowsOf (encI .u8) y_4))] } : St))
noncomputable def f12_ai10brrz_l6_j2 (k : Nat) (x81 : List T45) (x82 : Int) (x83 : Int) (h1_ : List Int) : Option R12_ai10brrz_l6 :=
  some (R12_ai10brrz_l6.o0 x81 x82 (IntKind.i64.wrap (x83 + (1 : Int))) h1_)
theorem f12_ai10brrz_l6_j2_ok (k : Nat) (x81 : List T45) (x82 : Int) (x83 : Int) (h1_ : List Int) (r : R12_ai10brrz_l6) (hF : f12_ai10brrz_l6_j2 k x81 x82 x83 h1_ = some r) : EX 12 k (nav B12 [2, 2, 2, 1, 2, 2, 2, 2, 2, 3, 2, 2, 2, 1, 2, 2, 2, 2]) ({ n := 116, F := [(5, V.ptr 30000 0), (81, V.sl 2 (rowsOf encT45 x81)), (82, V.p (Value.int .i64 x82)), (83, V.p (Value.int .i64 x83))], M := [(30000, O.box 52 [V.own 30001]), (30001, O.row true 1 5 (rowsOf (encI .u8) h1_))] } : St) = some r.st := by
  unfold f12_ai10brrz_l6_j2 at hF
  cases hF
  simp (maxSteps := 999999) (disch := first | exact D (by decide) | exact K (by kernel_rfl)) only [EA, EE, EG, EF, ED, ofVal, ofVal1, ofCell, lenV, aggEqV, cellEq, intBin, isShift, V.ids, lendV, frz, flatV, cellsOf, addOff, firstReg, oneOf, cellsAt, isAggD, isPure, ↓reduceIte, reduceCtorEq, Nat.reduceAdd, Nat.reduceSub, Nat.reduceMul, Nat.reduceLeDiff, Nat.reduceEqDiff, Nat.reduceBEq, Int.reduceToNat, Int.reduceLE, Int.reduceLT, Nat.reduceLT, Int.reduceBEq, Int.reduceBNe, Int.reduceEq, String.reduceEq, show (nav B12 [2, 2, 2, 1, 2, 2, 2, 2, 2, 3, 2, 2, 2, 1, 2, 2, 2, 2]) = Code.region 19 _ false from rfl, hk_12_19, hz_12_19, hs_12_19, R12_ai10brrz_l6.st]
noncomputable def f12_ai10brrz_l6_j3 (k : Nat) (x81 : List T45) (x82 : Int) (x83 : Int) (m93 : List Int) : Option R12_ai10brrz_l6 :=
  some (R12_ai10brrz_l6.o1 x81 x82 (IntKind.i64.wrap (x83 + (1 : Int))) m93)
theorem f12_ai10brrz_l6_j3_ok (k : Nat) (x81 : List T45) (x82 : Int) (x83 : Int) (m93 : List Int) (r : R12_ai10brrz_l6) (hF : f12_ai10brrz_l6_j3 k x81 x82 x83 m93 = some r) : EX 12 k (nav B12 [2, 2, 2, 1, 2, 2, 2, 2, 2, 3, 2, 2, 2, 1, 2, 2, 2, 2]) ({ n := 116, F := [(5, V.ptr 30000 0), (81, V.sl 2 (rowsOf encT45 x81)), (82, V.p (Value.int .i64 x82)), (83, V.p (Value.int .i64 x83))], M := [(30000, O.box 52 [V.own 93]), (93, O.row true 1 5 (rowsOf (encI .u8) m93))] } : St) = some r.st := by
  unfold f12_ai10brrz_l6_j3 at hF
  cases hF
  simp (maxSteps := 999999) (disch := first | exact D (by decide) | exact K (by kernel_rfl)) only [EA, EE, EG, EF, ED, ofVal, ofVal1, ofCell, lenV, aggEqV, cellEq, intBin, isShift, V.ids, lendV, frz, flatV, cellsOf, addOff, firstReg, oneOf, cellsAt, isAggD, isPure, ↓reduceIte, reduceCtorEq, Nat.reduceAdd, Nat.reduceSub, Nat.reduceMul, Nat.reduceLeDiff, Nat.reduceEqDiff, Nat.reduceBEq, Int.reduceToNat, Int.reduceLE, Int.reduceLT, Nat.reduceLT, Int.reduceBEq, Int.reduceBNe, Int.reduceEq, String.reduceEq, show (nav B12 [2, 2, 2, 1, 2, 2, 2, 2, 2, 3, 2, 2, 2, 1, 2, 2, 2, 2]) = Code.region 19 _ false from rfl, hk_12_19, hz_12_19, hs_12_19, R12_ai10brrz_l6.st]
noncomputable def f12_ai10brrz_l6_j1 (k : Nat) (x81 : List T45) (x82 : Int) (x83 : Int) (x84 : Bool) (h1_ : List Int) : Option R12_ai10brrz_l6 :=
  ifE ((0 : Int) ≤ x83) (
    Option.bind (x81[(Int.toNat x83)]?) fun v2 =>
      Option.bind (f22_pr_bow k ([v2.At, v2.N] : List Int) h1_) fun o6 =>
        match o6 with
        | .o0 v9 =>
          f12_ai10brrz_l6_j2 k x81 x82 x83 v9
        | .o1 v10 v11 =>
          f12_ai10brrz_l6_j3 k x81 x82 x83 v11)
theorem f12_ai10brrz_l6_j1_ok (k : Nat) (x81 : List T45) (x82 : Int) (x83 : Int) (x84 : Bool) (h1_ : List Int) (r : R12_ai10brrz_l6) (hF : f12_ai10brrz_l6_j1 k x81 x82 x83 x84 h1_ = some r) : EX 12 k (nav B12 [2, 2, 1, 2, 2, 2, 2, 2, 3, 2, 2, 2, 1, 2, 2, 2, 2]) ({ n := 116, F := [(5, V.ptr 30000 0), (81, V.sl 2 (rowsOf encT45 x81)), (82, V.p (Value.int .i64 x82)), (83, V.p (Value.int .i64 x83)), (84, V.p (Value.bool x84))], M := [(30000, O.box 52 [V.own 30001]), (30001, O.row true 1 5 (rowsOf (encI .u8) h1_))] } : St) = some r.st := by
  unfold f12_ai10brrz_l6_j1 at hF
  replace hF := ifE_some.1 hF
  obtain ⟨h1, hF⟩ := hF
  replace hF := Option.bind_eq_some_iff.1 hF
  obtain ⟨v2, h3, hF⟩ := hF
  have q4 : [[V.p (Value.int .i64 v2.At)], [V.p (Value.int .i64 v2.N)]] = rowsOf (encI .i64) ([v2.At, v2.N] : List Int) := rfl
  have q5 : List.map (tell [0]) (rowsOf (encI .i64) ([v2.At, v2.N] : List Int)) = rowsOf (encI .i64) ([v2.At, v2.N] : List Int) := rfl
  simp (maxSteps := 999999) (disch := first | exact D (by decide) | exact K (by kernel_rfl)) only [EA, EE, EG, EF, ED, ofVal, ofVal1, ofCell, lenV, aggEqV, cellEq, intBin, isShift, V.ids, lendV, frz, flatV, cellsOf, addOff, firstReg, oneOf, cellsAt, isAggD, isPure, ↓reduceIte, reduceCtorEq, Nat.reduceAdd, Nat.reduceSub, Nat.reduceMul, Nat.reduceLeDiff, Nat.reduceEqDiff, Nat.reduceBEq, Int.reduceToNat, Int.reduceLE, Int.reduceLT, Nat.reduceLT, Int.reduceBEq, Int.reduceBNe, Int.reduceEq, String.reduceEq, xk B12 [2, 2, 1, 2, 2, 2, 2, 2, 3, 2, 2, 2, 1, 2, 2, 2, 2] .sq rfl, xk B12 [1, 2, 2, 1, 2, 2, 2, 2, 2, 3, 2, 2, 2, 1, 2, 2, 2, 2] (.bk 2) rfl, xk B12 [2, 1, 2, 2, 1, 2, 2, 2, 2, 2, 3, 2, 2, 2, 1, 2, 2, 2, 2] .sq rfl, show (nav B12 [1, 2, 1, 2, 2, 1, 2, 2, 2, 2, 2, 3, 2, 2, 2, 1, 2, 2, 2, 2]) = Code.region 17 _ false from rfl, hk_12_17, hz_12_17, hs_12_17, indexAddrV, u_24, i_24, is_24, ib_24, iz_24, u_45, i_45, is_45, ib_45, iz_45, encT45_eq, show (nav B12 [2, 2, 1, 2, 2, 1, 2, 2, 2, 2, 2, 3, 2, 2, 2, 1, 2, 2, 2, 2]) = Code.region 18 _ false from rfl, hk_12_18, hz_12_18, hs_12_18, fieldAddrV, u_3, i_3, is_3, ib_3, iz_3, buildSliceV, fillRows, sm_3, u_63, i_63, is_63, ib_63, iz_63, callStep, calleeOf, gv, List.contains, h1, h3, q4, q5]
  replace hF := Option.bind_eq_some_iff.1 hF
  obtain ⟨o6, h7, hF⟩ := hF
  have hc8 := f22_pr_bow_ok k ([v2.At, v2.N] : List Int) h1_ _ h7
  cases o6 with
  | o0 v9 =>
    (try dsimp only at hF)
    (try simp only [NM, EE, R22_pr_bow.st] at hc8)
    have hJ := f12_ai10brrz_l6_j2_ok k x81 x82 x83 v9 _ hF
    simp (maxSteps := 999999) (disch := first | exact D (by decide) | exact K (by kernel_rfl)) only [EA, EE, EG, EF, ED, ofVal, ofVal1, ofCell, lenV, aggEqV, cellEq, intBin, isShift, V.ids, lendV, frz, flatV, cellsOf, addOff, firstReg, oneOf, cellsAt, isAggD, isPure, ↓reduceIte, reduceCtorEq, Nat.reduceAdd, Nat.reduceSub, Nat.reduceMul, Nat.reduceLeDiff, Nat.reduceEqDiff, Nat.reduceBEq, Int.reduceToNat, Int.reduceLE, Int.reduceLT, Nat.reduceLT, Int.reduceBEq, Int.reduceBNe, Int.reduceEq, String.reduceEq, h1, h3, q4, q5, hc8]
    try simp only [NM, EE] at hJ
    exact hJ
  | o1 v10 v11 =>
    (try dsimp only at hF)
    (try simp only [NM, EE, R22_pr_bow.st] at hc8)
    have hJ := f12_ai10brrz_l6_j3_ok k x81 x82 x83 v11 _ hF
    simp (maxSteps := 999999) (disch := first | exact D (by decide) | exact K (by kernel_rfl)) only [EA, EE, EG, EF, ED, ofVal, ofVal1, ofCell, lenV, aggEqV, cellEq, intBin, isShift, V.ids, lendV, frz, flatV, cellsOf, addOff, firstReg, oneOf, cellsAt, isAggD, isPure, ↓reduceIte, reduceCtorEq, Nat.reduceAdd, Nat.reduceSub, Nat.reduceMul, Nat.reduceLeDiff, Nat.reduceEqDiff, Nat.reduceBEq, Int.reduceToNat, Int.reduceLE, Int.reduceLT, Nat.reduceLT, Int.reduceBEq, Int.reduceBNe, Int.reduceEq, String.reduceEq, h1, h3, q4, q5, hc8]
    try simp only [NM, EE] at hJ
    exact hJ
noncomputable def f12_ai10brrz_l6_b (k : Nat) (x81 : List T45) (x82 : Int) (x83 : Int) (h1_ : List Int) : Option R12_ai10brrz_l6 :=
  cond ((decide (x83 < x82)))
    (f12_ai10brrz_l6_j1 k x81 x82 x83 true h1_)
    (some (R12_ai10brrz_l6.o2 x81 x82 x83 false h1_))
theorem f12_ai10brrz_l6_b_ok (k : Nat) (x81 : List T45) (x82 : Int) (x83 : Int) (h1_ : List Int) (r : R12_ai10brrz_l6) (hF : f12_ai10brrz_l6_b k x81 x82 x83 h1_ = some r) : EX 12 k (nav B12 [1, 2, 2, 2, 2, 2, 3, 2, 2, 2, 1, 2, 2, 2, 2]) ({ n := 116, F := [(5, V.ptr 30000 0), (81, V.sl 2 (rowsOf encT45 x81)), (82, V.p (Value.int .i64 x82)), (83, V.p (Value.int .i64 x83))], M := [(30000, O.box 52 [V.own 30001]), (30001, O.row true 1 5 (rowsOf (encI .u8) h1_))] } : St) = some r.st := by
  unfold f12_ai10brrz_l6_b at hF
  simp (maxSteps := 999999) (disch := first | exact D (by decide) | exact K (by kernel_rfl)) only [EA, EE, EG, EF, ED, ofVal, ofVal1, ofCell, lenV, aggEqV, cellEq, intBin, isShift, V.ids, lendV, frz, flatV, cellsOf, addOff, firstReg, oneOf, cellsAt, isAggD, isPure, ↓reduceIte, reduceCtorEq, Nat.reduceAdd, Nat.reduceSub, Nat.reduceMul, Nat.reduceLeDiff, Nat.reduceEqDiff, Nat.reduceBEq, Int.reduceToNat, Int.reduceLE, Int.reduceLT, Nat.reduceLT, Int.reduceBEq, Int.reduceBNe, Int.reduceEq, String.reduceEq, xk B12 [1, 2, 2, 2, 2, 2, 3, 2, 2, 2, 1, 2, 2, 2, 2] .sq rfl, show (nav B12 [1, 1, 2, 2, 2, 2, 2, 3, 2, 2, 2, 1, 2, 2, 2, 2]) = Code.region 16 _ false from rfl, hk_12_16, hz_12_16, hs_12_16, xk B12 [2, 1, 2, 2, 2, 2, 2, 3, 2, 2, 2, 1, 2, 2, 2, 2] .sq rfl, xk B12 [1, 2, 1, 2, 2, 2, 2, 2, 3, 2, 2, 2, 1, 2, 2, 2, 2] (.cd 84) rfl]
  replace hF := cond_some hF
  rcases hF with ⟨h1, hF⟩ | ⟨h1, hF⟩
  · have hJ := f12_ai10brrz_l6_j1_ok k x81 x82 x83 true h1_ _ hF
    simp (maxSteps := 999999) (disch := first | exact D (by decide) | exact K (by kernel_rfl)) only [EA, EE, EG, EF, ED, ofVal, ofVal1, ofCell, lenV, aggEqV, cellEq, intBin, isShift, V.ids, lendV, frz, flatV, cellsOf, addOff, firstReg, oneOf, cellsAt, isAggD, isPure, ↓reduceIte, reduceCtorEq, Nat.reduceAdd, Nat.reduceSub, Nat.reduceMul, Nat.reduceLeDiff, Nat.reduceEqDiff, Nat.reduceBEq, Int.reduceToNat, Int.reduceLE, Int.reduceLT, Nat.reduceLT, Int.reduceBEq, Int.reduceBNe, Int.reduceEq, String.reduceEq, xk B12 [2, 1, 2, 1, 2, 2, 2, 2, 2, 3, 2, 2, 2, 1, 2, 2, 2, 2] .sk rfl, h1]
    try simp only [NM, EE] at hJ
    exact hJ
  · cases hF
    simp (maxSteps := 999999) (disch := first | exact D (by decide) | exact K (by kernel_rfl)) only [EA, EE, EG, EF, ED, ofVal, ofVal1, ofCell, lenV, aggEqV, cellEq, intBin, isShift, V.ids, lendV, frz, flatV, cellsOf, addOff, firstReg, oneOf, cellsAt, isAggD, isPure, ↓reduceIte, reduceCtorEq, Nat.reduceAdd, Nat.reduceSub, Nat.reduceMul, Nat.reduceLeDiff, Nat.reduceEqDiff, Nat.reduceBEq, Int.reduceToNat, Int.reduceLE, Int.reduceLT, Nat.reduceLT, Int.reduceBEq, Int.reduceBNe, Int.reduceEq, String.reduceEq, xk B12 [3, 1, 2, 1, 2, 2, 2, 2, 2, 3, 2, 2, 2, 1, 2, 2, 2, 2] (.ex 1) rfl, R12_ai10brrz_l6.st, h1]
noncomputable def f12_ai10brrz_l6 (k : Nat) : Nat → (List T45) → Int → Int → (List Int) → Option R12_ai10brrz_l6
  | 0, _, _, _, _ => none
  | n + 1, x81, x82, x83, h1_ => Option.bind (f12_ai10brrz_l6_b k x81 x82 x83 h1_) fun o =>
    match o with
    | .o0 y y_1 y_2 y_3 => f12_ai10brrz_l6 k n y y_1 y_2 y_3
    | .o1 y y_1 y_2 y_3 => f12_ai10brrz_l6 k n y y_1 y_2 y_3
    | .o2 y y_1 y_2 y_3 y_4 => some (.o2 y y_1 y_2 y_3 y_4)
theorem f12_ai10brrz_l6_ok (k : Nat) (n : Nat) : ∀ (x81 : List T45) (x82 : Int) (x83 : Int) (h1_ : List Int) (r : R12_ai10brrz_l6) (hF : f12_ai10brrz_l6 k n x81 x82 x83 h1_ = some r) (σ : St) (hσ : headR (hints.head 12 16) (hints.canon 12 16) σ = some ({ n := 116, F := [(5, V.ptr 30000 0), (81, V.sl 2 (rowsOf encT45 x81)), (82, V.p (Value.int .i64 x82)), (83, V.p (Value.int .i64 x83))], M := [(30000, O.box 52 [V.own 30001]), (30001, O.row true 1 5 (rowsOf (encI .u8) h1_))] } : St)), LP 12 k (nav B12 [1, 2, 2, 2, 2, 2, 3, 2, 2, 2, 1, 2, 2, 2, 2]) n σ = some r.st := by
  induction n with
  | zero => intro x81 x82 x83 h1_ r hF; cases hF
  | succ n ih =>
    intro x81 x82 x83 h1_ r hF σ hσ
    rw [f12_ai10brrz_l6] at hF
    obtain ⟨o, h, hF⟩ := Option.bind_eq_some_iff.1 hF
    have hB := f12_ai10brrz_l6_b_ok k x81 x82 x83 h1_ o h
    unfold LP at ih ⊢
    unfold EX at hB
    rw [loopK_succ, show firstReg (nav B12 [1, 2, 2, 2, 2, 2, 3, 2, 2, 2, 1, 2, 2, 2, 2]) = 16 from rfl, hσ, headK_some, hB]
    cases o with
    | o0 y y_1 y_2 y_3 =>
      refine ih y y_1 y_2 y_3 r hF _ ?_
      simp (maxSteps := 999999) (disch := first | exact D (by decide) | exact K (by kernel_rfl)) only [EA, EE, EG, EF, ED, ofVal, ofVal1, ofCell, lenV, aggEqV, cellEq, intBin, isShift, V.ids, lendV, frz, flatV, cellsOf, addOff, firstReg, oneOf, cellsAt, isAggD, isPure, ↓reduceIte, reduceCtorEq, Nat.reduceAdd, Nat.reduceSub, Nat.reduceMul, Nat.reduceLeDiff, Nat.reduceEqDiff, Nat.reduceBEq, Int.reduceToNat, Int.reduceLE, Int.reduceLT, Nat.reduceLT, Int.reduceBEq, Int.reduceBNe, Int.reduceEq, String.reduceEq, hh_12_16, hc_12_16]
    | o1 y y_1 y_2 y_3 =>
      refine ih y y_1 y_2 y_3 r hF _ ?_
      simp (maxSteps := 999999) (disch := first | exact D (by decide) | exact K (by kernel_rfl)) only [EA, EE, EG, EF, ED, ofVal, ofVal1, ofCell, lenV, aggEqV, cellEq, intBin, isShift, V.ids, lendV, frz, flatV, cellsOf, addOff, firstReg, oneOf, cellsAt, isAggD, isPure, ↓reduceIte, reduceCtorEq, Nat.reduceAdd, Nat.reduceSub, Nat.reduceMul, Nat.reduceLeDiff, Nat.reduceEqDiff, Nat.reduceBEq, Int.reduceToNat, Int.reduceLE, Int.reduceLT, Nat.reduceLT, Int.reduceBEq, Int.reduceBNe, Int.reduceEq, String.reduceEq, hh_12_16, hc_12_16]
    | o2 y y_1 y_2 y_3 y_4 => cases hF; rfl
noncomputable def f12_ai10brrz_j7 (k : Nat) (x81 : List T45) (x82 : Int) (x83 : Int) (x84 : Bool) (h1_ : List Int) : Option R12_ai10brrz :=
  Option.bind (f23_r k h1_) fun o1 =>
    match o1 with
    | .o0 v4 =>
      some (R12_ai10brrz.o0 0 v4)
theorem f12_ai10brrz_j7_ok (k : Nat) (x81 : List T45) (x82 : Int) (x83 : Int) (x84 : Bool) (h1_ : List Int) (r : R12_ai10brrz) (hF : f12_ai10brrz_j7 k x81 x82 x83 x84 h1_ = some r) : finK Try.prog Try.f12 0 (EX 12 k (nav B12 [2, 2, 2, 2, 2]) ({ n := 116, F := [(5, V.ptr 30000 0), (81, V.sl 2 (rowsOf encT45 x81)), (82, V.p (Value.int .i64 x82)), (83, V.p (Value.int .i64 x83)), (84, V.p (Value.bool x84))], M := [(30000, O.box 52 [V.own 30001]), (30001, O.row true 1 5 (rowsOf (encI .u8) h1_))] } : St)) = some r.st := by
  unfold f12_ai10brrz_j7 at hF
  replace hF := Option.bind_eq_some_iff.1 hF
  obtain ⟨o1, h2, hF⟩ := hF
  have hc3 := f23_r_ok k h1_ _ h2
  cases o1 with
  | o0 v4 =>
    (try dsimp only at hF)
    (try simp only [NM, EE, R23_r.st] at hc3)
    cases hF
    simp (maxSteps := 999999) (disch := first | exact D (by decide) | exact K (by kernel_rfl)) only [EA, EE, EG, EF, ED, ofVal, ofVal1, ofCell, lenV, aggEqV, cellEq, intBin, isShift, V.ids, lendV, frz, flatV, cellsOf, addOff, firstReg, oneOf, cellsAt, isAggD, isPure, ↓reduceIte, reduceCtorEq, Nat.reduceAdd, Nat.reduceSub, Nat.reduceMul, Nat.reduceLeDiff, Nat.reduceEqDiff, Nat.reduceBEq, Int.reduceToNat, Int.reduceLE, Int.reduceLT, Nat.reduceLT, Int.reduceBEq, Int.reduceBNe, Int.reduceEq, String.reduceEq, xk B12 [2, 2, 2, 2, 2] .sq rfl, show (nav B12 [1, 2, 2, 2, 2, 2]) = Code.region 25 _ false from rfl, hk_12_25, hz_12_25, hs_12_25, fieldAddrV, u_52, i_52, is_52, ib_52, iz_52, u_23, i_23, is_23, ib_23, iz_23, callStep, calleeOf, gv, List.contains, xk B12 [2, 2, 2, 2, 2, 2] .rt rfl, finK_norm, finK_ret, fin12, R12_ai10brrz.st, hc3]
noncomputable def f12_ai10brrz_j8 (k : Nat) (m16 : List Int) : Option R12_ai10brrz :=
  Option.bind (f23_r k m16) fun o1 =>
    match o1 with
    | .o0 v4 =>
      some (R12_ai10brrz.o0 0 v4)
theorem f12_ai10brrz_j8_ok (k : Nat) (m16 : List Int) (r : R12_ai10brrz) (hF : f12_ai10brrz_j8 k m16 = some r) : finK Try.prog Try.f12 0 (EX 12 k (nav B12 [2, 2, 2, 2, 2]) ({ n := 116, F := [(5, V.ptr 18 0)], M := [(18, O.box 52 [V.own 16]), (16, O.row true 1 5 (rowsOf (encI .u8) m16))] } : St)) = some r.st := by
  unfold f12_ai10brrz_j8 at hF
  replace hF := Option.bind_eq_some_iff.1 hF
  obtain ⟨o1, h2, hF⟩ := hF
  have hc3 := f23_r_ok k m16 _ h2
  cases o1 with
  | o0 v4 =>
    (try dsimp only at hF)
    (try simp only [NM, EE, R23_r.st] at hc3)
    cases hF
    simp (maxSteps := 999999) (disch := first | exact D (by decide) | exact K (by kernel_rfl)) only [EA, EE, EG, EF, ED, ofVal, ofVal1, ofCell, lenV, aggEqV, cellEq, intBin, isShift, V.ids, lendV, frz, flatV, cellsOf, addOff, firstReg, oneOf, cellsAt, isAggD, isPure, ↓reduceIte, reduceCtorEq, Nat.reduceAdd, Nat.reduceSub, Nat.reduceMul, Nat.reduceLeDiff, Nat.reduceEqDiff, Nat.reduceBEq, Int.reduceToNat, Int.reduceLE, Int.reduceLT, Nat.reduceLT, Int.reduceBEq, Int.reduceBNe, Int.reduceEq, String.reduceEq, xk B12 [2, 2, 2, 2, 2] .sq rfl, show (nav B12 [1, 2, 2, 2, 2, 2]) = Code.region 25 _ false from rfl, hk_12_25, hz_12_25, hs_12_25, fieldAddrV, u_52, i_52, is_52, ib_52, iz_52, u_23, i_23, is_23, ib_23, iz_23, callStep, calleeOf, gv, List.contains, xk B12 [2, 2, 2, 2, 2, 2] .rt rfl, finK_norm, finK_ret, fin12, R12_ai10brrz.st, hc3]
noncomputable def f12_ai10brrz_j9 (k : Nat) (m102 : List Int) : Option R12_ai10brrz :=
  Option.bind (f23_r k m102) fun o1 =>
    match o1 with
    | .o0 v4 =>
      some (R12_ai10brrz.o0 0 v4)
theorem f12_ai10brrz_j9_ok (k : Nat) (m102 : List Int) (r : R12_ai10brrz) (hF : f12_ai10brrz_j9 k m102 = some r) : finK Try.prog Try.f12 0 (EX 12 k (nav B12 [2, 2, 2, 2, 2]) ({ n := 116, F := [(5, V.ptr 18 0)], M := [(18, O.box 52 [V.own 102]), (102, O.row true 1 5 (rowsOf (encI .u8) m102))] } : St)) = some r.st := by
  unfold f12_ai10brrz_j9 at hF
  replace hF := Option.bind_eq_some_iff.1 hF
  obtain ⟨o1, h2, hF⟩ := hF
  have hc3 := f23_r_ok k m102 _ h2
  cases o1 with
  | o0 v4 =>
    (try dsimp only at hF)
    (try simp only [NM, EE, R23_r.st] at hc3)
    cases hF
    simp (maxSteps := 999999) (disch := first | exact D (by decide) | exact K (by kernel_rfl)) only [EA, EE, EG, EF, ED, ofVal, ofVal1, ofCell, lenV, aggEqV, cellEq, intBin, isShift, V.ids, lendV, frz, flatV, cellsOf, addOff, firstReg, oneOf, cellsAt, isAggD, isPure, ↓reduceIte, reduceCtorEq, Nat.reduceAdd, Nat.reduceSub, Nat.reduceMul, Nat.reduceLeDiff, Nat.reduceEqDiff, Nat.reduceBEq, Int.reduceToNat, Int.reduceLE, Int.reduceLT, Nat.reduceLT, Int.reduceBEq, Int.reduceBNe, Int.reduceEq, String.reduceEq, xk B12 [2, 2, 2, 2, 2] .sq rfl, show (nav B12 [1, 2, 2, 2, 2, 2]) = Code.region 25 _ false from rfl, hk_12_25, hz_12_25, hs_12_25, fieldAddrV, u_52, i_52, is_52, ib_52, iz_52, u_23, i_23, is_23, ib_23, iz_23, callStep, calleeOf, gv, List.contains, xk B12 [2, 2, 2, 2, 2, 2] .rt rfl, finK_norm, finK_ret, fin12, R12_ai10brrz.st, hc3]
noncomputable def f12_ai10brrz_j11 (k : Nat) (m110 : List Int) : Option R12_ai10brrz :=
  Option.bind (f23_r k m110) fun o1 =>
    match o1 with
    | .o0 v4 =>
      some (R12_ai10brrz.o0 0 v4)
theorem f12_ai10brrz_j11_ok (k : Nat) (m110 : List Int) (r : R12_ai10brrz) (hF : f12_ai10brrz_j11 k m110 = some r) : finK Try.prog Try.f12 0 (EX 12 k (nav B12 [2, 2, 2, 2, 2]) ({ n := 116, F := [(5, V.ptr 18 0)], M := [(18, O.box 52 [V.own 110]), (110, O.row true 1 5 (rowsOf (encI .u8) m110))] } : St)) = some r.st := by
  unfold f12_ai10brrz_j11 at hF
  replace hF := Option.bind_eq_some_iff.1 hF
  obtain ⟨o1, h2, hF⟩ := hF
  have hc3 := f23_r_ok k m110 _ h2
  cases o1 with
  | o0 v4 =>
    (try dsimp only at hF)
    (try simp only [NM, EE, R23_r.st] at hc3)
    cases hF
    simp (maxSteps := 999999) (disch := first | exact D (by decide) | exact K (by kernel_rfl)) only [EA, EE, EG, EF, ED, ofVal, ofVal1, ofCell, lenV, aggEqV, cellEq, intBin, isShift, V.ids, lendV, frz, flatV, cellsOf, addOff, firstReg, oneOf, cellsAt, isAggD, isPure, ↓reduceIte, reduceCtorEq, Nat.reduceAdd, Nat.reduceSub, Nat.reduceMul, Nat.reduceLeDiff, Nat.reduceEqDiff, Nat.reduceBEq, Int.reduceToNat, Int.reduceLE, Int.reduceLT, Nat.reduceLT, Int.reduceBEq, Int.reduceBNe, Int.reduceEq, String.reduceEq, xk B12 [2, 2, 2, 2, 2] .sq rfl, show (nav B12 [1, 2, 2, 2, 2, 2]) = Code.region 25 _ false from rfl, hk_12_25, hz_12_25, hs_12_25, fieldAddrV, u_52, i_52, is_52, ib_52, iz_52, u_23, i_23, is_23, ib_23, iz_23, callStep, calleeOf, gv, List.contains, xk B12 [2, 2, 2, 2, 2, 2] .rt rfl, finK_norm, finK_ret, fin12, R12_ai10brrz.st, hc3]
noncomputable def f12_ai10brrz_j12 (k : Nat) (x28 : Int) (x103 : Bool) (m1 : Int) (m1_1 : Int) (m1_2 : Int) (m1_3 : Int) (m1_4 : Int) (m1_5 : Int) (m1_6 : Int) (m1_7 : Int) (m1_8 : Int) (m1_9 : Int) (m1_10 : Bool) (m1_11 : List Int) (m1_12 : List T45) (m16 : List Int) : Option R12_ai10brrz :=
  Option.bind (f23_r k m16) fun o1 =>
    match o1 with
    | .o0 v4 =>
      some (R12_ai10brrz.o0 0 v4)
theorem f12_ai10brrz_j12_ok (k : Nat) (x28 : Int) (x103 : Bool) (m1 : Int) (m1_1 : Int) (m1_2 : Int) (m1_3 : Int) (m1_4 : Int) (m1_5 : Int) (m1_6 : Int) (m1_7 : Int) (m1_8 : Int) (m1_9 : Int) (m1_10 : Bool) (m1_11 : List Int) (m1_12 : List T45) (m16 : List Int) (r : R12_ai10brrz) (hF : f12_ai10brrz_j12 k x28 x103 m1 m1_1 m1_2 m1_3 m1_4 m1_5 m1_6 m1_7 m1_8 m1_9 m1_10 m1_11 m1_12 m16 = some r) : finK Try.prog Try.f12 0 (EX 12 k (nav B12 [2, 2, 2, 2, 2]) ({ n := 116, F := [(1, V.ptr 1 0), (5, V.ptr 18 0), (28, V.p (Value.int .i64 x28)), (103, V.p (Value.bool x103))], M := [(1, O.box 26 [V.p (Value.int .i64 m1), V.p (Value.int .i64 m1_1), V.p (Value.int .u32 m1_2), V.p (Value.int .u32 m1_3), V.p (Value.int .u32 m1_4), V.p (Value.int .i64 m1_5), V.p (Value.int .i64 m1_6), V.p (Value.int .i64 m1_7), V.p (Value.int .i64 m1_8), V.p (Value.int .i64 m1_9), V.p (Value.bool m1_10), V.sl 1 (rowsOf (encI .u8) m1_11), V.sl 2 (rowsOf encT45 m1_12)]), (18, O.box 52 [V.own 16]), (16, O.row true 1 5 (rowsOf (encI .u8) m16))] } : St)) = some r.st := by
  unfold f12_ai10brrz_j12 at hF
  replace hF := Option.bind_eq_some_iff.1 hF
  obtain ⟨o1, h2, hF⟩ := hF
  have hc3 := f23_r_ok k m16 _ h2
  cases o1 with
  | o0 v4 =>
    (try dsimp only at hF)
    (try simp only [NM, EE, R23_r.st] at hc3)
    cases hF
    simp (maxSteps := 999999) (disch := first | exact D (by decide) | exact K (by kernel_rfl)) only [EA, EE, EG, EF, ED, ofVal, ofVal1, ofCell, lenV, aggEqV, cellEq, intBin, isShift, V.ids, lendV, frz, flatV, cellsOf, addOff, firstReg, oneOf, cellsAt, isAggD, isPure, ↓reduceIte, reduceCtorEq, Nat.reduceAdd, Nat.reduceSub, Nat.reduceMul, Nat.reduceLeDiff, Nat.reduceEqDiff, Nat.reduceBEq, Int.reduceToNat, Int.reduceLE, Int.reduceLT, Nat.reduceLT, Int.reduceBEq, Int.reduceBNe, Int.reduceEq, String.reduceEq, xk B12 [2, 2, 2, 2, 2] .sq rfl, show (nav B12 [1, 2, 2, 2, 2, 2]) = Code.region 25 _ false from rfl, hk_12_25, hz_12_25, hs_12_25, fieldAddrV, u_52, i_52, is_52, ib_52, iz_52, u_23, i_23, is_23, ib_23, iz_23, callStep, calleeOf, gv, List.contains, xk B12 [2, 2, 2, 2, 2, 2] .rt rfl, finK_norm, finK_ret, fin12, R12_ai10brrz.st, hc3]
noncomputable def f12_ai10brrz_j10 (k : Nat) (x28 : Int) (x103 : Bool) (m1 : Int) (m1_1 : Int) (m1_2 : Int) (m1_3 : Int) (m1_4 : Int) (m1_5 : Int) (m1_6 : Int) (m1_7 : Int) (m1_8 : Int) (m1_9 : Int) (m1_10 : Bool) (m1_11 : List Int) (m1_12 : List T45) (m16 : List Int) : Option R12_ai10brrz :=
  cond (x103)
    (
      Option.bind (f22_pr_bow k ([m1_9] : List Int) m16) fun o4 =>
        match o4 with
        | .o0 v7 =>
          f12_ai10brrz_j8 k v7
        | .o1 v8 v9 =>
          f12_ai10brrz_j11 k v9)
    (f12_ai10brrz_j12 k x28 false m1 m1_1 m1_2 m1_3 m1_4 m1_5 m1_6 m1_7 m1_8 m1_9 m1_10 m1_11 m1_12 m16)
theorem f12_ai10brrz_j10_ok (k : Nat) (x28 : Int) (x103 : Bool) (m1 : Int) (m1_1 : Int) (m1_2 : Int) (m1_3 : Int) (m1_4 : Int) (m1_5 : Int) (m1_6 : Int) (m1_7 : Int) (m1_8 : Int) (m1_9 : Int) (m1_10 : Bool) (m1_11 : List Int) (m1_12 : List T45) (m16 : List Int) (r : R12_ai10brrz) (hF : f12_ai10brrz_j10 k x28 x103 m1 m1_1 m1_2 m1_3 m1_4 m1_5 m1_6 m1_7 m1_8 m1_9 m1_10 m1_11 m1_12 m16 = some r) : finK Try.prog Try.f12 0 (SQ 12 k (nav B12 [2, 2, 2, 2, 2]) (blockK 0 (EX 12 k (nav B12 [2, 3, 2, 3, 2, 3, 2, 2, 2, 1, 2, 2, 2, 2]) ({ n := 116, F := [(1, V.ptr 1 0), (5, V.ptr 18 0), (28, V.p (Value.int .i64 x28)), (103, V.p (Value.bool x103))], M := [(1, O.box 26 [V.p (Value.int .i64 m1), V.p (Value.int .i64 m1_1), V.p (Value.int .u32 m1_2), V.p (Value.int .u32 m1_3), V.p (Value.int .u32 m1_4), V.p (Value.int .i64 m1_5), V.p (Value.int .i64 m1_6), V.p (Value.int .i64 m1_7), V.p (Value.int .i64 m1_8), V.p (Value.int .i64 m1_9), V.p (Value.bool m1_10), V.sl 1 (rowsOf (encI .u8) m1_11), V.sl 2 (rowsOf encT45 m1_12)]), (18, O.box 52 [V.own 16]), (16, O.row true 1 5 (rowsOf (encI .u8) m16))] } : St)))) = some r.st := by
  unfold f12_ai10brrz_j10 at hF
  simp (maxSteps := 999999) (disch := first | exact D (by decide) | exact K (by kernel_rfl)) only [EA, EE, EG, EF, ED, ofVal, ofVal1, ofCell, lenV, aggEqV, cellEq, intBin, isShift, V.ids, lendV, frz, flatV, cellsOf, addOff, firstReg, oneOf, cellsAt, isAggD, isPure, ↓reduceIte, reduceCtorEq, Nat.reduceAdd, Nat.reduceSub, Nat.reduceMul, Nat.reduceLeDiff, Nat.reduceEqDiff, Nat.reduceBEq, Int.reduceToNat, Int.reduceLE, Int.reduceLT, Nat.reduceLT, Int.reduceBEq, Int.reduceBNe, Int.reduceEq, String.reduceEq, xk B12 [2, 3, 2, 3, 2, 3, 2, 2, 2, 1, 2, 2, 2, 2] (.cd 103) rfl]
  replace hF := cond_some hF
  rcases hF with ⟨h1, hF⟩ | ⟨h1, hF⟩
  · have q2 : [[V.p (Value.int .i64 m1_9)]] = rowsOf (encI .i64) ([m1_9] : List Int) := rfl
    have q3 : List.map (tell [0]) (rowsOf (encI .i64) ([m1_9] : List Int)) = rowsOf (encI .i64) ([m1_9] : List Int) := rfl
    simp (maxSteps := 999999) (disch := first | exact D (by decide) | exact K (by kernel_rfl)) only [EA, EE, EG, EF, ED, ofVal, ofVal1, ofCell, lenV, aggEqV, cellEq, intBin, isShift, V.ids, lendV, frz, flatV, cellsOf, addOff, firstReg, oneOf, cellsAt, isAggD, isPure, ↓reduceIte, reduceCtorEq, Nat.reduceAdd, Nat.reduceSub, Nat.reduceMul, Nat.reduceLeDiff, Nat.reduceEqDiff, Nat.reduceBEq, Int.reduceToNat, Int.reduceLE, Int.reduceLT, Nat.reduceLT, Int.reduceBEq, Int.reduceBNe, Int.reduceEq, String.reduceEq, show (nav B12 [2, 2, 3, 2, 3, 2, 3, 2, 2, 2, 1, 2, 2, 2, 2]) = Code.region 24 _ false from rfl, hk_12_24, hz_12_24, hs_12_24, fieldAddrV, u_26, i_26, is_26, ib_26, iz_26, u_3, i_3, is_3, ib_3, iz_3, buildSliceV, fillRows, sm_3, u_63, i_63, is_63, ib_63, iz_63, callStep, calleeOf, gv, List.contains, h1, q2, q3]
    replace hF := Option.bind_eq_some_iff.1 hF
    obtain ⟨o4, h5, hF⟩ := hF
    have hc6 := f22_pr_bow_ok k ([m1_9] : List Int) m16 _ h5
    cases o4 with
    | o0 v7 =>
      (try dsimp only at hF)
      (try simp only [NM, EE, R22_pr_bow.st] at hc6)
      have hJ := f12_ai10brrz_j8_ok k v7 _ hF
      simp (maxSteps := 999999) (disch := first | exact D (by decide) | exact K (by kernel_rfl)) only [EA, EE, EG, EF, ED, ofVal, ofVal1, ofCell, lenV, aggEqV, cellEq, intBin, isShift, V.ids, lendV, frz, flatV, cellsOf, addOff, firstReg, oneOf, cellsAt, isAggD, isPure, ↓reduceIte, reduceCtorEq, Nat.reduceAdd, Nat.reduceSub, Nat.reduceMul, Nat.reduceLeDiff, Nat.reduceEqDiff, Nat.reduceBEq, Int.reduceToNat, Int.reduceLE, Int.reduceLT, Nat.reduceLT, Int.reduceBEq, Int.reduceBNe, Int.reduceEq, String.reduceEq, h1, q2, q3, hc6]
      try simp only [NM, EE] at hJ
      exact hJ
    | o1 v8 v9 =>
      (try dsimp only at hF)
      (try simp only [NM, EE, R22_pr_bow.st] at hc6)
      have hJ := f12_ai10brrz_j11_ok k v9 _ hF
      simp (maxSteps := 999999) (disch := first | exact D (by decide) | exact K (by kernel_rfl)) only [EA, EE, EG, EF, ED, ofVal, ofVal1, ofCell, lenV, aggEqV, cellEq, intBin, isShift, V.ids, lendV, frz, flatV, cellsOf, addOff, firstReg, oneOf, cellsAt, isAggD, isPure, ↓reduceIte, reduceCtorEq, Nat.reduceAdd, Nat.reduceSub, Nat.reduceMul, Nat.reduceLeDiff, Nat.reduceEqDiff, Nat.reduceBEq, Int.reduceToNat, Int.reduceLE, Int.reduceLT, Nat.reduceLT, Int.reduceBEq, Int.reduceBNe, Int.reduceEq, String.reduceEq, h1, q2, q3, hc6]
      try simp only [NM, EE] at hJ
      exact hJ
  · have hJ := f12_ai10brrz_j12_ok k x28 false m1 m1_1 m1_2 m1_3 m1_4 m1_5 m1_6 m1_7 m1_8 m1_9 m1_10 m1_11 m1_12 m16 _ hF
    simp (maxSteps := 999999) (disch := first | exact D (by decide) | exact K (by kernel_rfl)) only [EA, EE, EG, EF, ED, ofVal, ofVal1, ofCell, lenV, aggEqV, cellEq, intBin, isShift, V.ids, lendV, frz, flatV, cellsOf, addOff, firstReg, oneOf, cellsAt, isAggD, isPure, ↓reduceIte, reduceCtorEq, Nat.reduceAdd, Nat.reduceSub, Nat.reduceMul, Nat.reduceLeDiff, Nat.reduceEqDiff, Nat.reduceBEq, Int.reduceToNat, Int.reduceLE, Int.reduceLT, Nat.reduceLT, Int.reduceBEq, Int.reduceBNe, Int.reduceEq, String.reduceEq, xk B12 [3, 2, 3, 2, 3, 2, 3, 2, 2, 2, 1, 2, 2, 2, 2] .sk rfl, h1]
    try simp only [NM, EE] at hJ
    exact hJ
noncomputable def f12_ai10brrz_j14 (k : Nat) (x103 : Bool) (m1 : Int) (m1_1 : Int) (m1_2 : Int) (m1_3 : Int) (m1_4 : Int) (m1_5 : Int) (m1_6 : Int) (m1_7 : Int) (m1_8 : Int) (m1_9 : Int) (m1_10 : Bool) (m1_11 : List Int) (m1_12 : List T45) (m16 : List Int) : Option R12_ai10brrz :=
  Option.bind (f23_r k m16) fun o1 =>
    match o1 with
    | .o0 v4 =>
      some (R12_ai10brrz.o0 0 v4)
theorem f12_ai10brrz_j14_ok (k : Nat) (x103 : Bool) (m1 : Int) (m1_1 : Int) (m1_2 : Int) (m1_3 : Int) (m1_4 : Int) (m1_5 : Int) (m1_6 : Int) (m1_7 : Int) (m1_8 : Int) (m1_9 : Int) (m1_10 : Bool) (m1_11 : List Int) (m1_12 : List T45) (m16 : List Int) (r : R12_ai10brrz) (hF : f12_ai10brrz_j14 k x103 m1 m1_1 m1_2 m1_3 m1_4 m1_5 m1_6 m1_7 m1_8 m1_9 m1_10 m1_11 m1_12 m16 = some r) : finK Try.prog Try.f12 0 (EX 12 k (nav B12 [2, 2, 2, 2, 2]) ({ n := 116, F := [(1, V.ptr 1 0), (5, V.ptr 18 0), (103, V.p (Value.bool x103))], M := [(1, O.box 26 [V.p (Value.int .i64 m1), V.p (Value.int .i64 m1_1), V.p (Value.int .u32 m1_2), V.p (Value.int .u32 m1_3), V.p (Value.int .u32 m1_4), V.p (Value.int .i64 m1_5), V.p (Value.int .i64 m1_6), V.p (Value.int .i64 m1_7), V.p (Value.int .i64 m1_8), V.p (Value.int .i64 m1_9), V.p (Value.bool m1_10), V.sl 1 (rowsOf (encI .u8) m1_11), V.sl 2 (rowsOf encT45 m1_12)]), (18, O.box 52 [V.own 16]), (16, O.row true 1 5 (rowsOf (encI .u8) m16))] } : St)) = some r.st := by
  unfold f12_ai10brrz_j14 at hF
  replace hF := Option.bind_eq_some_iff.1 hF
  obtain ⟨o1, h2, hF⟩ := hF
  have hc3 := f23_r_ok k m16 _ h2
  cases o1 with
  | o0 v4 =>
    (try dsimp only at hF)
    (try simp only [NM, EE, R23_r.st] at hc3)
    cases hF
    simp (maxSteps := 999999) (disch := first | exact D (by decide) | exact K (by kernel_rfl)) only [EA, EE, EG, EF, ED, ofVal, ofVal1, ofCell, lenV, aggEqV, cellEq, intBin, isShift, V.ids, lendV, frz, flatV, cellsOf, addOff, firstReg, oneOf, cellsAt, isAggD, isPure, ↓reduceIte, reduceCtorEq, Nat.reduceAdd, Nat.reduceSub, Nat.reduceMul, Nat.reduceLeDiff, Nat.reduceEqDiff, Nat.reduceBEq, Int.reduceToNat, Int.reduceLE, Int.reduceLT, Nat.reduceLT, Int.reduceBEq, Int.reduceBNe, Int.reduceEq, String.reduceEq, xk B12 [2, 2, 2, 2, 2] .sq rfl, show (nav B12 [1, 2, 2, 2, 2, 2]) = Code.region 25 _ false from rfl, hk_12_25, hz_12_25, hs_12_25, fieldAddrV, u_52, i_52, is_52, ib_52, iz_52, u_23, i_23, is_23, ib_23, iz_23, callStep, calleeOf, gv, List.contains, xk B12 [2, 2, 2, 2, 2, 2] .rt rfl, finK_norm, finK_ret, fin12, R12_ai10brrz.st, hc3]
noncomputable def f12_ai10brrz_j13 (k : Nat) (x103 : Bool) (m1 : Int) (m1_1 : Int) (m1_2 : Int) (m1_3 : Int) (m1_4 : Int) (m1_5 : Int) (m1_6 : Int) (m1_7 : Int) (m1_8 : Int) (m1_9 : Int) (m1_10 : Bool) (m1_11 : List Int) (m1_12 : List T45) (m16 : List Int) : Option R12_ai10brrz :=
  cond (x103)
    (
      Option.bind (f22_pr_bow k ([m1_9] : List Int) m16) fun o4 =>
        match o4 with
        | .o0 v7 =>
          f12_ai10brrz_j8 k v7
        | .o1 v8 v9 =>
          f12_ai10brrz_j11 k v9)
    (f12_ai10brrz_j14 k false m1 m1_1 m1_2 m1_3 m1_4 m1_5 m1_6 m1_7 m1_8 m1_9 m1_10 m1_11 m1_12 m16)
theorem f12_ai10brrz_j13_ok (k : Nat) (x103 : Bool) (m1 : Int) (m1_1 : Int) (m1_2 : Int) (m1_3 : Int) (m1_4 : Int) (m1_5 : Int) (m1_6 : Int) (m1_7 : Int) (m1_8 : Int) (m1_9 : Int) (m1_10 : Bool) (m1_11 : List Int) (m1_12 : List T45) (m16 : List Int) (r : R12_ai10brrz) (hF : f12_ai10brrz_j13 k x103 m1 m1_1 m1_2 m1_3 m1_4 m1_5 m1_6 m1_7 m1_8 m1_9 m1_10 m1_11 m1_12 m16 = some r) : finK Try.prog Try.f12 0 (SQ 12 k (nav B12 [2, 2, 2, 2, 2]) (blockK 0 (EX 12 k (nav B12 [2, 3, 2, 3, 2, 3, 2, 2, 2, 1, 2, 2, 2, 2]) ({ n := 116, F := [(1, V.ptr 1 0), (5, V.ptr 18 0), (103, V.p (Value.bool x103))], M := [(1, O.box 26 [V.p (Value.int .i64 m1), V.p (Value.int .i64 m1_1), V.p (Value.int .u32 m1_2), V.p (Value.int .u32 m1_3), V.p (Value.int .u32 m1_4), V.p (Value.int .i64 m1_5), V.p (Value.int .i64 m1_6), V.p (Value.int .i64 m1_7), V.p (Value.int .i64 m1_8), V.p (Value.int .i64 m1_9), V.p (Value.bool m1_10), V.sl 1 (rowsOf (encI .u8) m1_11), V.sl 2 (rowsOf encT45 m1_12)]), (18, O.box 52 [V.own 16]), (16, O.row true 1 5 (rowsOf (encI .u8) m16))] } : St)))) = some r.st := by
  unfold f12_ai10brrz_j13 at hF
  simp (maxSteps := 999999) (disch := first | exact D (by decide) | exact K (by kernel_rfl)) only [EA, EE, EG, EF, ED, ofVal, ofVal1, ofCell, lenV, aggEqV, cellEq, intBin, isShift, V.ids, lendV, frz, flatV, cellsOf, addOff, firstReg, oneOf, cellsAt, isAggD, isPure, ↓reduceIte, reduceCtorEq, Nat.reduceAdd, Nat.reduceSub, Nat.reduceMul, Nat.reduceLeDiff, Nat.reduceEqDiff, Nat.reduceBEq, Int.reduceToNat, Int.reduceLE, Int.reduceLT, Nat.reduceLT, Int.reduceBEq, Int.reduceBNe, Int.reduceEq, String.reduceEq, xk B12 [2, 3, 2, 3, 2, 3, 2, 2, 2, 1, 2, 2, 2, 2] (.cd 103) rfl]
  replace hF := cond_some hF
  rcases hF with ⟨h1, hF⟩ | ⟨h1, hF⟩
  · have q2 : [[V.p (Value.int .i64 m1_9)]] = rowsOf (encI .i64) ([m1_9] : List Int) := rfl
    have q3 : List.map (tell [0]) (rowsOf (encI .i64) ([m1_9] : List Int)) = rowsOf (encI .i64) ([m1_9] : List Int) := rfl
    simp (maxSteps := 999999) (disch := first | exact D (by decide) | exact K (by kernel_rfl)) only [EA, EE, EG, EF, ED, ofVal, ofVal1, ofCell, lenV, aggEqV, cellEq, intBin, isShift, V.ids, lendV, frz, flatV, cellsOf, addOff, firstReg, oneOf, cellsAt, isAggD, isPure, ↓reduceIte, reduceCtorEq, Nat.reduceAdd, Nat.reduceSub, Nat.reduceMul, Nat.reduceLeDiff, Nat.reduceEqDiff, Nat.reduceBEq, Int.reduceToNat, Int.reduceLE, Int.reduceLT, Nat.reduceLT, Int.reduceBEq, Int.reduceBNe, Int.reduceEq, String.reduceEq, show (nav B12 [2, 2, 3, 2, 3, 2, 3, 2, 2, 2, 1, 2, 2, 2, 2]) = Code.region 24 _ false from rfl, hk_12_24, hz_12_24, hs_12_24, fieldAddrV, u_26, i_26, is_26, ib_26, iz_26, u_3, i_3, is_3, ib_3, iz_3, buildSliceV, fillRows, sm_3, u_63, i_63, is_63, ib_63, iz_63, callStep, calleeOf, gv, List.contains, h1, q2, q3]
    replace hF := Option.bind_eq_some_iff.1 hF
    obtain ⟨o4, h5, hF⟩ := hF
    have hc6 := f22_pr_bow_ok k ([m1_9] : List Int) m16 _ h5
    cases o4 with
    | o0 v7 =>
      (try dsimp only at hF)
      (try simp only [NM, EE, R22_pr_bow.st] at hc6)
      have hJ := f12_ai10brrz_j8_ok k v7 _ hF
      simp (maxSteps := 999999) (disch := first | exact D (by decide) | exact K (by kernel_rfl)) only [EA, EE, EG, EF, ED, ofVal, ofVal1, ofCell, lenV, aggEqV, cellEq, intBin, isShift, V.ids, lendV, frz, flatV, cellsOf, addOff, firstReg, oneOf, cellsAt, isAggD, isPure, ↓reduceIte, reduceCtorEq, Nat.reduceAdd, Nat.reduceSub, Nat.reduceMul, Nat.reduceLeDiff, Nat.reduceEqDiff, Nat.reduceBEq, Int.reduceToNat, Int.reduceLE, Int.reduceLT, Nat.reduceLT, Int.reduceBEq, Int.reduceBNe, Int.reduceEq, String.reduceEq, h1, q2, q3, hc6]
      try simp only [NM, EE] at hJ
      exact hJ
    | o1 v8 v9 =>
      (try dsimp only at hF)
      (try simp only [NM, EE, R22_pr_bow.st] at hc6)
      have hJ := f12_ai10brrz_j11_ok k v9 _ hF
      simp (maxSteps := 999999) (disch := first | exact D (by decide) | exact K (by kernel_rfl)) only [EA, EE, EG, EF, ED, ofVal, ofVal1, ofCell, lenV, aggEqV, cellEq, intBin, isShift, V.ids, lendV, frz, flatV, cellsOf, addOff, firstReg, oneOf, cellsAt, isAggD, isPure, ↓reduceIte, reduceCtorEq, Nat.reduceAdd, Nat.reduceSub, Nat.reduceMul, Nat.reduceLeDiff, Nat.reduceEqDiff, Nat.reduceBEq, Int.reduceToNat, Int.reduceLE, Int.reduceLT, Nat.reduceLT, Int.reduceBEq, Int.reduceBNe, Int.reduceEq, String.reduceEq, h1, q2, q3, hc6]
      try simp only [NM, EE] at hJ
      exact hJ
  · have hJ := f12_ai10brrz_j14_ok k false m1 m1_1 m1_2 m1_3 m1_4 m1_5 m1_6 m1_7 m1_8 m1_9 m1_10 m1_11 m1_12 m16 _ hF
    simp (maxSteps := 999999) (disch := first | exact D (by decide) | exact K (by kernel_rfl)) only [EA, EE, EG, EF, ED, ofVal, ofVal1, ofCell, lenV, aggEqV, cellEq, intBin, isShift, V.ids, lendV, frz, flatV, cellsOf, addOff, firstReg, oneOf, cellsAt, isAggD, isPure, ↓reduceIte, reduceCtorEq, Nat.reduceAdd, Nat.reduceSub, Nat.reduceMul, Nat.reduceLeDiff, Nat.reduceEqDiff, Nat.reduceBEq, Int.reduceToNat, Int.reduceLE, Int.reduceLT, Nat.reduceLT, Int.reduceBEq, Int.reduceBNe, Int.reduceEq, String.reduceEq, xk B12 [3, 2, 3, 2, 3, 2, 3, 2, 2, 2, 1, 2, 2, 2, 2] .sk rfl, h1]
    try simp only [NM, EE] at hJ
    exact hJ
noncomputable def f12_ai10brrz_j15 (k : Nat) (m1 : Int) (m1_1 : Int) (m1_2 : Int) (m1_3 : Int) (m1_4 : Int) (m1_5 : Int) (m1_6 : Int) (m1_7 : Int) (m1_8 : Int) (m1_9 : Int) (m1_10 : Bool) (m1_11 : List Int) (m1_12 : List T45) (m26 : List Int) : Option R12_ai10brrz :=
  Option.bind (f22_pr_bow k ([m1_5, m1_6, ((List.length m1_11) : Int)] : List Int) m26) fun o3 =>
    match o3 with
    | .o0 v6 =>
      ifE (((List.length v6) + (List.length m1_11)) ≤ roomy) (
        f12_ai10brrz_j3 k (v6 ++ m1_11))
    | .o1 v8 v9 =>
      ifE (((List.length v9) + (List.length m1_11)) ≤ roomy) (
        f12_ai10brrz_j3 k (v9 ++ m1_11))
theorem f12_ai10brrz_j15_ok (k : Nat) (m1 : Int) (m1_1 : Int) (m1_2 : Int) (m1_3 : Int) (m1_4 : Int) (m1_5 : Int) (m1_6 : Int) (m1_7 : Int) (m1_8 : Int) (m1_9 : Int) (m1_10 : Bool) (m1_11 : List Int) (m1_12 : List T45) (m26 : List Int) (r : R12_ai10brrz) (hF : f12_ai10brrz_j15 k m1 m1_1 m1_2 m1_3 m1_4 m1_5 m1_6 m1_7 m1_8 m1_9 m1_10 m1_11 m1_12 m26 = some r) : finK Try.prog Try.f12 0 (SQ 12 k (nav B12 [2, 2, 2, 2, 2]) (blockK 0 (EX 12 k (nav B12 [2, 2, 2, 2, 2, 1, 2, 2, 2, 2]) ({ n := 116, F := [(1, V.ptr 1 0), (5, V.ptr 18 0)], M := [(1, O.box 26 [V.p (Value.int .i64 m1), V.p (Value.int .i64 m1_1), V.p (Value.int .u32 m1_2), V.p (Value.int .u32 m1_3), V.p (Value.int .u32 m1_4), V.p (Value.int .i64 m1_5), V.p (Value.int .i64 m1_6), V.p (Value.int .i64 m1_7), V.p (Value.int .i64 m1_8), V.p (Value.int .i64 m1_9), V.p (Value.bool m1_10), V.sl 1 (rowsOf (encI .u8) m1_11), V.sl 2 (rowsOf encT45 m1_12)]), (18, O.box 52 [V.own 26]), (26, O.row true 1 5 (rowsOf (encI .u8) m26))] } : St)))) = some r.st := by
  unfold f12_ai10brrz_j15 at hF
  have q1 : [[V.p (Value.int .i64 m1_5)], [V.p (Value.int .i64 m1_6)], [V.p (Value.int .i64 ((List.length m1_11) : Int))]] = rowsOf (encI .i64) ([m1_5, m1_6, ((List.length m1_11) : Int)] : List Int) := rfl
  have q2 : List.map (tell [0]) (rowsOf (encI .i64) ([m1_5, m1_6, ((List.length m1_11) : Int)] : List Int)) = rowsOf (encI .i64) ([m1_5, m1_6, ((List.length m1_11) : Int)] : List Int) := rfl
  simp (maxSteps := 999999) (disch := first | exact D (by decide) | exact K (by kernel_rfl)) only [EA, EE, EG, EF, ED, ofVal, ofVal1, ofCell, lenV, aggEqV, cellEq, intBin, isShift, V.ids, lendV, frz, flatV, cellsOf, addOff, firstReg, oneOf, cellsAt, isAggD, isPure, ↓reduceIte, reduceCtorEq, Nat.reduceAdd, Nat.reduceSub, Nat.reduceMul, Nat.reduceLeDiff, Nat.reduceEqDiff, Nat.reduceBEq, Int.reduceToNat, Int.reduceLE, Int.reduceLT, Nat.reduceLT, Int.reduceBEq, Int.reduceBNe, Int.reduceEq, String.reduceEq, xk B12 [2, 2, 2, 2, 2, 1, 2, 2, 2, 2] .sq rfl, show (nav B12 [1, 2, 2, 2, 2, 2, 1, 2, 2, 2, 2]) = Code.region 11 _ false from rfl, hk_12_11, hz_12_11, hs_12_11, fieldAddrV, u_26, i_26, is_26, ib_26, iz_26, u_3, i_3, is_3, ib_3, iz_3, u_23, i_23, is_23, ib_23, iz_23, buildSliceV, fillRows, sm_3, u_63, i_63, is_63, ib_63, iz_63, callStep, calleeOf, gv, List.contains, q1, q2]
  replace hF := Option.bind_eq_some_iff.1 hF
  obtain ⟨o3, h4, hF⟩ := hF
  have hc5 := f22_pr_bow_ok k ([m1_5, m1_6, ((List.length m1_11) : Int)] : List Int) m26 _ h4
  cases o3 with
  | o0 v6 =>
    (try dsimp only at hF)
    (try simp only [NM, EE, R22_pr_bow.st] at hc5)
    replace hF := ifE_some.1 hF
    obtain ⟨h7, hF⟩ := hF
    have hJ := f12_ai10brrz_j3_ok k (v6 ++ m1_11) _ hF
    simp (maxSteps := 999999) (disch := first | exact D (by decide) | exact K (by kernel_rfl)) only [EA, EE, EG, EF, ED, ofVal, ofVal1, ofCell, lenV, aggEqV, cellEq, intBin, isShift, V.ids, lendV, frz, flatV, cellsOf, addOff, firstReg, oneOf, cellsAt, isAggD, isPure, ↓reduceIte, reduceCtorEq, Nat.reduceAdd, Nat.reduceSub, Nat.reduceMul, Nat.reduceLeDiff, Nat.reduceEqDiff, Nat.reduceBEq, Int.reduceToNat, Int.reduceLE, Int.reduceLT, Nat.reduceLT, Int.reduceBEq, Int.reduceBNe, Int.reduceEq, String.reduceEq, show (nav B12 [2, 2, 2, 2, 2, 2, 1, 2, 2, 2, 2]) = Code.region 12 _ true from rfl, hk_12_12, hz_12_12, hs_12_12, fieldAddrV, u_52, i_52, is_52, ib_52, iz_52, u_23, i_23, is_23, ib_23, iz_23, u_26, i_26, is_26, ib_26, iz_26, appendV, content, u_5, i_5, is_5, ib_5, iz_5, q1, q2, hc5, h7]
    try simp only [NM, EE] at hJ
    exact hJ
  | o1 v8 v9 =>
    (try dsimp only at hF)
    (try simp only [NM, EE, R22_pr_bow.st] at hc5)
    replace hF := ifE_some.1 hF
    obtain ⟨h10, hF⟩ := hF
    have hJ := f12_ai10brrz_j3_ok k (v9 ++ m1_11) _ hF
    simp (maxSteps := 999999) (disch := first | exact D (by decide) | exact K (by kernel_rfl)) only [EA, EE, EG, EF, ED, ofVal, ofVal1, ofCell, lenV, aggEqV, cellEq, intBin, isShift, V.ids, lendV, frz, flatV, cellsOf, addOff, firstReg, oneOf, cellsAt, isAggD, isPure, ↓reduceIte, reduceCtorEq, Nat.reduceAdd, Nat.reduceSub, Nat.reduceMul, Nat.reduceLeDiff, Nat.reduceEqDiff, Nat.reduceBEq, Int.reduceToNat, Int.reduceLE, Int.reduceLT, Nat.reduceLT, Int.reduceBEq, Int.reduceBNe, Int.reduceEq, String.reduceEq, show (nav B12 [2, 2, 2, 2, 2, 2, 1, 2, 2, 2, 2]) = Code.region 12 _ true from rfl, hk_12_12, hz_12_12, hs_12_12, fieldAddrV, u_52, i_52, is_52, ib_52, iz_52, u_23, i_23, is_23, ib_23, iz_23, u_26, i_26, is_26, ib_26, iz_26, appendV, content, u_5, i_5, is_5, ib_5, iz_5, q1, q2, hc5, h10]
    try simp only [NM, EE] at hJ
    exact hJ
noncomputable def f12_ai10brrz_j16 (k : Nat) (m26 : List Int) : Option R12_ai10brrz :=
  Option.bind (f23_r k m26) fun o1 =>
    match o1 with
    | .o0 v4 =>
      some (R12_ai10brrz.o0 0 v4)
theorem f12_ai10brrz_j16_ok (k : Nat) (m26 : List Int) (r : R12_ai10brrz) (hF : f12_ai10brrz_j16 k m26 = some r) : finK Try.prog Try.f12 0 (EX 12 k (nav B12 [2, 2, 2, 2, 2]) ({ n := 116, F := [(5, V.ptr 18 0)], M := [(18, O.box 52 [V.own 26]), (26, O.row true 1 5 (rowsOf (encI .u8) m26))] } : St)) = some r.st := by
  unfold f12_ai10brrz_j16 at hF
  replace hF := Option.bind_eq_some_iff.1 hF
  obtain ⟨o1, h2, hF⟩ := hF
  have hc3 := f23_r_ok k m26 _ h2
  cases o1 with
  | o0 v4 =>
    (try dsimp only at hF)
    (try simp only [NM, EE, R23_r.st] at hc3)
    cases hF
    simp (maxSteps := 999999) (disch := first | exact D (by decide) | exact K (by kernel_rfl)) only [EA, EE, EG, EF, ED, ofVal, ofVal1, ofCell, lenV, aggEqV, cellEq, intBin, isShift, V.ids, lendV, frz, flatV, cellsOf, addOff, firstReg, oneOf, cellsAt, isAggD, isPure, ↓reduceIte, reduceCtorEq, Nat.reduceAdd, Nat.reduceSub, Nat.reduceMul, Nat.reduceLeDiff, Nat.reduceEqDiff, Nat.reduceBEq, Int.reduceToNat, Int.reduceLE, Int.reduceLT, Nat.reduceLT, Int.reduceBEq, Int.reduceBNe, Int.reduceEq, String.reduceEq, xk B12 [2, 2, 2, 2, 2] .sq rfl, show (nav B12 [1, 2, 2, 2, 2, 2]) = Code.region 25 _ false from rfl, hk_12_25, hz_12_25, hs_12_25, fieldAddrV, u_52, i_52, is_52, ib_52, iz_52, u_23, i_23, is_23, ib_23, iz_23, callStep, calleeOf, gv, List.contains, xk B12 [2, 2, 2, 2, 2, 2] .rt rfl, finK_norm, finK_ret, fin12, R12_ai10brrz.st, hc3]
noncomputable def f12_ai10brrz_j18 (k : Nat) (x28 : Int) (x103 : Bool) (m1 : Int) (m1_1 : Int) (m1_2 : Int) (m1_3 : Int) (m1_4 : Int) (m1_5 : Int) (m1_6 : Int) (m1_7 : Int) (m1_8 : Int) (m1_9 : Int) (m1_10 : Bool) (m1_11 : List Int) (m1_12 : List T45) (m26 : List Int) : Option R12_ai10brrz :=
  Option.bind (f23_r k m26) fun o1 =>
    match o1 with
    | .o0 v4 =>
      some (R12_ai10brrz.o0 0 v4)
theorem f12_ai10brrz_j18_ok (k : Nat) (x28 : Int) (x103 : Bool) (m1 : Int) (m1_1 : Int) (m1_2 : Int) (m1_3 : Int) (m1_4 : Int) (m1_5 : Int) (m1_6 : Int) (m1_7 : Int) (m1_8 : Int) (m1_9 : Int) (m1_10 : Bool) (m1_11 : List Int) (m1_12 : List T45) (m26 : List Int) (r : R12_ai10brrz) (hF : f12_ai10brrz_j18 k x28 x103 m1 m1_1 m1_2 m1_3 m1_4 m1_5 m1_6 m1_7 m1_8 m1_9 m1_10 m1_11 m1_12 m26 = some r) : finK Try.prog Try.f12 0 (EX 12 k (nav B12 [2, 2, 2, 2, 2]) ({ n := 116, F := [(1, V.ptr 1 0), (5, V.ptr 18 0), (28, V.p (Value.int .i64 x28)), (103, V.p (Value.bool x103))], M := [(1, O.box 26 [V.p (Value.int .i64 m1), V.p (Value.int .i64 m1_1), V.p (Value.int .u32 m1_2), V.p (Value.int .u32 m1_3), V.p (Value.int .u32 m1_4), V.p (Value.int .i64 m1_5), V.p (Value.int .i64 m1_6), V.p (Value.int .i64 m1_7), V.p (Value.int .i64 m1_8), V.p (Value.int .i64 m1_9), V.p (Value.bool m1_10), V.sl 1 (rowsOf (encI .u8) m1_11), V.sl 2 (rowsOf encT45 m1_12)]), (18, O.box 52 [V.own 26]), (26, O.row true 1 5 (rowsOf (encI .u8) m26))] } : St)) = some r.st := by
  unfold f12_ai10brrz_j18 at hF
  replace hF := Option.bind_eq_some_iff.1 hF
  obtain ⟨o1, h2, hF⟩ := hF
  have hc3 := f23_r_ok k m26 _ h2
  cases o1 with
  | o0 v4 =>
    (try dsimp only at hF)
    (try simp only [NM, EE, R23_r.st] at hc3)
    cases hF
    simp (maxSteps := 999999) (disch := first | exact D (by decide) | exact K (by kernel_rfl)) only [EA, EE, EG, EF, ED, ofVal, ofVal1, ofCell, lenV, aggEqV, cellEq, intBin, isShift, V.ids, lendV, frz, flatV, cellsOf, addOff, firstReg, oneOf, cellsAt, isAggD, isPure, ↓reduceIte, reduceCtorEq, Nat.reduceAdd, Nat.reduceSub, Nat.reduceMul, Nat.reduceLeDiff, Nat.reduceEqDiff, Nat.reduceBEq, Int.reduceToNat, Int.reduceLE, Int.reduceLT, Nat.reduceLT, Int.reduceBEq, Int.reduceBNe, Int.reduceEq, String.reduceEq, xk B12 [2, 2, 2, 2, 2] .sq rfl, show (nav B12 [1, 2, 2, 2, 2, 2]) = Code.region 25 _ false from rfl, hk_12_25, hz_12_25, hs_12_25, fieldAddrV, u_52, i_52, is_52, ib_52, iz_52, u_23, i_23, is_23, ib_23, iz_23, callStep, calleeOf, gv, List.contains, xk B12 [2, 2, 2, 2, 2, 2] .rt rfl, finK_norm, finK_ret, fin12, R12_ai10brrz.st, hc3]
noncomputable def f12_ai10brrz_j17 (k : Nat) (x28 : Int) (x103 : Bool) (m1 : Int) (m1_1 : Int) (m1_2 : Int) (m1_3 : Int) (m1_4 : Int) (m1_5 : Int) (m1_6 : Int) (m1_7 : Int) (m1_8 : Int) (m1_9 : Int) (m1_10 : Bool) (m1_11 : List Int) (m1_12 : List T45) (m26 : List Int) : Option R12_ai10brrz :=
  cond (x103)
    (
      Option.bind (f22_pr_bow k ([m1_9] : List Int) m26) fun o4 =>
        match o4 with
        | .o0 v7 =>
          f12_ai10brrz_j16 k v7
        | .o1 v8 v9 =>
          f12_ai10brrz_j11 k v9)
    (f12_ai10brrz_j18 k x28 false m1 m1_1 m1_2 m1_3 m1_4 m1_5 m1_6 m1_7 m1_8 m1_9 m1_10 m1_11 m1_12 m26)
theorem f12_ai10brrz_j17_ok (k : Nat) (x28 : Int) (x103 : Bool) (m1 : Int) (m1_1 : Int) (m1_2 : Int) (m1_3 : Int) (m1_4 : Int) (m1_5 : Int) (m1_6 : Int) (m1_7 : Int) (m1_8 : Int) (m1_9 : Int) (m1_10 : Bool) (m1_11 : List Int) (m1_12 : List T45) (m26 : List Int) (r : R12_ai10brrz) (hF : f12_ai10brrz_j17 k x28 x103 m1 m1_1 m1_2 m1_3 m1_4 m1_5 m1_6 m1_7 m1_8 m1_9 m1_10 m1_11 m1_12 m26 = some r) : finK Try.prog Try.f12 0 (SQ 12 k (nav B12 [2, 2, 2, 2, 2]) (blockK 0 (EX 12 k (nav B12 [2, 3, 2, 3, 2, 3, 2, 2, 2, 1, 2, 2, 2, 2]) ({ n := 116, F := [(1, V.ptr 1 0), (5, V.ptr 18 0), (28, V.p (Value.int .i64 x28)), (103, V.p (Value.bool x103))], M := [(1, O.box 26 [V.p (Value.int .i64 m1), V.p (Value.int .i64 m1_1), V.p (Value.int .u32 m1_2), V.p (Value.int .u32 m1_3), V.p (Value.int .u32 m1_4), V.p (Value.int .i64 m1_5), V.p (Value.int .i64 m1_6), V.p (Value.int .i64 m1_7), V.p (Value.int .i64 m1_8), V.p (Value.int .i64 m1_9), V.p (Value.bool m1_10), V.sl 1 (rowsOf (encI .u8) m1_11), V.sl 2 (rowsOf encT45 m1_12)]), (18, O.box 52 [V.own 26]), (26, O.row true 1 5 (rowsOf (encI .u8) m26))] } : St)))) = some r.st := by
  unfold f12_ai10brrz_j17 at hF
  simp (maxSteps := 999999) (disch := first | exact D (by decide) | exact K (by kernel_rfl)) only [EA, EE, EG, EF, ED, ofVal, ofVal1, ofCell, lenV, aggEqV, cellEq, intBin, isShift, V.ids, lendV, frz, flatV, cellsOf, addOff, firstReg, oneOf, cellsAt, isAggD, isPure, ↓reduceIte, reduceCtorEq, Nat.reduceAdd, Nat.reduceSub, Nat.reduceMul, Nat.reduceLeDiff, Nat.reduceEqDiff, Nat.reduceBEq, Int.reduceToNat, Int.reduceLE, Int.reduceLT, Nat.reduceLT, Int.reduceBEq, Int.reduceBNe, Int.reduceEq, String.reduceEq, xk B12 [2, 3, 2, 3, 2, 3, 2, 2, 2, 1, 2, 2, 2, 2] (.cd 103) rfl]
  replace hF := cond_some hF
  rcases hF with ⟨h1, hF⟩ | ⟨h1, hF⟩
  · have q2 : [[V.p (Value.int .i64 m1_9)]] = rowsOf (encI .i64) ([m1_9] : List Int) := rfl
    have q3 : List.map (tell [0]) (rowsOf (encI .i64) ([m1_9] : List Int)) = rowsOf (encI .i64) ([m1_9] : List Int) := rfl
    simp (maxSteps := 999999) (disch := first | exact D (by decide) | exact K (by kernel_rfl)) only [EA, EE, EG, EF, ED, ofVal, ofVal1, ofCell, lenV, aggEqV, cellEq, intBin, isShift, V.ids, lendV, frz, flatV, cellsOf, addOff, firstReg, oneOf, cellsAt, isAggD, isPure, ↓reduceIte, reduceCtorEq, Nat.reduceAdd, Nat.reduceSub, Nat.reduceMul, Nat.reduceLeDiff, Nat.reduceEqDiff, Nat.reduceBEq, Int.reduceToNat, Int.reduceLE, Int.reduceLT, Nat.reduceLT, Int.reduceBEq, Int.reduceBNe, Int.reduceEq, String.reduceEq, show (nav B12 [2, 2, 3, 2, 3, 2, 3, 2, 2, 2, 1, 2, 2, 2, 2]) = Code.region 24 _ false from rfl, hk_12_24, hz_12_24, hs_12_24, fieldAddrV, u_26, i_26, is_26, ib_26, iz_26, u_3, i_3, is_3, ib_3, iz_3, buildSliceV, fillRows, sm_3, u_63, i_63, is_63, ib_63, iz_63, callStep, calleeOf, gv, List.contains, h1, q2, q3]
    replace hF := Option.bind_eq_some_iff.1 hF
    obtain ⟨o4, h5, hF⟩ := hF
    have hc6 := f22_pr_bow_ok k ([m1_9] : List Int) m26 _ h5
    cases o4 with
    | o0 v7 =>
      (try dsimp only at hF)
      (try simp only [NM, EE, R22_pr_bow.st] at hc6)
      have hJ := f12_ai10brrz_j16_ok k v7 _ hF
      simp (maxSteps := 999999) (disch := first | exact D (by decide) | exact K (by kernel_rfl)) only [EA, EE, EG, EF, ED, ofVal, ofVal1, ofCell, lenV, aggEqV, cellEq, intBin, isShift, V.ids, lendV, frz, flatV, cellsOf, addOff, firstReg, oneOf, cellsAt, isAggD, isPure, ↓reduceIte, reduceCtorEq, Nat.reduceAdd, Nat.reduceSub, Nat.reduceMul, Nat.reduceLeDiff, Nat.reduceEqDiff, Nat.reduceBEq, Int.reduceToNat, Int.reduceLE, Int.reduceLT, Nat.reduceLT, Int.reduceBEq, Int.reduceBNe, Int.reduceEq, String.reduceEq, h1, q2, q3, hc6]
      try simp only [NM, EE] at hJ
      exact hJ
    | o1 v8 v9 =>
      (try dsimp only at hF)
      (try simp only [NM, EE, R22_pr_bow.st] at hc6)
      have hJ := f12_ai10brrz_j11_ok k v9 _ hF
      simp (maxSteps := 999999) (disch := first | exact D (by decide) | exact K (by kernel_rfl)) only [EA, EE, EG, EF, ED, ofVal, ofVal1, ofCell, lenV, aggEqV, cellEq, intBin, isShift, V.ids, lendV, frz, flatV, cellsOf, addOff, firstReg, oneOf, cellsAt, isAggD, isPure, ↓reduceIte, reduceCtorEq, Nat.reduceAdd, Nat.reduceSub, Nat.reduceMul, Nat.reduceLeDiff, Nat.reduceEqDiff, Nat.reduceBEq, Int.reduceToNat, Int.reduceLE, Int.reduceLT, Nat.reduceLT, Int.reduceBEq, Int.reduceBNe, Int.reduceEq, String.reduceEq, h1, q2, q3, hc6]
      try simp only [NM, EE] at hJ
      exact hJ
  · have hJ := f12_ai10brrz_j18_ok k x28 false m1 m1_1 m1_2 m1_3 m1_4 m1_5 m1_6 m1_7 m1_8 m1_9 m1_10 m1_11 m1_12 m26 _ hF
    simp (maxSteps := 999999) (disch := first | exact D (by decide) | exact K (by kernel_rfl)) only [EA, EE, EG, EF, ED, ofVal, ofVal1, ofCell, lenV, aggEqV, cellEq, intBin, isShift, V.ids, lendV, frz, flatV, cellsOf, addOff, firstReg, oneOf, cellsAt, isAggD, isPure, ↓reduceIte, reduceCtorEq, Nat.reduceAdd, Nat.reduceSub, Nat.reduceMul, Nat.reduceLeDiff, Nat.reduceEqDiff, Nat.reduceBEq, Int.reduceToNat, Int.reduceLE, Int.reduceLT, Nat.reduceLT, Int.reduceBEq, Int.reduceBNe, Int.reduceEq, String.reduceEq, xk B12 [3, 2, 3, 2, 3, 2, 3, 2, 2, 2, 1, 2, 2, 2, 2] .sk rfl, h1]
    try simp only [NM, EE] at hJ
    exact hJ
noncomputable def f12_ai10brrz_j20 (k : Nat) (x103 : Bool) (m1 : Int) (m1_1 : Int) (m1_2 : Int) (m1_3 : Int) (m1_4 : Int) (m1_5 : Int) (m1_6 : Int) (m1_7 : Int) (m1_8 : Int) (m1_9 : Int) (m1_10 : Bool) (m1_11 : List Int) (m1_12 : List T45) (m26 : List Int) : Option R12_ai10brrz :=
  Option.bind (f23_r k m26) fun o1 =>
    match o1 with
    | .o0 v4 =>
      some (R12_ai10brrz.o0 0 v4)
theorem f12_ai10brrz_j20_ok (k : Nat) (x103 : Bool) (m1 : Int) (m1_1 : Int) (m1_2 : Int) (m1_3 : Int) (m1_4 : Int) (m1_5 : Int) (m1_6 : Int) (m1_7 : Int) (m1_8 : Int) (m1_9 : Int) (m1_10 : Bool) (m1_11 : List Int) (m1_12 : List T45) (m26 : List Int) (r : R12_ai10brrz) (hF : f12_ai10brrz_j20 k x103 m1 m1_1 m1_2 m1_3 m1_4 m1_5 m1_6 m1_7 m1_8 m1_9 m1_10 m1_11 m1_12 m26 = some r) : finK Try.prog Try.f12 0 (EX 12 k (nav B12 [2, 2, 2, 2, 2]) ({ n := 116, F := [(1, V.ptr 1 0), (5, V.ptr 18 0), (103, V.p (Value.bool x103))], M := [(1, O.box 26 [V.p (Value.int .i64 m1), V.p (Value.int .i64 m1_1), V.p (Value.int .u32 m1_2), V.p (Value.int .u32 m1_3), V.p (Value.int .u32 m1_4), V.p (Value.int .i64 m1_5), V.p (Value.int .i64 m1_6), V.p (Value.int .i64 m1_7), V.p (Value.int .i64 m1_8), V.p (Value.int .i64 m1_9), V.p (Value.bool m1_10), V.sl 1 (rowsOf (encI .u8) m1_11), V.sl 2 (rowsOf encT45 m1_12)]), (18, O.box 52 [V.own 26]), (26, O.row true 1 5 (rowsOf (encI .u8) m26))] } : St)) = some r.st := by
  unfold f12_ai10brrz_j20 at hF
  replace hF := Option.bind_eq_some_iff.1 hF
  obtain ⟨o1, h2, hF⟩ := hF
  have hc3 := f23_r_ok k m26 _ h2
  cases o1 with
  | o0 v4 =>
    (try dsimp only at hF)
    (try simp only [NM, EE, R23_r.st] at hc3)
    cases hF
    simp (maxSteps := 999999) (disch := first | exact D (by decide) | exact K (by kernel_rfl)) only [EA, EE, EG, EF, ED, ofVal, ofVal1, ofCell, lenV, aggEqV, cellEq, intBin, isShift, V.ids, lendV, frz, flatV, cellsOf, addOff, firstReg, oneOf, cellsAt, isAggD, isPure, ↓reduceIte, reduceCtorEq, Nat.reduceAdd, Nat.reduceSub, Nat.reduceMul, Nat.reduceLeDiff, Nat.reduceEqDiff, Nat.reduceBEq, Int.reduceToNat, Int.reduceLE, Int.reduceLT, Nat.reduceLT, Int.reduceBEq, Int.reduceBNe, Int.reduceEq, String.reduceEq, xk B12 [2, 2, 2, 2, 2] .sq rfl, show (nav B12 [1, 2, 2, 2, 2, 2]) = Code.region 25 _ false from rfl, hk_12_25, hz_12_25, hs_12_25, fieldAddrV, u_52, i_52, is_52, ib_52, iz_52, u_23, i_23, is_23, ib_23, iz_23, callStep, calleeOf, gv, List.contains, xk B12 [2, 2, 2, 2, 2, 2] .rt rfl, finK_norm, finK_ret, fin12, R12_ai10brrz.st, hc3]
noncomputable def f12_ai10brrz_j19 (k : Nat) (x103 : Bool) (m1 : Int) (m1_1 : Int) (m1_2 : Int) (m1_3 : Int) (m1_4 : Int) (m1_5 : Int) (m1_6 : Int) (m1_7 : Int) (m1_8 : Int) (m1_9 : Int) (m1_10 : Bool) (m1_11 : List Int) (m1_12 : List T45) (m26 : List Int) : Option R12_ai10brrz :=
  cond (x103)
    (
      Option.bind (f22_pr_bow k ([m1_9] : List Int) m26) fun o4 =>
        match o4 with
        | .o0 v7 =>
          f12_ai10brrz_j16 k v7
        | .o1 v8 v9 =>
          f12_ai10brrz_j11 k v9)
    (f12_ai10brrz_j20 k false m1 m1_1 m1_2 m1_3 m1_4 m1_5 m1_6 m1_7 m1_8 m1_9 m1_10 m1_11 m1_12 m26)
theorem f12_ai10brrz_j19_ok (k : Nat) (x103 : Bool) (m1 : Int) (m1_1 : Int) (m1_2 : Int) (m1_3 : Int) (m1_4 : Int) (m1_5 : Int) (m1_6 : Int) (m1_7 : Int) (m1_8 : Int) (m1_9 : Int) (m1_10 : Bool) (m1_11 : List Int) (m1_12 : List T45) (m26 : List Int) (r : R12_ai10brrz) (hF : f12_ai10brrz_j19 k x103 m1 m1_1 m1_2 m1_3 m1_4 m1_5 m1_6 m1_7 m1_8 m1_9 m1_10 m1_11 m1_12 m26 = some r) : finK Try.prog Try.f12 0 (SQ 12 k (nav B12 [2, 2, 2, 2, 2]) (blockK 0 (EX 12 k (nav B12 [2, 3, 2, 3, 2, 3, 2, 2, 2, 1, 2, 2, 2, 2]) ({ n := 116, F := [(1, V.ptr 1 0), (5, V.ptr 18 0), (103, V.p (Value.bool x103))], M := [(1, O.box 26 [V.p (Value.int .i64 m1), V.p (Value.int .i64 m1_1), V.p (Value.int .u32 m1_2), V.p (Value.int .u32 m1_3), V.p (Value.int .u32 m1_4), V.p (Value.int .i64 m1_5), V.p (Value.int .i64 m1_6), V.p (Value.int .i64 m1_7), V.p (Value.int .i64 m1_8), V.p (Value.int .i64 m1_9), V.p (Value.bool m1_10), V.sl 1 (rowsOf (encI .u8) m1_11), V.sl 2 (rowsOf encT45 m1_12)]), (18, O.box 52 [V.own 26]), (26, O.row true 1 5 (rowsOf (encI .u8) m26))] } : St)))) = some r.st := by
  unfold f12_ai10brrz_j19 at hF
  simp (maxSteps := 999999) (disch := first | exact D (by decide) | exact K (by kernel_rfl)) only [EA, EE, EG, EF, ED, ofVal, ofVal1, ofCell, lenV, aggEqV, cellEq, intBin, isShift, V.ids, lendV, frz, flatV, cellsOf, addOff, firstReg, oneOf, cellsAt, isAggD, isPure, ↓reduceIte, reduceCtorEq, Nat.reduceAdd, Nat.reduceSub, Nat.reduceMul, Nat.reduceLeDiff, Nat.reduceEqDiff, Nat.reduceBEq, Int.reduceToNat, Int.reduceLE, Int.reduceLT, Nat.reduceLT, Int.reduceBEq, Int.reduceBNe, Int.reduceEq, String.reduceEq, xk B12 [2, 3, 2, 3, 2, 3, 2, 2, 2, 1, 2, 2, 2, 2] (.cd 103) rfl]
  replace hF := cond_some hF
  rcases hF with ⟨h1, hF⟩ | ⟨h1, hF⟩
  · have q2 : [[V.p (Value.int .i64 m1_9)]] = rowsOf (encI .i64) ([m1_9] : List Int) := rfl
    have q3 : List.map (tell [0]) (rowsOf (encI .i64) ([m1_9] : List Int)) = rowsOf (encI .i64) ([m1_9] : List Int) := rfl
    simp (maxSteps := 999999) (disch := first | exact D (by decide) | exact K (by kernel_rfl)) only [EA, EE, EG, EF, ED, ofVal, ofVal1, ofCell, lenV, aggEqV, cellEq, intBin, isShift, V.ids, lendV, frz, flatV, cellsOf, addOff, firstReg, oneOf, cellsAt, isAggD, isPure, ↓reduceIte, reduceCtorEq, Nat.reduceAdd, Nat.reduceSub, Nat.reduceMul, Nat.reduceLeDiff, Nat.reduceEqDiff, Nat.reduceBEq, Int.reduceToNat, Int.reduceLE, Int.reduceLT, Nat.reduceLT, Int.reduceBEq, Int.reduceBNe, Int.reduceEq, String.reduceEq, show (nav B12 [2, 2, 3, 2, 3, 2, 3, 2, 2, 2, 1, 2, 2, 2, 2]) = Code.region 24 _ false from rfl, hk_12_24, hz_12_24, hs_12_24, fieldAddrV, u_26, i_26, is_26, ib_26, iz_26, u_3, i_3, is_3, ib_3, iz_3, buildSliceV, fillRows, sm_3, u_63, i_63, is_63, ib_63, iz_63, callStep, calleeOf, gv, List.contains, h1, q2, q3]
    replace hF := Option.bind_eq_some_iff.1 hF
    obtain ⟨o4, h5, hF⟩ := hF
    have hc6 := f22_pr_bow_ok k ([m1_9] : List Int) m26 _ h5
    cases o4 with
    | o0 v7 =>
      (try dsimp only at hF)
      (try simp only [NM, EE, R22_pr_bow.st] at hc6)
      have hJ := f12_ai10brrz_j16_ok k v7 _ hF
      simp (maxSteps := 999999) (disch := first | exact D (by decide) | exact K (by kernel_rfl)) only [EA, EE, EG, EF, ED, ofVal, ofVal1, ofCell, lenV, aggEqV, cellEq, intBin, isShift, V.ids, lendV, frz, flatV, cellsOf, addOff, firstReg, oneOf, cellsAt, isAggD, isPure, ↓reduceIte, reduceCtorEq, Nat.reduceAdd, Nat.reduceSub, Nat.reduceMul, Nat.reduceLeDiff, Nat.reduceEqDiff, Nat.reduceBEq, Int.reduceToNat, Int.reduceLE, Int.reduceLT, Nat.reduceLT, Int.reduceBEq, Int.reduceBNe, Int.reduceEq, String.reduceEq, h1, q2, q3, hc6]
      try simp only [NM, EE] at hJ
      exact hJ
    | o1 v8 v9 =>
      (try dsimp only at hF)
      (try simp only [NM, EE, R22_pr_bow.st] at hc6)
      have hJ := f12_ai10brrz_j11_ok k v9 _ hF
      simp (maxSteps := 999999) (disch := first | exact D (by decide) | exact K (by kernel_rfl)) only [EA, EE, EG, EF, ED, ofVal, ofVal1, ofCell, lenV, aggEqV, cellEq, intBin, isShift, V.ids, lendV, frz, flatV, cellsOf, addOff, firstReg, oneOf, cellsAt, isAggD, isPure, ↓reduceIte, reduceCtorEq, Nat.reduceAdd, Nat.reduceSub, Nat.reduceMul, Nat.reduceLeDiff, Nat.reduceEqDiff, Nat.reduceBEq, Int.reduceToNat, Int.reduceLE, Int.reduceLT, Nat.reduceLT, Int.reduceBEq, Int.reduceBNe, Int.reduceEq, String.reduceEq, h1, q2, q3, hc6]
      try simp only [NM, EE] at hJ
      exact hJ
  · have hJ := f12_ai10brrz_j20_ok k false m1 m1_1 m1_2 m1_3 m1_4 m1_5 m1_6 m1_7 m1_8 m1_9 m1_10 m1_11 m1_12 m26 _ hF
    simp (maxSteps := 999999) (disch := first | exact D (by decide) | exact K (by kernel_rfl)) only [EA, EE, EG, EF, ED, ofVal, ofVal1, ofCell, lenV, aggEqV, cellEq, intBin, isShift, V.ids, lendV, frz, flatV, cellsOf, addOff, firstReg, oneOf, cellsAt, isAggD, isPure, ↓reduceIte, reduceCtorEq, Nat.reduceAdd, Nat.reduceSub, Nat.reduceMul, Nat.reduceLeDiff, Nat.reduceEqDiff, Nat.reduceBEq, Int.reduceToNat, Int.reduceLE, Int.reduceLT, Nat.reduceLT, Int.reduceBEq, Int.reduceBNe, Int.reduceEq, String.reduceEq, xk B12 [3, 2, 3, 2, 3, 2, 3, 2, 2, 2, 1, 2, 2, 2, 2] .sk rfl, h1]
    try simp only [NM, EE] at hJ
    exact hJ
noncomputable def f12_ai10brrz_j1 (k : Nat) (x4 : Int) (x11 : Bool) (m1 : Int) (m1_1 : Int) (m1_2 : Int) (m1_3 : Int) (m1_4 : Int) (m1_5 : Int) (m1_6 : Int) (m1_7 : Int) (m1_8 : Int) (m1_9 : Int) (m1_10 : Bool) (m1_11 : List Int) (m1_12 : List T45) : Option R12_ai10brrz :=
  Option.bind (f22_pr_bow k ([m1_1, (IntKind.i64.wrap m1_2)] : List Int) ([(IntKind.u8.wrap m1)] : List Int)) fun o5 =>
    match o5 with
    | .o0 v8 =>
      cond ((m1 == 1))
        (
          cond (m1_10)
            (
              Option.bind (f22_pr_bow k ([1, (IntKind.i64.wrap m1_3)] : List Int) v8) fun o13 =>
                match o13 with
                | .o0 v16 =>
                  f12_ai10brrz_j2 k m1 m1_1 m1_2 m1_3 m1_4 m1_5 m1_6 m1_7 m1_8 m1_9 true m1_11 m1_12 v16
                | .o1 v17 v18 =>
                  f12_ai10brrz_j4 k m1 m1_1 m1_2 m1_3 m1_4 m1_5 m1_6 m1_7 m1_8 m1_9 true m1_11 m1_12 v18)
            (
              Option.bind (f22_pr_bow k ([0] : List Int) v8) fun o22 =>
                match o22 with
                | .o0 v25 =>
                  f12_ai10brrz_j2 k m1 m1_1 m1_2 m1_3 m1_4 m1_5 m1_6 m1_7 m1_8 m1_9 false m1_11 m1_12 v25
                | .o1 v26 v27 =>
                  f12_ai10brrz_j5 k m1 m1_1 m1_2 m1_3 m1_4 m1_5 m1_6 m1_7 m1_8 m1_9 false m1_11 m1_12 v27))
        (
          cond ((m1 == 2))
            (
              Option.bind (f22_pr_bow k (([(IntKind.i64.wrap m1_3), (IntKind.i64.wrap m1_4), m1_7, m1_8, ((List.length m1_12) : Int)] : List Int)) v8) fun o31 =>
                match o31 with
                | .o0 v34 =>
                  Option.bind (f12_ai10brrz_l6 k k m1_12 ((List.length m1_12) : Int) 0 v34) fun o35 =>
                    match o35 with
                    | .o0 _ _ _ _ =>
                      none  -- no way out
                    | .o1 _ _ _ _ =>
                      none  -- no way out
                    | .o2 v38 v39 v40 v41 v42 =>
                      f12_ai10brrz_j7 k v38 v39 v40 v41 v42
                | .o1 v43 v44 =>
                  Option.bind (f12_ai10brrz_l6 k k m1_12 ((List.length m1_12) : Int) 0 v44) fun o45 =>
                    match o45 with
                    | .o0 _ _ _ _ =>
                      none  -- no way out
                    | .o1 _ _ _ _ =>
                      none  -- no way out
                    | .o2 v48 v49 v50 v51 v52 =>
                      f12_ai10brrz_j7 k v48 v49 v50 v51 v52)
            (
              cond ((m1 == 3))
                (
                  Option.bind (f22_pr_bow k ([(IntKind.i64.wrap m1_3)] : List Int) v8) fun o56 =>
                    match o56 with
                    | .o0 v59 =>
                      f12_ai10brrz_j8 k v59
                    | .o1 v60 v61 =>
                      f12_ai10brrz_j9 k v61)
                (
                  cond ((m1 == 4))
                    (f12_ai10brrz_j10 k m1 true m1 m1_1 m1_2 m1_3 m1_4 m1_5 m1_6 m1_7 m1_8 m1_9 m1_10 m1_11 m1_12 v8)
                    (f12_ai10brrz_j13 k (m1 == 6) m1 m1_1 m1_2 m1_3 m1_4 m1_5 m1_6 m1_7 m1_8 m1_9 m1_10 m1_11 m1_12 v8))))
    | .o1 v63 v64 =>
      cond ((m1 == 1))
        (
          cond (m1_10)
            (
              Option.bind (f22_pr_bow k ([1, (IntKind.i64.wrap m1_3)] : List Int) v64) fun o69 =>
                match o69 with
                | .o0 v72 =>
                  f12_ai10brrz_j15 k m1 m1_1 m1_2 m1_3 m1_4 m1_5 m1_6 m1_7 m1_8 m1_9 true m1_11 m1_12 v72
                | .o1 v73 v74 =>
                  f12_ai10brrz_j4 k m1 m1_1 m1_2 m1_3 m1_4 m1_5 m1_6 m1_7 m1_8 m1_9 true m1_11 m1_12 v74)
            (
              Option.bind (f22_pr_bow k ([0] : List Int) v64) fun o78 =>
                match o78 with
                | .o0 v81 =>
                  f12_ai10brrz_j15 k m1 m1_1 m1_2 m1_3 m1_4 m1_5 m1_6 m1_7 m1_8 m1_9 false m1_11 m1_12 v81
                | .o1 v82 v83 =>
                  f12_ai10brrz_j5 k m1 m1_1 m1_2 m1_3 m1_4 m1_5 m1_6 m1_7 m1_8 m1_9 false m1_11 m1_12 v83))
        (
          cond ((m1 == 2))
            (
              Option.bind (f22_pr_bow k (([(IntKind.i64.wrap m1_3), (IntKind.i64.wrap m1_4), m1_7, m1_8, ((List.length m1_12) : Int)] : List Int)) v64) fun o87 =>
                match o87 with
                | .o0 v90 =>
                  Option.bind (f12_ai10brrz_l6 k k m1_12 ((List.length m1_12) : Int) 0 v90) fun o91 =>
                    match o91 with
                    | .o0 _ _ _ _ =>
                      none  -- no way out
                    | .o1 _ _ _ _ =>
                      none  -- no way out
                    | .o2 v94 v95 v96 v97 v98 =>
                      f12_ai10brrz_j7 k v94 v95 v96 v97 v98
                | .o1 v99 v100 =>
                  Option.bind (f12_ai10brrz_l6 k k m1_12 ((List.length m1_12) : Int) 0 v100) fun o101 =>
                    match o101 with
                    | .o0 _ _ _ _ =>
                      none  -- no way out
                    | .o1 _ _ _ _ =>
                      none  -- no way out
                    | .o2 v104 v105 v106 v107 v108 =>
                      f12_ai10brrz_j7 k v104 v105 v106 v107 v108)
            (
              cond ((m1 == 3))
                (
                  Option.bind (f22_pr_bow k ([(IntKind.i64.wrap m1_3)] : List Int) v64) fun o112 =>
                    match o112 with
                    | .o0 v115 =>
                      f12_ai10brrz_j16 k v115
                    | .o1 v116 v117 =>
                      f12_ai10brrz_j9 k v117)
                (
                  cond ((m1 == 4))
                    (f12_ai10brrz_j17 k m1 true m1 m1_1 m1_2 m1_3 m1_4 m1_5 m1_6 m1_7 m1_8 m1_9 m1_10 m1_11 m1_12 v64)
                    (f12_ai10brrz_j19 k (m1 == 6) m1 m1_1 m1_2 m1_3 m1_4 m1_5 m1_6 m1_7 m1_8 m1_9 m1_10 m1_11 m1_12 v64))))
theorem f12_ai10brrz_j1_ok (k : Nat) (x4 : Int) (x11 : Bool) (m1 : Int) (m1_1 : Int) (m1_2 : Int) (m1_3 : Int) (m1_4 : Int) (m1_5 : Int) (m1_6 : Int) (m1_7 : Int) (m1_8 : Int) (m1_9 : Int) (m1_10 : Bool) (m1_11 : List Int) (m1_12 : List T45) (r : R12_ai10brrz) (hF : f12_ai10brrz_j1 k x4 x11 m1 m1_1 m1_2 m1_3 m1_4 m1_5 m1_6 m1_7 m1_8 m1_9 m1_10 m1_11 m1_12 = some r) : finK Try.prog Try.f12 0 (EX 12 k (nav B12 [2, 2]) ({ n := 116, F := [(1, V.ptr 1 0), (4, V.p (Value.int .i64 x4)), (11, V.p (Value.bool x11))], M := [(1, O.box 26 [V.p (Value.int .i64 m1), V.p (Value.int .i64 m1_1), V.p (Value.int .u32 m1_2), V.p (Value.int .u32 m1_3), V.p (Value.int .u32 m1_4), V.p (Value.int .i64 m1_5), V.p (Value.int .i64 m1_6), V.p (Value.int .i64 m1_7), V.p (Value.int .i64 m1_8), V.p (Value.int .i64 m1_9), V.p (Value.bool m1_10), V.sl 1 (rowsOf (encI .u8) m1_11), V.sl 2 (rowsOf encT45 m1_12)])] } : St)) = some r.st := by
  unfold f12_ai10brrz_j1 at hF
  have q1 : [[V.p (Value.int .u8 (IntKind.u8.wrap m1))]] = rowsOf (encI .u8) ([(IntKind.u8.wrap m1)] : List Int) := rfl
  have q2 : List.map (tell [0]) (rowsOf (encI .u8) ([(IntKind.u8.wrap m1)] : List Int)) = rowsOf (encI .u8) ([(IntKind.u8.wrap m1)] : List Int) := rfl
  have q3 : [[V.p (Value.int .i64 m1_1)], [V.p (Value.int .i64 (IntKind.i64.wrap m1_2))]] = rowsOf (encI .i64) ([m1_1, (IntKind.i64.wrap m1_2)] : List Int) := rfl
  have q4 : List.map (tell [0]) (rowsOf (encI .i64) ([m1_1, (IntKind.i64.wrap m1_2)] : List Int)) = rowsOf (encI .i64) ([m1_1, (IntKind.i64.wrap m1_2)] : List Int) := rfl
  simp (maxSteps := 999999) (disch := first | exact D (by decide) | exact K (by kernel_rfl)) only [EA, EE, EG, EF, ED, ofVal, ofVal1, ofCell, lenV, aggEqV, cellEq, intBin, isShift, V.ids, lendV, frz, flatV, cellsOf, addOff, firstReg, oneOf, cellsAt, isAggD, isPure, ↓reduceIte, reduceCtorEq, Nat.reduceAdd, Nat.reduceSub, Nat.reduceMul, Nat.reduceLeDiff, Nat.reduceEqDiff, Nat.reduceBEq, Int.reduceToNat, Int.reduceLE, Int.reduceLT, Nat.reduceLT, Int.reduceBEq, Int.reduceBNe, Int.reduceEq, String.reduceEq, xk B12 [2, 2] .sq rfl, show (nav B12 [1, 2, 2]) = Code.region 4 _ false from rfl, hk_12_4, hz_12_4, hs_12_4, fieldAddrV, u_26, i_26, is_26, ib_26, iz_26, u_3, i_3, is_3, ib_3, iz_3, u_5, i_5, is_5, ib_5, iz_5, convV, buildSliceV, fillRows, sm_5, u_23, i_23, is_23, ib_23, iz_23, bl_52, u_52, i_52, is_52, ib_52, iz_52, xk B12 [2, 2, 2] .sq rfl, show (nav B12 [1, 2, 2, 2]) = Code.region 5 _ false from rfl, hk_12_5, hz_12_5, hs_12_5, u_22, i_22, is_22, ib_22, iz_22, sm_3, u_63, i_63, is_63, ib_63, iz_63, callStep, calleeOf, gv, List.contains, q1, q2, q3, q4]
  replace hF := Option.bind_eq_some_iff.1 hF
  obtain ⟨o5, h6, hF⟩ := hF
  have hc7 := f22_pr_bow_ok k ([m1_1, (IntKind.i64.wrap m1_2)] : List Int) ([(IntKind.u8.wrap m1)] : List Int) _ h6
  cases o5 with
  | o0 v8 =>
    (try dsimp only at hF)
    (try simp only [NM, EE, R22_pr_bow.st] at hc7)
    simp (maxSteps := 999999) (disch := first | exact D (by decide) | exact K (by kernel_rfl)) only [EA, EE, EG, EF, ED, ofVal, ofVal1, ofCell, lenV, aggEqV, cellEq, intBin, isShift, V.ids, lendV, frz, flatV, cellsOf, addOff, firstReg, oneOf, cellsAt, isAggD, isPure, ↓reduceIte, reduceCtorEq, Nat.reduceAdd, Nat.reduceSub, Nat.reduceMul, Nat.reduceLeDiff, Nat.reduceEqDiff, Nat.reduceBEq, Int.reduceToNat, Int.reduceLE, Int.reduceLT, Nat.reduceLT, Int.reduceBEq, Int.reduceBNe, Int.reduceEq, String.reduceEq, xk B12 [2, 2, 2, 2] .sq rfl, xk B12 [1, 2, 2, 2, 2] .sq rfl, show (nav B12 [1, 1, 2, 2, 2, 2]) = Code.region 6 _ false from rfl, hk_12_6, hz_12_6, hs_12_6, fieldAddrV, u_26, i_26, is_26, ib_26, iz_26, u_3, i_3, is_3, ib_3, iz_3, xk B12 [2, 1, 2, 2, 2, 2] (.bk 0) rfl, xk B12 [2, 2, 1, 2, 2, 2, 2] .sq rfl, show (nav B12 [1, 2, 2, 1, 2, 2, 2, 2]) = Code.region 7 _ false from rfl, hk_12_7, hz_12_7, hs_12_7, xk B12 [2, 2, 2, 1, 2, 2, 2, 2] (.cd 29) rfl, q1, q2, q3, q4, hc7]
    replace hF := cond_some hF
    rcases hF with ⟨h9, hF⟩ | ⟨h9, hF⟩
    · simp (maxSteps := 999999) (disch := first | exact D (by decide) | exact K (by kernel_rfl)) only [EA, EE, EG, EF, ED, ofVal, ofVal1, ofCell, lenV, aggEqV, cellEq, intBin, isShift, V.ids, lendV, frz, flatV, cellsOf, addOff, firstReg, oneOf, cellsAt, isAggD, isPure, ↓reduceIte, reduceCtorEq, Nat.reduceAdd, Nat.reduceSub, Nat.reduceMul, Nat.reduceLeDiff, Nat.reduceEqDiff, Nat.reduceBEq, Int.reduceToNat, Int.reduceLE, Int.reduceLT, Nat.reduceLT, Int.reduceBEq, Int.reduceBNe, Int.reduceEq, String.reduceEq, xk B12 [2, 2, 2, 2, 1, 2, 2, 2, 2] .sq rfl, xk B12 [1, 2, 2, 2, 2, 1, 2, 2, 2, 2] .sq rfl, show (nav B12 [1, 1, 2, 2, 2, 2, 1, 2, 2, 2, 2]) = Code.region 8 _ false from rfl, hk_12_8, hz_12_8, hs_12_8, fieldAddrV, u_26, i_26, is_26, ib_26, iz_26, u_4, i_4, is_4, ib_4, iz_4, xk B12 [2, 1, 2, 2, 2, 2, 1, 2, 2, 2, 2] (.cd 32) rfl, q1, q2, q3, q4, hc7, h9]
      replace hF := cond_some hF
      rcases hF with ⟨h10, hF⟩ | ⟨h10, hF⟩
      · have q11 : [[V.p (Value.int .i64 1)], [V.p (Value.int .i64 (IntKind.i64.wrap m1_3))]] = rowsOf (encI .i64) ([1, (IntKind.i64.wrap m1_3)] : List Int) := rfl
        have q12 : List.map (tell [0]) (rowsOf (encI .i64) ([1, (IntKind.i64.wrap m1_3)] : List Int)) = rowsOf (encI .i64) ([1, (IntKind.i64.wrap m1_3)] : List Int) := rfl
        simp (maxSteps := 999999) (disch := first | exact D (by decide) | exact K (by kernel_rfl)) only [EA, EE, EG, EF, ED, ofVal, ofVal1, ofCell, lenV, aggEqV, cellEq, intBin, isShift, V.ids, lendV, frz, flatV, cellsOf, addOff, firstReg, oneOf, cellsAt, isAggD, isPure, ↓reduceIte, reduceCtorEq, Nat.reduceAdd, Nat.reduceSub, Nat.reduceMul, Nat.reduceLeDiff, Nat.reduceEqDiff, Nat.reduceBEq, Int.reduceToNat, Int.reduceLE, Int.reduceLT, Nat.reduceLT, Int.reduceBEq, Int.reduceBNe, Int.reduceEq, String.reduceEq, show (nav B12 [2, 2, 1, 2, 2, 2, 2, 1, 2, 2, 2, 2]) = Code.region 9 _ false from rfl, hk_12_9, hz_12_9, hs_12_9, fieldAddrV, u_26, i_26, is_26, ib_26, iz_26, u_22, i_22, is_22, ib_22, iz_22, u_3, i_3, is_3, ib_3, iz_3, convV, buildSliceV, fillRows, sm_3, u_63, i_63, is_63, ib_63, iz_63, callStep, calleeOf, gv, List.contains, q1, q2, q3, q4, hc7, h9, h10, q11, q12]
        replace hF := Option.bind_eq_some_iff.1 hF
        obtain ⟨o13, h14, hF⟩ := hF
        have hc15 := f22_pr_bow_ok k ([1, (IntKind.i64.wrap m1_3)] : List Int) v8 _ h14
        cases o13 with
        | o0 v16 =>
          (try dsimp only at hF)
          (try simp only [NM, EE, R22_pr_bow.st] at hc15)
          have hJ := f12_ai10brrz_j2_ok k m1 m1_1 m1_2 m1_3 m1_4 m1_5 m1_6 m1_7 m1_8 m1_9 true m1_11 m1_12 v16 _ hF
          simp (maxSteps := 999999) (disch := first | exact D (by decide) | exact K (by kernel_rfl)) only [EA, EE, EG, EF, ED, ofVal, ofVal1, ofCell, lenV, aggEqV, cellEq, intBin, isShift, V.ids, lendV, frz, flatV, cellsOf, addOff, firstReg, oneOf, cellsAt, isAggD, isPure, ↓reduceIte, reduceCtorEq, Nat.reduceAdd, Nat.reduceSub, Nat.reduceMul, Nat.reduceLeDiff, Nat.reduceEqDiff, Nat.reduceBEq, Int.reduceToNat, Int.reduceLE, Int.reduceLT, Nat.reduceLT, Int.reduceBEq, Int.reduceBNe, Int.reduceEq, String.reduceEq, q1, q2, q3, q4, hc7, h9, h10, q11, q12, hc15]
          try simp only [NM, EE] at hJ
          exact hJ
        | o1 v17 v18 =>
          (try dsimp only at hF)
          (try simp only [NM, EE, R22_pr_bow.st] at hc15)
          have hJ := f12_ai10brrz_j4_ok k m1 m1_1 m1_2 m1_3 m1_4 m1_5 m1_6 m1_7 m1_8 m1_9 true m1_11 m1_12 v18 _ hF
          simp (maxSteps := 999999) (disch := first | exact D (by decide) | exact K (by kernel_rfl)) only [EA, EE, EG, EF, ED, ofVal, ofVal1, ofCell, lenV, aggEqV, cellEq, intBin, isShift, V.ids, lendV, frz, flatV, cellsOf, addOff, firstReg, oneOf, cellsAt, isAggD, isPure, ↓reduceIte, reduceCtorEq, Nat.reduceAdd, Nat.reduceSub, Nat.reduceMul, Nat.reduceLeDiff, Nat.reduceEqDiff, Nat.reduceBEq, Int.reduceToNat, Int.reduceLE, Int.reduceLT, Nat.reduceLT, Int.reduceBEq, Int.reduceBNe, Int.reduceEq, String.reduceEq, q1, q2, q3, q4, hc7, h9, h10, q11, q12, hc15]
          try simp only [NM, EE] at hJ
          exact hJ
      · have q19 : [[V.p (Value.int .i64 0)]] = rowsOf (encI .i64) ([0] : List Int) := rfl
        have q20 : List.set (rowsOf (encI .i64) ([0] : List Int)) 0 [V.p (Value.int .i64 0)] = rowsOf (encI .i64) ([0] : List Int) := rfl
        have q21 : List.map (tell [0]) (rowsOf (encI .i64) ([0] : List Int)) = rowsOf (encI .i64) ([0] : List Int) := rfl
        simp (maxSteps := 999999) (disch := first | exact D (by decide) | exact K (by kernel_rfl)) only [EA, EE, EG, EF, ED, ofVal, ofVal1, ofCell, lenV, aggEqV, cellEq, intBin, isShift, V.ids, lendV, frz, flatV, cellsOf, addOff, firstReg, oneOf, cellsAt, isAggD, isPure, ↓reduceIte, reduceCtorEq, Nat.reduceAdd, Nat.reduceSub, Nat.reduceMul, Nat.reduceLeDiff, Nat.reduceEqDiff, Nat.reduceBEq, Int.reduceToNat, Int.reduceLE, Int.reduceLT, Nat.reduceLT, Int.reduceBEq, Int.reduceBNe, Int.reduceEq, String.reduceEq, show (nav B12 [3, 2, 1, 2, 2, 2, 2, 1, 2, 2, 2, 2]) = Code.region 10 _ false from rfl, hk_12_10, hz_12_10, hs_12_10, buildSliceV, fillRows, sm_3, u_63, i_63, is_63, ib_63, iz_63, u_3, i_3, is_3, ib_3, iz_3, callStep, calleeOf, gv, List.contains, q1, q2, q3, q4, hc7, h9, h10, q19, q20, q21]
        replace hF := Option.bind_eq_some_iff.1 hF
        obtain ⟨o22, h23, hF⟩ := hF
        have hc24 := f22_pr_bow_ok k ([0] : List Int) v8 _ h23
        cases o22 with
        | o0 v25 =>
          (try dsimp only at hF)
          (try simp only [NM, EE, R22_pr_bow.st] at hc24)
          have hJ := f12_ai10brrz_j2_ok k m1 m1_1 m1_2 m1_3 m1_4 m1_5 m1_6 m1_7 m1_8 m1_9 false m1_11 m1_12 v25 _ hF
          simp (maxSteps := 999999) (disch := first | exact D (by decide) | exact K (by kernel_rfl)) only [EA, EE, EG, EF, ED, ofVal, ofVal1, ofCell, lenV, aggEqV, cellEq, intBin, isShift, V.ids, lendV, frz, flatV, cellsOf, addOff, firstReg, oneOf, cellsAt, isAggD, isPure, ↓reduceIte, reduceCtorEq, Nat.reduceAdd, Nat.reduceSub, Nat.reduceMul, Nat.reduceLeDiff, Nat.reduceEqDiff, Nat.reduceBEq, Int.reduceToNat, Int.reduceLE, Int.reduceLT, Nat.reduceLT, Int.reduceBEq, Int.reduceBNe, Int.reduceEq, String.reduceEq, q1, q2, q3, q4, hc7, h9, h10, q19, q20, q21, hc24]
          try simp only [NM, EE] at hJ
          exact hJ
        | o1 v26 v27 =>
          (try dsimp only at hF)
          (try simp only [NM, EE, R22_pr_bow.st] at hc24)
          have hJ := f12_ai10brrz_j5_ok k m1 m1_1 m1_2 m1_3 m1_4 m1_5 m1_6 m1_7 m1_8 m1_9 false m1_11 m1_12 v27 _ hF
          simp (maxSteps := 999999) (disch := first | exact D (by decide) | exact K (by kernel_rfl)) only [EA, EE, EG, EF, ED, ofVal, ofVal1, ofCell, lenV, aggEqV, cellEq, intBin, isShift, V.ids, lendV, frz, flatV, cellsOf, addOff, firstReg, oneOf, cellsAt, isAggD, isPure, ↓reduceIte, reduceCtorEq, Nat.reduceAdd, Nat.reduceSub, Nat.reduceMul, Nat.reduceLeDiff, Nat.reduceEqDiff, Nat.reduceBEq, Int.reduceToNat, Int.reduceLE, Int.reduceLT, Nat.reduceLT, Int.reduceBEq, Int.reduceBNe, Int.reduceEq, String.reduceEq, q1, q2, q3, q4, hc7, h9, h10, q19, q20, q21, hc24]
          try simp only [NM, EE] at hJ
          exact hJ
    · simp (maxSteps := 999999) (disch := first | exact D (by decide) | exact K (by kernel_rfl)) only [EA, EE, EG, EF, ED, ofVal, ofVal1, ofCell, lenV, aggEqV, cellEq, intBin, isShift, V.ids, lendV, frz, flatV, cellsOf, addOff, firstReg, oneOf, cellsAt, isAggD, isPure, ↓reduceIte, reduceCtorEq, Nat.reduceAdd, Nat.reduceSub, Nat.reduceMul, Nat.reduceLeDiff, Nat.reduceEqDiff, Nat.reduceBEq, Int.reduceToNat, Int.reduceLE, Int.reduceLT, Nat.reduceLT, Int.reduceBEq, Int.reduceBNe, Int.reduceEq, String.reduceEq, xk B12 [3, 2, 2, 2, 1, 2, 2, 2, 2] .sq rfl, show (nav B12 [1, 3, 2, 2, 2, 1, 2, 2, 2, 2]) = Code.region 13 _ false from rfl, hk_12_13, hz_12_13, hs_12_13, xk B12 [2, 3, 2, 2, 2, 1, 2, 2, 2, 2] (.cd 62) rfl, q1, q2, q3, q4, hc7, h9]
      replace hF := cond_some hF
      rcases hF with ⟨h28, hF⟩ | ⟨h28, hF⟩
      · have q29 : [[V.p (Value.int .i64 (IntKind.i64.wrap m1_3))], [V.p (Value.int .i64 (IntKind.i64.wrap m1_4))], [V.p (Value.int .i64 m1_7)], [V.p (Value.int .i64 m1_8)], [V.p (Value.int .i64 ((List.length m1_12) : Int))]] = rowsOf (encI .i64) ([(IntKind.i64.wrap m1_3), (IntKind.i64.wrap m1_4), m1_7, m1_8, ((List.length m1_12) : Int)] : List Int) := rfl
        have q30 : List.map (tell [0]) (rowsOf (encI .i64) ([(IntKind.i64.wrap m1_3), (IntKind.i64.wrap m1_4), m1_7, m1_8, ((List.length m1_12) : Int)] : List Int)) = rowsOf (encI .i64) ([(IntKind.i64.wrap m1_3), (IntKind.i64.wrap m1_4), m1_7, m1_8, ((List.length m1_12) : Int)] : List Int) := rfl
        simp (maxSteps := 999999) (disch := first | exact D (by decide) | exact K (by kernel_rfl)) only [EA, EE, EG, EF, ED, ofVal, ofVal1, ofCell, lenV, aggEqV, cellEq, intBin, isShift, V.ids, lendV, frz, flatV, cellsOf, addOff, firstReg, oneOf, cellsAt, isAggD, isPure, ↓reduceIte, reduceCtorEq, Nat.reduceAdd, Nat.reduceSub, Nat.reduceMul, Nat.reduceLeDiff, Nat.reduceEqDiff, Nat.reduceBEq, Int.reduceToNat, Int.reduceLE, Int.reduceLT, Nat.reduceLT, Int.reduceBEq, Int.reduceBNe, Int.reduceEq, String.reduceEq, xk B12 [2, 2, 3, 2, 2, 2, 1, 2, 2, 2, 2] .sq rfl, show (nav B12 [1, 2, 2, 3, 2, 2, 2, 1, 2, 2, 2, 2]) = Code.region 14 _ false from rfl, hk_12_14, hz_12_14, hs_12_14, fieldAddrV, u_26, i_26, is_26, ib_26, iz_26, u_22, i_22, is_22, ib_22, iz_22, u_3, i_3, is_3, ib_3, iz_3, convV, u_24, i_24, is_24, ib_24, iz_24, buildSliceV, fillRows, sm_3, u_63, i_63, is_63, ib_63, iz_63, callStep, calleeOf, gv, List.contains, q1, q2, q3, q4, hc7, h9, h28, q29, q30]
        replace hF := Option.bind_eq_some_iff.1 hF
        obtain ⟨o31, h32, hF⟩ := hF
        have hc33 := f22_pr_bow_ok k (([(IntKind.i64.wrap m1_3), (IntKind.i64.wrap m1_4), m1_7, m1_8, ((List.length m1_12) : Int)] : List Int)) v8 _ h32
        cases o31 with
        | o0 v34 =>
          (try dsimp only at hF)
          (try simp only [NM, EE, R22_pr_bow.st] at hc33)
          replace hF := Option.bind_eq_some_iff.1 hF
          obtain ⟨o35, h36, hF⟩ := hF
          have hc37 := f12_ai10brrz_l6_ok k k m1_12 ((List.length m1_12) : Int) 0 v34 _ h36
          simp (maxSteps := 999999) (disch := first | exact D (by decide) | exact K (by kernel_rfl)) only [EA, EE, EG, EF, ED, ofVal, ofVal1, ofCell, lenV, aggEqV, cellEq, intBin, isShift, V.ids, lendV, frz, flatV, cellsOf, addOff, firstReg, oneOf, cellsAt, isAggD, isPure, ↓reduceIte, reduceCtorEq, Nat.reduceAdd, Nat.reduceSub, Nat.reduceMul, Nat.reduceLeDiff, Nat.reduceEqDiff, Nat.reduceBEq, Int.reduceToNat, Int.reduceLE, Int.reduceLT, Nat.reduceLT, Int.reduceBEq, Int.reduceBNe, Int.reduceEq, String.reduceEq, xk B12 [2, 2, 2, 3, 2, 2, 2, 1, 2, 2, 2, 2] .sq rfl, show (nav B12 [1, 2, 2, 2, 3, 2, 2, 2, 1, 2, 2, 2, 2]) = Code.region 15 _ false from rfl, hk_12_15, hz_12_15, hs_12_15, fieldAddrV, u_26, i_26, is_26, ib_26, iz_26, u_24, i_24, is_24, ib_24, iz_24, xk B12 [2, 2, 2, 2, 3, 2, 2, 2, 1, 2, 2, 2, 2] (.bk 1) rfl, xk B12 [2, 2, 2, 2, 2, 3, 2, 2, 2, 1, 2, 2, 2, 2] .lp rfl, hh_12_16, hc_12_16, q1, q2, q3, q4, hc7, h9, h28, q29, q30, hc33]
          (try simp only [NM, EE] at hc37)
          rw [hc37 _ (by simp (maxSteps := 999999) (disch := first | exact D (by decide) | exact K (by kernel_rfl)) only [EA, EE, EG, EF, ED, ofVal, ofVal1, ofCell, lenV, aggEqV, cellEq, intBin, isShift, V.ids, lendV, frz, flatV, cellsOf, addOff, firstReg, oneOf, cellsAt, isAggD, isPure, ↓reduceIte, reduceCtorEq, Nat.reduceAdd, Nat.reduceSub, Nat.reduceMul, Nat.reduceLeDiff, Nat.reduceEqDiff, Nat.reduceBEq, Int.reduceToNat, Int.reduceLE, Int.reduceLT, Nat.reduceLT, Int.reduceBEq, Int.reduceBNe, Int.reduceEq, String.reduceEq, hh_12_16, hc_12_16, q1, q2, q3, q4, hc7, h9, h28, q29, q30, hc33])]
          clear hc37
          cases o35 with
          | o0 _ _ _ _ =>
            (try dsimp only at hF)
            cases hF
          | o1 _ _ _ _ =>
            (try dsimp only at hF)
            cases hF
          | o2 v38 v39 v40 v41 v42 =>
            (try dsimp only at hF)
            have hJ := f12_ai10brrz_j7_ok k v38 v39 v40 v41 v42 _ hF
            simp (maxSteps := 999999) (disch := first | exact D (by decide) | exact K (by kernel_rfl)) only [EA, EE, EG, EF, ED, ofVal, ofVal1, ofCell, lenV, aggEqV, cellEq, intBin, isShift, V.ids, lendV, frz, flatV, cellsOf, addOff, firstReg, oneOf, cellsAt, isAggD, isPure, ↓reduceIte, reduceCtorEq, Nat.reduceAdd, Nat.reduceSub, Nat.reduceMul, Nat.reduceLeDiff, Nat.reduceEqDiff, Nat.reduceBEq, Int.reduceToNat, Int.reduceLE, Int.reduceLT, Nat.reduceLT, Int.reduceBEq, Int.reduceBNe, Int.reduceEq, String.reduceEq, R12_ai10brrz_l6.st, q1, q2, q3, q4, hc7, h9, h28, q29, q30, hc33]
            try simp only [NM, EE] at hJ
            exact hJ
        | o1 v43 v44 =>
          (try dsimp only at hF)
          (try simp only [NM, EE, R22_pr_bow.st] at hc33)
          replace hF := Option.bind_eq_some_iff.1 hF
          obtain ⟨o45, h46, hF⟩ := hF
          have hc47 := f12_ai10brrz_l6_ok k k m1_12 ((List.length m1_12) : Int) 0 v44 _ h46
          simp (maxSteps := 999999) (disch := first | exact D (by decide) | exact K (by kernel_rfl)) only [EA, EE, EG, EF, ED, ofVal, ofVal1, ofCell, lenV, aggEqV, cellEq, intBin, isShift, V.ids, lendV, frz, flatV, cellsOf, addOff, firstReg, oneOf, cellsAt, isAggD, isPure, ↓reduceIte, reduceCtorEq, Nat.reduceAdd, Nat.reduceSub, Nat.reduceMul, Nat.reduceLeDiff, Nat.reduceEqDiff, Nat.reduceBEq, Int.reduceToNat, Int.reduceLE, Int.reduceLT, Nat.reduceLT, Int.reduceBEq, Int.reduceBNe, Int.reduceEq, String.reduceEq, xk B12 [2, 2, 2, 3, 2, 2, 2, 1, 2, 2, 2, 2] .sq rfl, show (nav B12 [1, 2, 2, 2, 3, 2, 2, 2, 1, 2, 2, 2, 2]) = Code.region 15 _ false from rfl, hk_12_15, hz_12_15, hs_12_15, fieldAddrV, u_26, i_26, is_26, ib_26, iz_26, u_24, i_24, is_24, ib_24, iz_24, xk B12 [2, 2, 2, 2, 3, 2, 2, 2, 1, 2, 2, 2, 2] (.bk 1) rfl, xk B12 [2, 2, 2, 2, 2, 3, 2, 2, 2, 1, 2, 2, 2, 2] .lp rfl, hh_12_16, hc_12_16, q1, q2, q3, q4, hc7, h9, h28, q29, q30, hc33]
          (try simp only [NM, EE] at hc47)
          rw [hc47 _ (by simp (maxSteps := 999999) (disch := first | exact D (by decide) | exact K (by kernel_rfl)) only [EA, EE, EG, EF, ED, ofVal, ofVal1, ofCell, lenV, aggEqV, cellEq, intBin, isShift, V.ids, lendV, frz, flatV, cellsOf, addOff, firstReg, oneOf, cellsAt, isAggD, isPure, ↓reduceIte, reduceCtorEq, Nat.reduceAdd, Nat.reduceSub, Nat.reduceMul, Nat.reduceLeDiff, Nat.reduceEqDiff, Nat.reduceBEq, Int.reduceToNat, Int.reduceLE, Int.reduceLT, Nat.reduceLT, Int.reduceBEq, Int.reduceBNe, Int.reduceEq, String.reduceEq, hh_12_16, hc_12_16, q1, q2, q3, q4, hc7, h9, h28, q29, q30, hc33])]
          clear hc47
          cases o45 with
          | o0 _ _ _ _ =>
            (try dsimp only at hF)
            cases hF
          | o1 _ _ _ _ =>
            (try dsimp only at hF)
            cases hF
          | o2 v48 v49 v50 v51 v52 =>
            (try dsimp only at hF)
            have hJ := f12_ai10brrz_j7_ok k v48 v49 v50 v51 v52 _ hF
            simp (maxSteps := 999999) (disch := first | exact D (by decide) | exact K (by kernel_rfl)) only [EA, EE, EG, EF, ED, ofVal, ofVal1, ofCell, lenV, aggEqV, cellEq, intBin, isShift, V.ids, lendV, frz, flatV, cellsOf, addOff, firstReg, oneOf, cellsAt, isAggD, isPure, ↓reduceIte, reduceCtorEq, Nat.reduceAdd, Nat.reduceSub, Nat.reduceMul, Nat.reduceLeDiff, Nat.reduceEqDiff, Nat.reduceBEq, Int.reduceToNat, Int.reduceLE, Int.reduceLT, Nat.reduceLT, Int.reduceBEq, Int.reduceBNe, Int.reduceEq, String.reduceEq, R12_ai10brrz_l6.st, q1, q2, q3, q4, hc7, h9, h28, q29, q30, hc33]
            try simp only [NM, EE] at hJ
            exact hJ
      · simp (maxSteps := 999999) (disch := first | exact D (by decide) | exact K (by kernel_rfl)) only [EA, EE, EG, EF, ED, ofVal, ofVal1, ofCell, lenV, aggEqV, cellEq, intBin, isShift, V.ids, lendV, frz, flatV, cellsOf, addOff, firstReg, oneOf, cellsAt, isAggD, isPure, ↓reduceIte, reduceCtorEq, Nat.reduceAdd, Nat.reduceSub, Nat.reduceMul, Nat.reduceLeDiff, Nat.reduceEqDiff, Nat.reduceBEq, Int.reduceToNat, Int.reduceLE, Int.reduceLT, Nat.reduceLT, Int.reduceBEq, Int.reduceBNe, Int.reduceEq, String.reduceEq, xk B12 [3, 2, 3, 2, 2, 2, 1, 2, 2, 2, 2] .sq rfl, show (nav B12 [1, 3, 2, 3, 2, 2, 2, 1, 2, 2, 2, 2]) = Code.region 20 _ false from rfl, hk_12_20, hz_12_20, hs_12_20, xk B12 [2, 3, 2, 3, 2, 2, 2, 1, 2, 2, 2, 2] (.cd 95) rfl, q1, q2, q3, q4, hc7, h9, h28]
        replace hF := cond_some hF
        rcases hF with ⟨h53, hF⟩ | ⟨h53, hF⟩
        · have q54 : [[V.p (Value.int .i64 (IntKind.i64.wrap m1_3))]] = rowsOf (encI .i64) ([(IntKind.i64.wrap m1_3)] : List Int) := rfl
          have q55 : List.map (tell [0]) (rowsOf (encI .i64) ([(IntKind.i64.wrap m1_3)] : List Int)) = rowsOf (encI .i64) ([(IntKind.i64.wrap m1_3)] : List Int) := rfl
          simp (maxSteps := 999999) (disch := first | exact D (by decide) | exact K (by kernel_rfl)) only [EA, EE, EG, EF, ED, ofVal, ofVal1, ofCell, lenV, aggEqV, cellEq, intBin, isShift, V.ids, lendV, frz, flatV, cellsOf, addOff, firstReg, oneOf, cellsAt, isAggD, isPure, ↓reduceIte, reduceCtorEq, Nat.reduceAdd, Nat.reduceSub, Nat.reduceMul, Nat.reduceLeDiff, Nat.reduceEqDiff, Nat.reduceBEq, Int.reduceToNat, Int.reduceLE, Int.reduceLT, Nat.reduceLT, Int.reduceBEq, Int.reduceBNe, Int.reduceEq, String.reduceEq, show (nav B12 [2, 2, 3, 2, 3, 2, 2, 2, 1, 2, 2, 2, 2]) = Code.region 21 _ false from rfl, hk_12_21, hz_12_21, hs_12_21, fieldAddrV, u_26, i_26, is_26, ib_26, iz_26, u_22, i_22, is_22, ib_22, iz_22, u_3, i_3, is_3, ib_3, iz_3, convV, buildSliceV, fillRows, sm_3, u_63, i_63, is_63, ib_63, iz_63, callStep, calleeOf, gv, List.contains, q1, q2, q3, q4, hc7, h9, h28, h53, q54, q55]
          replace hF := Option.bind_eq_some_iff.1 hF
          obtain ⟨o56, h57, hF⟩ := hF
          have hc58 := f22_pr_bow_ok k ([(IntKind.i64.wrap m1_3)] : List Int) v8 _ h57
          cases o56 with
          | o0 v59 =>
            (try dsimp only at hF)
            (try simp only [NM, EE, R22_pr_bow.st] at hc58)
            have hJ := f12_ai10brrz_j8_ok k v59 _ hF
            simp (maxSteps := 999999) (disch := first | exact D (by decide) | exact K (by kernel_rfl)) only [EA, EE, EG, EF, ED, ofVal, ofVal1, ofCell, lenV, aggEqV, cellEq, intBin, isShift, V.ids, lendV, frz, flatV, cellsOf, addOff, firstReg, oneOf, cellsAt, isAggD, isPure, ↓reduceIte, reduceCtorEq, Nat.reduceAdd, Nat.reduceSub, Nat.reduceMul, Nat.reduceLeDiff, Nat.reduceEqDiff, Nat.reduceBEq, Int.reduceToNat, Int.reduceLE, Int.reduceLT, Nat.reduceLT, Int.reduceBEq, Int.reduceBNe, Int.reduceEq, String.reduceEq, q1, q2, q3, q4, hc7, h9, h28, h53, q54, q55, hc58]
            try simp only [NM, EE] at hJ
            exact hJ
          | o1 v60 v61 =>
            (try dsimp only at hF)
            (try simp only [NM, EE, R22_pr_bow.st] at hc58)
            have hJ := f12_ai10brrz_j9_ok k v61 _ hF
            simp (maxSteps := 999999) (disch := first | exact D (by decide) | exact K (by kernel_rfl)) only [EA, EE, EG, EF, ED, ofVal, ofVal1, ofCell, lenV, aggEqV, cellEq, intBin, isShift, V.ids, lendV, frz, flatV, cellsOf, addOff, firstReg, oneOf, cellsAt, isAggD, isPure, ↓reduceIte, reduceCtorEq, Nat.reduceAdd, Nat.reduceSub, Nat.reduceMul, Nat.reduceLeDiff, Nat.reduceEqDiff, Nat.reduceBEq, Int.reduceToNat, Int.reduceLE, Int.reduceLT, Nat.reduceLT, Int.reduceBEq, Int.reduceBNe, Int.reduceEq, String.reduceEq, q1, q2, q3, q4, hc7, h9, h28, h53, q54, q55, hc58]
            try simp only [NM, EE] at hJ
            exact hJ
        · simp (maxSteps := 999999) (disch := first | exact D (by decide) | exact K (by kernel_rfl)) only [EA, EE, EG, EF, ED, ofVal, ofVal1, ofCell, lenV, aggEqV, cellEq, intBin, isShift, V.ids, lendV, frz, flatV, cellsOf, addOff, firstReg, oneOf, cellsAt, isAggD, isPure, ↓reduceIte, reduceCtorEq, Nat.reduceAdd, Nat.reduceSub, Nat.reduceMul, Nat.reduceLeDiff, Nat.reduceEqDiff, Nat.reduceBEq, Int.reduceToNat, Int.reduceLE, Int.reduceLT, Nat.reduceLT, Int.reduceBEq, Int.reduceBNe, Int.reduceEq, String.reduceEq, xk B12 [3, 2, 3, 2, 3, 2, 2, 2, 1, 2, 2, 2, 2] .sq rfl, xk B12 [1, 3, 2, 3, 2, 3, 2, 2, 2, 1, 2, 2, 2, 2] .sq rfl, show (nav B12 [1, 1, 3, 2, 3, 2, 3, 2, 2, 2, 1, 2, 2, 2, 2]) = Code.region 22 _ false from rfl, hk_12_22, hz_12_22, hs_12_22, xk B12 [2, 1, 3, 2, 3, 2, 3, 2, 2, 2, 1, 2, 2, 2, 2] (.cd 103) rfl, q1, q2, q3, q4, hc7, h9, h28, h53]
          replace hF := cond_some hF
          rcases hF with ⟨h62, hF⟩ | ⟨h62, hF⟩
          · have hJ := f12_ai10brrz_j10_ok k m1 true m1 m1_1 m1_2 m1_3 m1_4 m1_5 m1_6 m1_7 m1_8 m1_9 m1_10 m1_11 m1_12 v8 _ hF
            simp (maxSteps := 999999) (disch := first | exact D (by decide) | exact K (by kernel_rfl)) only [EA, EE, EG, EF, ED, ofVal, ofVal1, ofCell, lenV, aggEqV, cellEq, intBin, isShift, V.ids, lendV, frz, flatV, cellsOf, addOff, firstReg, oneOf, cellsAt, isAggD, isPure, ↓reduceIte, reduceCtorEq, Nat.reduceAdd, Nat.reduceSub, Nat.reduceMul, Nat.reduceLeDiff, Nat.reduceEqDiff, Nat.reduceBEq, Int.reduceToNat, Int.reduceLE, Int.reduceLT, Nat.reduceLT, Int.reduceBEq, Int.reduceBNe, Int.reduceEq, String.reduceEq, xk B12 [2, 2, 1, 3, 2, 3, 2, 3, 2, 2, 2, 1, 2, 2, 2, 2] .sk rfl, q1, q2, q3, q4, hc7, h9, h28, h53, h62]
            try simp only [NM, EE] at hJ
            exact hJ
          · have hJ := f12_ai10brrz_j13_ok k (m1 == 6) m1 m1_1 m1_2 m1_3 m1_4 m1_5 m1_6 m1_7 m1_8 m1_9 m1_10 m1_11 m1_12 v8 _ hF
            simp (maxSteps := 999999) (disch := first | exact D (by decide) | exact K (by kernel_rfl)) only [EA, EE, EG, EF, ED, ofVal, ofVal1, ofCell, lenV, aggEqV, cellEq, intBin, isShift, V.ids, lendV, frz, flatV, cellsOf, addOff, firstReg, oneOf, cellsAt, isAggD, isPure, ↓reduceIte, reduceCtorEq, Nat.reduceAdd, Nat.reduceSub, Nat.reduceMul, Nat.reduceLeDiff, Nat.reduceEqDiff, Nat.reduceBEq, Int.reduceToNat, Int.reduceLE, Int.reduceLT, Nat.reduceLT, Int.reduceBEq, Int.reduceBNe, Int.reduceEq, String.reduceEq, show (nav B12 [3, 2, 1, 3, 2, 3, 2, 3, 2, 2, 2, 1, 2, 2, 2, 2]) = Code.region 23 _ false from rfl, hk_12_23, hz_12_23, hs_12_23, q1, q2, q3, q4, hc7, h9, h28, h53, h62]
            try simp only [NM, EE] at hJ
            exact hJ
  | o1 v63 v64 =>
    (try dsimp only at hF)
    (try simp only [NM, EE, R22_pr_bow.st] at hc7)
    simp (maxSteps := 999999) (disch := first | exact D (by decide) | exact K (by kernel_rfl)) only [EA, EE, EG, EF, ED, ofVal, ofVal1, ofCell, lenV, aggEqV, cellEq, intBin, isShift, V.ids, lendV, frz, flatV, cellsOf, addOff, firstReg, oneOf, cellsAt, isAggD, isPure, ↓reduceIte, reduceCtorEq, Nat.reduceAdd, Nat.reduceSub, Nat.reduceMul, Nat.reduceLeDiff, Nat.reduceEqDiff, Nat.reduceBEq, Int.reduceToNat, Int.reduceLE, Int.reduceLT, Nat.reduceLT, Int.reduceBEq, Int.reduceBNe, Int.reduceEq, String.reduceEq, xk B12 [2, 2, 2, 2] .sq rfl, xk B12 [1, 2, 2, 2, 2] .sq rfl, show (nav B12 [1, 1, 2, 2, 2, 2]) = Code.region 6 _ false from rfl, hk_12_6, hz_12_6, hs_12_6, fieldAddrV, u_26, i_26, is_26, ib_26, iz_26, u_3, i_3, is_3, ib_3, iz_3, xk B12 [2, 1, 2, 2, 2, 2] (.bk 0) rfl, xk B12 [2, 2, 1, 2, 2, 2, 2] .sq rfl, show (nav B12 [1, 2, 2, 1, 2, 2, 2, 2]) = Code.region 7 _ false from rfl, hk_12_7, hz_12_7, hs_12_7, xk B12 [2, 2, 2, 1, 2, 2, 2, 2] (.cd 29) rfl, q1, q2, q3, q4, hc7]
    replace hF := cond_some hF
    rcases hF with ⟨h65, hF⟩ | ⟨h65, hF⟩
    · simp (maxSteps := 999999) (disch := first | exact D (by decide) | exact K (by kernel_rfl)) only [EA, EE, EG, EF, ED, ofVal, ofVal1, ofCell, lenV, aggEqV, cellEq, intBin, isShift, V.ids, lendV, frz, flatV, cellsOf, addOff, firstReg, oneOf, cellsAt, isAggD, isPure, ↓reduceIte, reduceCtorEq, Nat.reduceAdd, Nat.reduceSub, Nat.reduceMul, Nat.reduceLeDiff, Nat.reduceEqDiff, Nat.reduceBEq, Int.reduceToNat, Int.reduceLE, Int.reduceLT, Nat.reduceLT, Int.reduceBEq, Int.reduceBNe, Int.reduceEq, String.reduceEq, xk B12 [2, 2, 2, 2, 1, 2, 2, 2, 2] .sq rfl, xk B12 [1, 2, 2, 2, 2, 1, 2, 2, 2, 2] .sq rfl, show (nav B12 [1, 1, 2, 2, 2, 2, 1, 2, 2, 2, 2]) = Code.region 8 _ false from rfl, hk_12_8, hz_12_8, hs_12_8, fieldAddrV, u_26, i_26, is_26, ib_26, iz_26, u_4, i_4, is_4, ib_4, iz_4, xk B12 [2, 1, 2, 2, 2, 2, 1, 2, 2, 2, 2] (.cd 32) rfl, q1, q2, q3, q4, hc7, h65]
      replace hF := cond_some hF
      rcases hF with ⟨h66, hF⟩ | ⟨h66, hF⟩
      · have q67 : [[V.p (Value.int .i64 1)], [V.p (Value.int .i64 (IntKind.i64.wrap m1_3))]] = rowsOf (encI .i64) ([1, (IntKind.i64.wrap m1_3)] : List Int) := rfl
        have q68 : List.map (tell [0]) (rowsOf (encI .i64) ([1, (IntKind.i64.wrap m1_3)] : List Int)) = rowsOf (encI .i64) ([1, (IntKind.i64.wrap m1_3)] : List Int) := rfl
        simp (maxSteps := 999999) (disch := first | exact D (by decide) | exact K (by kernel_rfl)) only [EA, EE, EG, EF, ED, ofVal, ofVal1, ofCell, lenV, aggEqV, cellEq, intBin, isShift, V.ids, lendV, frz, flatV, cellsOf, addOff, firstReg, oneOf, cellsAt, isAggD, isPure, ↓reduceIte, reduceCtorEq, Nat.reduceAdd, Nat.reduceSub, Nat.reduceMul, Nat.reduceLeDiff, Nat.reduceEqDiff, Nat.reduceBEq, Int.reduceToNat, Int.reduceLE, Int.reduceLT, Nat.reduceLT, Int.reduceBEq, Int.reduceBNe, Int.reduceEq, String.reduceEq, show (nav B12 [2, 2, 1, 2, 2, 2, 2, 1, 2, 2, 2, 2]) = Code.region 9 _ false from rfl, hk_12_9, hz_12_9, hs_12_9, fieldAddrV, u_26, i_26, is_26, ib_26, iz_26, u_22, i_22, is_22, ib_22, iz_22, u_3, i_3, is_3, ib_3, iz_3, convV, buildSliceV, fillRows, sm_3, u_63, i_63, is_63, ib_63, iz_63, callStep, calleeOf, gv, List.contains, q1, q2, q3, q4, hc7, h65, h66, q67, q68]
        replace hF := Option.bind_eq_some_iff.1 hF
        obtain ⟨o69, h70, hF⟩ := hF
        have hc71 := f22_pr_bow_ok k ([1, (IntKind.i64.wrap m1_3)] : List Int) v64 _ h70
        cases o69 with
        | o0 v72 =>
          (try dsimp only at hF)
          (try simp only [NM, EE, R22_pr_bow.st] at hc71)
          have hJ := f12_ai10brrz_j15_ok k m1 m1_1 m1_2 m1_3 m1_4 m1_5 m1_6 m1_7 m1_8 m1_9 true m1_11 m1_12 v72 _ hF
          simp (maxSteps := 999999) (disch := first | exact D (by decide) | exact K (by kernel_rfl)) only [EA, EE, EG, EF, ED, ofVal, ofVal1, ofCell, lenV, aggEqV, cellEq, intBin, isShift, V.ids, lendV, frz, flatV, cellsOf, addOff, firstReg, oneOf, cellsAt, isAggD, isPure, ↓reduceIte, reduceCtorEq, Nat.reduceAdd, Nat.reduceSub, Nat.reduceMul, Nat.reduceLeDiff, Nat.reduceEqDiff, Nat.reduceBEq, Int.reduceToNat, Int.reduceLE, Int.reduceLT, Nat.reduceLT, Int.reduceBEq, Int.reduceBNe, Int.reduceEq, String.reduceEq, q1, q2, q3, q4, hc7, h65, h66, q67, q68, hc71]
          try simp only [NM, EE] at hJ
          exact hJ
        | o1 v73 v74 =>
          (try dsimp only at hF)
          (try simp only [NM, EE, R22_pr_bow.st] at hc71)
          have hJ := f12_ai10brrz_j4_ok k m1 m1_1 m1_2 m1_3 m1_4 m1_5 m1_6 m1_7 m1_8 m1_9 true m1_11 m1_12 v74 _ hF
          simp (maxSteps := 999999) (disch := first | exact D (by decide) | exact K (by kernel_rfl)) only [EA, EE, EG, EF, ED, ofVal, ofVal1, ofCell, lenV, aggEqV, cellEq, intBin, isShift, V.ids, lendV, frz, flatV, cellsOf, addOff, firstReg, oneOf, cellsAt, isAggD, isPure, ↓reduceIte, reduceCtorEq, Nat.reduceAdd, Nat.reduceSub, Nat.reduceMul, Nat.reduceLeDiff, Nat.reduceEqDiff, Nat.reduceBEq, Int.reduceToNat, Int.reduceLE, Int.reduceLT, Nat.reduceLT, Int.reduceBEq, Int.reduceBNe, Int.reduceEq, String.reduceEq, q1, q2, q3, q4, hc7, h65, h66, q67, q68, hc71]
          try simp only [NM, EE] at hJ
          exact hJ
      · have q75 : [[V.p (Value.int .i64 0)]] = rowsOf (encI .i64) ([0] : List Int) := rfl
        have q76 : List.set (rowsOf (encI .i64) ([0] : List Int)) 0 [V.p (Value.int .i64 0)] = rowsOf (encI .i64) ([0] : List Int) := rfl
        have q77 : List.map (tell [0]) (rowsOf (encI .i64) ([0] : List Int)) = rowsOf (encI .i64) ([0] : List Int) := rfl
        simp (maxSteps := 999999) (disch := first | exact D (by decide) | exact K (by kernel_rfl)) only [EA, EE, EG, EF, ED, ofVal, ofVal1, ofCell, lenV, aggEqV, cellEq, intBin, isShift, V.ids, lendV, frz, flatV, cellsOf, addOff, firstReg, oneOf, cellsAt, isAggD, isPure, ↓reduceIte, reduceCtorEq, Nat.reduceAdd, Nat.reduceSub, Nat.reduceMul, Nat.reduceLeDiff, Nat.reduceEqDiff, Nat.reduceBEq, Int.reduceToNat, Int.reduceLE, Int.reduceLT, Nat.reduceLT, Int.reduceBEq, Int.reduceBNe, Int.reduceEq, String.reduceEq, show (nav B12 [3, 2, 1, 2, 2, 2, 2, 1, 2, 2, 2, 2]) = Code.region 10 _ false from rfl, hk_12_10, hz_12_10, hs_12_10, buildSliceV, fillRows, sm_3, u_63, i_63, is_63, ib_63, iz_63, u_3, i_3, is_3, ib_3, iz_3, callStep, calleeOf, gv, List.contains, q1, q2, q3, q4, hc7, h65, h66, q75, q76, q77]
        replace hF := Option.bind_eq_some_iff.1 hF
        obtain ⟨o78, h79, hF⟩ := hF
        have hc80 := f22_pr_bow_ok k ([0] : List Int) v64 _ h79
        cases o78 with
        | o0 v81 =>
          (try dsimp only at hF)
          (try simp only [NM, EE, R22_pr_bow.st] at hc80)
          have hJ := f12_ai10brrz_j15_ok k m1 m1_1 m1_2 m1_3 m1_4 m1_5 m1_6 m1_7 m1_8 m1_9 false m1_11 m1_12 v81 _ hF
          simp (maxSteps := 999999) (disch := first | exact D (by decide) | exact K (by kernel_rfl)) only [EA, EE, EG, EF, ED, ofVal, ofVal1, ofCell, lenV, aggEqV, cellEq, intBin, isShift, V.ids, lendV, frz, flatV, cellsOf, addOff, firstReg, oneOf, cellsAt, isAggD, isPure, ↓reduceIte, reduceCtorEq, Nat.reduceAdd, Nat.reduceSub, Nat.reduceMul, Nat.reduceLeDiff, Nat.reduceEqDiff, Nat.reduceBEq, Int.reduceToNat, Int.reduceLE, Int.reduceLT, Nat.reduceLT, Int.reduceBEq, Int.reduceBNe, Int.reduceEq, String.reduceEq, q1, q2, q3, q4, hc7, h65, h66, q75, q76, q77, hc80]
          try simp only [NM, EE] at hJ
          exact hJ
        | o1 v82 v83 =>
          (try dsimp only at hF)
          (try simp only [NM, EE, R22_pr_bow.st] at hc80)
          have hJ := f12_ai10brrz_j5_ok k m1 m1_1 m1_2 m1_3 m1_4 m1_5 m1_6 m1_7 m1_8 m1_9 false m1_11 m1_12 v83 _ hF
          simp (maxSteps := 999999) (disch := first | exact D (by decide) | exact K (by kernel_rfl)) only [EA, EE, EG, EF, ED, ofVal, ofVal1, ofCell, lenV, aggEqV, cellEq, intBin, isShift, V.ids, lendV, frz, flatV, cellsOf, addOff, firstReg, oneOf, cellsAt, isAggD, isPure, ↓reduceIte, reduceCtorEq, Nat.reduceAdd, Nat.reduceSub, Nat.reduceMul, Nat.reduceLeDiff, Nat.reduceEqDiff, Nat.reduceBEq, Int.reduceToNat, Int.reduceLE, Int.reduceLT, Nat.reduceLT, Int.reduceBEq, Int.reduceBNe, Int.reduceEq, String.reduceEq, q1, q2, q3, q4, hc7, h65, h66, q75, q76, q77, hc80]
          try simp only [NM, EE] at hJ
          exact hJ
    · simp (maxSteps := 999999) (disch := first | exact D (by decide) | exact K (by kernel_rfl)) only [EA, EE, EG, EF, ED, ofVal, ofVal1, ofCell, lenV, aggEqV, cellEq, intBin, isShift, V.ids, lendV, frz, flatV, cellsOf, addOff, firstReg, oneOf, cellsAt, isAggD, isPure, ↓reduceIte, reduceCtorEq, Nat.reduceAdd, Nat.reduceSub, Nat.reduceMul, Nat.reduceLeDiff, Nat.reduceEqDiff, Nat.reduceBEq, Int.reduceToNat, Int.reduceLE, Int.reduceLT, Nat.reduceLT, Int.reduceBEq, Int.reduceBNe, Int.reduceEq, String.reduceEq, xk B12 [3, 2, 2, 2, 1, 2, 2, 2, 2] .sq rfl, show (nav B12 [1, 3, 2, 2, 2, 1, 2, 2, 2, 2]) = Code.region 13 _ false from rfl, hk_12_13, hz_12_13, hs_12_13, xk B12 [2, 3, 2, 2, 2, 1, 2, 2, 2, 2] (.cd 62) rfl, q1, q2, q3, q4, hc7, h65]
      replace hF := cond_some hF
      rcases hF with ⟨h84, hF⟩ | ⟨h84, hF⟩
      · have q85 : [[V.p (Value.int .i64 (IntKind.i64.wrap m1_3))], [V.p (Value.int .i64 (IntKind.i64.wrap m1_4))], [V.p (Value.int .i64 m1_7)], [V.p (Value.int .i64 m1_8)], [V.p (Value.int .i64 ((List.length m1_12) : Int))]] = rowsOf (encI .i64) ([(IntKind.i64.wrap m1_3), (IntKind.i64.wrap m1_4), m1_7, m1_8, ((List.length m1_12) : Int)] : List Int) := rfl
        have q86 : List.map (tell [0]) (rowsOf (encI .i64) ([(IntKind.i64.wrap m1_3), (IntKind.i64.wrap m1_4), m1_7, m1_8, ((List.length m1_12) : Int)] : List Int)) = rowsOf (encI .i64) ([(IntKind.i64.wrap m1_3), (IntKind.i64.wrap m1_4), m1_7, m1_8, ((List.length m1_12) : Int)] : List Int) := rfl
        simp (maxSteps := 999999) (disch := first | exact D (by decide) | exact K (by kernel_rfl)) only [EA, EE, EG, EF, ED, ofVal, ofVal1, ofCell, lenV, aggEqV, cellEq, intBin, isShift, V.ids, lendV, frz, flatV, cellsOf, addOff, firstReg, oneOf, cellsAt, isAggD, isPure, ↓reduceIte, reduceCtorEq, Nat.reduceAdd, Nat.reduceSub, Nat.reduceMul, Nat.reduceLeDiff, Nat.reduceEqDiff, Nat.reduceBEq, Int.reduceToNat, Int.reduceLE, Int.reduceLT, Nat.reduceLT, Int.reduceBEq, Int.reduceBNe, Int.reduceEq, String.reduceEq, xk B12 [2, 2, 3, 2, 2, 2, 1, 2, 2, 2, 2] .sq rfl, show (nav B12 [1, 2, 2, 3, 2, 2, 2, 1, 2, 2, 2, 2]) = Code.region 14 _ false from rfl, hk_12_14, hz_12_14, hs_12_14, fieldAddrV, u_26, i_26, is_26, ib_26, iz_26, u_22, i_22, is_22, ib_22, iz_22, u_3, i_3, is_3, ib_3, iz_3, convV, u_24, i_24, is_24, ib_24, iz_24, buildSliceV, fillRows, sm_3, u_63, i_63, is_63, ib_63, iz_63, callStep, calleeOf, gv, List.contains, q1, q2, q3, q4, hc7, h65, h84, q85, q86]
        replace hF := Option.bind_eq_some_iff.1 hF
        obtain ⟨o87, h88, hF⟩ := hF
        have hc89 := f22_pr_bow_ok k (([(IntKind.i64.wrap m1_3), (IntKind.i64.wrap m1_4), m1_7, m1_8, ((List.length m1_12) : Int)] : List Int)) v64 _ h88
        cases o87 with
        | o0 v90 =>
          (try dsimp only at hF)
          (try simp only [NM, EE, R22_pr_bow.st] at hc89)
          replace hF := Option.bind_eq_some_iff.1 hF
          obtain ⟨o91, h92, hF⟩ := hF
          have hc93 := f12_ai10brrz_l6_ok k k m1_12 ((List.length m1_12) : Int) 0 v90 _ h92
          simp (maxSteps := 999999) (disch := first | exact D (by decide) | exact K (by kernel_rfl)) only [EA, EE, EG, EF, ED, ofVal, ofVal1, ofCell, lenV, aggEqV, cellEq, intBin, isShift, V.ids, lendV, frz, flatV, cellsOf, addOff, firstReg, oneOf, cellsAt, isAggD, isPure, ↓reduceIte, reduceCtorEq, Nat.reduceAdd, Nat.reduceSub, Nat.reduceMul, Nat.reduceLeDiff, Nat.reduceEqDiff, Nat.reduceBEq, Int.reduceToNat, Int.reduceLE, Int.reduceLT, Nat.reduceLT, Int.reduceBEq, Int.reduceBNe, Int.reduceEq, String.reduceEq, xk B12 [2, 2, 2, 3, 2, 2, 2, 1, 2, 2, 2, 2] .sq rfl, show (nav B12 [1, 2, 2, 2, 3, 2, 2, 2, 1, 2, 2, 2, 2]) = Code.region 15 _ false from rfl, hk_12_15, hz_12_15, hs_12_15, fieldAddrV, u_26, i_26, is_26, ib_26, iz_26, u_24, i_24, is_24, ib_24, iz_24, xk B12 [2, 2, 2, 2, 3, 2, 2, 2, 1, 2, 2, 2, 2] (.bk 1) rfl, xk B12 [2, 2, 2, 2, 2, 3, 2, 2, 2, 1, 2, 2, 2, 2] .lp rfl, hh_12_16, hc_12_16, q1, q2, q3, q4, hc7, h65, h84, q85, q86, hc89]
          (try simp only [NM, EE] at hc93)
          rw [hc93 _ (by simp (maxSteps := 999999) (disch := first | exact D (by decide) | exact K (by kernel_rfl)) only [EA, EE, EG, EF, ED, ofVal, ofVal1, ofCell, lenV, aggEqV, cellEq, intBin, isShift, V.ids, lendV, frz, flatV, cellsOf, addOff, firstReg, oneOf, cellsAt, isAggD, isPure, ↓reduceIte, reduceCtorEq, Nat.reduceAdd, Nat.reduceSub, Nat.reduceMul, Nat.reduceLeDiff, Nat.reduceEqDiff, Nat.reduceBEq, Int.reduceToNat, Int.reduceLE, Int.reduceLT, Nat.reduceLT, Int.reduceBEq, Int.reduceBNe, Int.reduceEq, String.reduceEq, hh_12_16, hc_12_16, q1, q2, q3, q4, hc7, h65, h84, q85, q86, hc89])]
          clear hc93
          cases o91 with
          | o0 _ _ _ _ =>
            (try dsimp only at hF)
            cases hF
          | o1 _ _ _ _ =>
            (try dsimp only at hF)
            cases hF
          | o2 v94 v95 v96 v97 v98 =>
            (try dsimp only at hF)
            have hJ := f12_ai10brrz_j7_ok k v94 v95 v96 v97 v98 _ hF
            simp (maxSteps := 999999) (disch := first | exact D (by decide) | exact K (by kernel_rfl)) only [EA, EE, EG, EF, ED, ofVal, ofVal1, ofCell, lenV, aggEqV, cellEq, intBin, isShift, V.ids, lendV, frz, flatV, cellsOf, addOff, firstReg, oneOf, cellsAt, isAggD, isPure, ↓reduceIte, reduceCtorEq, Nat.reduceAdd, Nat.reduceSub, Nat.reduceMul, Nat.reduceLeDiff, Nat.reduceEqDiff, Nat.reduceBEq, Int.reduceToNat, Int.reduceLE, Int.reduceLT, Nat.reduceLT, Int.reduceBEq, Int.reduceBNe, Int.reduceEq, String.reduceEq, R12_ai10brrz_l6.st, q1, q2, q3, q4, hc7, h65, h84, q85, q86, hc89]
            try simp only [NM, EE] at hJ
            exact hJ
        | o1 v99 v100 =>
          (try dsimp only at hF)
          (try simp only [NM, EE, R22_pr_bow.st] at hc89)
          replace hF := Option.bind_eq_some_iff.1 hF
          obtain ⟨o101, h102, hF⟩ := hF
          have hc103 := f12_ai10brrz_l6_ok k k m1_12 ((List.length m1_12) : Int) 0 v100 _ h102
          simp (maxSteps := 999999) (disch := first | exact D (by decide) | exact K (by kernel_rfl)) only [EA, EE, EG, EF, ED, ofVal, ofVal1, ofCell, lenV, aggEqV, cellEq, intBin, isShift, V.ids, lendV, frz, flatV, cellsOf, addOff, firstReg, oneOf, cellsAt, isAggD, isPure, ↓reduceIte, reduceCtorEq, Nat.reduceAdd, Nat.reduceSub, Nat.reduceMul, Nat.reduceLeDiff, Nat.reduceEqDiff, Nat.reduceBEq, Int.reduceToNat, Int.reduceLE, Int.reduceLT, Nat.reduceLT, Int.reduceBEq, Int.reduceBNe, Int.reduceEq, String.reduceEq, xk B12 [2, 2, 2, 3, 2, 2, 2, 1, 2, 2, 2, 2] .sq rfl, show (nav B12 [1, 2, 2, 2, 3, 2, 2, 2, 1, 2, 2, 2, 2]) = Code.region 15 _ false from rfl, hk_12_15, hz_12_15, hs_12_15, fieldAddrV, u_26, i_26, is_26, ib_26, iz_26, u_24, i_24, is_24, ib_24, iz_24, xk B12 [2, 2, 2, 2, 3, 2, 2, 2, 1, 2, 2, 2, 2] (.bk 1) rfl, xk B12 [2, 2, 2, 2, 2, 3, 2, 2, 2, 1, 2, 2, 2, 2] .lp rfl, hh_12_16, hc_12_16, q1, q2, q3, q4, hc7, h65, h84, q85, q86, hc89]
          (try simp only [NM, EE] at hc103)
          rw [hc103 _ (by simp (maxSteps := 999999) (disch := first | exact D (by decide) | exact K (by kernel_rfl)) only [EA, EE, EG, EF, ED, ofVal, ofVal1, ofCell, lenV, aggEqV, cellEq, intBin, isShift, V.ids, lendV, frz, flatV, cellsOf, addOff, firstReg, oneOf, cellsAt, isAggD, isPure, ↓reduceIte, reduceCtorEq, Nat.reduceAdd, Nat.reduceSub, Nat.reduceMul, Nat.reduceLeDiff, Nat.reduceEqDiff, Nat.reduceBEq, Int.reduceToNat, Int.reduceLE, Int.reduceLT, Nat.reduceLT, Int.reduceBEq, Int.reduceBNe, Int.reduceEq, String.reduceEq, hh_12_16, hc_12_16, q1, q2, q3, q4, hc7, h65, h84, q85, q86, hc89])]
          clear hc103
          cases o101 with
          | o0 _ _ _ _ =>
            (try dsimp only at hF)
            cases hF
          | o1 _ _ _ _ =>
            (try dsimp only at hF)
            cases hF
          | o2 v104 v105 v106 v107 v108 =>
            (try dsimp only at hF)
            have hJ := f12_ai10brrz_j7_ok k v104 v105 v106 v107 v108 _ hF
            simp (maxSteps := 999999) (disch := first | exact D (by decide) | exact K (by kernel_rfl)) only [EA, EE, EG, EF, ED, ofVal, ofVal1, ofCell, lenV, aggEqV, cellEq, intBin, isShift, V.ids, lendV, frz, flatV, cellsOf, addOff, firstReg, oneOf, cellsAt, isAggD, isPure, ↓reduceIte, reduceCtorEq, Nat.reduceAdd, Nat.reduceSub, Nat.reduceMul, Nat.reduceLeDiff, Nat.reduceEqDiff, Nat.reduceBEq, Int.reduceToNat, Int.reduceLE, Int.reduceLT, Nat.reduceLT, Int.reduceBEq, Int.reduceBNe, Int.reduceEq, String.reduceEq, R12_ai10brrz_l6.st, q1, q2, q3, q4, hc7, h65, h84, q85, q86, hc89]
            try simp only [NM, EE] at hJ
            exact hJ
      · simp (maxSteps := 999999) (disch := first | exact D (by decide) | exact K (by kernel_rfl)) only [EA, EE, EG, EF, ED, ofVal, ofVal1, ofCell, lenV, aggEqV, cellEq, intBin, isShift, V.ids, lendV, frz, flatV, cellsOf, addOff, firstReg, oneOf, cellsAt, isAggD, isPure, ↓reduceIte, reduceCtorEq, Nat.reduceAdd, Nat.reduceSub, Nat.reduceMul, Nat.reduceLeDiff, Nat.reduceEqDiff, Nat.reduceBEq, Int.reduceToNat, Int.reduceLE, Int.reduceLT, Nat.reduceLT, Int.reduceBEq, Int.reduceBNe, Int.reduceEq, String.reduceEq, xk B12 [3, 2, 3, 2, 2, 2, 1, 2, 2, 2, 2] .sq rfl, show (nav B12 [1, 3, 2, 3, 2, 2, 2, 1, 2, 2, 2, 2]) = Code.region 20 _ false from rfl, hk_12_20, hz_12_20, hs_12_20, xk B12 [2, 3, 2, 3, 2, 2, 2, 1, 2, 2, 2, 2] (.cd 95) rfl, q1, q2, q3, q4, hc7, h65, h84]
        replace hF := cond_some hF
        rcases hF with ⟨h109, hF⟩ | ⟨h109, hF⟩
        · have q110 : [[V.p (Value.int .i64 (IntKind.i64.wrap m1_3))]] = rowsOf (encI .i64) ([(IntKind.i64.wrap m1_3)] : List Int) := rfl
          have q111 : List.map (tell [0]) (rowsOf (encI .i64) ([(IntKind.i64.wrap m1_3)] : List Int)) = rowsOf (encI .i64) ([(IntKind.i64.wrap m1_3)] : List Int) := rfl
          simp (maxSteps := 999999) (disch := first | exact D (by decide) | exact K (by kernel_rfl)) only [EA, EE, EG, EF, ED, ofVal, ofVal1, ofCell, lenV, aggEqV, cellEq, intBin, isShift, V.ids, lendV, frz, flatV, cellsOf, addOff, firstReg, oneOf, cellsAt, isAggD, isPure, ↓reduceIte, reduceCtorEq, Nat.reduceAdd, Nat.reduceSub, Nat.reduceMul, Nat.reduceLeDiff, Nat.reduceEqDiff, Nat.reduceBEq, Int.reduceToNat, Int.reduceLE, Int.reduceLT, Nat.reduceLT, Int.reduceBEq, Int.reduceBNe, Int.reduceEq, String.reduceEq, show (nav B12 [2, 2, 3, 2, 3, 2, 2, 2, 1, 2, 2, 2, 2]) = Code.region 21 _ false from rfl, hk_12_21, hz_12_21, hs_12_21, fieldAddrV, u_26, i_26, is_26, ib_26, iz_26, u_22, i_22, is_22, ib_22, iz_22, u_3, i_3, is_3, ib_3, iz_3, convV, buildSliceV, fillRows, sm_3, u_63, i_63, is_63, ib_63, iz_63, callStep, calleeOf, gv, List.contains, q1, q2, q3, q4, hc7, h65, h84, h109, q110, q111]
          replace hF := Option.bind_eq_some_iff.1 hF
          obtain ⟨o112, h113, hF⟩ := hF
          have hc114 := f22_pr_bow_ok k ([(IntKind.i64.wrap m1_3)] : List Int) v64 _ h113
          cases o112 with
          | o0 v115 =>
            (try dsimp only at hF)
            (try simp only [NM, EE, R22_pr_bow.st] at hc114)
            have hJ := f12_ai10brrz_j16_ok k v115 _ hF
            simp (maxSteps := 999999) (disch := first | exact D (by decide) | exact K (by kernel_rfl)) only [EA, EE, EG, EF, ED, ofVal, ofVal1, ofCell, lenV, aggEqV, cellEq, intBin, isShift, V.ids, lendV, frz, flatV, cellsOf, addOff, firstReg, oneOf, cellsAt, isAggD, isPure, ↓reduceIte, reduceCtorEq, Nat.reduceAdd, Nat.reduceSub, Nat.reduceMul, Nat.reduceLeDiff, Nat.reduceEqDiff, Nat.reduceBEq, Int.reduceToNat, Int.reduceLE, Int.reduceLT, Nat.reduceLT, Int.reduceBEq, Int.reduceBNe, Int.reduceEq, String.reduceEq, q1, q2, q3, q4, hc7, h65, h84, h109, q110, q111, hc114]
            try simp only [NM, EE] at hJ
            exact hJ
          | o1 v116 v117 =>
            (try dsimp only at hF)
            (try simp only [NM, EE, R22_pr_bow.st] at hc114)
            have hJ := f12_ai10brrz_j9_ok k v117 _ hF
            simp (maxSteps := 999999) (disch := first | exact D (by decide) | exact K (by kernel_rfl)) only [EA, EE, EG, EF, ED, ofVal, ofVal1, ofCell, lenV, aggEqV, cellEq, intBin, isShift, V.ids, lendV, frz, flatV, cellsOf, addOff, firstReg, oneOf, cellsAt, isAggD, isPure, ↓reduceIte, reduceCtorEq, Nat.reduceAdd, Nat.reduceSub, Nat.reduceMul, Nat.reduceLeDiff, Nat.reduceEqDiff, Nat.reduceBEq, Int.reduceToNat, Int.reduceLE, Int.reduceLT, Nat.reduceLT, Int.reduceBEq, Int.reduceBNe, Int.reduceEq, String.reduceEq, q1, q2, q3, q4, hc7, h65, h84, h109, q110, q111, hc114]
            try simp only [NM, EE] at hJ
            exact hJ
        · simp (maxSteps := 999999) (disch := first | exact D (by decide) | exact K (by kernel_rfl)) only [EA, EE, EG, EF, ED, ofVal, ofVal1, ofCell, lenV, aggEqV, cellEq, intBin, isShift, V.ids, lendV, frz, flatV, cellsOf, addOff, firstReg, oneOf, cellsAt, isAggD, isPure, ↓reduceIte, reduceCtorEq, Nat.reduceAdd, Nat.reduceSub, Nat.reduceMul, Nat.reduceLeDiff, Nat.reduceEqDiff, Nat.reduceBEq, Int.reduceToNat, Int.reduceLE, Int.reduceLT, Nat.reduceLT, Int.reduceBEq, Int.reduceBNe, Int.reduceEq, String.reduceEq, xk B12 [3, 2, 3, 2, 3, 2, 2, 2, 1, 2, 2, 2, 2] .sq rfl, xk B12 [1, 3, 2, 3, 2, 3, 2, 2, 2, 1, 2, 2, 2, 2] .sq rfl, show (nav B12 [1, 1, 3, 2, 3, 2, 3, 2, 2, 2, 1, 2, 2, 2, 2]) = Code.region 22 _ false from rfl, hk_12_22, hz_12_22, hs_12_22, xk B12 [2, 1, 3, 2, 3, 2, 3, 2, 2, 2, 1, 2, 2, 2, 2] (.cd 103) rfl, q1, q2, q3, q4, hc7, h65, h84, h109]
          replace hF := cond_some hF
          rcases hF with ⟨h118, hF⟩ | ⟨h118, hF⟩
          · have hJ := f12_ai10brrz_j17_ok k m1 true m1 m1_1 m1_2 m1_3 m1_4 m1_5 m1_6 m1_7 m1_8 m1_9 m1_10 m1_11 m1_12 v64 _ hF
            simp (maxSteps := 999999) (disch := first | exact D (by decide) | exact K (by kernel_rfl)) only [EA, EE, EG, EF, ED, ofVal, ofVal1, ofCell, lenV, aggEqV, cellEq, intBin, isShift, V.ids, lendV, frz, flatV, cellsOf, addOff, firstReg, oneOf, cellsAt, isAggD, isPure, ↓reduceIte, reduceCtorEq, Nat.reduceAdd, Nat.reduceSub, Nat.reduceMul, Nat.reduceLeDiff, Nat.reduceEqDiff, Nat.reduceBEq, Int.reduceToNat, Int.reduceLE, Int.reduceLT, Nat.reduceLT, Int.reduceBEq, Int.reduceBNe, Int.reduceEq, String.reduceEq, xk B12 [2, 2, 1, 3, 2, 3, 2, 3, 2, 2, 2, 1, 2, 2, 2, 2] .sk rfl, q1, q2, q3, q4, hc7, h65, h84, h109, h118]
            try simp only [NM, EE] at hJ
            exact hJ
          · have hJ := f12_ai10brrz_j19_ok k (m1 == 6) m1 m1_1 m1_2 m1_3 m1_4 m1_5 m1_6 m1_7 m1_8 m1_9 m1_10 m1_11 m1_12 v64 _ hF
            simp (maxSteps := 999999) (disch := first | exact D (by decide) | exact K (by kernel_rfl)) only [EA, EE, EG, EF, ED, ofVal, ofVal1, ofCell, lenV, aggEqV, cellEq, intBin, isShift, V.ids, lendV, frz, flatV, cellsOf, addOff, firstReg, oneOf, cellsAt, isAggD, isPure, ↓reduceIte, reduceCtorEq, Nat.reduceAdd, Nat.reduceSub, Nat.reduceMul, Nat.reduceLeDiff, Nat.reduceEqDiff, Nat.reduceBEq, Int.reduceToNat, Int.reduceLE, Int.reduceLT, Nat.reduceLT, Int.reduceBEq, Int.reduceBNe, Int.reduceEq, String.reduceEq, show (nav B12 [3, 2, 1, 3, 2, 3, 2, 3, 2, 2, 2, 1, 2, 2, 2, 2]) = Code.region 23 _ false from rfl, hk_12_23, hz_12_23, hs_12_23, q1, q2, q3, q4, hc7, h65, h84, h109, h118]
            try simp only [NM, EE] at hJ
            exact hJ
noncomputable def f12_ai10brrz_e (k : Nat) (a0 : Int) (a0_1 : Int) (a0_2 : Int) (a0_3 : Int) (a0_4 : Int) (a0_5 : Int) (a0_6 : Int) (a0_7 : Int) (a0_8 : Int) (a0_9 : Int) (a0_10 : Bool) (a0_11 : List Int) (a0_12 : List T45) : Option R12_ai10brrz :=
  Option.bind (f15_ai10brrz k a0 a0_1 a0_2 a0_3 a0_4 a0_5 a0_6 a0_7 a0_8 a0_9 a0_10 a0_11 a0_12) fun o1 =>
    match o1 with
    | .o0 v4 =>
      cond ((v4 != 0))
        (some (R12_ai10brrz.o0 v4 []))
        (f12_ai10brrz_j1 k v4 false a0 a0_1 a0_2 a0_3 a0_4 a0_5 a0_6 a0_7 a0_8 a0_9 a0_10 a0_11 a0_12)
theorem f12_ai10brrz_e_ok (k : Nat) (a0 : Int) (a0_1 : Int) (a0_2 : Int) (a0_3 : Int) (a0_4 : Int) (a0_5 : Int) (a0_6 : Int) (a0_7 : Int) (a0_8 : Int) (a0_9 : Int) (a0_10 : Bool) (a0_11 : List Int) (a0_12 : List T45) (r : R12_ai10brrz) (hF : f12_ai10brrz_e k a0 a0_1 a0_2 a0_3 a0_4 a0_5 a0_6 a0_7 a0_8 a0_9 a0_10 a0_11 a0_12 = some r) : finK Try.prog Try.f12 0 (EX 12 k (nav B12 []) ({ n := 116, F := [(0, V.agg [V.p (Value.int .i64 a0), V.p (Value.int .i64 a0_1), V.p (Value.int .u32 a0_2), V.p (Value.int .u32 a0_3), V.p (Value.int .u32 a0_4), V.p (Value.int .i64 a0_5), V.p (Value.int .i64 a0_6), V.p (Value.int .i64 a0_7), V.p (Value.int .i64 a0_8), V.p (Value.int .i64 a0_9), V.p (Value.bool a0_10), V.sl 1 (rowsOf (encI .u8) a0_11), V.sl 2 (rowsOf encT45 a0_12)])], M := [] } : St)) = some r.st := by
  unfold f12_ai10brrz_e at hF
  replace hF := Option.bind_eq_some_iff.1 hF
  obtain ⟨o1, h2, hF⟩ := hF
  have hc3 := f15_ai10brrz_ok k a0 a0_1 a0_2 a0_3 a0_4 a0_5 a0_6 a0_7 a0_8 a0_9 a0_10 a0_11 a0_12 _ h2
  cases o1 with
  | o0 v4 =>
    (try dsimp only at hF)
    (try simp only [NM, EE, R15_ai10brrz.st] at hc3)
    simp (maxSteps := 999999) (disch := first | exact D (by decide) | exact K (by kernel_rfl)) only [EA, EE, EG, EF, ED, ofVal, ofVal1, ofCell, lenV, aggEqV, cellEq, intBin, isShift, V.ids, lendV, frz, flatV, cellsOf, addOff, firstReg, oneOf, cellsAt, isAggD, isPure, ↓reduceIte, reduceCtorEq, Nat.reduceAdd, Nat.reduceSub, Nat.reduceMul, Nat.reduceLeDiff, Nat.reduceEqDiff, Nat.reduceBEq, Int.reduceToNat, Int.reduceLE, Int.reduceLT, Nat.reduceLT, Int.reduceBEq, Int.reduceBNe, Int.reduceEq, String.reduceEq, xk B12 [] .sq rfl, show (nav B12 [1]) = Code.region 0 _ false from rfl, hk_12_0, hz_12_0, hs_12_0, xk B12 [2] .sq rfl, xk B12 [1, 2] .sq rfl, show (nav B12 [1, 1, 2]) = Code.region 1 _ false from rfl, hk_12_1, hz_12_1, hs_12_1, u_26, i_26, is_26, ib_26, iz_26, callStep, calleeOf, gv, List.contains, xk B12 [2, 1, 2] .sq rfl, show (nav B12 [1, 2, 1, 2]) = Code.region 2 _ false from rfl, hk_12_2, hz_12_2, hs_12_2, xk B12 [2, 2, 1, 2] (.cd 11) rfl, hc3]
    replace hF := cond_some hF
    rcases hF with ⟨h5, hF⟩ | ⟨h5, hF⟩
    · cases hF
      simp (maxSteps := 999999) (disch := first | exact D (by decide) | exact K (by kernel_rfl)) only [EA, EE, EG, EF, ED, ofVal, ofVal1, ofCell, lenV, aggEqV, cellEq, intBin, isShift, V.ids, lendV, frz, flatV, cellsOf, addOff, firstReg, oneOf, cellsAt, isAggD, isPure, ↓reduceIte, reduceCtorEq, Nat.reduceAdd, Nat.reduceSub, Nat.reduceMul, Nat.reduceLeDiff, Nat.reduceEqDiff, Nat.reduceBEq, Int.reduceToNat, Int.reduceLE, Int.reduceLT, Nat.reduceLT, Int.reduceBEq, Int.reduceBNe, Int.reduceEq, String.reduceEq, xk B12 [2, 2, 2, 1, 2] .sq rfl, show (nav B12 [1, 2, 2, 2, 1, 2]) = Code.region 3 _ false from rfl, hk_12_3, hz_12_3, hs_12_3, xk B12 [2, 2, 2, 2, 1, 2] .rt rfl, finK_norm, finK_ret, fin12, R12_ai10brrz.st, hc3, h5]
    · have hJ := f12_ai10brrz_j1_ok k v4 false a0 a0_1 a0_2 a0_3 a0_4 a0_5 a0_6 a0_7 a0_8 a0_9 a0_10 a0_11 a0_12 _ hF
      simp (maxSteps := 999999) (disch := first | exact D (by decide) | exact K (by kernel_rfl)) only [EA, EE, EG, EF, ED, ofVal, ofVal1, ofCell, lenV, aggEqV, cellEq, intBin, isShift, V.ids, lendV, frz, flatV, cellsOf, addOff, firstReg, oneOf, cellsAt, isAggD, isPure, ↓reduceIte, reduceCtorEq, Nat.reduceAdd, Nat.reduceSub, Nat.reduceMul, Nat.reduceLeDiff, Nat.reduceEqDiff, Nat.reduceBEq, Int.reduceToNat, Int.reduceLE, Int.reduceLT, Nat.reduceLT, Int.reduceBEq, Int.reduceBNe, Int.reduceEq, String.reduceEq, xk B12 [3, 2, 2, 1, 2] .sk rfl, hc3, h5]
      try simp only [NM, EE] at hJ
      exact hJ
noncomputable def f12_ai10brrz (k : Nat) (a0 : Int) (a0_1 : Int) (a0_2 : Int) (a0_3 : Int) (a0_4 : Int) (a0_5 : Int) (a0_6 : Int) (a0_7 : Int) (a0_8 : Int) (a0_9 : Int) (a0_10 : Bool) (a0_11 : List Int) (a0_12 : List T45) : Option R12_ai10brrz := match k with | 0 => none | k + 1 => f12_ai10brrz_e k a0 a0_1 a0_2 a0_3 a0_4 a0_5 a0_6 a0_7 a0_8 a0_9 a0_10 a0_11 a0_12
theorem f12_ai10brrz_ok (k : Nat) (a0 : Int) (a0_1 : Int) (a0_2 : Int) (a0_3 : Int) (a0_4 : Int) (a0_5 : Int) (a0_6 : Int) (a0_7 : Int) (a0_8 : Int) (a0_9 : Int) (a0_10 : Bool) (a0_11 : List Int) (a0_12 : List T45) (r : R12_ai10brrz) (hF : f12_ai10brrz k a0 a0_1 a0_2 a0_3 a0_4 a0_5 a0_6 a0_7 a0_8 a0_9 a0_10 a0_11 a0_12 = some r) : CV k 12 [V.agg [V.p (Value.int .i64 a0), V.p (Value.int .i64 a0_1), V.p (Value.int .u32 a0_2), V.p (Value.int .u32 a0_3), V.p (Value.int .u32 a0_4), V.p (Value.int .i64 a0_5), V.p (Value.int .i64 a0_6), V.p (Value.int .i64 a0_7), V.p (Value.int .i64 a0_8), V.p (Value.int .i64 a0_9), V.p (Value.bool a0_10), V.sl 1 (rowsOf (encI .u8) a0_11), V.sl 2 (rowsOf encT45 a0_12)]] [] = some r.st := by
  cases k with
  | zero => cases hF
  | succ k =>
    unfold CV
    rw [ev_call (F := Try.f12) (c := (nav B12 [])) rfl Try.func12 rfl rfl rfl]
    exact f12_ai10brrz_e_ok k a0 a0_1 a0_2 a0_3 a0_4 a0_5 a0_6 a0_7 a0_8 a0_9 a0_10 a0_11 a0_12 r hF
end Go.Proofs.YthjefcamonmjpaaV
