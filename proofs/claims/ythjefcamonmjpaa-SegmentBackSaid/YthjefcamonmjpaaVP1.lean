/- What the program's functions answer: plain functions, and that the interpreter answers what they do. Written by a program of this session, out of the translation. -/
import Derived.Test.YthjefcamonmjpaaVPC
namespace Go.Proofs.YthjefcamonmjpaaV
open Go
set_option linter.unusedVariables false
set_option linter.unusedSimpArgs false
set_option maxRecDepth 8000
set_option maxHeartbeats 4000000
-- f7_: f7 heliograph/heliographlaw10.wakes
inductive R7_ where
  | o0 (y : Bool)
noncomputable def R7_.st : R7_ → V × List O × List O
  | .o0 y => (V.p (Value.bool y), [], [])
noncomputable def f7_ (k : Nat) : Option R7_ := ifE (100 ≤ k) (some (.o0 true))
theorem f7__ok (k : Nat) (r : R7_) (hF : f7_ k = some r) : CV k 7 [] [] = some r.st := by
  obtain ⟨h, hF⟩ := ifE_some.1 hF
  cases hF
  exact callV_le h wakes
-- f8_ai10brrz: f8 heliograph/heliographlaw10.short
inductive R8_ai10brrz where
  | o0 (y : Int) (y_1 : Int) (y_2 : Int) (y_3 : Int) (y_4 : Int) (y_5 : Int) (y_6 : Int) (y_7 : Int) (y_8 : Int) (y_9 : Int) (y_10 : Bool) (y_11 : Nat) (y_12 : Nat) (y_13 : Nat) (y_14 : Nat) (y_15 : List Int) (y_16 : List T45)
noncomputable def R8_ai10brrz.st : R8_ai10brrz → V × List O × List O
  | .o0 y y_1 y_2 y_3 y_4 y_5 y_6 y_7 y_8 y_9 y_10 y_11 y_12 y_13 y_14 y_15 y_16 => (V.agg [V.p (Value.int .i64 y), V.p (Value.int .i64 y_1), V.p (Value.int .u32 y_2), V.p (Value.int .u32 y_3), V.p (Value.int .u32 y_4), V.p (Value.int .i64 y_5), V.p (Value.int .i64 y_6), V.p (Value.int .i64 y_7), V.p (Value.int .i64 y_8), V.p (Value.int .i64 y_9), V.p (Value.bool y_10), V.cut 2000000 1 y_11 y_12, V.cut 2000001 2 y_13 y_14], [], [O.row true 1 5 (rowsOf (encI .u8) y_15), O.row true 2 45 (rowsOf encT45 y_16)])
noncomputable def f8_ai10brrz_e (k : Nat) (a0 : Int) (a0_1 : Int) (a0_2 : Int) (a0_3 : Int) (a0_4 : Int) (a0_5 : Int) (a0_6 : Int) (a0_7 : Int) (a0_8 : Int) (a0_9 : Int) (a0_10 : Bool) (a0_11 : List Int) (a0_12 : List T45) : Option R8_ai10brrz :=
  ifE ((0 : Int) ≤ (IntKind.i64.wrap ((if (300 : Int) < ((List.length a0_11) : Int) then 300 else ((List.length a0_11) : Int)) + (2 : Int)))) (
    ifE (((IntKind.i64.wrap ((if (300 : Int) < ((List.length a0_11) : Int) then 300 else ((List.length a0_11) : Int)) + (2 : Int)))) * 1 ≤ roomy) (
      ifE ((0 : Int) ≤ (if (300 : Int) < ((List.length a0_11) : Int) then 300 else ((List.length a0_11) : Int))) (
        ifE ((Int.toNat ((if (300 : Int) < ((List.length a0_11) : Int) then 300 else ((List.length a0_11) : Int)))) ≤ (List.length a0_11)) (
          ifE ((List.length ((List.take ((Int.toNat ((if (300 : Int) < ((List.length a0_11) : Int) then 300 else ((List.length a0_11) : Int))))) a0_11))) ≤ roomy) (
            ifE (((List.length ((List.take ((Int.toNat ((if (300 : Int) < ((List.length a0_11) : Int) then 300 else ((List.length a0_11) : Int))))) a0_11))) + 1) ≤ roomy) (
              ifE ((Int.toNat ((if (300 : Int) < ((List.length a0_11) : Int) then 300 else ((List.length a0_11) : Int)))) ≤ (List.length (((List.take ((Int.toNat ((if (300 : Int) < ((List.length a0_11) : Int) then 300 else ((List.length a0_11) : Int))))) a0_11) ++ ([7] : List Int))))) (
                ifE ((0 : Int) ≤ (IntKind.i64.wrap ((if (40 : Int) < ((List.length a0_12) : Int) then 40 else ((List.length a0_12) : Int)) + (2 : Int)))) (
                  ifE (((IntKind.i64.wrap ((if (40 : Int) < ((List.length a0_12) : Int) then 40 else ((List.length a0_12) : Int)) + (2 : Int)))) * 16 ≤ roomy) (
                    ifE ((0 : Int) ≤ (if (40 : Int) < ((List.length a0_12) : Int) then 40 else ((List.length a0_12) : Int))) (
                      ifE ((Int.toNat ((if (40 : Int) < ((List.length a0_12) : Int) then 40 else ((List.length a0_12) : Int)))) ≤ (List.length a0_12)) (
                        ifE ((List.length ((List.take ((Int.toNat ((if (40 : Int) < ((List.length a0_12) : Int) then 40 else ((List.length a0_12) : Int))))) a0_12))) * 16 ≤ roomy) (
                          ifE (((List.length ((List.take ((Int.toNat ((if (40 : Int) < ((List.length a0_12) : Int) then 40 else ((List.length a0_12) : Int))))) a0_12))) + 1) * 16 ≤ roomy) (
                            ifE ((Int.toNat ((if (40 : Int) < ((List.length a0_12) : Int) then 40 else ((List.length a0_12) : Int)))) ≤ (List.length (((List.take ((Int.toNat ((if (40 : Int) < ((List.length a0_12) : Int) then 40 else ((List.length a0_12) : Int))))) a0_12) ++ ([(T45.mk 77 0)] : List T45))))) (
                              some (R8_ai10brrz.o0 a0 a0_1 a0_2 a0_3 a0_4 a0_5 a0_6 a0_7 a0_8 a0_9 a0_10 0 ((Int.toNat ((if (300 : Int) < ((List.length a0_11) : Int) then 300 else ((List.length a0_11) : Int))))) 0 ((Int.toNat ((if (40 : Int) < ((List.length a0_12) : Int) then 40 else ((List.length a0_12) : Int))))) (((List.take ((Int.toNat ((if (300 : Int) < ((List.length a0_11) : Int) then 300 else ((List.length a0_11) : Int))))) a0_11) ++ ([7] : List Int))) (((List.take ((Int.toNat ((if (40 : Int) < ((List.length a0_12) : Int) then 40 else ((List.length a0_12) : Int))))) a0_12) ++ ([(T45.mk 77 0)] : List T45))))))))))))))))))
theorem f8_ai10brrz_e_ok (k : Nat) (a0 : Int) (a0_1 : Int) (a0_2 : Int) (a0_3 : Int) (a0_4 : Int) (a0_5 : Int) (a0_6 : Int) (a0_7 : Int) (a0_8 : Int) (a0_9 : Int) (a0_10 : Bool) (a0_11 : List Int) (a0_12 : List T45) (r : R8_ai10brrz) (hF : f8_ai10brrz_e k a0 a0_1 a0_2 a0_3 a0_4 a0_5 a0_6 a0_7 a0_8 a0_9 a0_10 a0_11 a0_12 = some r) : finK Try.prog Try.f8 0 (EX 8 k (nav B8 []) ({ n := 41, F := [(0, V.agg [V.p (Value.int .i64 a0), V.p (Value.int .i64 a0_1), V.p (Value.int .u32 a0_2), V.p (Value.int .u32 a0_3), V.p (Value.int .u32 a0_4), V.p (Value.int .i64 a0_5), V.p (Value.int .i64 a0_6), V.p (Value.int .i64 a0_7), V.p (Value.int .i64 a0_8), V.p (Value.int .i64 a0_9), V.p (Value.bool a0_10), V.sl 1 (rowsOf (encI .u8) a0_11), V.sl 2 (rowsOf encT45 a0_12)])], M := [] } : St)) = some r.st := by
  unfold f8_ai10brrz_e at hF
  replace hF := ifE_some.1 hF
  obtain ⟨h1, hF⟩ := hF
  replace hF := ifE_some.1 hF
  obtain ⟨h2, hF⟩ := hF
  replace hF := ifE_some.1 hF
  obtain ⟨h3, hF⟩ := hF
  replace hF := ifE_some.1 hF
  obtain ⟨h4, hF⟩ := hF
  replace hF := ifE_some.1 hF
  obtain ⟨h5, hF⟩ := hF
  have q6 : [[V.p (Value.int .u8 7)]] = rowsOf (encI .u8) ([7] : List Int) := rfl
  have q7 : List.map (tell [0]) (rowsOf (encI .u8) ([7] : List Int)) = rowsOf (encI .u8) ([7] : List Int) := rfl
  replace hF := ifE_some.1 hF
  obtain ⟨h8, hF⟩ := hF
  replace hF := ifE_some.1 hF
  obtain ⟨h9, hF⟩ := hF
  replace hF := ifE_some.1 hF
  obtain ⟨h10, hF⟩ := hF
  replace hF := ifE_some.1 hF
  obtain ⟨h11, hF⟩ := hF
  replace hF := ifE_some.1 hF
  obtain ⟨h12, hF⟩ := hF
  replace hF := ifE_some.1 hF
  obtain ⟨h13, hF⟩ := hF
  replace hF := ifE_some.1 hF
  obtain ⟨h14, hF⟩ := hF
  have q15 : [[V.p (Value.int .i64 77), V.p (Value.int .i64 0)]] = rowsOf encT45 ([(T45.mk 77 0)] : List T45) := rfl
  have q16 : List.map (tell [0, 0]) (rowsOf encT45 ([(T45.mk 77 0)] : List T45)) = rowsOf encT45 ([(T45.mk 77 0)] : List T45) := rfl
  replace hF := ifE_some.1 hF
  obtain ⟨h17, hF⟩ := hF
  replace hF := ifE_some.1 hF
  obtain ⟨h18, hF⟩ := hF
  cases hF
  simp (maxSteps := 999999) (disch := first | exact D (by decide) | exact K (by kernel_rfl)) only [EA, EE, EG, EF, ED, ofVal, ofVal1, ofCell, lenV, aggEqV, cellEq, intBin, isShift, V.ids, lendV, frz, flatV, cellsOf, addOff, firstReg, oneOf, cellsAt, isAggD, isPure, ↓reduceIte, reduceCtorEq, Nat.reduceAdd, Nat.reduceSub, Nat.reduceMul, Nat.reduceLeDiff, Nat.reduceEqDiff, Nat.reduceBEq, Int.reduceToNat, Int.reduceLE, Int.reduceLT, Nat.reduceLT, Int.reduceBEq, Int.reduceBNe, Int.reduceEq, String.reduceEq, xk B8 [] .sq rfl, show (nav B8 [1]) = Code.region 0 _ false from rfl, hk_8_0, hz_8_0, hs_8_0, u_26, i_26, is_26, ib_26, iz_26, xk B8 [2] .sq rfl, show (nav B8 [1, 2]) = Code.region 1 _ true from rfl, hk_8_1, hz_8_1, hs_8_1, fieldAddrV, u_23, i_23, is_23, ib_23, iz_23, minmaxV, minmaxGo, u_24, i_24, is_24, ib_24, iz_24, xk B8 [2, 2] .sq rfl, show (nav B8 [1, 2, 2]) = Code.region 2 _ true from rfl, hk_8_2, hz_8_2, hs_8_2, makeV, intArg, sm_5, u_5, i_5, is_5, ib_5, iz_5, List.replicate_zero, sliceV, bound, appendV, content, buildSliceV, fillRows, xk B8 [2, 2, 2] .sq rfl, show (nav B8 [1, 2, 2, 2]) = Code.region 3 _ true from rfl, hk_8_3, hz_8_3, hs_8_3, sm_45, u_45, i_45, is_45, ib_45, iz_45, bl_45, xk B8 [2, 2, 2, 2] .sq rfl, show (nav B8 [1, 2, 2, 2, 2]) = Code.region 4 _ false from rfl, hk_8_4, hz_8_4, hs_8_4, xk B8 [2, 2, 2, 2, 2] .rt rfl, finK_norm, finK_ret, fin8, R8_ai10brrz.st, h1, h2, h3, h4, h5, q6, q7, h8, h9, h10, h11, h12, h13, h14, q15, q16, h17, h18]
noncomputable def f8_ai10brrz (k : Nat) (a0 : Int) (a0_1 : Int) (a0_2 : Int) (a0_3 : Int) (a0_4 : Int) (a0_5 : Int) (a0_6 : Int) (a0_7 : Int) (a0_8 : Int) (a0_9 : Int) (a0_10 : Bool) (a0_11 : List Int) (a0_12 : List T45) : Option R8_ai10brrz := match k with | 0 => none | k + 1 => f8_ai10brrz_e k a0 a0_1 a0_2 a0_3 a0_4 a0_5 a0_6 a0_7 a0_8 a0_9 a0_10 a0_11 a0_12
theorem f8_ai10brrz_ok (k : Nat) (a0 : Int) (a0_1 : Int) (a0_2 : Int) (a0_3 : Int) (a0_4 : Int) (a0_5 : Int) (a0_6 : Int) (a0_7 : Int) (a0_8 : Int) (a0_9 : Int) (a0_10 : Bool) (a0_11 : List Int) (a0_12 : List T45) (r : R8_ai10brrz) (hF : f8_ai10brrz k a0 a0_1 a0_2 a0_3 a0_4 a0_5 a0_6 a0_7 a0_8 a0_9 a0_10 a0_11 a0_12 = some r) : CV k 8 [V.agg [V.p (Value.int .i64 a0), V.p (Value.int .i64 a0_1), V.p (Value.int .u32 a0_2), V.p (Value.int .u32 a0_3), V.p (Value.int .u32 a0_4), V.p (Value.int .i64 a0_5), V.p (Value.int .i64 a0_6), V.p (Value.int .i64 a0_7), V.p (Value.int .i64 a0_8), V.p (Value.int .i64 a0_9), V.p (Value.bool a0_10), V.sl 1 (rowsOf (encI .u8) a0_11), V.sl 2 (rowsOf encT45 a0_12)]] [] = some r.st := by
  cases k with
  | zero => cases hF
  | succ k =>
    unfold CV
    rw [ev_call (F := Try.f8) (c := (nav B8 [])) rfl Try.func8 rfl rfl rfl]
    exact f8_ai10brrz_e_ok k a0 a0_1 a0_2 a0_3 a0_4 a0_5 a0_6 a0_7 a0_8 a0_9 a0_10 a0_11 a0_12 r hF
-- f27_iii: f27 heliograph/segment.in
inductive R27_iii where
  | o0 (y : Bool)
noncomputable def R27_iii.st : R27_iii → V × List O × List O
  | .o0 y => (V.p (Value.bool y), [], [])
noncomputable def f27_iii_e (k : Nat) (a0 : Int) (a1 : Int) (a2 : Int) : Option R27_iii :=
  cond ((decide (a0 ≥ a1)))
    (some (R27_iii.o0 (decide (a0 ≤ a2))))
    (some (R27_iii.o0 false))
theorem f27_iii_e_ok (k : Nat) (a0 : Int) (a1 : Int) (a2 : Int) (r : R27_iii) (hF : f27_iii_e k a0 a1 a2 = some r) : finK Try.prog Try.f27 0 (EX 27 k (nav B27 []) ({ n := 15, F := [(0, V.p (Value.int .i64 a0)), (1, V.p (Value.int .i64 a1)), (2, V.p (Value.int .i64 a2))], M := [] } : St)) = some r.st := by
  unfold f27_iii_e at hF
  simp (maxSteps := 999999) (disch := first | exact D (by decide) | exact K (by kernel_rfl)) only [EA, EE, EG, EF, ED, ofVal, ofVal1, ofCell, lenV, aggEqV, cellEq, intBin, isShift, V.ids, lendV, frz, flatV, cellsOf, addOff, firstReg, oneOf, cellsAt, isAggD, isPure, ↓reduceIte, reduceCtorEq, Nat.reduceAdd, Nat.reduceSub, Nat.reduceMul, Nat.reduceLeDiff, Nat.reduceEqDiff, Nat.reduceBEq, Int.reduceToNat, Int.reduceLE, Int.reduceLT, Nat.reduceLT, Int.reduceBEq, Int.reduceBNe, Int.reduceEq, String.reduceEq, xk B27 [] .sq rfl, show (nav B27 [1]) = Code.region 0 _ false from rfl, hk_27_0, hz_27_0, hs_27_0, xk B27 [2] .sq rfl, show (nav B27 [1, 2]) = Code.region 1 _ false from rfl, hk_27_1, hz_27_1, hs_27_1]
  replace hF := cond_some hF
  rcases hF with ⟨h1, hF⟩ | ⟨h1, hF⟩
  · cases hF
    simp (maxSteps := 999999) (disch := first | exact D (by decide) | exact K (by kernel_rfl)) only [EA, EE, EG, EF, ED, ofVal, ofVal1, ofCell, lenV, aggEqV, cellEq, intBin, isShift, V.ids, lendV, frz, flatV, cellsOf, addOff, firstReg, oneOf, cellsAt, isAggD, isPure, ↓reduceIte, reduceCtorEq, Nat.reduceAdd, Nat.reduceSub, Nat.reduceMul, Nat.reduceLeDiff, Nat.reduceEqDiff, Nat.reduceBEq, Int.reduceToNat, Int.reduceLE, Int.reduceLT, Nat.reduceLT, Int.reduceBEq, Int.reduceBNe, Int.reduceEq, String.reduceEq, xk B27 [2, 2] .rt rfl, finK_norm, finK_ret, fin27, R27_iii.st, h1]
  · cases hF
    simp (maxSteps := 999999) (disch := first | exact D (by decide) | exact K (by kernel_rfl)) only [EA, EE, EG, EF, ED, ofVal, ofVal1, ofCell, lenV, aggEqV, cellEq, intBin, isShift, V.ids, lendV, frz, flatV, cellsOf, addOff, firstReg, oneOf, cellsAt, isAggD, isPure, ↓reduceIte, reduceCtorEq, Nat.reduceAdd, Nat.reduceSub, Nat.reduceMul, Nat.reduceLeDiff, Nat.reduceEqDiff, Nat.reduceBEq, Int.reduceToNat, Int.reduceLE, Int.reduceLT, Nat.reduceLT, Int.reduceBEq, Int.reduceBNe, Int.reduceEq, String.reduceEq, xk B27 [2, 2] .rt rfl, finK_norm, finK_ret, fin27, R27_iii.st, h1]
noncomputable def f27_iii (k : Nat) (a0 : Int) (a1 : Int) (a2 : Int) : Option R27_iii := match k with | 0 => none | k + 1 => f27_iii_e k a0 a1 a2
theorem f27_iii_ok (k : Nat) (a0 : Int) (a1 : Int) (a2 : Int) (r : R27_iii) (hF : f27_iii k a0 a1 a2 = some r) : CV k 27 [V.p (Value.int .i64 a0), V.p (Value.int .i64 a1), V.p (Value.int .i64 a2)] [] = some r.st := by
  cases k with
  | zero => cases hF
  | succ k =>
    unfold CV
    rw [ev_call (F := Try.f27) (c := (nav B27 [])) rfl Try.func27 rfl rfl rfl]
    exact f27_iii_e_ok k a0 a1 a2 r hF
-- f19_ai10brrz: f19 heliograph/segment.Same$1
inductive R19_ai10brrz where
  | o0 (y : Int) (y_1 : Int) (y_2 : Int) (y_3 : Int) (y_4 : Int) (y_5 : Int) (y_6 : Int) (y_7 : Int) (y_8 : Int) (y_9 : Int) (y_10 : Bool)
noncomputable def R19_ai10brrz.st : R19_ai10brrz → V × List O × List O
  | .o0 y y_1 y_2 y_3 y_4 y_5 y_6 y_7 y_8 y_9 y_10 => (V.agg [V.p (Value.int .i64 y), V.p (Value.int .i64 y_1), V.p (Value.int .i64 y_2), V.p (Value.int .i64 y_3), V.p (Value.int .i64 y_4), V.p (Value.int .i64 y_5), V.p (Value.int .i64 y_6), V.p (Value.int .u32 y_7), V.p (Value.int .u32 y_8), V.p (Value.int .u32 y_9), V.p (Value.bool y_10)], [], [])
noncomputable def f19_ai10brrz_e (k : Nat) (a0 : Int) (a0_1 : Int) (a0_2 : Int) (a0_3 : Int) (a0_4 : Int) (a0_5 : Int) (a0_6 : Int) (a0_7 : Int) (a0_8 : Int) (a0_9 : Int) (a0_10 : Bool) (a0_11 : List Int) (a0_12 : List T45) : Option R19_ai10brrz :=
  some (R19_ai10brrz.o0 a0 a0_1 a0_5 a0_6 a0_7 a0_8 a0_9 a0_2 a0_3 a0_4 a0_10)
theorem f19_ai10brrz_e_ok (k : Nat) (a0 : Int) (a0_1 : Int) (a0_2 : Int) (a0_3 : Int) (a0_4 : Int) (a0_5 : Int) (a0_6 : Int) (a0_7 : Int) (a0_8 : Int) (a0_9 : Int) (a0_10 : Bool) (a0_11 : List Int) (a0_12 : List T45) (r : R19_ai10brrz) (hF : f19_ai10brrz_e k a0 a0_1 a0_2 a0_3 a0_4 a0_5 a0_6 a0_7 a0_8 a0_9 a0_10 a0_11 a0_12 = some r) : finK Try.prog Try.f19 0 (EX 19 k (nav B19 []) ({ n := 26, F := [(0, V.agg [V.p (Value.int .i64 a0), V.p (Value.int .i64 a0_1), V.p (Value.int .u32 a0_2), V.p (Value.int .u32 a0_3), V.p (Value.int .u32 a0_4), V.p (Value.int .i64 a0_5), V.p (Value.int .i64 a0_6), V.p (Value.int .i64 a0_7), V.p (Value.int .i64 a0_8), V.p (Value.int .i64 a0_9), V.p (Value.bool a0_10), V.sl 1 (rowsOf (encI .u8) a0_11), V.sl 2 (rowsOf encT45 a0_12)])], M := [] } : St)) = some r.st := by
  unfold f19_ai10brrz_e at hF
  cases hF
  simp (maxSteps := 999999) (disch := first | exact D (by decide) | exact K (by kernel_rfl)) only [EA, EE, EG, EF, ED, ofVal, ofVal1, ofCell, lenV, aggEqV, cellEq, intBin, isShift, V.ids, lendV, frz, flatV, cellsOf, addOff, firstReg, oneOf, cellsAt, isAggD, isPure, ↓reduceIte, reduceCtorEq, Nat.reduceAdd, Nat.reduceSub, Nat.reduceMul, Nat.reduceLeDiff, Nat.reduceEqDiff, Nat.reduceBEq, Int.reduceToNat, Int.reduceLE, Int.reduceLT, Nat.reduceLT, Int.reduceBEq, Int.reduceBNe, Int.reduceEq, String.reduceEq, xk B19 [] .sq rfl, show (nav B19 [1]) = Code.region 0 _ false from rfl, hk_19_0, hz_19_0, hs_19_0, u_47, i_47, is_47, ib_47, iz_47, xk B19 [2] .sq rfl, show (nav B19 [1, 2]) = Code.region 1 _ false from rfl, hk_19_1, hz_19_1, hs_19_1, fieldAddrV, u_26, i_26, is_26, ib_26, iz_26, u_3, i_3, is_3, ib_3, iz_3, u_22, i_22, is_22, ib_22, iz_22, u_4, i_4, is_4, ib_4, iz_4, bl_47, xk B19 [2, 2] .rt rfl, finK_norm, finK_ret, fin19, R19_ai10brrz.st]
noncomputable def f19_ai10brrz (k : Nat) (a0 : Int) (a0_1 : Int) (a0_2 : Int) (a0_3 : Int) (a0_4 : Int) (a0_5 : Int) (a0_6 : Int) (a0_7 : Int) (a0_8 : Int) (a0_9 : Int) (a0_10 : Bool) (a0_11 : List Int) (a0_12 : List T45) : Option R19_ai10brrz := match k with | 0 => none | k + 1 => f19_ai10brrz_e k a0 a0_1 a0_2 a0_3 a0_4 a0_5 a0_6 a0_7 a0_8 a0_9 a0_10 a0_11 a0_12
theorem f19_ai10brrz_ok (k : Nat) (a0 : Int) (a0_1 : Int) (a0_2 : Int) (a0_3 : Int) (a0_4 : Int) (a0_5 : Int) (a0_6 : Int) (a0_7 : Int) (a0_8 : Int) (a0_9 : Int) (a0_10 : Bool) (a0_11 : List Int) (a0_12 : List T45) (r : R19_ai10brrz) (hF : f19_ai10brrz k a0 a0_1 a0_2 a0_3 a0_4 a0_5 a0_6 a0_7 a0_8 a0_9 a0_10 a0_11 a0_12 = some r) : CV k 19 [V.agg [V.p (Value.int .i64 a0), V.p (Value.int .i64 a0_1), V.p (Value.int .u32 a0_2), V.p (Value.int .u32 a0_3), V.p (Value.int .u32 a0_4), V.p (Value.int .i64 a0_5), V.p (Value.int .i64 a0_6), V.p (Value.int .i64 a0_7), V.p (Value.int .i64 a0_8), V.p (Value.int .i64 a0_9), V.p (Value.bool a0_10), V.sl 1 (rowsOf (encI .u8) a0_11), V.sl 2 (rowsOf encT45 a0_12)]] [] = some r.st := by
  cases k with
  | zero => cases hF
  | succ k =>
    unfold CV
    rw [ev_call (F := Try.f19) (c := (nav B19 [])) rfl Try.func19 rfl rfl rfl]
    exact f19_ai10brrz_e_ok k a0 a0_1 a0_2 a0_3 a0_4 a0_5 a0_6 a0_7 a0_8 a0_9 a0_10 a0_11 a0_12 r hF
-- f20_rr: f20 slices.Equal[[]byte,byte]
inductive R20_rr where
  | o0 (y : Bool)
noncomputable def R20_rr.st : R20_rr → V × List O × List O
  | .o0 y => (V.p (Value.bool y), [], [])
inductive R20_rr_l2 where
  | o0 (y : Bool)
  | o1 (y : List Int) (y_1 : List Int) (y_2 : Int) (y_3 : Int)
  | o2 (y : List Int) (y_1 : List Int) (y_2 : Int) (y_3 : Int) (y_4 : Bool)
noncomputable def R20_rr_l2.st : R20_rr_l2 → Out × St
  | .o0 y => (.ret, ({ n := 26, F := [(4, V.p (Value.bool y))], M := [] } : St))
  | .o1 y y_1 y_2 y_3 => (.norm, ({ n := 26, F := [(0, V.sl 1 (rowsOf (encI .u8) y)), (1, V.sl 1 (rowsOf (encI .u8) y_1)), (12, V.p (Value.int .i64 y_2)), (13, V.p (Value.int .i64 y_3))], M := [] } : St))
  | .o2 y y_1 y_2 y_3 y_4 => (.exit 0, ({ n := 26, F := [(0, V.sl 1 (rowsOf (encI .u8) y)), (1, V.sl 1 (rowsOf (encI .u8) y_1)), (12, V.p (Value.int .i64 y_2)), (13, V.p (Value.int .i64 y_3)), (14, V.p (Value.bool y_4))], M := [] } : St))
noncomputable def f20_rr_l2_j2 (k : Nat) (x0 : List Int) (x1 : List Int) (x12 : Int) (x13 : Int) (x24 : Bool) : Option R20_rr_l2 :=
  some (R20_rr_l2.o1 x0 x1 x12 (IntKind.i64.wrap (x13 + (1 : Int))))
theorem f20_rr_l2_j2_ok (k : Nat) (x0 : List Int) (x1 : List Int) (x12 : Int) (x13 : Int) (x24 : Bool) (r : R20_rr_l2) (hF : f20_rr_l2_j2 k x0 x1 x12 x13 x24 = some r) : EX 20 k (nav B20 [2, 2, 2, 1, 2, 2, 1, 2, 2]) ({ n := 26, F := [(0, V.sl 1 (rowsOf (encI .u8) x0)), (1, V.sl 1 (rowsOf (encI .u8) x1)), (12, V.p (Value.int .i64 x12)), (13, V.p (Value.int .i64 x13)), (24, V.p (Value.bool x24))], M := [] } : St) = some r.st := by
  unfold f20_rr_l2_j2 at hF
  cases hF
  simp (maxSteps := 999999) (disch := first | exact D (by decide) | exact K (by kernel_rfl)) only [EA, EE, EG, EF, ED, ofVal, ofVal1, ofCell, lenV, aggEqV, cellEq, intBin, isShift, V.ids, lendV, frz, flatV, cellsOf, addOff, firstReg, oneOf, cellsAt, isAggD, isPure, ↓reduceIte, reduceCtorEq, Nat.reduceAdd, Nat.reduceSub, Nat.reduceMul, Nat.reduceLeDiff, Nat.reduceEqDiff, Nat.reduceBEq, Int.reduceToNat, Int.reduceLE, Int.reduceLT, Nat.reduceLT, Int.reduceBEq, Int.reduceBNe, Int.reduceEq, String.reduceEq, show (nav B20 [2, 2, 2, 1, 2, 2, 1, 2, 2]) = Code.region 8 _ false from rfl, hk_20_8, hz_20_8, hs_20_8, R20_rr_l2.st]
noncomputable def f20_rr_l2_j1 (k : Nat) (x0 : List Int) (x1 : List Int) (x12 : Int) (x13 : Int) (x14 : Bool) : Option R20_rr_l2 :=
  ifE ((0 : Int) ≤ x13) (
    Option.bind (x0[(Int.toNat x13)]?) fun v2 =>
      Option.bind (x1[(Int.toNat x13)]?) fun v4 =>
        cond ((v2 != v4))
          (some (R20_rr_l2.o0 false))
          (f20_rr_l2_j2 k x0 x1 x12 x13 false))
theorem f20_rr_l2_j1_ok (k : Nat) (x0 : List Int) (x1 : List Int) (x12 : Int) (x13 : Int) (x14 : Bool) (r : R20_rr_l2) (hF : f20_rr_l2_j1 k x0 x1 x12 x13 x14 = some r) : EX 20 k (nav B20 [2, 2, 1, 2, 2, 1, 2, 2]) ({ n := 26, F := [(0, V.sl 1 (rowsOf (encI .u8) x0)), (1, V.sl 1 (rowsOf (encI .u8) x1)), (12, V.p (Value.int .i64 x12)), (13, V.p (Value.int .i64 x13)), (14, V.p (Value.bool x14))], M := [] } : St) = some r.st := by
  unfold f20_rr_l2_j1 at hF
  replace hF := ifE_some.1 hF
  obtain ⟨h1, hF⟩ := hF
  replace hF := Option.bind_eq_some_iff.1 hF
  obtain ⟨v2, h3, hF⟩ := hF
  replace hF := Option.bind_eq_some_iff.1 hF
  obtain ⟨v4, h5, hF⟩ := hF
  simp (maxSteps := 999999) (disch := first | exact D (by decide) | exact K (by kernel_rfl)) only [EA, EE, EG, EF, ED, ofVal, ofVal1, ofCell, lenV, aggEqV, cellEq, intBin, isShift, V.ids, lendV, frz, flatV, cellsOf, addOff, firstReg, oneOf, cellsAt, isAggD, isPure, ↓reduceIte, reduceCtorEq, Nat.reduceAdd, Nat.reduceSub, Nat.reduceMul, Nat.reduceLeDiff, Nat.reduceEqDiff, Nat.reduceBEq, Int.reduceToNat, Int.reduceLE, Int.reduceLT, Nat.reduceLT, Int.reduceBEq, Int.reduceBNe, Int.reduceEq, String.reduceEq, xk B20 [2, 2, 1, 2, 2, 1, 2, 2] .sq rfl, xk B20 [1, 2, 2, 1, 2, 2, 1, 2, 2] (.bk 1) rfl, xk B20 [2, 1, 2, 2, 1, 2, 2, 1, 2, 2] .sq rfl, show (nav B20 [1, 2, 1, 2, 2, 1, 2, 2, 1, 2, 2]) = Code.region 5 _ false from rfl, hk_20_5, hz_20_5, hs_20_5, xk B20 [2, 2, 1, 2, 2, 1, 2, 2, 1, 2, 2] .sq rfl, show (nav B20 [1, 2, 2, 1, 2, 2, 1, 2, 2, 1, 2, 2]) = Code.region 6 _ true from rfl, hk_20_6, hz_20_6, hs_20_6, indexAddrV, u_23, i_23, is_23, ib_23, iz_23, u_5, i_5, is_5, ib_5, iz_5, encI_eq, xk B20 [2, 2, 2, 1, 2, 2, 1, 2, 2, 1, 2, 2] (.cd 24) rfl, h1, h3, h5]
  replace hF := cond_some hF
  rcases hF with ⟨h6, hF⟩ | ⟨h6, hF⟩
  · cases hF
    simp (maxSteps := 999999) (disch := first | exact D (by decide) | exact K (by kernel_rfl)) only [EA, EE, EG, EF, ED, ofVal, ofVal1, ofCell, lenV, aggEqV, cellEq, intBin, isShift, V.ids, lendV, frz, flatV, cellsOf, addOff, firstReg, oneOf, cellsAt, isAggD, isPure, ↓reduceIte, reduceCtorEq, Nat.reduceAdd, Nat.reduceSub, Nat.reduceMul, Nat.reduceLeDiff, Nat.reduceEqDiff, Nat.reduceBEq, Int.reduceToNat, Int.reduceLE, Int.reduceLT, Nat.reduceLT, Int.reduceBEq, Int.reduceBNe, Int.reduceEq, String.reduceEq, xk B20 [2, 2, 2, 2, 1, 2, 2, 1, 2, 2, 1, 2, 2] .sq rfl, show (nav B20 [1, 2, 2, 2, 2, 1, 2, 2, 1, 2, 2, 1, 2, 2]) = Code.region 7 _ false from rfl, hk_20_7, hz_20_7, hs_20_7, xk B20 [2, 2, 2, 2, 2, 1, 2, 2, 1, 2, 2, 1, 2, 2] .rt rfl, R20_rr_l2.st, h1, h3, h5, h6]
  · have hJ := f20_rr_l2_j2_ok k x0 x1 x12 x13 false _ hF
    simp (maxSteps := 999999) (disch := first | exact D (by decide) | exact K (by kernel_rfl)) only [EA, EE, EG, EF, ED, ofVal, ofVal1, ofCell, lenV, aggEqV, cellEq, intBin, isShift, V.ids, lendV, frz, flatV, cellsOf, addOff, firstReg, oneOf, cellsAt, isAggD, isPure, ↓reduceIte, reduceCtorEq, Nat.reduceAdd, Nat.reduceSub, Nat.reduceMul, Nat.reduceLeDiff, Nat.reduceEqDiff, Nat.reduceBEq, Int.reduceToNat, Int.reduceLE, Int.reduceLT, Nat.reduceLT, Int.reduceBEq, Int.reduceBNe, Int.reduceEq, String.reduceEq, xk B20 [3, 2, 2, 2, 1, 2, 2, 1, 2, 2, 1, 2, 2] .sk rfl, h1, h3, h5, h6]
    try simp only [NM, EE] at hJ
    exact hJ
noncomputable def f20_rr_l2_b (k : Nat) (x0 : List Int) (x1 : List Int) (x12 : Int) (x13 : Int) : Option R20_rr_l2 :=
  cond ((decide (x13 < x12)))
    (f20_rr_l2_j1 k x0 x1 x12 x13 true)
    (some (R20_rr_l2.o2 x0 x1 x12 x13 false))
theorem f20_rr_l2_b_ok (k : Nat) (x0 : List Int) (x1 : List Int) (x12 : Int) (x13 : Int) (r : R20_rr_l2) (hF : f20_rr_l2_b k x0 x1 x12 x13 = some r) : EX 20 k (nav B20 [1, 2, 2, 1, 2, 2]) ({ n := 26, F := [(0, V.sl 1 (rowsOf (encI .u8) x0)), (1, V.sl 1 (rowsOf (encI .u8) x1)), (12, V.p (Value.int .i64 x12)), (13, V.p (Value.int .i64 x13))], M := [] } : St) = some r.st := by
  unfold f20_rr_l2_b at hF
  simp (maxSteps := 999999) (disch := first | exact D (by decide) | exact K (by kernel_rfl)) only [EA, EE, EG, EF, ED, ofVal, ofVal1, ofCell, lenV, aggEqV, cellEq, intBin, isShift, V.ids, lendV, frz, flatV, cellsOf, addOff, firstReg, oneOf, cellsAt, isAggD, isPure, ↓reduceIte, reduceCtorEq, Nat.reduceAdd, Nat.reduceSub, Nat.reduceMul, Nat.reduceLeDiff, Nat.reduceEqDiff, Nat.reduceBEq, Int.reduceToNat, Int.reduceLE, Int.reduceLT, Nat.reduceLT, Int.reduceBEq, Int.reduceBNe, Int.reduceEq, String.reduceEq, xk B20 [1, 2, 2, 1, 2, 2] .sq rfl, show (nav B20 [1, 1, 2, 2, 1, 2, 2]) = Code.region 4 _ false from rfl, hk_20_4, hz_20_4, hs_20_4, xk B20 [2, 1, 2, 2, 1, 2, 2] .sq rfl, xk B20 [1, 2, 1, 2, 2, 1, 2, 2] (.cd 14) rfl]
  replace hF := cond_some hF
  rcases hF with ⟨h1, hF⟩ | ⟨h1, hF⟩
  · have hJ := f20_rr_l2_j1_ok k x0 x1 x12 x13 true _ hF
    simp (maxSteps := 999999) (disch := first | exact D (by decide) | exact K (by kernel_rfl)) only [EA, EE, EG, EF, ED, ofVal, ofVal1, ofCell, lenV, aggEqV, cellEq, intBin, isShift, V.ids, lendV, frz, flatV, cellsOf, addOff, firstReg, oneOf, cellsAt, isAggD, isPure, ↓reduceIte, reduceCtorEq, Nat.reduceAdd, Nat.reduceSub, Nat.reduceMul, Nat.reduceLeDiff, Nat.reduceEqDiff, Nat.reduceBEq, Int.reduceToNat, Int.reduceLE, Int.reduceLT, Nat.reduceLT, Int.reduceBEq, Int.reduceBNe, Int.reduceEq, String.reduceEq, xk B20 [2, 1, 2, 1, 2, 2, 1, 2, 2] .sk rfl, h1]
    try simp only [NM, EE] at hJ
    exact hJ
  · cases hF
    simp (maxSteps := 999999) (disch := first | exact D (by decide) | exact K (by kernel_rfl)) only [EA, EE, EG, EF, ED, ofVal, ofVal1, ofCell, lenV, aggEqV, cellEq, intBin, isShift, V.ids, lendV, frz, flatV, cellsOf, addOff, firstReg, oneOf, cellsAt, isAggD, isPure, ↓reduceIte, reduceCtorEq, Nat.reduceAdd, Nat.reduceSub, Nat.reduceMul, Nat.reduceLeDiff, Nat.reduceEqDiff, Nat.reduceBEq, Int.reduceToNat, Int.reduceLE, Int.reduceLT, Nat.reduceLT, Int.reduceBEq, Int.reduceBNe, Int.reduceEq, String.reduceEq, xk B20 [3, 1, 2, 1, 2, 2, 1, 2, 2] (.ex 0) rfl, R20_rr_l2.st, h1]
noncomputable def f20_rr_l2 (k : Nat) : Nat → (List Int) → (List Int) → Int → Int → Option R20_rr_l2
  | 0, _, _, _, _ => none
  | n + 1, x0, x1, x12, x13 => Option.bind (f20_rr_l2_b k x0 x1 x12 x13) fun o =>
    match o with
    | .o0 y => some (.o0 y)
    | .o1 y y_1 y_2 y_3 => f20_rr_l2 k n y y_1 y_2 y_3
    | .o2 y y_1 y_2 y_3 y_4 => some (.o2 y y_1 y_2 y_3 y_4)
theorem f20_rr_l2_ok (k : Nat) (n : Nat) : ∀ (x0 : List Int) (x1 : List Int) (x12 : Int) (x13 : Int) (r : R20_rr_l2) (hF : f20_rr_l2 k n x0 x1 x12 x13 = some r) (σ : St) (hσ : headR (hints.head 20 4) (hints.canon 20 4) σ = some ({ n := 26, F := [(0, V.sl 1 (rowsOf (encI .u8) x0)), (1, V.sl 1 (rowsOf (encI .u8) x1)), (12, V.p (Value.int .i64 x12)), (13, V.p (Value.int .i64 x13))], M := [] } : St)), LP 20 k (nav B20 [1, 2, 2, 1, 2, 2]) n σ = some r.st := by
  induction n with
  | zero => intro x0 x1 x12 x13 r hF; cases hF
  | succ n ih =>
    intro x0 x1 x12 x13 r hF σ hσ
    rw [f20_rr_l2] at hF
    obtain ⟨o, h, hF⟩ := Option.bind_eq_some_iff.1 hF
    have hB := f20_rr_l2_b_ok k x0 x1 x12 x13 o h
    unfold LP at ih ⊢
    unfold EX at hB
    rw [loopK_succ, show firstReg (nav B20 [1, 2, 2, 1, 2, 2]) = 4 from rfl, hσ, headK_some, hB]
    cases o with
    | o0 y => cases hF; rfl
    | o1 y y_1 y_2 y_3 =>
      refine ih y y_1 y_2 y_3 r hF _ ?_
      simp (maxSteps := 999999) (disch := first | exact D (by decide) | exact K (by kernel_rfl)) only [EA, EE, EG, EF, ED, ofVal, ofVal1, ofCell, lenV, aggEqV, cellEq, intBin, isShift, V.ids, lendV, frz, flatV, cellsOf, addOff, firstReg, oneOf, cellsAt, isAggD, isPure, ↓reduceIte, reduceCtorEq, Nat.reduceAdd, Nat.reduceSub, Nat.reduceMul, Nat.reduceLeDiff, Nat.reduceEqDiff, Nat.reduceBEq, Int.reduceToNat, Int.reduceLE, Int.reduceLT, Nat.reduceLT, Int.reduceBEq, Int.reduceBNe, Int.reduceEq, String.reduceEq, hh_20_4, hc_20_4]
    | o2 y y_1 y_2 y_3 y_4 => cases hF; rfl
noncomputable def f20_rr_j3 (k : Nat) (x0 : List Int) (x1 : List Int) (x12 : Int) (x13 : Int) (x14 : Bool) : Option R20_rr :=
  some (R20_rr.o0 true)
theorem f20_rr_j3_ok (k : Nat) (x0 : List Int) (x1 : List Int) (x12 : Int) (x13 : Int) (x14 : Bool) (r : R20_rr) (hF : f20_rr_j3 k x0 x1 x12 x13 x14 = some r) : finK Try.prog Try.f20 0 (EX 20 k (nav B20 [2, 2, 2]) ({ n := 26, F := [(0, V.sl 1 (rowsOf (encI .u8) x0)), (1, V.sl 1 (rowsOf (encI .u8) x1)), (12, V.p (Value.int .i64 x12)), (13, V.p (Value.int .i64 x13)), (14, V.p (Value.bool x14))], M := [] } : St)) = some r.st := by
  unfold f20_rr_j3 at hF
  cases hF
  simp (maxSteps := 999999) (disch := first | exact D (by decide) | exact K (by kernel_rfl)) only [EA, EE, EG, EF, ED, ofVal, ofVal1, ofCell, lenV, aggEqV, cellEq, intBin, isShift, V.ids, lendV, frz, flatV, cellsOf, addOff, firstReg, oneOf, cellsAt, isAggD, isPure, ↓reduceIte, reduceCtorEq, Nat.reduceAdd, Nat.reduceSub, Nat.reduceMul, Nat.reduceLeDiff, Nat.reduceEqDiff, Nat.reduceBEq, Int.reduceToNat, Int.reduceLE, Int.reduceLT, Nat.reduceLT, Int.reduceBEq, Int.reduceBNe, Int.reduceEq, String.reduceEq, xk B20 [2, 2, 2] .sq rfl, show (nav B20 [1, 2, 2, 2]) = Code.region 9 _ false from rfl, hk_20_9, hz_20_9, hs_20_9, xk B20 [2, 2, 2, 2] .rt rfl, finK_norm, finK_ret, fin20, R20_rr.st]
noncomputable def f20_rr_j1 (k : Nat) (x0 : List Int) (x1 : List Int) (x10 : Bool) : Option R20_rr :=
  Option.bind (f20_rr_l2 k k x0 x1 ((List.length x0) : Int) 0) fun o1 =>
    match o1 with
    | .o0 v4 =>
      some (R20_rr.o0 v4)
    | .o1 _ _ _ _ =>
      none  -- no way out
    | .o2 v5 v6 v7 v8 v9 =>
      f20_rr_j3 k v5 v6 v7 v8 v9
theorem f20_rr_j1_ok (k : Nat) (x0 : List Int) (x1 : List Int) (x10 : Bool) (r : R20_rr) (hF : f20_rr_j1 k x0 x1 x10 = some r) : finK Try.prog Try.f20 0 (EX 20 k (nav B20 [2, 2]) ({ n := 26, F := [(0, V.sl 1 (rowsOf (encI .u8) x0)), (1, V.sl 1 (rowsOf (encI .u8) x1)), (10, V.p (Value.bool x10))], M := [] } : St)) = some r.st := by
  unfold f20_rr_j1 at hF
  replace hF := Option.bind_eq_some_iff.1 hF
  obtain ⟨o1, h2, hF⟩ := hF
  have hc3 := f20_rr_l2_ok k k x0 x1 ((List.length x0) : Int) 0 _ h2
  simp (maxSteps := 999999) (disch := first | exact D (by decide) | exact K (by kernel_rfl)) only [EA, EE, EG, EF, ED, ofVal, ofVal1, ofCell, lenV, aggEqV, cellEq, intBin, isShift, V.ids, lendV, frz, flatV, cellsOf, addOff, firstReg, oneOf, cellsAt, isAggD, isPure, ↓reduceIte, reduceCtorEq, Nat.reduceAdd, Nat.reduceSub, Nat.reduceMul, Nat.reduceLeDiff, Nat.reduceEqDiff, Nat.reduceBEq, Int.reduceToNat, Int.reduceLE, Int.reduceLT, Nat.reduceLT, Int.reduceBEq, Int.reduceBNe, Int.reduceEq, String.reduceEq, xk B20 [2, 2] .sq rfl, xk B20 [1, 2, 2] .sq rfl, show (nav B20 [1, 1, 2, 2]) = Code.region 3 _ false from rfl, hk_20_3, hz_20_3, hs_20_3, u_23, i_23, is_23, ib_23, iz_23, xk B20 [2, 1, 2, 2] (.bk 0) rfl, xk B20 [2, 2, 1, 2, 2] .lp rfl, hh_20_4, hc_20_4]
  (try simp only [NM, EE] at hc3)
  rw [hc3 _ (by simp (maxSteps := 999999) (disch := first | exact D (by decide) | exact K (by kernel_rfl)) only [EA, EE, EG, EF, ED, ofVal, ofVal1, ofCell, lenV, aggEqV, cellEq, intBin, isShift, V.ids, lendV, frz, flatV, cellsOf, addOff, firstReg, oneOf, cellsAt, isAggD, isPure, ↓reduceIte, reduceCtorEq, Nat.reduceAdd, Nat.reduceSub, Nat.reduceMul, Nat.reduceLeDiff, Nat.reduceEqDiff, Nat.reduceBEq, Int.reduceToNat, Int.reduceLE, Int.reduceLT, Nat.reduceLT, Int.reduceBEq, Int.reduceBNe, Int.reduceEq, String.reduceEq, hh_20_4, hc_20_4])]
  clear hc3
  cases o1 with
  | o0 v4 =>
    (try dsimp only at hF)
    cases hF
    simp (maxSteps := 999999) (disch := first | exact D (by decide) | exact K (by kernel_rfl)) only [EA, EE, EG, EF, ED, ofVal, ofVal1, ofCell, lenV, aggEqV, cellEq, intBin, isShift, V.ids, lendV, frz, flatV, cellsOf, addOff, firstReg, oneOf, cellsAt, isAggD, isPure, ↓reduceIte, reduceCtorEq, Nat.reduceAdd, Nat.reduceSub, Nat.reduceMul, Nat.reduceLeDiff, Nat.reduceEqDiff, Nat.reduceBEq, Int.reduceToNat, Int.reduceLE, Int.reduceLT, Nat.reduceLT, Int.reduceBEq, Int.reduceBNe, Int.reduceEq, String.reduceEq, R20_rr_l2.st, finK_norm, finK_ret, fin20, R20_rr.st]
  | o1 _ _ _ _ =>
    (try dsimp only at hF)
    cases hF
  | o2 v5 v6 v7 v8 v9 =>
    (try dsimp only at hF)
    have hJ := f20_rr_j3_ok k v5 v6 v7 v8 v9 _ hF
    simp (maxSteps := 999999) (disch := first | exact D (by decide) | exact K (by kernel_rfl)) only [EA, EE, EG, EF, ED, ofVal, ofVal1, ofCell, lenV, aggEqV, cellEq, intBin, isShift, V.ids, lendV, frz, flatV, cellsOf, addOff, firstReg, oneOf, cellsAt, isAggD, isPure, ↓reduceIte, reduceCtorEq, Nat.reduceAdd, Nat.reduceSub, Nat.reduceMul, Nat.reduceLeDiff, Nat.reduceEqDiff, Nat.reduceBEq, Int.reduceToNat, Int.reduceLE, Int.reduceLT, Nat.reduceLT, Int.reduceBEq, Int.reduceBNe, Int.reduceEq, String.reduceEq, R20_rr_l2.st]
    try simp only [NM, EE] at hJ
    exact hJ
noncomputable def f20_rr_e (k : Nat) (a0 : List Int) (a1 : List Int) : Option R20_rr :=
  cond ((((List.length a0) : Int) != ((List.length a1) : Int)))
    (some (R20_rr.o0 false))
    (f20_rr_j1 k a0 a1 false)
theorem f20_rr_e_ok (k : Nat) (a0 : List Int) (a1 : List Int) (r : R20_rr) (hF : f20_rr_e k a0 a1 = some r) : finK Try.prog Try.f20 0 (EX 20 k (nav B20 []) ({ n := 26, F := [(0, V.sl 1 (rowsOf (encI .u8) a0)), (1, V.sl 1 (rowsOf (encI .u8) a1))], M := [] } : St)) = some r.st := by
  unfold f20_rr_e at hF
  simp (maxSteps := 999999) (disch := first | exact D (by decide) | exact K (by kernel_rfl)) only [EA, EE, EG, EF, ED, ofVal, ofVal1, ofCell, lenV, aggEqV, cellEq, intBin, isShift, V.ids, lendV, frz, flatV, cellsOf, addOff, firstReg, oneOf, cellsAt, isAggD, isPure, ↓reduceIte, reduceCtorEq, Nat.reduceAdd, Nat.reduceSub, Nat.reduceMul, Nat.reduceLeDiff, Nat.reduceEqDiff, Nat.reduceBEq, Int.reduceToNat, Int.reduceLE, Int.reduceLT, Nat.reduceLT, Int.reduceBEq, Int.reduceBNe, Int.reduceEq, String.reduceEq, xk B20 [] .sq rfl, show (nav B20 [1]) = Code.region 0 _ false from rfl, hk_20_0, hz_20_0, hs_20_0, xk B20 [2] .sq rfl, xk B20 [1, 2] .sq rfl, show (nav B20 [1, 1, 2]) = Code.region 1 _ false from rfl, hk_20_1, hz_20_1, hs_20_1, u_23, i_23, is_23, ib_23, iz_23, xk B20 [2, 1, 2] (.cd 10) rfl]
  replace hF := cond_some hF
  rcases hF with ⟨h1, hF⟩ | ⟨h1, hF⟩
  · cases hF
    simp (maxSteps := 999999) (disch := first | exact D (by decide) | exact K (by kernel_rfl)) only [EA, EE, EG, EF, ED, ofVal, ofVal1, ofCell, lenV, aggEqV, cellEq, intBin, isShift, V.ids, lendV, frz, flatV, cellsOf, addOff, firstReg, oneOf, cellsAt, isAggD, isPure, ↓reduceIte, reduceCtorEq, Nat.reduceAdd, Nat.reduceSub, Nat.reduceMul, Nat.reduceLeDiff, Nat.reduceEqDiff, Nat.reduceBEq, Int.reduceToNat, Int.reduceLE, Int.reduceLT, Nat.reduceLT, Int.reduceBEq, Int.reduceBNe, Int.reduceEq, String.reduceEq, xk B20 [2, 2, 1, 2] .sq rfl, show (nav B20 [1, 2, 2, 1, 2]) = Code.region 2 _ false from rfl, hk_20_2, hz_20_2, hs_20_2, xk B20 [2, 2, 2, 1, 2] .rt rfl, finK_norm, finK_ret, fin20, R20_rr.st, h1]
  · have hJ := f20_rr_j1_ok k a0 a1 false _ hF
    simp (maxSteps := 999999) (disch := first | exact D (by decide) | exact K (by kernel_rfl)) only [EA, EE, EG, EF, ED, ofVal, ofVal1, ofCell, lenV, aggEqV, cellEq, intBin, isShift, V.ids, lendV, frz, flatV, cellsOf, addOff, firstReg, oneOf, cellsAt, isAggD, isPure, ↓reduceIte, reduceCtorEq, Nat.reduceAdd, Nat.reduceSub, Nat.reduceMul, Nat.reduceLeDiff, Nat.reduceEqDiff, Nat.reduceBEq, Int.reduceToNat, Int.reduceLE, Int.reduceLT, Nat.reduceLT, Int.reduceBEq, Int.reduceBNe, Int.reduceEq, String.reduceEq, xk B20 [3, 2, 1, 2] .sk rfl, h1]
    try simp only [NM, EE] at hJ
    exact hJ
noncomputable def f20_rr (k : Nat) (a0 : List Int) (a1 : List Int) : Option R20_rr := match k with | 0 => none | k + 1 => f20_rr_e k a0 a1
theorem f20_rr_ok (k : Nat) (a0 : List Int) (a1 : List Int) (r : R20_rr) (hF : f20_rr k a0 a1 = some r) : CV k 20 [V.sl 1 (rowsOf (encI .u8) a0), V.sl 1 (rowsOf (encI .u8) a1)] [] = some r.st := by
  cases k with
  | zero => cases hF
  | succ k =>
    unfold CV
    rw [ev_call (F := Try.f20) (c := (nav B20 [])) rfl Try.func20 rfl rfl rfl]
    exact f20_rr_e_ok k a0 a1 r hF
-- f21_rr: f21 slices.Equal[[]heliograph/api.Claim,heliograph/api.Claim]
inductive R21_rr where
  | o0 (y : Bool)
noncomputable def R21_rr.st : R21_rr → V × List O × List O
  | .o0 y => (V.p (Value.bool y), [], [])
inductive R21_rr_l2 where
  | o0 (y : Bool)
  | o1 (y : List T45) (y_1 : List T45) (y_2 : Int) (y_3 : Int)
  | o2 (y : List T45) (y_1 : List T45) (y_2 : Int) (y_3 : Int) (y_4 : Bool)
noncomputable def R21_rr_l2.st : R21_rr_l2 → Out × St
  | .o0 y => (.ret, ({ n := 26, F := [(4, V.p (Value.bool y))], M := [] } : St))
  | .o1 y y_1 y_2 y_3 => (.norm, ({ n := 26, F := [(0, V.sl 2 (rowsOf encT45 y)), (1, V.sl 2 (rowsOf encT45 y_1)), (12, V.p (Value.int .i64 y_2)), (13, V.p (Value.int .i64 y_3))], M := [] } : St))
  | .o2 y y_1 y_2 y_3 y_4 => (.exit 0, ({ n := 26, F := [(0, V.sl 2 (rowsOf encT45 y)), (1, V.sl 2 (rowsOf encT45 y_1)), (12, V.p (Value.int .i64 y_2)), (13, V.p (Value.int .i64 y_3)), (14, V.p (Value.bool y_4))], M := [] } : St))
noncomputable def f21_rr_l2_j2 (k : Nat) (x0 : List T45) (x1 : List T45) (x12 : Int) (x13 : Int) (x24 : Bool) : Option R21_rr_l2 :=
  some (R21_rr_l2.o1 x0 x1 x12 (IntKind.i64.wrap (x13 + (1 : Int))))
theorem f21_rr_l2_j2_ok (k : Nat) (x0 : List T45) (x1 : List T45) (x12 : Int) (x13 : Int) (x24 : Bool) (r : R21_rr_l2) (hF : f21_rr_l2_j2 k x0 x1 x12 x13 x24 = some r) : EX 21 k (nav B21 [2, 2, 2, 1, 2, 2, 1, 2, 2]) ({ n := 26, F := [(0, V.sl 2 (rowsOf encT45 x0)), (1, V.sl 2 (rowsOf encT45 x1)), (12, V.p (Value.int .i64 x12)), (13, V.p (Value.int .i64 x13)), (24, V.p (Value.bool x24))], M := [] } : St) = some r.st := by
  unfold f21_rr_l2_j2 at hF
  cases hF
  simp (maxSteps := 999999) (disch := first | exact D (by decide) | exact K (by kernel_rfl)) only [EA, EE, EG, EF, ED, ofVal, ofVal1, ofCell, lenV, aggEqV, cellEq, intBin, isShift, V.ids, lendV, frz, flatV, cellsOf, addOff, firstReg, oneOf, cellsAt, isAggD, isPure, ↓reduceIte, reduceCtorEq, Nat.reduceAdd, Nat.reduceSub, Nat.reduceMul, Nat.reduceLeDiff, Nat.reduceEqDiff, Nat.reduceBEq, Int.reduceToNat, Int.reduceLE, Int.reduceLT, Nat.reduceLT, Int.reduceBEq, Int.reduceBNe, Int.reduceEq, String.reduceEq, show (nav B21 [2, 2, 2, 1, 2, 2, 1, 2, 2]) = Code.region 8 _ false from rfl, hk_21_8, hz_21_8, hs_21_8, R21_rr_l2.st]
noncomputable def f21_rr_l2_j1 (k : Nat) (x0 : List T45) (x1 : List T45) (x12 : Int) (x13 : Int) (x14 : Bool) : Option R21_rr_l2 :=
  ifE ((0 : Int) ≤ x13) (
    Option.bind (x0[(Int.toNat x13)]?) fun v2 =>
      Option.bind (x1[(Int.toNat x13)]?) fun v4 =>
        cond ((!((v2.At == v4.At) && (v2.N == v4.N))))
          (some (R21_rr_l2.o0 false))
          (f21_rr_l2_j2 k x0 x1 x12 x13 false))
theorem f21_rr_l2_j1_ok (k : Nat) (x0 : List T45) (x1 : List T45) (x12 : Int) (x13 : Int) (x14 : Bool) (r : R21_rr_l2) (hF : f21_rr_l2_j1 k x0 x1 x12 x13 x14 = some r) : EX 21 k (nav B21 [2, 2, 1, 2, 2, 1, 2, 2]) ({ n := 26, F := [(0, V.sl 2 (rowsOf encT45 x0)), (1, V.sl 2 (rowsOf encT45 x1)), (12, V.p (Value.int .i64 x12)), (13, V.p (Value.int .i64 x13)), (14, V.p (Value.bool x14))], M := [] } : St) = some r.st := by
  unfold f21_rr_l2_j1 at hF
  replace hF := ifE_some.1 hF
  obtain ⟨h1, hF⟩ := hF
  replace hF := Option.bind_eq_some_iff.1 hF
  obtain ⟨v2, h3, hF⟩ := hF
  replace hF := Option.bind_eq_some_iff.1 hF
  obtain ⟨v4, h5, hF⟩ := hF
  simp (maxSteps := 999999) (disch := first | exact D (by decide) | exact K (by kernel_rfl)) only [EA, EE, EG, EF, ED, ofVal, ofVal1, ofCell, lenV, aggEqV, cellEq, intBin, isShift, V.ids, lendV, frz, flatV, cellsOf, addOff, firstReg, oneOf, cellsAt, isAggD, isPure, ↓reduceIte, reduceCtorEq, Nat.reduceAdd, Nat.reduceSub, Nat.reduceMul, Nat.reduceLeDiff, Nat.reduceEqDiff, Nat.reduceBEq, Int.reduceToNat, Int.reduceLE, Int.reduceLT, Nat.reduceLT, Int.reduceBEq, Int.reduceBNe, Int.reduceEq, String.reduceEq, xk B21 [2, 2, 1, 2, 2, 1, 2, 2] .sq rfl, xk B21 [1, 2, 2, 1, 2, 2, 1, 2, 2] (.bk 1) rfl, xk B21 [2, 1, 2, 2, 1, 2, 2, 1, 2, 2] .sq rfl, show (nav B21 [1, 2, 1, 2, 2, 1, 2, 2, 1, 2, 2]) = Code.region 5 _ false from rfl, hk_21_5, hz_21_5, hs_21_5, xk B21 [2, 2, 1, 2, 2, 1, 2, 2, 1, 2, 2] .sq rfl, show (nav B21 [1, 2, 2, 1, 2, 2, 1, 2, 2, 1, 2, 2]) = Code.region 6 _ true from rfl, hk_21_6, hz_21_6, hs_21_6, indexAddrV, u_24, i_24, is_24, ib_24, iz_24, u_45, i_45, is_45, ib_45, iz_45, encT45_eq, ag_45, u_3, i_3, is_3, ib_3, iz_3, xk B21 [2, 2, 2, 1, 2, 2, 1, 2, 2, 1, 2, 2] (.cd 24) rfl, h1, h3, h5]
  replace hF := cond_some hF
  rcases hF with ⟨h6, hF⟩ | ⟨h6, hF⟩
  · cases hF
    simp (maxSteps := 999999) (disch := first | exact D (by decide) | exact K (by kernel_rfl)) only [EA, EE, EG, EF, ED, ofVal, ofVal1, ofCell, lenV, aggEqV, cellEq, intBin, isShift, V.ids, lendV, frz, flatV, cellsOf, addOff, firstReg, oneOf, cellsAt, isAggD, isPure, ↓reduceIte, reduceCtorEq, Nat.reduceAdd, Nat.reduceSub, Nat.reduceMul, Nat.reduceLeDiff, Nat.reduceEqDiff, Nat.reduceBEq, Int.reduceToNat, Int.reduceLE, Int.reduceLT, Nat.reduceLT, Int.reduceBEq, Int.reduceBNe, Int.reduceEq, String.reduceEq, xk B21 [2, 2, 2, 2, 1, 2, 2, 1, 2, 2, 1, 2, 2] .sq rfl, show (nav B21 [1, 2, 2, 2, 2, 1, 2, 2, 1, 2, 2, 1, 2, 2]) = Code.region 7 _ false from rfl, hk_21_7, hz_21_7, hs_21_7, xk B21 [2, 2, 2, 2, 2, 1, 2, 2, 1, 2, 2, 1, 2, 2] .rt rfl, R21_rr_l2.st, h1, h3, h5, h6]
  · have hJ := f21_rr_l2_j2_ok k x0 x1 x12 x13 false _ hF
    simp (maxSteps := 999999) (disch := first | exact D (by decide) | exact K (by kernel_rfl)) only [EA, EE, EG, EF, ED, ofVal, ofVal1, ofCell, lenV, aggEqV, cellEq, intBin, isShift, V.ids, lendV, frz, flatV, cellsOf, addOff, firstReg, oneOf, cellsAt, isAggD, isPure, ↓reduceIte, reduceCtorEq, Nat.reduceAdd, Nat.reduceSub, Nat.reduceMul, Nat.reduceLeDiff, Nat.reduceEqDiff, Nat.reduceBEq, Int.reduceToNat, Int.reduceLE, Int.reduceLT, Nat.reduceLT, Int.reduceBEq, Int.reduceBNe, Int.reduceEq, String.reduceEq, xk B21 [3, 2, 2, 2, 1, 2, 2, 1, 2, 2, 1, 2, 2] .sk rfl, h1, h3, h5, h6]
    try simp only [NM, EE] at hJ
    exact hJ
noncomputable def f21_rr_l2_b (k : Nat) (x0 : List T45) (x1 : List T45) (x12 : Int) (x13 : Int) : Option R21_rr_l2 :=
  cond ((decide (x13 < x12)))
    (f21_rr_l2_j1 k x0 x1 x12 x13 true)
    (some (R21_rr_l2.o2 x0 x1 x12 x13 false))
theorem f21_rr_l2_b_ok (k : Nat) (x0 : List T45) (x1 : List T45) (x12 : Int) (x13 : Int) (r : R21_rr_l2) (hF : f21_rr_l2_b k x0 x1 x12 x13 = some r) : EX 21 k (nav B21 [1, 2, 2, 1, 2, 2]) ({ n := 26, F := [(0, V.sl 2 (rowsOf encT45 x0)), (1, V.sl 2 (rowsOf encT45 x1)), (12, V.p (Value.int .i64 x12)), (13, V.p (Value.int .i64 x13))], M := [] } : St) = some r.st := by
  unfold f21_rr_l2_b at hF
  simp (maxSteps := 999999) (disch := first | exact D (by decide) | exact K (by kernel_rfl)) only [EA, EE, EG, EF, ED, ofVal, ofVal1, ofCell, lenV, aggEqV, cellEq, intBin, isShift, V.ids, lendV, frz, flatV, cellsOf, addOff, firstReg, oneOf, cellsAt, isAggD, isPure, ↓reduceIte, reduceCtorEq, Nat.reduceAdd, Nat.reduceSub, Nat.reduceMul, Nat.reduceLeDiff, Nat.reduceEqDiff, Nat.reduceBEq, Int.reduceToNat, Int.reduceLE, Int.reduceLT, Nat.reduceLT, Int.reduceBEq, Int.reduceBNe, Int.reduceEq, String.reduceEq, xk B21 [1, 2, 2, 1, 2, 2] .sq rfl, show (nav B21 [1, 1, 2, 2, 1, 2, 2]) = Code.region 4 _ false from rfl, hk_21_4, hz_21_4, hs_21_4, xk B21 [2, 1, 2, 2, 1, 2, 2] .sq rfl, xk B21 [1, 2, 1, 2, 2, 1, 2, 2] (.cd 14) rfl]
  replace hF := cond_some hF
  rcases hF with ⟨h1, hF⟩ | ⟨h1, hF⟩
  · have hJ := f21_rr_l2_j1_ok k x0 x1 x12 x13 true _ hF
    simp (maxSteps := 999999) (disch := first | exact D (by decide) | exact K (by kernel_rfl)) only [EA, EE, EG, EF, ED, ofVal, ofVal1, ofCell, lenV, aggEqV, cellEq, intBin, isShift, V.ids, lendV, frz, flatV, cellsOf, addOff, firstReg, oneOf, cellsAt, isAggD, isPure, ↓reduceIte, reduceCtorEq, Nat.reduceAdd, Nat.reduceSub, Nat.reduceMul, Nat.reduceLeDiff, Nat.reduceEqDiff, Nat.reduceBEq, Int.reduceToNat, Int.reduceLE, Int.reduceLT, Nat.reduceLT, Int.reduceBEq, Int.reduceBNe, Int.reduceEq, String.reduceEq, xk B21 [2, 1, 2, 1, 2, 2, 1, 2, 2] .sk rfl, h1]
    try simp only [NM, EE] at hJ
    exact hJ
  · cases hF
    simp (maxSteps := 999999) (disch := first | exact D (by decide) | exact K (by kernel_rfl)) only [EA, EE, EG, EF, ED, ofVal, ofVal1, ofCell, lenV, aggEqV, cellEq, intBin, isShift, V.ids, lendV, frz, flatV, cellsOf, addOff, firstReg, oneOf, cellsAt, isAggD, isPure, ↓reduceIte, reduceCtorEq, Nat.reduceAdd, Nat.reduceSub, Nat.reduceMul, Nat.reduceLeDiff, Nat.reduceEqDiff, Nat.reduceBEq, Int.reduceToNat, Int.reduceLE, Int.reduceLT, Nat.reduceLT, Int.reduceBEq, Int.reduceBNe, Int.reduceEq, String.reduceEq, xk B21 [3, 1, 2, 1, 2, 2, 1, 2, 2] (.ex 0) rfl, R21_rr_l2.st, h1]
noncomputable def f21_rr_l2 (k : Nat) : Nat → (List T45) → (List T45) → Int → Int → Option R21_rr_l2
  | 0, _, _, _, _ => none
  | n + 1, x0, x1, x12, x13 => Option.bind (f21_rr_l2_b k x0 x1 x12 x13) fun o =>
    match o with
    | .o0 y => some (.o0 y)
    | .o1 y y_1 y_2 y_3 => f21_rr_l2 k n y y_1 y_2 y_3
    | .o2 y y_1 y_2 y_3 y_4 => some (.o2 y y_1 y_2 y_3 y_4)
theorem f21_rr_l2_ok (k : Nat) (n : Nat) : ∀ (x0 : List T45) (x1 : List T45) (x12 : Int) (x13 : Int) (r : R21_rr_l2) (hF : f21_rr_l2 k n x0 x1 x12 x13 = some r) (σ : St) (hσ : headR (hints.head 21 4) (hints.canon 21 4) σ = some ({ n := 26, F := [(0, V.sl 2 (rowsOf encT45 x0)), (1, V.sl 2 (rowsOf encT45 x1)), (12, V.p (Value.int .i64 x12)), (13, V.p (Value.int .i64 x13))], M := [] } : St)), LP 21 k (nav B21 [1, 2, 2, 1, 2, 2]) n σ = some r.st := by
  induction n with
  | zero => intro x0 x1 x12 x13 r hF; cases hF
  | succ n ih =>
    intro x0 x1 x12 x13 r hF σ hσ
    rw [f21_rr_l2] at hF
    obtain ⟨o, h, hF⟩ := Option.bind_eq_some_iff.1 hF
    have hB := f21_rr_l2_b_ok k x0 x1 x12 x13 o h
    unfold LP at ih ⊢
    unfold EX at hB
    rw [loopK_succ, show firstReg (nav B21 [1, 2, 2, 1, 2, 2]) = 4 from rfl, hσ, headK_some, hB]
    cases o with
    | o0 y => cases hF; rfl
    | o1 y y_1 y_2 y_3 =>
      refine ih y y_1 y_2 y_3 r hF _ ?_
      simp (maxSteps := 999999) (disch := first | exact D (by decide) | exact K (by kernel_rfl)) only [EA, EE, EG, EF, ED, ofVal, ofVal1, ofCell, lenV, aggEqV, cellEq, intBin, isShift, V.ids, lendV, frz, flatV, cellsOf, addOff, firstReg, oneOf, cellsAt, isAggD, isPure, ↓reduceIte, reduceCtorEq, Nat.reduceAdd, Nat.reduceSub, Nat.reduceMul, Nat.reduceLeDiff, Nat.reduceEqDiff, Nat.reduceBEq, Int.reduceToNat, Int.reduceLE, Int.reduceLT, Nat.reduceLT, Int.reduceBEq, Int.reduceBNe, Int.reduceEq, String.reduceEq, hh_21_4, hc_21_4]
    | o2 y y_1 y_2 y_3 y_4 => cases hF; rfl
noncomputable def f21_rr_j3 (k : Nat) (x0 : List T45) (x1 : List T45) (x12 : Int) (x13 : Int) (x14 : Bool) : Option R21_rr :=
  some (R21_rr.o0 true)
theorem f21_rr_j3_ok (k : Nat) (x0 : List T45) (x1 : List T45) (x12 : Int) (x13 : Int) (x14 : Bool) (r : R21_rr) (hF : f21_rr_j3 k x0 x1 x12 x13 x14 = some r) : finK Try.prog Try.f21 0 (EX 21 k (nav B21 [2, 2, 2]) ({ n := 26, F := [(0, V.sl 2 (rowsOf encT45 x0)), (1, V.sl 2 (rowsOf encT45 x1)), (12, V.p (Value.int .i64 x12)), (13, V.p (Value.int .i64 x13)), (14, V.p (Value.bool x14))], M := [] } : St)) = some r.st := by
  unfold f21_rr_j3 at hF
  cases hF
  simp (maxSteps := 999999) (disch := first | exact D (by decide) | exact K (by kernel_rfl)) only [EA, EE, EG, EF, ED, ofVal, ofVal1, ofCell, lenV, aggEqV, cellEq, intBin, isShift, V.ids, lendV, frz, flatV, cellsOf, addOff, firstReg, oneOf, cellsAt, isAggD, isPure, ↓reduceIte, reduceCtorEq, Nat.reduceAdd, Nat.reduceSub, Nat.reduceMul, Nat.reduceLeDiff, Nat.reduceEqDiff, Nat.reduceBEq, Int.reduceToNat, Int.reduceLE, Int.reduceLT, Nat.reduceLT, Int.reduceBEq, Int.reduceBNe, Int.reduceEq, String.reduceEq, xk B21 [2, 2, 2] .sq rfl, show (nav B21 [1, 2, 2, 2]) = Code.region 9 _ false from rfl, hk_21_9, hz_21_9, hs_21_9, xk B21 [2, 2, 2, 2] .rt rfl, finK_norm, finK_ret, fin21, R21_rr.st]
noncomputable def f21_rr_j1 (k : Nat) (x0 : List T45) (x1 : List T45) (x10 : Bool) : Option R21_rr :=
  Option.bind (f21_rr_l2 k k x0 x1 ((List.length x0) : Int) 0) fun o1 =>
    match o1 with
    | .o0 v4 =>
      some (R21_rr.o0 v4)
    | .o1 _ _ _ _ =>
      none  -- no way out
    | .o2 v5 v6 v7 v8 v9 =>
      f21_rr_j3 k v5 v6 v7 v8 v9
theorem f21_rr_j1_ok (k : Nat) (x0 : List T45) (x1 : List T45) (x10 : Bool) (r : R21_rr) (hF : f21_rr_j1 k x0 x1 x10 = some r) : finK Try.prog Try.f21 0 (EX 21 k (nav B21 [2, 2]) ({ n := 26, F := [(0, V.sl 2 (rowsOf encT45 x0)), (1, V.sl 2 (rowsOf encT45 x1)), (10, V.p (Value.bool x10))], M := [] } : St)) = some r.st := by
  unfold f21_rr_j1 at hF
  replace hF := Option.bind_eq_some_iff.1 hF
  obtain ⟨o1, h2, hF⟩ := hF
  have hc3 := f21_rr_l2_ok k k x0 x1 ((List.length x0) : Int) 0 _ h2
  simp (maxSteps := 999999) (disch := first | exact D (by decide) | exact K (by kernel_rfl)) only [EA, EE, EG, EF, ED, ofVal, ofVal1, ofCell, lenV, aggEqV, cellEq, intBin, isShift, V.ids, lendV, frz, flatV, cellsOf, addOff, firstReg, oneOf, cellsAt, isAggD, isPure, ↓reduceIte, reduceCtorEq, Nat.reduceAdd, Nat.reduceSub, Nat.reduceMul, Nat.reduceLeDiff, Nat.reduceEqDiff, Nat.reduceBEq, Int.reduceToNat, Int.reduceLE, Int.reduceLT, Nat.reduceLT, Int.reduceBEq, Int.reduceBNe, Int.reduceEq, String.reduceEq, xk B21 [2, 2] .sq rfl, xk B21 [1, 2, 2] .sq rfl, show (nav B21 [1, 1, 2, 2]) = Code.region 3 _ false from rfl, hk_21_3, hz_21_3, hs_21_3, u_24, i_24, is_24, ib_24, iz_24, xk B21 [2, 1, 2, 2] (.bk 0) rfl, xk B21 [2, 2, 1, 2, 2] .lp rfl, hh_21_4, hc_21_4]
  (try simp only [NM, EE] at hc3)
  rw [hc3 _ (by simp (maxSteps := 999999) (disch := first | exact D (by decide) | exact K (by kernel_rfl)) only [EA, EE, EG, EF, ED, ofVal, ofVal1, ofCell, lenV, aggEqV, cellEq, intBin, isShift, V.ids, lendV, frz, flatV, cellsOf, addOff, firstReg, oneOf, cellsAt, isAggD, isPure, ↓reduceIte, reduceCtorEq, Nat.reduceAdd, Nat.reduceSub, Nat.reduceMul, Nat.reduceLeDiff, Nat.reduceEqDiff, Nat.reduceBEq, Int.reduceToNat, Int.reduceLE, Int.reduceLT, Nat.reduceLT, Int.reduceBEq, Int.reduceBNe, Int.reduceEq, String.reduceEq, hh_21_4, hc_21_4])]
  clear hc3
  cases o1 with
  | o0 v4 =>
    (try dsimp only at hF)
    cases hF
    simp (maxSteps := 999999) (disch := first | exact D (by decide) | exact K (by kernel_rfl)) only [EA, EE, EG, EF, ED, ofVal, ofVal1, ofCell, lenV, aggEqV, cellEq, intBin, isShift, V.ids, lendV, frz, flatV, cellsOf, addOff, firstReg, oneOf, cellsAt, isAggD, isPure, ↓reduceIte, reduceCtorEq, Nat.reduceAdd, Nat.reduceSub, Nat.reduceMul, Nat.reduceLeDiff, Nat.reduceEqDiff, Nat.reduceBEq, Int.reduceToNat, Int.reduceLE, Int.reduceLT, Nat.reduceLT, Int.reduceBEq, Int.reduceBNe, Int.reduceEq, String.reduceEq, R21_rr_l2.st, finK_norm, finK_ret, fin21, R21_rr.st]
  | o1 _ _ _ _ =>
    (try dsimp only at hF)
    cases hF
  | o2 v5 v6 v7 v8 v9 =>
    (try dsimp only at hF)
    have hJ := f21_rr_j3_ok k v5 v6 v7 v8 v9 _ hF
    simp (maxSteps := 999999) (disch := first | exact D (by decide) | exact K (by kernel_rfl)) only [EA, EE, EG, EF, ED, ofVal, ofVal1, ofCell, lenV, aggEqV, cellEq, intBin, isShift, V.ids, lendV, frz, flatV, cellsOf, addOff, firstReg, oneOf, cellsAt, isAggD, isPure, ↓reduceIte, reduceCtorEq, Nat.reduceAdd, Nat.reduceSub, Nat.reduceMul, Nat.reduceLeDiff, Nat.reduceEqDiff, Nat.reduceBEq, Int.reduceToNat, Int.reduceLE, Int.reduceLT, Nat.reduceLT, Int.reduceBEq, Int.reduceBNe, Int.reduceEq, String.reduceEq, R21_rr_l2.st]
    try simp only [NM, EE] at hJ
    exact hJ
noncomputable def f21_rr_e (k : Nat) (a0 : List T45) (a1 : List T45) : Option R21_rr :=
  cond ((((List.length a0) : Int) != ((List.length a1) : Int)))
    (some (R21_rr.o0 false))
    (f21_rr_j1 k a0 a1 false)
theorem f21_rr_e_ok (k : Nat) (a0 : List T45) (a1 : List T45) (r : R21_rr) (hF : f21_rr_e k a0 a1 = some r) : finK Try.prog Try.f21 0 (EX 21 k (nav B21 []) ({ n := 26, F := [(0, V.sl 2 (rowsOf encT45 a0)), (1, V.sl 2 (rowsOf encT45 a1))], M := [] } : St)) = some r.st := by
  unfold f21_rr_e at hF
  simp (maxSteps := 999999) (disch := first | exact D (by decide) | exact K (by kernel_rfl)) only [EA, EE, EG, EF, ED, ofVal, ofVal1, ofCell, lenV, aggEqV, cellEq, intBin, isShift, V.ids, lendV, frz, flatV, cellsOf, addOff, firstReg, oneOf, cellsAt, isAggD, isPure, ↓reduceIte, reduceCtorEq, Nat.reduceAdd, Nat.reduceSub, Nat.reduceMul, Nat.reduceLeDiff, Nat.reduceEqDiff, Nat.reduceBEq, Int.reduceToNat, Int.reduceLE, Int.reduceLT, Nat.reduceLT, Int.reduceBEq, Int.reduceBNe, Int.reduceEq, String.reduceEq, xk B21 [] .sq rfl, show (nav B21 [1]) = Code.region 0 _ false from rfl, hk_21_0, hz_21_0, hs_21_0, xk B21 [2] .sq rfl, xk B21 [1, 2] .sq rfl, show (nav B21 [1, 1, 2]) = Code.region 1 _ false from rfl, hk_21_1, hz_21_1, hs_21_1, u_24, i_24, is_24, ib_24, iz_24, xk B21 [2, 1, 2] (.cd 10) rfl]
  replace hF := cond_some hF
  rcases hF with ⟨h1, hF⟩ | ⟨h1, hF⟩
  · cases hF
    simp (maxSteps := 999999) (disch := first | exact D (by decide) | exact K (by kernel_rfl)) only [EA, EE, EG, EF, ED, ofVal, ofVal1, ofCell, lenV, aggEqV, cellEq, intBin, isShift, V.ids, lendV, frz, flatV, cellsOf, addOff, firstReg, oneOf, cellsAt, isAggD, isPure, ↓reduceIte, reduceCtorEq, Nat.reduceAdd, Nat.reduceSub, Nat.reduceMul, Nat.reduceLeDiff, Nat.reduceEqDiff, Nat.reduceBEq, Int.reduceToNat, Int.reduceLE, Int.reduceLT, Nat.reduceLT, Int.reduceBEq, Int.reduceBNe, Int.reduceEq, String.reduceEq, xk B21 [2, 2, 1, 2] .sq rfl, show (nav B21 [1, 2, 2, 1, 2]) = Code.region 2 _ false from rfl, hk_21_2, hz_21_2, hs_21_2, xk B21 [2, 2, 2, 1, 2] .rt rfl, finK_norm, finK_ret, fin21, R21_rr.st, h1]
  · have hJ := f21_rr_j1_ok k a0 a1 false _ hF
    simp (maxSteps := 999999) (disch := first | exact D (by decide) | exact K (by kernel_rfl)) only [EA, EE, EG, EF, ED, ofVal, ofVal1, ofCell, lenV, aggEqV, cellEq, intBin, isShift, V.ids, lendV, frz, flatV, cellsOf, addOff, firstReg, oneOf, cellsAt, isAggD, isPure, ↓reduceIte, reduceCtorEq, Nat.reduceAdd, Nat.reduceSub, Nat.reduceMul, Nat.reduceLeDiff, Nat.reduceEqDiff, Nat.reduceBEq, Int.reduceToNat, Int.reduceLE, Int.reduceLT, Nat.reduceLT, Int.reduceBEq, Int.reduceBNe, Int.reduceEq, String.reduceEq, xk B21 [3, 2, 1, 2] .sk rfl, h1]
    try simp only [NM, EE] at hJ
    exact hJ
noncomputable def f21_rr (k : Nat) (a0 : List T45) (a1 : List T45) : Option R21_rr := match k with | 0 => none | k + 1 => f21_rr_e k a0 a1
theorem f21_rr_ok (k : Nat) (a0 : List T45) (a1 : List T45) (r : R21_rr) (hF : f21_rr k a0 a1 = some r) : CV k 21 [V.sl 2 (rowsOf encT45 a0), V.sl 2 (rowsOf encT45 a1)] [] = some r.st := by
  cases k with
  | zero => cases hF
  | succ k =>
    unfold CV
    rw [ev_call (F := Try.f21) (c := (nav B21 [])) rfl Try.func21 rfl rfl rfl]
    exact f21_rr_e_ok k a0 a1 r hF
-- f9_ai10brrzai10brrz: f9 heliograph/segment.Same
inductive R9_ai10brrzai10brrz where
  | o0 (y : Bool)
noncomputable def R9_ai10brrzai10brrz.st : R9_ai10brrzai10brrz → V × List O × List O
  | .o0 y => (V.p (Value.bool y), [], [])
noncomputable def f9_ai10brrzai10brrz_e (k : Nat) (a0 : Int) (a0_1 : Int) (a0_2 : Int) (a0_3 : Int) (a0_4 : Int) (a0_5 : Int) (a0_6 : Int) (a0_7 : Int) (a0_8 : Int) (a0_9 : Int) (a0_10 : Bool) (a0_11 : List Int) (a0_12 : List T45) (a1 : Int) (a1_1 : Int) (a1_2 : Int) (a1_3 : Int) (a1_4 : Int) (a1_5 : Int) (a1_6 : Int) (a1_7 : Int) (a1_8 : Int) (a1_9 : Int) (a1_10 : Bool) (a1_11 : List Int) (a1_12 : List T45) : Option R9_ai10brrzai10brrz :=
  Option.bind (f19_ai10brrz k a0 a0_1 a0_2 a0_3 a0_4 a0_5 a0_6 a0_7 a0_8 a0_9 a0_10 a0_11 a0_12) fun o1 =>
    match o1 with
    | .o0 v4 v5 v6 v7 v8 v9 v10 v11 v12 v13 v14 =>
      Option.bind (f19_ai10brrz k a1 a1_1 a1_2 a1_3 a1_4 a1_5 a1_6 a1_7 a1_8 a1_9 a1_10 a1_11 a1_12) fun o15 =>
        match o15 with
        | .o0 v18 v19 v20 v21 v22 v23 v24 v25 v26 v27 v28 =>
          cond (((v4 == v18) && ((v5 == v19) && ((v6 == v20) && ((v7 == v21) && ((v8 == v22) && ((v9 == v23) && ((v10 == v24) && ((v11 == v25) && ((v12 == v26) && ((v13 == v27) && (v14 == v28))))))))))))
            (
              Option.bind (f20_rr k a0_11 a1_11) fun o30 =>
                match o30 with
                | .o0 v33 =>
                  cond (v33)
                    (
                      Option.bind (f21_rr k a0_12 a1_12) fun o35 =>
                        match o35 with
                        | .o0 v38 =>
                          some (R9_ai10brrzai10brrz.o0 v38))
                    (some (R9_ai10brrzai10brrz.o0 false)))
            (some (R9_ai10brrzai10brrz.o0 false))
theorem f9_ai10brrzai10brrz_e_ok (k : Nat) (a0 : Int) (a0_1 : Int) (a0_2 : Int) (a0_3 : Int) (a0_4 : Int) (a0_5 : Int) (a0_6 : Int) (a0_7 : Int) (a0_8 : Int) (a0_9 : Int) (a0_10 : Bool) (a0_11 : List Int) (a0_12 : List T45) (a1 : Int) (a1_1 : Int) (a1_2 : Int) (a1_3 : Int) (a1_4 : Int) (a1_5 : Int) (a1_6 : Int) (a1_7 : Int) (a1_8 : Int) (a1_9 : Int) (a1_10 : Bool) (a1_11 : List Int) (a1_12 : List T45) (r : R9_ai10brrzai10brrz) (hF : f9_ai10brrzai10brrz_e k a0 a0_1 a0_2 a0_3 a0_4 a0_5 a0_6 a0_7 a0_8 a0_9 a0_10 a0_11 a0_12 a1 a1_1 a1_2 a1_3 a1_4 a1_5 a1_6 a1_7 a1_8 a1_9 a1_10 a1_11 a1_12 = some r) : finK Try.prog Try.f9 0 (EX 9 k (nav B9 []) ({ n := 27, F := [(0, V.agg [V.p (Value.int .i64 a0), V.p (Value.int .i64 a0_1), V.p (Value.int .u32 a0_2), V.p (Value.int .u32 a0_3), V.p (Value.int .u32 a0_4), V.p (Value.int .i64 a0_5), V.p (Value.int .i64 a0_6), V.p (Value.int .i64 a0_7), V.p (Value.int .i64 a0_8), V.p (Value.int .i64 a0_9), V.p (Value.bool a0_10), V.sl 1 (rowsOf (encI .u8) a0_11), V.sl 2 (rowsOf encT45 a0_12)]), (1, V.agg [V.p (Value.int .i64 a1), V.p (Value.int .i64 a1_1), V.p (Value.int .u32 a1_2), V.p (Value.int .u32 a1_3), V.p (Value.int .u32 a1_4), V.p (Value.int .i64 a1_5), V.p (Value.int .i64 a1_6), V.p (Value.int .i64 a1_7), V.p (Value.int .i64 a1_8), V.p (Value.int .i64 a1_9), V.p (Value.bool a1_10), V.sl 1 (rowsOf (encI .u8) a1_11), V.sl 2 (rowsOf encT45 a1_12)])], M := [] } : St)) = some r.st := by
  unfold f9_ai10brrzai10brrz_e at hF
  replace hF := Option.bind_eq_some_iff.1 hF
  obtain ⟨o1, h2, hF⟩ := hF
  have hc3 := f19_ai10brrz_ok k a0 a0_1 a0_2 a0_3 a0_4 a0_5 a0_6 a0_7 a0_8 a0_9 a0_10 a0_11 a0_12 _ h2
  cases o1 with
  | o0 v4 v5 v6 v7 v8 v9 v10 v11 v12 v13 v14 =>
    (try dsimp only at hF)
    (try simp only [NM, EE, R19_ai10brrz.st] at hc3)
    replace hF := Option.bind_eq_some_iff.1 hF
    obtain ⟨o15, h16, hF⟩ := hF
    have hc17 := f19_ai10brrz_ok k a1 a1_1 a1_2 a1_3 a1_4 a1_5 a1_6 a1_7 a1_8 a1_9 a1_10 a1_11 a1_12 _ h16
    cases o15 with
    | o0 v18 v19 v20 v21 v22 v23 v24 v25 v26 v27 v28 =>
      (try dsimp only at hF)
      (try simp only [NM, EE, R19_ai10brrz.st] at hc17)
      simp (maxSteps := 999999) (disch := first | exact D (by decide) | exact K (by kernel_rfl)) only [EA, EE, EG, EF, ED, ofVal, ofVal1, ofCell, lenV, aggEqV, cellEq, intBin, isShift, V.ids, lendV, frz, flatV, cellsOf, addOff, firstReg, oneOf, cellsAt, isAggD, isPure, ↓reduceIte, reduceCtorEq, Nat.reduceAdd, Nat.reduceSub, Nat.reduceMul, Nat.reduceLeDiff, Nat.reduceEqDiff, Nat.reduceBEq, Int.reduceToNat, Int.reduceLE, Int.reduceLT, Nat.reduceLT, Int.reduceBEq, Int.reduceBNe, Int.reduceEq, String.reduceEq, xk B9 [] .sq rfl, show (nav B9 [1]) = Code.region 0 _ false from rfl, hk_9_0, hz_9_0, hs_9_0, xk B9 [2] .sq rfl, show (nav B9 [1, 2]) = Code.region 1 _ false from rfl, hk_9_1, hz_9_1, hs_9_1, xk B9 [2, 2] .sq rfl, show (nav B9 [1, 2, 2]) = Code.region 2 _ true from rfl, hk_9_2, hz_9_2, hs_9_2, u_26, i_26, is_26, ib_26, iz_26, callStep, calleeOf, gv, List.contains, u_47, i_47, is_47, ib_47, iz_47, ag_47, u_3, i_3, is_3, ib_3, iz_3, u_22, i_22, is_22, ib_22, iz_22, u_4, i_4, is_4, ib_4, iz_4, hc3, hc17]
      replace hF := cond_some hF
      rcases hF with ⟨h29, hF⟩ | ⟨h29, hF⟩
      · replace hF := Option.bind_eq_some_iff.1 hF
        obtain ⟨o30, h31, hF⟩ := hF
        have hc32 := f20_rr_ok k a0_11 a1_11 _ h31
        cases o30 with
        | o0 v33 =>
          (try dsimp only at hF)
          (try simp only [NM, EE, R20_rr.st] at hc32)
          simp (maxSteps := 999999) (disch := first | exact D (by decide) | exact K (by kernel_rfl)) only [EA, EE, EG, EF, ED, ofVal, ofVal1, ofCell, lenV, aggEqV, cellEq, intBin, isShift, V.ids, lendV, frz, flatV, cellsOf, addOff, firstReg, oneOf, cellsAt, isAggD, isPure, ↓reduceIte, reduceCtorEq, Nat.reduceAdd, Nat.reduceSub, Nat.reduceMul, Nat.reduceLeDiff, Nat.reduceEqDiff, Nat.reduceBEq, Int.reduceToNat, Int.reduceLE, Int.reduceLT, Nat.reduceLT, Int.reduceBEq, Int.reduceBNe, Int.reduceEq, String.reduceEq, fieldAddrV, u_26, i_26, is_26, ib_26, iz_26, u_23, i_23, is_23, ib_23, iz_23, callStep, calleeOf, gv, List.contains, hc3, hc17, h29, hc32]
          replace hF := cond_some hF
          rcases hF with ⟨h34, hF⟩ | ⟨h34, hF⟩
          · replace hF := Option.bind_eq_some_iff.1 hF
            obtain ⟨o35, h36, hF⟩ := hF
            have hc37 := f21_rr_ok k a0_12 a1_12 _ h36
            cases o35 with
            | o0 v38 =>
              (try dsimp only at hF)
              (try simp only [NM, EE, R21_rr.st] at hc37)
              cases hF
              simp (maxSteps := 999999) (disch := first | exact D (by decide) | exact K (by kernel_rfl)) only [EA, EE, EG, EF, ED, ofVal, ofVal1, ofCell, lenV, aggEqV, cellEq, intBin, isShift, V.ids, lendV, frz, flatV, cellsOf, addOff, firstReg, oneOf, cellsAt, isAggD, isPure, ↓reduceIte, reduceCtorEq, Nat.reduceAdd, Nat.reduceSub, Nat.reduceMul, Nat.reduceLeDiff, Nat.reduceEqDiff, Nat.reduceBEq, Int.reduceToNat, Int.reduceLE, Int.reduceLT, Nat.reduceLT, Int.reduceBEq, Int.reduceBNe, Int.reduceEq, String.reduceEq, fieldAddrV, u_26, i_26, is_26, ib_26, iz_26, u_24, i_24, is_24, ib_24, iz_24, callStep, calleeOf, gv, List.contains, xk B9 [2, 2, 2] .rt rfl, finK_norm, finK_ret, fin9, R9_ai10brrzai10brrz.st, hc3, hc17, h29, hc32, h34, hc37]
          · cases hF
            simp (maxSteps := 999999) (disch := first | exact D (by decide) | exact K (by kernel_rfl)) only [EA, EE, EG, EF, ED, ofVal, ofVal1, ofCell, lenV, aggEqV, cellEq, intBin, isShift, V.ids, lendV, frz, flatV, cellsOf, addOff, firstReg, oneOf, cellsAt, isAggD, isPure, ↓reduceIte, reduceCtorEq, Nat.reduceAdd, Nat.reduceSub, Nat.reduceMul, Nat.reduceLeDiff, Nat.reduceEqDiff, Nat.reduceBEq, Int.reduceToNat, Int.reduceLE, Int.reduceLT, Nat.reduceLT, Int.reduceBEq, Int.reduceBNe, Int.reduceEq, String.reduceEq, xk B9 [2, 2, 2] .rt rfl, finK_norm, finK_ret, fin9, R9_ai10brrzai10brrz.st, hc3, hc17, h29, hc32, h34]
      · cases hF
        simp (maxSteps := 999999) (disch := first | exact D (by decide) | exact K (by kernel_rfl)) only [EA, EE, EG, EF, ED, ofVal, ofVal1, ofCell, lenV, aggEqV, cellEq, intBin, isShift, V.ids, lendV, frz, flatV, cellsOf, addOff, firstReg, oneOf, cellsAt, isAggD, isPure, ↓reduceIte, reduceCtorEq, Nat.reduceAdd, Nat.reduceSub, Nat.reduceMul, Nat.reduceLeDiff, Nat.reduceEqDiff, Nat.reduceBEq, Int.reduceToNat, Int.reduceLE, Int.reduceLT, Nat.reduceLT, Int.reduceBEq, Int.reduceBNe, Int.reduceEq, String.reduceEq, xk B9 [2, 2, 2] .rt rfl, finK_norm, finK_ret, fin9, R9_ai10brrzai10brrz.st, hc3, hc17, h29]
noncomputable def f9_ai10brrzai10brrz (k : Nat) (a0 : Int) (a0_1 : Int) (a0_2 : Int) (a0_3 : Int) (a0_4 : Int) (a0_5 : Int) (a0_6 : Int) (a0_7 : Int) (a0_8 : Int) (a0_9 : Int) (a0_10 : Bool) (a0_11 : List Int) (a0_12 : List T45) (a1 : Int) (a1_1 : Int) (a1_2 : Int) (a1_3 : Int) (a1_4 : Int) (a1_5 : Int) (a1_6 : Int) (a1_7 : Int) (a1_8 : Int) (a1_9 : Int) (a1_10 : Bool) (a1_11 : List Int) (a1_12 : List T45) : Option R9_ai10brrzai10brrz := match k with | 0 => none | k + 1 => f9_ai10brrzai10brrz_e k a0 a0_1 a0_2 a0_3 a0_4 a0_5 a0_6 a0_7 a0_8 a0_9 a0_10 a0_11 a0_12 a1 a1_1 a1_2 a1_3 a1_4 a1_5 a1_6 a1_7 a1_8 a1_9 a1_10 a1_11 a1_12
theorem f9_ai10brrzai10brrz_ok (k : Nat) (a0 : Int) (a0_1 : Int) (a0_2 : Int) (a0_3 : Int) (a0_4 : Int) (a0_5 : Int) (a0_6 : Int) (a0_7 : Int) (a0_8 : Int) (a0_9 : Int) (a0_10 : Bool) (a0_11 : List Int) (a0_12 : List T45) (a1 : Int) (a1_1 : Int) (a1_2 : Int) (a1_3 : Int) (a1_4 : Int) (a1_5 : Int) (a1_6 : Int) (a1_7 : Int) (a1_8 : Int) (a1_9 : Int) (a1_10 : Bool) (a1_11 : List Int) (a1_12 : List T45) (r : R9_ai10brrzai10brrz) (hF : f9_ai10brrzai10brrz k a0 a0_1 a0_2 a0_3 a0_4 a0_5 a0_6 a0_7 a0_8 a0_9 a0_10 a0_11 a0_12 a1 a1_1 a1_2 a1_3 a1_4 a1_5 a1_6 a1_7 a1_8 a1_9 a1_10 a1_11 a1_12 = some r) : CV k 9 [V.agg [V.p (Value.int .i64 a0), V.p (Value.int .i64 a0_1), V.p (Value.int .u32 a0_2), V.p (Value.int .u32 a0_3), V.p (Value.int .u32 a0_4), V.p (Value.int .i64 a0_5), V.p (Value.int .i64 a0_6), V.p (Value.int .i64 a0_7), V.p (Value.int .i64 a0_8), V.p (Value.int .i64 a0_9), V.p (Value.bool a0_10), V.sl 1 (rowsOf (encI .u8) a0_11), V.sl 2 (rowsOf encT45 a0_12)], V.agg [V.p (Value.int .i64 a1), V.p (Value.int .i64 a1_1), V.p (Value.int .u32 a1_2), V.p (Value.int .u32 a1_3), V.p (Value.int .u32 a1_4), V.p (Value.int .i64 a1_5), V.p (Value.int .i64 a1_6), V.p (Value.int .i64 a1_7), V.p (Value.int .i64 a1_8), V.p (Value.int .i64 a1_9), V.p (Value.bool a1_10), V.sl 1 (rowsOf (encI .u8) a1_11), V.sl 2 (rowsOf encT45 a1_12)]] [] = some r.st := by
  cases k with
  | zero => cases hF
  | succ k =>
    unfold CV
    rw [ev_call (F := Try.f9) (c := (nav B9 [])) rfl Try.func9 rfl rfl rfl]
    exact f9_ai10brrzai10brrz_e_ok k a0 a0_1 a0_2 a0_3 a0_4 a0_5 a0_6 a0_7 a0_8 a0_9 a0_10 a0_11 a0_12 a1 a1_1 a1_2 a1_3 a1_4 a1_5 a1_6 a1_7 a1_8 a1_9 a1_10 a1_11 a1_12 r hF
end Go.Proofs.YthjefcamonmjpaaV
