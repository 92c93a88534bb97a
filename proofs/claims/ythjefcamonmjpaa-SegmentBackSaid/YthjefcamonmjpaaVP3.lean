/- What the program's functions answer: plain functions, and that the interpreter answers what they do. Written by a program of this session, out of the translation. -/
import Derived.Test.YthjefcamonmjpaaVP2
namespace Go.Proofs.YthjefcamonmjpaaV
open Go
set_option linter.unusedVariables false
set_option linter.unusedSimpArgs false
set_option maxRecDepth 8000
set_option maxHeartbeats 4000000
-- f15_ai10brrz: f15 heliograph/segment.Check
inductive R15_ai10brrz where
  | o0 (y : Int)
noncomputable def R15_ai10brrz.st : R15_ai10brrz → V × List O × List O
  | .o0 y => (V.p (Value.int .i64 y), [], [])
noncomputable def f15_ai10brrz_j2 (k : Nat) (x153 : Bool) : Option R15_ai10brrz :=
  some (R15_ai10brrz.o0 0)
theorem f15_ai10brrz_j2_ok (k : Nat) (x153 : Bool) (r : R15_ai10brrz) (hF : f15_ai10brrz_j2 k x153 = some r) : finK Try.prog Try.f15 0 (EX 15 k (nav B15 [2, 2, 2, 2, 2]) ({ n := 154, F := [(153, V.p (Value.bool x153))], M := [] } : St)) = some r.st := by
  unfold f15_ai10brrz_j2 at hF
  cases hF
  simp (maxSteps := 999999) (disch := first | exact D (by decide) | exact K (by kernel_rfl)) only [EA, EE, EG, EF, ED, ofVal, ofVal1, ofCell, lenV, aggEqV, cellEq, intBin, isShift, V.ids, lendV, frz, flatV, cellsOf, addOff, firstReg, oneOf, cellsAt, isAggD, isPure, ↓reduceIte, reduceCtorEq, Nat.reduceAdd, Nat.reduceSub, Nat.reduceMul, Nat.reduceLeDiff, Nat.reduceEqDiff, Nat.reduceBEq, Int.reduceToNat, Int.reduceLE, Int.reduceLT, Nat.reduceLT, Int.reduceBEq, Int.reduceBNe, Int.reduceEq, String.reduceEq, xk B15 [2, 2, 2, 2, 2] .sq rfl, show (nav B15 [1, 2, 2, 2, 2, 2]) = Code.region 23 _ false from rfl, hk_15_23, hz_15_23, hs_15_23, xk B15 [2, 2, 2, 2, 2, 2] .rt rfl, finK_norm, finK_ret, fin15, R15_ai10brrz.st]
noncomputable def f15_ai10brrz_j1 (k : Nat) (x4 : Bool) (m1 : Int) (m1_1 : Int) (m1_2 : Int) (m1_3 : Int) (m1_4 : Int) (m1_5 : Int) (m1_6 : Int) (m1_7 : Int) (m1_8 : Int) (m1_9 : Int) (m1_10 : Bool) (m1_11 : List Int) (m1_12 : List T45) (m3 : Int) (m3_1 : Int) (m3_2 : Int) (m3_3 : Int) (m3_4 : Int) (m3_5 : Int) (m3_6 : Int) (m3_7 : Int) (m3_8 : Int) (m3_9 : Int) (m3_10 : Bool) (m3_11 : List Int) (m3_12 : List T45) : Option R15_ai10brrz :=
  cond ((!x4))
    (some (R15_ai10brrz.o0 200))
    (
      Option.bind (f9_ai10brrzai10brrz k m1 m1_1 m1_2 m1_3 m1_4 m1_5 m1_6 m1_7 m1_8 m1_9 m1_10 m1_11 m1_12 m3 m3_1 m3_2 m3_3 m3_4 m3_5 m3_6 m3_7 m3_8 m3_9 m3_10 m3_11 m3_12) fun o2 =>
        match o2 with
        | .o0 v5 =>
          cond ((!v5))
            (some (R15_ai10brrz.o0 200))
            (f15_ai10brrz_j2 k false))
theorem f15_ai10brrz_j1_ok (k : Nat) (x4 : Bool) (m1 : Int) (m1_1 : Int) (m1_2 : Int) (m1_3 : Int) (m1_4 : Int) (m1_5 : Int) (m1_6 : Int) (m1_7 : Int) (m1_8 : Int) (m1_9 : Int) (m1_10 : Bool) (m1_11 : List Int) (m1_12 : List T45) (m3 : Int) (m3_1 : Int) (m3_2 : Int) (m3_3 : Int) (m3_4 : Int) (m3_5 : Int) (m3_6 : Int) (m3_7 : Int) (m3_8 : Int) (m3_9 : Int) (m3_10 : Bool) (m3_11 : List Int) (m3_12 : List T45) (r : R15_ai10brrz) (hF : f15_ai10brrz_j1 k x4 m1 m1_1 m1_2 m1_3 m1_4 m1_5 m1_6 m1_7 m1_8 m1_9 m1_10 m1_11 m1_12 m3 m3_1 m3_2 m3_3 m3_4 m3_5 m3_6 m3_7 m3_8 m3_9 m3_10 m3_11 m3_12 = some r) : finK Try.prog Try.f15 0 (EX 15 k (nav B15 [2, 2, 2, 2]) ({ n := 154, F := [(1, V.ptr 1 0), (3, V.ptr 3 0), (4, V.p (Value.bool x4))], M := [(1, O.box 26 [V.p (Value.int .i64 m1), V.p (Value.int .i64 m1_1), V.p (Value.int .u32 m1_2), V.p (Value.int .u32 m1_3), V.p (Value.int .u32 m1_4), V.p (Value.int .i64 m1_5), V.p (Value.int .i64 m1_6), V.p (Value.int .i64 m1_7), V.p (Value.int .i64 m1_8), V.p (Value.int .i64 m1_9), V.p (Value.bool m1_10), V.sl 1 (rowsOf (encI .u8) m1_11), V.sl 2 (rowsOf encT45 m1_12)]), (3, O.box 26 [V.p (Value.int .i64 m3), V.p (Value.int .i64 m3_1), V.p (Value.int .u32 m3_2), V.p (Value.int .u32 m3_3), V.p (Value.int .u32 m3_4), V.p (Value.int .i64 m3_5), V.p (Value.int .i64 m3_6), V.p (Value.int .i64 m3_7), V.p (Value.int .i64 m3_8), V.p (Value.int .i64 m3_9), V.p (Value.bool m3_10), V.sl 1 (rowsOf (encI .u8) m3_11), V.sl 2 (rowsOf encT45 m3_12)])] } : St)) = some r.st := by
  unfold f15_ai10brrz_j1 at hF
  simp (maxSteps := 999999) (disch := first | exact D (by decide) | exact K (by kernel_rfl)) only [EA, EE, EG, EF, ED, ofVal, ofVal1, ofCell, lenV, aggEqV, cellEq, intBin, isShift, V.ids, lendV, frz, flatV, cellsOf, addOff, firstReg, oneOf, cellsAt, isAggD, isPure, ↓reduceIte, reduceCtorEq, Nat.reduceAdd, Nat.reduceSub, Nat.reduceMul, Nat.reduceLeDiff, Nat.reduceEqDiff, Nat.reduceBEq, Int.reduceToNat, Int.reduceLE, Int.reduceLT, Nat.reduceLT, Int.reduceBEq, Int.reduceBNe, Int.reduceEq, String.reduceEq, xk B15 [2, 2, 2, 2] .sq rfl, xk B15 [1, 2, 2, 2, 2] .sq rfl, show (nav B15 [1, 1, 2, 2, 2, 2]) = Code.region 21 _ false from rfl, hk_15_21, hz_15_21, hs_15_21]
  replace hF := cond_some hF
  rcases hF with ⟨h1, hF⟩ | ⟨h1, hF⟩
  · cases hF
    simp (maxSteps := 999999) (disch := first | exact D (by decide) | exact K (by kernel_rfl)) only [EA, EE, EG, EF, ED, ofVal, ofVal1, ofCell, lenV, aggEqV, cellEq, intBin, isShift, V.ids, lendV, frz, flatV, cellsOf, addOff, firstReg, oneOf, cellsAt, isAggD, isPure, ↓reduceIte, reduceCtorEq, Nat.reduceAdd, Nat.reduceSub, Nat.reduceMul, Nat.reduceLeDiff, Nat.reduceEqDiff, Nat.reduceBEq, Int.reduceToNat, Int.reduceLE, Int.reduceLT, Nat.reduceLT, Int.reduceBEq, Int.reduceBNe, Int.reduceEq, String.reduceEq, xk B15 [2, 1, 2, 2, 2, 2] (.cd 153) rfl, xk B15 [2, 2, 1, 2, 2, 2, 2] .sq rfl, show (nav B15 [1, 2, 2, 1, 2, 2, 2, 2]) = Code.region 22 _ false from rfl, hk_15_22, hz_15_22, hs_15_22, xk B15 [2, 2, 2, 1, 2, 2, 2, 2] .rt rfl, finK_norm, finK_ret, fin15, R15_ai10brrz.st, h1]
  · replace hF := Option.bind_eq_some_iff.1 hF
    obtain ⟨o2, h3, hF⟩ := hF
    have hc4 := f9_ai10brrzai10brrz_ok k m1 m1_1 m1_2 m1_3 m1_4 m1_5 m1_6 m1_7 m1_8 m1_9 m1_10 m1_11 m1_12 m3 m3_1 m3_2 m3_3 m3_4 m3_5 m3_6 m3_7 m3_8 m3_9 m3_10 m3_11 m3_12 _ h3
    cases o2 with
    | o0 v5 =>
      (try dsimp only at hF)
      (try simp only [NM, EE, R9_ai10brrzai10brrz.st] at hc4)
      simp (maxSteps := 999999) (disch := first | exact D (by decide) | exact K (by kernel_rfl)) only [EA, EE, EG, EF, ED, ofVal, ofVal1, ofCell, lenV, aggEqV, cellEq, intBin, isShift, V.ids, lendV, frz, flatV, cellsOf, addOff, firstReg, oneOf, cellsAt, isAggD, isPure, ↓reduceIte, reduceCtorEq, Nat.reduceAdd, Nat.reduceSub, Nat.reduceMul, Nat.reduceLeDiff, Nat.reduceEqDiff, Nat.reduceBEq, Int.reduceToNat, Int.reduceLE, Int.reduceLT, Nat.reduceLT, Int.reduceBEq, Int.reduceBNe, Int.reduceEq, String.reduceEq, u_26, i_26, is_26, ib_26, iz_26, callStep, calleeOf, gv, List.contains, xk B15 [2, 1, 2, 2, 2, 2] (.cd 153) rfl, h1, hc4]
      replace hF := cond_some hF
      rcases hF with ⟨h6, hF⟩ | ⟨h6, hF⟩
      · cases hF
        simp (maxSteps := 999999) (disch := first | exact D (by decide) | exact K (by kernel_rfl)) only [EA, EE, EG, EF, ED, ofVal, ofVal1, ofCell, lenV, aggEqV, cellEq, intBin, isShift, V.ids, lendV, frz, flatV, cellsOf, addOff, firstReg, oneOf, cellsAt, isAggD, isPure, ↓reduceIte, reduceCtorEq, Nat.reduceAdd, Nat.reduceSub, Nat.reduceMul, Nat.reduceLeDiff, Nat.reduceEqDiff, Nat.reduceBEq, Int.reduceToNat, Int.reduceLE, Int.reduceLT, Nat.reduceLT, Int.reduceBEq, Int.reduceBNe, Int.reduceEq, String.reduceEq, xk B15 [2, 2, 1, 2, 2, 2, 2] .sq rfl, show (nav B15 [1, 2, 2, 1, 2, 2, 2, 2]) = Code.region 22 _ false from rfl, hk_15_22, hz_15_22, hs_15_22, xk B15 [2, 2, 2, 1, 2, 2, 2, 2] .rt rfl, finK_norm, finK_ret, fin15, R15_ai10brrz.st, h1, hc4, h6]
      · have hJ := f15_ai10brrz_j2_ok k false _ hF
        simp (maxSteps := 999999) (disch := first | exact D (by decide) | exact K (by kernel_rfl)) only [EA, EE, EG, EF, ED, ofVal, ofVal1, ofCell, lenV, aggEqV, cellEq, intBin, isShift, V.ids, lendV, frz, flatV, cellsOf, addOff, firstReg, oneOf, cellsAt, isAggD, isPure, ↓reduceIte, reduceCtorEq, Nat.reduceAdd, Nat.reduceSub, Nat.reduceMul, Nat.reduceLeDiff, Nat.reduceEqDiff, Nat.reduceBEq, Int.reduceToNat, Int.reduceLE, Int.reduceLT, Nat.reduceLT, Int.reduceBEq, Int.reduceBNe, Int.reduceEq, String.reduceEq, xk B15 [3, 2, 1, 2, 2, 2, 2] .sk rfl, h1, hc4, h6]
        try simp only [NM, EE] at hJ
        exact hJ
noncomputable def f15_ai10brrz_j5 (k : Nat) (x4 : Bool) (x22 : Int) (x143 : Bool) (m1 : Int) (m1_1 : Int) (m1_2 : Int) (m1_3 : Int) (m1_4 : Int) (m1_5 : Int) (m1_6 : Int) (m1_7 : Int) (m1_8 : Int) (m1_9 : Int) (m1_10 : Bool) (m1_11 : List Int) (m1_12 : List T45) (m3 : Int) (m3_1 : Int) (m3_2 : Int) (m3_3 : Int) (m3_4 : Int) (m3_5 : Int) (m3_6 : Int) (m3_7 : Int) (m3_8 : Int) (m3_9 : Int) (m3_10 : Bool) (m3_11 : List Int) (m3_12 : List T45) : Option R15_ai10brrz :=
  cond ((!x4))
    (some (R15_ai10brrz.o0 200))
    (
      Option.bind (f9_ai10brrzai10brrz k m1 m1_1 m1_2 m1_3 m1_4 m1_5 m1_6 m1_7 m1_8 m1_9 m1_10 m1_11 m1_12 m3 m3_1 m3_2 m3_3 m3_4 m3_5 m3_6 m3_7 m3_8 m3_9 m3_10 m3_11 m3_12) fun o2 =>
        match o2 with
        | .o0 v5 =>
          cond ((!v5))
            (some (R15_ai10brrz.o0 200))
            (f15_ai10brrz_j2 k false))
theorem f15_ai10brrz_j5_ok (k : Nat) (x4 : Bool) (x22 : Int) (x143 : Bool) (m1 : Int) (m1_1 : Int) (m1_2 : Int) (m1_3 : Int) (m1_4 : Int) (m1_5 : Int) (m1_6 : Int) (m1_7 : Int) (m1_8 : Int) (m1_9 : Int) (m1_10 : Bool) (m1_11 : List Int) (m1_12 : List T45) (m3 : Int) (m3_1 : Int) (m3_2 : Int) (m3_3 : Int) (m3_4 : Int) (m3_5 : Int) (m3_6 : Int) (m3_7 : Int) (m3_8 : Int) (m3_9 : Int) (m3_10 : Bool) (m3_11 : List Int) (m3_12 : List T45) (r : R15_ai10brrz) (hF : f15_ai10brrz_j5 k x4 x22 x143 m1 m1_1 m1_2 m1_3 m1_4 m1_5 m1_6 m1_7 m1_8 m1_9 m1_10 m1_11 m1_12 m3 m3_1 m3_2 m3_3 m3_4 m3_5 m3_6 m3_7 m3_8 m3_9 m3_10 m3_11 m3_12 = some r) : finK Try.prog Try.f15 0 (EX 15 k (nav B15 [2, 2, 2, 2]) ({ n := 154, F := [(1, V.ptr 1 0), (3, V.ptr 3 0), (4, V.p (Value.bool x4)), (22, V.p (Value.int .i64 x22)), (143, V.p (Value.bool x143))], M := [(1, O.box 26 [V.p (Value.int .i64 m1), V.p (Value.int .i64 m1_1), V.p (Value.int .u32 m1_2), V.p (Value.int .u32 m1_3), V.p (Value.int .u32 m1_4), V.p (Value.int .i64 m1_5), V.p (Value.int .i64 m1_6), V.p (Value.int .i64 m1_7), V.p (Value.int .i64 m1_8), V.p (Value.int .i64 m1_9), V.p (Value.bool m1_10), V.sl 1 (rowsOf (encI .u8) m1_11), V.sl 2 (rowsOf encT45 m1_12)]), (3, O.box 26 [V.p (Value.int .i64 m3), V.p (Value.int .i64 m3_1), V.p (Value.int .u32 m3_2), V.p (Value.int .u32 m3_3), V.p (Value.int .u32 m3_4), V.p (Value.int .i64 m3_5), V.p (Value.int .i64 m3_6), V.p (Value.int .i64 m3_7), V.p (Value.int .i64 m3_8), V.p (Value.int .i64 m3_9), V.p (Value.bool m3_10), V.sl 1 (rowsOf (encI .u8) m3_11), V.sl 2 (rowsOf encT45 m3_12)])] } : St)) = some r.st := by
  unfold f15_ai10brrz_j5 at hF
  simp (maxSteps := 999999) (disch := first | exact D (by decide) | exact K (by kernel_rfl)) only [EA, EE, EG, EF, ED, ofVal, ofVal1, ofCell, lenV, aggEqV, cellEq, intBin, isShift, V.ids, lendV, frz, flatV, cellsOf, addOff, firstReg, oneOf, cellsAt, isAggD, isPure, ↓reduceIte, reduceCtorEq, Nat.reduceAdd, Nat.reduceSub, Nat.reduceMul, Nat.reduceLeDiff, Nat.reduceEqDiff, Nat.reduceBEq, Int.reduceToNat, Int.reduceLE, Int.reduceLT, Nat.reduceLT, Int.reduceBEq, Int.reduceBNe, Int.reduceEq, String.reduceEq, xk B15 [2, 2, 2, 2] .sq rfl, xk B15 [1, 2, 2, 2, 2] .sq rfl, show (nav B15 [1, 1, 2, 2, 2, 2]) = Code.region 21 _ false from rfl, hk_15_21, hz_15_21, hs_15_21]
  replace hF := cond_some hF
  rcases hF with ⟨h1, hF⟩ | ⟨h1, hF⟩
  · cases hF
    simp (maxSteps := 999999) (disch := first | exact D (by decide) | exact K (by kernel_rfl)) only [EA, EE, EG, EF, ED, ofVal, ofVal1, ofCell, lenV, aggEqV, cellEq, intBin, isShift, V.ids, lendV, frz, flatV, cellsOf, addOff, firstReg, oneOf, cellsAt, isAggD, isPure, ↓reduceIte, reduceCtorEq, Nat.reduceAdd, Nat.reduceSub, Nat.reduceMul, Nat.reduceLeDiff, Nat.reduceEqDiff, Nat.reduceBEq, Int.reduceToNat, Int.reduceLE, Int.reduceLT, Nat.reduceLT, Int.reduceBEq, Int.reduceBNe, Int.reduceEq, String.reduceEq, xk B15 [2, 1, 2, 2, 2, 2] (.cd 153) rfl, xk B15 [2, 2, 1, 2, 2, 2, 2] .sq rfl, show (nav B15 [1, 2, 2, 1, 2, 2, 2, 2]) = Code.region 22 _ false from rfl, hk_15_22, hz_15_22, hs_15_22, xk B15 [2, 2, 2, 1, 2, 2, 2, 2] .rt rfl, finK_norm, finK_ret, fin15, R15_ai10brrz.st, h1]
  · replace hF := Option.bind_eq_some_iff.1 hF
    obtain ⟨o2, h3, hF⟩ := hF
    have hc4 := f9_ai10brrzai10brrz_ok k m1 m1_1 m1_2 m1_3 m1_4 m1_5 m1_6 m1_7 m1_8 m1_9 m1_10 m1_11 m1_12 m3 m3_1 m3_2 m3_3 m3_4 m3_5 m3_6 m3_7 m3_8 m3_9 m3_10 m3_11 m3_12 _ h3
    cases o2 with
    | o0 v5 =>
      (try dsimp only at hF)
      (try simp only [NM, EE, R9_ai10brrzai10brrz.st] at hc4)
      simp (maxSteps := 999999) (disch := first | exact D (by decide) | exact K (by kernel_rfl)) only [EA, EE, EG, EF, ED, ofVal, ofVal1, ofCell, lenV, aggEqV, cellEq, intBin, isShift, V.ids, lendV, frz, flatV, cellsOf, addOff, firstReg, oneOf, cellsAt, isAggD, isPure, ↓reduceIte, reduceCtorEq, Nat.reduceAdd, Nat.reduceSub, Nat.reduceMul, Nat.reduceLeDiff, Nat.reduceEqDiff, Nat.reduceBEq, Int.reduceToNat, Int.reduceLE, Int.reduceLT, Nat.reduceLT, Int.reduceBEq, Int.reduceBNe, Int.reduceEq, String.reduceEq, u_26, i_26, is_26, ib_26, iz_26, callStep, calleeOf, gv, List.contains, xk B15 [2, 1, 2, 2, 2, 2] (.cd 153) rfl, h1, hc4]
      replace hF := cond_some hF
      rcases hF with ⟨h6, hF⟩ | ⟨h6, hF⟩
      · cases hF
        simp (maxSteps := 999999) (disch := first | exact D (by decide) | exact K (by kernel_rfl)) only [EA, EE, EG, EF, ED, ofVal, ofVal1, ofCell, lenV, aggEqV, cellEq, intBin, isShift, V.ids, lendV, frz, flatV, cellsOf, addOff, firstReg, oneOf, cellsAt, isAggD, isPure, ↓reduceIte, reduceCtorEq, Nat.reduceAdd, Nat.reduceSub, Nat.reduceMul, Nat.reduceLeDiff, Nat.reduceEqDiff, Nat.reduceBEq, Int.reduceToNat, Int.reduceLE, Int.reduceLT, Nat.reduceLT, Int.reduceBEq, Int.reduceBNe, Int.reduceEq, String.reduceEq, xk B15 [2, 2, 1, 2, 2, 2, 2] .sq rfl, show (nav B15 [1, 2, 2, 1, 2, 2, 2, 2]) = Code.region 22 _ false from rfl, hk_15_22, hz_15_22, hs_15_22, xk B15 [2, 2, 2, 1, 2, 2, 2, 2] .rt rfl, finK_norm, finK_ret, fin15, R15_ai10brrz.st, h1, hc4, h6]
      · have hJ := f15_ai10brrz_j2_ok k false _ hF
        simp (maxSteps := 999999) (disch := first | exact D (by decide) | exact K (by kernel_rfl)) only [EA, EE, EG, EF, ED, ofVal, ofVal1, ofCell, lenV, aggEqV, cellEq, intBin, isShift, V.ids, lendV, frz, flatV, cellsOf, addOff, firstReg, oneOf, cellsAt, isAggD, isPure, ↓reduceIte, reduceCtorEq, Nat.reduceAdd, Nat.reduceSub, Nat.reduceMul, Nat.reduceLeDiff, Nat.reduceEqDiff, Nat.reduceBEq, Int.reduceToNat, Int.reduceLE, Int.reduceLT, Nat.reduceLT, Int.reduceBEq, Int.reduceBNe, Int.reduceEq, String.reduceEq, xk B15 [3, 2, 1, 2, 2, 2, 2] .sk rfl, h1, hc4, h6]
        try simp only [NM, EE] at hJ
        exact hJ
noncomputable def f15_ai10brrz_j4 (k : Nat) (x4 : Bool) (x22 : Int) (x143 : Bool) (m1 : Int) (m1_1 : Int) (m1_2 : Int) (m1_3 : Int) (m1_4 : Int) (m1_5 : Int) (m1_6 : Int) (m1_7 : Int) (m1_8 : Int) (m1_9 : Int) (m1_10 : Bool) (m1_11 : List Int) (m1_12 : List T45) (m3 : Int) (m3_1 : Int) (m3_2 : Int) (m3_3 : Int) (m3_4 : Int) (m3_5 : Int) (m3_6 : Int) (m3_7 : Int) (m3_8 : Int) (m3_9 : Int) (m3_10 : Bool) (m3_11 : List Int) (m3_12 : List T45) : Option R15_ai10brrz :=
  cond (x143)
    (f15_ai10brrz_j5 k x4 x22 true m1 m1_1 m1_2 m1_3 m1_4 m1_5 m1_6 m1_7 m1_8 m1_9 m1_10 m1_11 m1_12 m3 m3_1 m3_2 m3_3 m3_4 m3_5 m3_6 m3_7 m3_8 m3_9 m3_10 m3_11 m3_12)
    (f15_ai10brrz_j1 k false m1 m1_1 m1_2 m1_3 m1_4 m1_5 m1_6 m1_7 m1_8 m1_9 m1_10 m1_11 m1_12 m3 m3_1 m3_2 m3_3 m3_4 m3_5 m3_6 m3_7 m3_8 m3_9 m3_10 m3_11 m3_12)
theorem f15_ai10brrz_j4_ok (k : Nat) (x4 : Bool) (x22 : Int) (x143 : Bool) (m1 : Int) (m1_1 : Int) (m1_2 : Int) (m1_3 : Int) (m1_4 : Int) (m1_5 : Int) (m1_6 : Int) (m1_7 : Int) (m1_8 : Int) (m1_9 : Int) (m1_10 : Bool) (m1_11 : List Int) (m1_12 : List T45) (m3 : Int) (m3_1 : Int) (m3_2 : Int) (m3_3 : Int) (m3_4 : Int) (m3_5 : Int) (m3_6 : Int) (m3_7 : Int) (m3_8 : Int) (m3_9 : Int) (m3_10 : Bool) (m3_11 : List Int) (m3_12 : List T45) (r : R15_ai10brrz) (hF : f15_ai10brrz_j4 k x4 x22 x143 m1 m1_1 m1_2 m1_3 m1_4 m1_5 m1_6 m1_7 m1_8 m1_9 m1_10 m1_11 m1_12 m3 m3_1 m3_2 m3_3 m3_4 m3_5 m3_6 m3_7 m3_8 m3_9 m3_10 m3_11 m3_12 = some r) : finK Try.prog Try.f15 0 (SQ 15 k (nav B15 [2, 2, 2, 2]) (blockK 0 (EX 15 k (nav B15 [2, 3, 2, 3, 2, 3, 2, 3, 2, 2, 2, 1, 2, 2, 2]) ({ n := 154, F := [(1, V.ptr 1 0), (3, V.ptr 3 0), (4, V.p (Value.bool x4)), (22, V.p (Value.int .i64 x22)), (143, V.p (Value.bool x143))], M := [(1, O.box 26 [V.p (Value.int .i64 m1), V.p (Value.int .i64 m1_1), V.p (Value.int .u32 m1_2), V.p (Value.int .u32 m1_3), V.p (Value.int .u32 m1_4), V.p (Value.int .i64 m1_5), V.p (Value.int .i64 m1_6), V.p (Value.int .i64 m1_7), V.p (Value.int .i64 m1_8), V.p (Value.int .i64 m1_9), V.p (Value.bool m1_10), V.sl 1 (rowsOf (encI .u8) m1_11), V.sl 2 (rowsOf encT45 m1_12)]), (3, O.box 26 [V.p (Value.int .i64 m3), V.p (Value.int .i64 m3_1), V.p (Value.int .u32 m3_2), V.p (Value.int .u32 m3_3), V.p (Value.int .u32 m3_4), V.p (Value.int .i64 m3_5), V.p (Value.int .i64 m3_6), V.p (Value.int .i64 m3_7), V.p (Value.int .i64 m3_8), V.p (Value.int .i64 m3_9), V.p (Value.bool m3_10), V.sl 1 (rowsOf (encI .u8) m3_11), V.sl 2 (rowsOf encT45 m3_12)])] } : St)))) = some r.st := by
  unfold f15_ai10brrz_j4 at hF
  simp (maxSteps := 999999) (disch := first | exact D (by decide) | exact K (by kernel_rfl)) only [EA, EE, EG, EF, ED, ofVal, ofVal1, ofCell, lenV, aggEqV, cellEq, intBin, isShift, V.ids, lendV, frz, flatV, cellsOf, addOff, firstReg, oneOf, cellsAt, isAggD, isPure, ↓reduceIte, reduceCtorEq, Nat.reduceAdd, Nat.reduceSub, Nat.reduceMul, Nat.reduceLeDiff, Nat.reduceEqDiff, Nat.reduceBEq, Int.reduceToNat, Int.reduceLE, Int.reduceLT, Nat.reduceLT, Int.reduceBEq, Int.reduceBNe, Int.reduceEq, String.reduceEq, xk B15 [2, 3, 2, 3, 2, 3, 2, 3, 2, 2, 2, 1, 2, 2, 2] (.cd 143) rfl]
  replace hF := cond_some hF
  rcases hF with ⟨h1, hF⟩ | ⟨h1, hF⟩
  · have hJ := f15_ai10brrz_j5_ok k x4 x22 true m1 m1_1 m1_2 m1_3 m1_4 m1_5 m1_6 m1_7 m1_8 m1_9 m1_10 m1_11 m1_12 m3 m3_1 m3_2 m3_3 m3_4 m3_5 m3_6 m3_7 m3_8 m3_9 m3_10 m3_11 m3_12 _ hF
    simp (maxSteps := 999999) (disch := first | exact D (by decide) | exact K (by kernel_rfl)) only [EA, EE, EG, EF, ED, ofVal, ofVal1, ofCell, lenV, aggEqV, cellEq, intBin, isShift, V.ids, lendV, frz, flatV, cellsOf, addOff, firstReg, oneOf, cellsAt, isAggD, isPure, ↓reduceIte, reduceCtorEq, Nat.reduceAdd, Nat.reduceSub, Nat.reduceMul, Nat.reduceLeDiff, Nat.reduceEqDiff, Nat.reduceBEq, Int.reduceToNat, Int.reduceLE, Int.reduceLT, Nat.reduceLT, Int.reduceBEq, Int.reduceBNe, Int.reduceEq, String.reduceEq, xk B15 [2, 2, 3, 2, 3, 2, 3, 2, 3, 2, 2, 2, 1, 2, 2, 2] .sk rfl, h1]
    try simp only [NM, EE] at hJ
    exact hJ
  · have hJ := f15_ai10brrz_j1_ok k false m1 m1_1 m1_2 m1_3 m1_4 m1_5 m1_6 m1_7 m1_8 m1_9 m1_10 m1_11 m1_12 m3 m3_1 m3_2 m3_3 m3_4 m3_5 m3_6 m3_7 m3_8 m3_9 m3_10 m3_11 m3_12 _ hF
    simp (maxSteps := 999999) (disch := first | exact D (by decide) | exact K (by kernel_rfl)) only [EA, EE, EG, EF, ED, ofVal, ofVal1, ofCell, lenV, aggEqV, cellEq, intBin, isShift, V.ids, lendV, frz, flatV, cellsOf, addOff, firstReg, oneOf, cellsAt, isAggD, isPure, ↓reduceIte, reduceCtorEq, Nat.reduceAdd, Nat.reduceSub, Nat.reduceMul, Nat.reduceLeDiff, Nat.reduceEqDiff, Nat.reduceBEq, Int.reduceToNat, Int.reduceLE, Int.reduceLT, Nat.reduceLT, Int.reduceBEq, Int.reduceBNe, Int.reduceEq, String.reduceEq, show (nav B15 [3, 2, 3, 2, 3, 2, 3, 2, 3, 2, 2, 2, 1, 2, 2, 2]) = Code.region 4 _ false from rfl, hk_15_4, hz_15_4, hs_15_4, h1]
    try simp only [NM, EE] at hJ
    exact hJ
noncomputable def f15_ai10brrz_j7 (k : Nat) (x4 : Bool) (x143 : Bool) (m1 : Int) (m1_1 : Int) (m1_2 : Int) (m1_3 : Int) (m1_4 : Int) (m1_5 : Int) (m1_6 : Int) (m1_7 : Int) (m1_8 : Int) (m1_9 : Int) (m1_10 : Bool) (m1_11 : List Int) (m1_12 : List T45) (m3 : Int) (m3_1 : Int) (m3_2 : Int) (m3_3 : Int) (m3_4 : Int) (m3_5 : Int) (m3_6 : Int) (m3_7 : Int) (m3_8 : Int) (m3_9 : Int) (m3_10 : Bool) (m3_11 : List Int) (m3_12 : List T45) : Option R15_ai10brrz :=
  cond ((!x4))
    (some (R15_ai10brrz.o0 200))
    (
      Option.bind (f9_ai10brrzai10brrz k m1 m1_1 m1_2 m1_3 m1_4 m1_5 m1_6 m1_7 m1_8 m1_9 m1_10 m1_11 m1_12 m3 m3_1 m3_2 m3_3 m3_4 m3_5 m3_6 m3_7 m3_8 m3_9 m3_10 m3_11 m3_12) fun o2 =>
        match o2 with
        | .o0 v5 =>
          cond ((!v5))
            (some (R15_ai10brrz.o0 200))
            (f15_ai10brrz_j2 k false))
theorem f15_ai10brrz_j7_ok (k : Nat) (x4 : Bool) (x143 : Bool) (m1 : Int) (m1_1 : Int) (m1_2 : Int) (m1_3 : Int) (m1_4 : Int) (m1_5 : Int) (m1_6 : Int) (m1_7 : Int) (m1_8 : Int) (m1_9 : Int) (m1_10 : Bool) (m1_11 : List Int) (m1_12 : List T45) (m3 : Int) (m3_1 : Int) (m3_2 : Int) (m3_3 : Int) (m3_4 : Int) (m3_5 : Int) (m3_6 : Int) (m3_7 : Int) (m3_8 : Int) (m3_9 : Int) (m3_10 : Bool) (m3_11 : List Int) (m3_12 : List T45) (r : R15_ai10brrz) (hF : f15_ai10brrz_j7 k x4 x143 m1 m1_1 m1_2 m1_3 m1_4 m1_5 m1_6 m1_7 m1_8 m1_9 m1_10 m1_11 m1_12 m3 m3_1 m3_2 m3_3 m3_4 m3_5 m3_6 m3_7 m3_8 m3_9 m3_10 m3_11 m3_12 = some r) : finK Try.prog Try.f15 0 (EX 15 k (nav B15 [2, 2, 2, 2]) ({ n := 154, F := [(1, V.ptr 1 0), (3, V.ptr 3 0), (4, V.p (Value.bool x4)), (143, V.p (Value.bool x143))], M := [(1, O.box 26 [V.p (Value.int .i64 m1), V.p (Value.int .i64 m1_1), V.p (Value.int .u32 m1_2), V.p (Value.int .u32 m1_3), V.p (Value.int .u32 m1_4), V.p (Value.int .i64 m1_5), V.p (Value.int .i64 m1_6), V.p (Value.int .i64 m1_7), V.p (Value.int .i64 m1_8), V.p (Value.int .i64 m1_9), V.p (Value.bool m1_10), V.sl 1 (rowsOf (encI .u8) m1_11), V.sl 2 (rowsOf encT45 m1_12)]), (3, O.box 26 [V.p (Value.int .i64 m3), V.p (Value.int .i64 m3_1), V.p (Value.int .u32 m3_2), V.p (Value.int .u32 m3_3), V.p (Value.int .u32 m3_4), V.p (Value.int .i64 m3_5), V.p (Value.int .i64 m3_6), V.p (Value.int .i64 m3_7), V.p (Value.int .i64 m3_8), V.p (Value.int .i64 m3_9), V.p (Value.bool m3_10), V.sl 1 (rowsOf (encI .u8) m3_11), V.sl 2 (rowsOf encT45 m3_12)])] } : St)) = some r.st := by
  unfold f15_ai10brrz_j7 at hF
  simp (maxSteps := 999999) (disch := first | exact D (by decide) | exact K (by kernel_rfl)) only [EA, EE, EG, EF, ED, ofVal, ofVal1, ofCell, lenV, aggEqV, cellEq, intBin, isShift, V.ids, lendV, frz, flatV, cellsOf, addOff, firstReg, oneOf, cellsAt, isAggD, isPure, ↓reduceIte, reduceCtorEq, Nat.reduceAdd, Nat.reduceSub, Nat.reduceMul, Nat.reduceLeDiff, Nat.reduceEqDiff, Nat.reduceBEq, Int.reduceToNat, Int.reduceLE, Int.reduceLT, Nat.reduceLT, Int.reduceBEq, Int.reduceBNe, Int.reduceEq, String.reduceEq, xk B15 [2, 2, 2, 2] .sq rfl, xk B15 [1, 2, 2, 2, 2] .sq rfl, show (nav B15 [1, 1, 2, 2, 2, 2]) = Code.region 21 _ false from rfl, hk_15_21, hz_15_21, hs_15_21]
  replace hF := cond_some hF
  rcases hF with ⟨h1, hF⟩ | ⟨h1, hF⟩
  · cases hF
    simp (maxSteps := 999999) (disch := first | exact D (by decide) | exact K (by kernel_rfl)) only [EA, EE, EG, EF, ED, ofVal, ofVal1, ofCell, lenV, aggEqV, cellEq, intBin, isShift, V.ids, lendV, frz, flatV, cellsOf, addOff, firstReg, oneOf, cellsAt, isAggD, isPure, ↓reduceIte, reduceCtorEq, Nat.reduceAdd, Nat.reduceSub, Nat.reduceMul, Nat.reduceLeDiff, Nat.reduceEqDiff, Nat.reduceBEq, Int.reduceToNat, Int.reduceLE, Int.reduceLT, Nat.reduceLT, Int.reduceBEq, Int.reduceBNe, Int.reduceEq, String.reduceEq, xk B15 [2, 1, 2, 2, 2, 2] (.cd 153) rfl, xk B15 [2, 2, 1, 2, 2, 2, 2] .sq rfl, show (nav B15 [1, 2, 2, 1, 2, 2, 2, 2]) = Code.region 22 _ false from rfl, hk_15_22, hz_15_22, hs_15_22, xk B15 [2, 2, 2, 1, 2, 2, 2, 2] .rt rfl, finK_norm, finK_ret, fin15, R15_ai10brrz.st, h1]
  · replace hF := Option.bind_eq_some_iff.1 hF
    obtain ⟨o2, h3, hF⟩ := hF
    have hc4 := f9_ai10brrzai10brrz_ok k m1 m1_1 m1_2 m1_3 m1_4 m1_5 m1_6 m1_7 m1_8 m1_9 m1_10 m1_11 m1_12 m3 m3_1 m3_2 m3_3 m3_4 m3_5 m3_6 m3_7 m3_8 m3_9 m3_10 m3_11 m3_12 _ h3
    cases o2 with
    | o0 v5 =>
      (try dsimp only at hF)
      (try simp only [NM, EE, R9_ai10brrzai10brrz.st] at hc4)
      simp (maxSteps := 999999) (disch := first | exact D (by decide) | exact K (by kernel_rfl)) only [EA, EE, EG, EF, ED, ofVal, ofVal1, ofCell, lenV, aggEqV, cellEq, intBin, isShift, V.ids, lendV, frz, flatV, cellsOf, addOff, firstReg, oneOf, cellsAt, isAggD, isPure, ↓reduceIte, reduceCtorEq, Nat.reduceAdd, Nat.reduceSub, Nat.reduceMul, Nat.reduceLeDiff, Nat.reduceEqDiff, Nat.reduceBEq, Int.reduceToNat, Int.reduceLE, Int.reduceLT, Nat.reduceLT, Int.reduceBEq, Int.reduceBNe, Int.reduceEq, String.reduceEq, u_26, i_26, is_26, ib_26, iz_26, callStep, calleeOf, gv, List.contains, xk B15 [2, 1, 2, 2, 2, 2] (.cd 153) rfl, h1, hc4]
      replace hF := cond_some hF
      rcases hF with ⟨h6, hF⟩ | ⟨h6, hF⟩
      · cases hF
        simp (maxSteps := 999999) (disch := first | exact D (by decide) | exact K (by kernel_rfl)) only [EA, EE, EG, EF, ED, ofVal, ofVal1, ofCell, lenV, aggEqV, cellEq, intBin, isShift, V.ids, lendV, frz, flatV, cellsOf, addOff, firstReg, oneOf, cellsAt, isAggD, isPure, ↓reduceIte, reduceCtorEq, Nat.reduceAdd, Nat.reduceSub, Nat.reduceMul, Nat.reduceLeDiff, Nat.reduceEqDiff, Nat.reduceBEq, Int.reduceToNat, Int.reduceLE, Int.reduceLT, Nat.reduceLT, Int.reduceBEq, Int.reduceBNe, Int.reduceEq, String.reduceEq, xk B15 [2, 2, 1, 2, 2, 2, 2] .sq rfl, show (nav B15 [1, 2, 2, 1, 2, 2, 2, 2]) = Code.region 22 _ false from rfl, hk_15_22, hz_15_22, hs_15_22, xk B15 [2, 2, 2, 1, 2, 2, 2, 2] .rt rfl, finK_norm, finK_ret, fin15, R15_ai10brrz.st, h1, hc4, h6]
      · have hJ := f15_ai10brrz_j2_ok k false _ hF
        simp (maxSteps := 999999) (disch := first | exact D (by decide) | exact K (by kernel_rfl)) only [EA, EE, EG, EF, ED, ofVal, ofVal1, ofCell, lenV, aggEqV, cellEq, intBin, isShift, V.ids, lendV, frz, flatV, cellsOf, addOff, firstReg, oneOf, cellsAt, isAggD, isPure, ↓reduceIte, reduceCtorEq, Nat.reduceAdd, Nat.reduceSub, Nat.reduceMul, Nat.reduceLeDiff, Nat.reduceEqDiff, Nat.reduceBEq, Int.reduceToNat, Int.reduceLE, Int.reduceLT, Nat.reduceLT, Int.reduceBEq, Int.reduceBNe, Int.reduceEq, String.reduceEq, xk B15 [3, 2, 1, 2, 2, 2, 2] .sk rfl, h1, hc4, h6]
        try simp only [NM, EE] at hJ
        exact hJ
noncomputable def f15_ai10brrz_j6 (k : Nat) (x4 : Bool) (x143 : Bool) (m1 : Int) (m1_1 : Int) (m1_2 : Int) (m1_3 : Int) (m1_4 : Int) (m1_5 : Int) (m1_6 : Int) (m1_7 : Int) (m1_8 : Int) (m1_9 : Int) (m1_10 : Bool) (m1_11 : List Int) (m1_12 : List T45) (m3 : Int) (m3_1 : Int) (m3_2 : Int) (m3_3 : Int) (m3_4 : Int) (m3_5 : Int) (m3_6 : Int) (m3_7 : Int) (m3_8 : Int) (m3_9 : Int) (m3_10 : Bool) (m3_11 : List Int) (m3_12 : List T45) : Option R15_ai10brrz :=
  cond (x143)
    (f15_ai10brrz_j7 k x4 true m1 m1_1 m1_2 m1_3 m1_4 m1_5 m1_6 m1_7 m1_8 m1_9 m1_10 m1_11 m1_12 m3 m3_1 m3_2 m3_3 m3_4 m3_5 m3_6 m3_7 m3_8 m3_9 m3_10 m3_11 m3_12)
    (f15_ai10brrz_j1 k false m1 m1_1 m1_2 m1_3 m1_4 m1_5 m1_6 m1_7 m1_8 m1_9 m1_10 m1_11 m1_12 m3 m3_1 m3_2 m3_3 m3_4 m3_5 m3_6 m3_7 m3_8 m3_9 m3_10 m3_11 m3_12)
theorem f15_ai10brrz_j6_ok (k : Nat) (x4 : Bool) (x143 : Bool) (m1 : Int) (m1_1 : Int) (m1_2 : Int) (m1_3 : Int) (m1_4 : Int) (m1_5 : Int) (m1_6 : Int) (m1_7 : Int) (m1_8 : Int) (m1_9 : Int) (m1_10 : Bool) (m1_11 : List Int) (m1_12 : List T45) (m3 : Int) (m3_1 : Int) (m3_2 : Int) (m3_3 : Int) (m3_4 : Int) (m3_5 : Int) (m3_6 : Int) (m3_7 : Int) (m3_8 : Int) (m3_9 : Int) (m3_10 : Bool) (m3_11 : List Int) (m3_12 : List T45) (r : R15_ai10brrz) (hF : f15_ai10brrz_j6 k x4 x143 m1 m1_1 m1_2 m1_3 m1_4 m1_5 m1_6 m1_7 m1_8 m1_9 m1_10 m1_11 m1_12 m3 m3_1 m3_2 m3_3 m3_4 m3_5 m3_6 m3_7 m3_8 m3_9 m3_10 m3_11 m3_12 = some r) : finK Try.prog Try.f15 0 (SQ 15 k (nav B15 [2, 2, 2, 2]) (blockK 0 (EX 15 k (nav B15 [2, 3, 2, 3, 2, 3, 2, 3, 2, 2, 2, 1, 2, 2, 2]) ({ n := 154, F := [(1, V.ptr 1 0), (3, V.ptr 3 0), (4, V.p (Value.bool x4)), (143, V.p (Value.bool x143))], M := [(1, O.box 26 [V.p (Value.int .i64 m1), V.p (Value.int .i64 m1_1), V.p (Value.int .u32 m1_2), V.p (Value.int .u32 m1_3), V.p (Value.int .u32 m1_4), V.p (Value.int .i64 m1_5), V.p (Value.int .i64 m1_6), V.p (Value.int .i64 m1_7), V.p (Value.int .i64 m1_8), V.p (Value.int .i64 m1_9), V.p (Value.bool m1_10), V.sl 1 (rowsOf (encI .u8) m1_11), V.sl 2 (rowsOf encT45 m1_12)]), (3, O.box 26 [V.p (Value.int .i64 m3), V.p (Value.int .i64 m3_1), V.p (Value.int .u32 m3_2), V.p (Value.int .u32 m3_3), V.p (Value.int .u32 m3_4), V.p (Value.int .i64 m3_5), V.p (Value.int .i64 m3_6), V.p (Value.int .i64 m3_7), V.p (Value.int .i64 m3_8), V.p (Value.int .i64 m3_9), V.p (Value.bool m3_10), V.sl 1 (rowsOf (encI .u8) m3_11), V.sl 2 (rowsOf encT45 m3_12)])] } : St)))) = some r.st := by
  unfold f15_ai10brrz_j6 at hF
  simp (maxSteps := 999999) (disch := first | exact D (by decide) | exact K (by kernel_rfl)) only [EA, EE, EG, EF, ED, ofVal, ofVal1, ofCell, lenV, aggEqV, cellEq, intBin, isShift, V.ids, lendV, frz, flatV, cellsOf, addOff, firstReg, oneOf, cellsAt, isAggD, isPure, ↓reduceIte, reduceCtorEq, Nat.reduceAdd, Nat.reduceSub, Nat.reduceMul, Nat.reduceLeDiff, Nat.reduceEqDiff, Nat.reduceBEq, Int.reduceToNat, Int.reduceLE, Int.reduceLT, Nat.reduceLT, Int.reduceBEq, Int.reduceBNe, Int.reduceEq, String.reduceEq, xk B15 [2, 3, 2, 3, 2, 3, 2, 3, 2, 2, 2, 1, 2, 2, 2] (.cd 143) rfl]
  replace hF := cond_some hF
  rcases hF with ⟨h1, hF⟩ | ⟨h1, hF⟩
  · have hJ := f15_ai10brrz_j7_ok k x4 true m1 m1_1 m1_2 m1_3 m1_4 m1_5 m1_6 m1_7 m1_8 m1_9 m1_10 m1_11 m1_12 m3 m3_1 m3_2 m3_3 m3_4 m3_5 m3_6 m3_7 m3_8 m3_9 m3_10 m3_11 m3_12 _ hF
    simp (maxSteps := 999999) (disch := first | exact D (by decide) | exact K (by kernel_rfl)) only [EA, EE, EG, EF, ED, ofVal, ofVal1, ofCell, lenV, aggEqV, cellEq, intBin, isShift, V.ids, lendV, frz, flatV, cellsOf, addOff, firstReg, oneOf, cellsAt, isAggD, isPure, ↓reduceIte, reduceCtorEq, Nat.reduceAdd, Nat.reduceSub, Nat.reduceMul, Nat.reduceLeDiff, Nat.reduceEqDiff, Nat.reduceBEq, Int.reduceToNat, Int.reduceLE, Int.reduceLT, Nat.reduceLT, Int.reduceBEq, Int.reduceBNe, Int.reduceEq, String.reduceEq, xk B15 [2, 2, 3, 2, 3, 2, 3, 2, 3, 2, 2, 2, 1, 2, 2, 2] .sk rfl, h1]
    try simp only [NM, EE] at hJ
    exact hJ
  · have hJ := f15_ai10brrz_j1_ok k false m1 m1_1 m1_2 m1_3 m1_4 m1_5 m1_6 m1_7 m1_8 m1_9 m1_10 m1_11 m1_12 m3 m3_1 m3_2 m3_3 m3_4 m3_5 m3_6 m3_7 m3_8 m3_9 m3_10 m3_11 m3_12 _ hF
    simp (maxSteps := 999999) (disch := first | exact D (by decide) | exact K (by kernel_rfl)) only [EA, EE, EG, EF, ED, ofVal, ofVal1, ofCell, lenV, aggEqV, cellEq, intBin, isShift, V.ids, lendV, frz, flatV, cellsOf, addOff, firstReg, oneOf, cellsAt, isAggD, isPure, ↓reduceIte, reduceCtorEq, Nat.reduceAdd, Nat.reduceSub, Nat.reduceMul, Nat.reduceLeDiff, Nat.reduceEqDiff, Nat.reduceBEq, Int.reduceToNat, Int.reduceLE, Int.reduceLT, Nat.reduceLT, Int.reduceBEq, Int.reduceBNe, Int.reduceEq, String.reduceEq, show (nav B15 [3, 2, 3, 2, 3, 2, 3, 2, 3, 2, 2, 2, 1, 2, 2, 2]) = Code.region 4 _ false from rfl, hk_15_4, hz_15_4, hs_15_4, h1]
    try simp only [NM, EE] at hJ
    exact hJ
noncomputable def f15_ai10brrz_j3 (k : Nat) (x4 : Bool) (x22 : Int) (x131 : Bool) (m1 : Int) (m1_1 : Int) (m1_2 : Int) (m1_3 : Int) (m1_4 : Int) (m1_5 : Int) (m1_6 : Int) (m1_7 : Int) (m1_8 : Int) (m1_9 : Int) (m1_10 : Bool) (m1_11 : List Int) (m1_12 : List T45) (m3 : Int) (m3_1 : Int) (m3_2 : Int) (m3_3 : Int) (m3_4 : Int) (m3_5 : Int) (m3_6 : Int) (m3_7 : Int) (m3_8 : Int) (m3_9 : Int) (m3_10 : Bool) (m3_11 : List Int) (m3_12 : List T45) : Option R15_ai10brrz :=
  cond (x131)
    (
      cond (x4)
        (
          Option.bind (f27_iii k m1_9 0 255) fun o3 =>
            match o3 with
            | .o0 v6 =>
              f15_ai10brrz_j1 k v6 m1 m1_1 m1_2 m1_3 m1_4 m1_5 m1_6 m1_7 m1_8 m1_9 m1_10 m1_11 m1_12 m3 m3_1 m3_2 m3_3 m3_4 m3_5 m3_6 m3_7 m3_8 m1_9 m3_10 m3_11 m3_12)
        (f15_ai10brrz_j1 k false m1 m1_1 m1_2 m1_3 m1_4 m1_5 m1_6 m1_7 m1_8 m1_9 m1_10 m1_11 m1_12 m3 m3_1 m3_2 m3_3 m3_4 m3_5 m3_6 m3_7 m3_8 m1_9 m3_10 m3_11 m3_12))
    (
      cond ((x22 == 5))
        (f15_ai10brrz_j4 k x4 x22 true m1 m1_1 m1_2 m1_3 m1_4 m1_5 m1_6 m1_7 m1_8 m1_9 m1_10 m1_11 m1_12 m3 m3_1 m3_2 m3_3 m3_4 m3_5 m3_6 m3_7 m3_8 m3_9 m3_10 m3_11 m3_12)
        (f15_ai10brrz_j6 k x4 (x22 == 7) m1 m1_1 m1_2 m1_3 m1_4 m1_5 m1_6 m1_7 m1_8 m1_9 m1_10 m1_11 m1_12 m3 m3_1 m3_2 m3_3 m3_4 m3_5 m3_6 m3_7 m3_8 m3_9 m3_10 m3_11 m3_12))
theorem f15_ai10brrz_j3_ok (k : Nat) (x4 : Bool) (x22 : Int) (x131 : Bool) (m1 : Int) (m1_1 : Int) (m1_2 : Int) (m1_3 : Int) (m1_4 : Int) (m1_5 : Int) (m1_6 : Int) (m1_7 : Int) (m1_8 : Int) (m1_9 : Int) (m1_10 : Bool) (m1_11 : List Int) (m1_12 : List T45) (m3 : Int) (m3_1 : Int) (m3_2 : Int) (m3_3 : Int) (m3_4 : Int) (m3_5 : Int) (m3_6 : Int) (m3_7 : Int) (m3_8 : Int) (m3_9 : Int) (m3_10 : Bool) (m3_11 : List Int) (m3_12 : List T45) (r : R15_ai10brrz) (hF : f15_ai10brrz_j3 k x4 x22 x131 m1 m1_1 m1_2 m1_3 m1_4 m1_5 m1_6 m1_7 m1_8 m1_9 m1_10 m1_11 m1_12 m3 m3_1 m3_2 m3_3 m3_4 m3_5 m3_6 m3_7 m3_8 m3_9 m3_10 m3_11 m3_12 = some r) : finK Try.prog Try.f15 0 (SQ 15 k (nav B15 [2, 2, 2, 2]) (blockK 0 (EX 15 k (nav B15 [2, 3, 2, 3, 2, 3, 2, 2, 2, 1, 2, 2, 2]) ({ n := 154, F := [(1, V.ptr 1 0), (3, V.ptr 3 0), (4, V.p (Value.bool x4)), (22, V.p (Value.int .i64 x22)), (131, V.p (Value.bool x131))], M := [(1, O.box 26 [V.p (Value.int .i64 m1), V.p (Value.int .i64 m1_1), V.p (Value.int .u32 m1_2), V.p (Value.int .u32 m1_3), V.p (Value.int .u32 m1_4), V.p (Value.int .i64 m1_5), V.p (Value.int .i64 m1_6), V.p (Value.int .i64 m1_7), V.p (Value.int .i64 m1_8), V.p (Value.int .i64 m1_9), V.p (Value.bool m1_10), V.sl 1 (rowsOf (encI .u8) m1_11), V.sl 2 (rowsOf encT45 m1_12)]), (3, O.box 26 [V.p (Value.int .i64 m3), V.p (Value.int .i64 m3_1), V.p (Value.int .u32 m3_2), V.p (Value.int .u32 m3_3), V.p (Value.int .u32 m3_4), V.p (Value.int .i64 m3_5), V.p (Value.int .i64 m3_6), V.p (Value.int .i64 m3_7), V.p (Value.int .i64 m3_8), V.p (Value.int .i64 m3_9), V.p (Value.bool m3_10), V.sl 1 (rowsOf (encI .u8) m3_11), V.sl 2 (rowsOf encT45 m3_12)])] } : St)))) = some r.st := by
  unfold f15_ai10brrz_j3 at hF
  simp (maxSteps := 999999) (disch := first | exact D (by decide) | exact K (by kernel_rfl)) only [EA, EE, EG, EF, ED, ofVal, ofVal1, ofCell, lenV, aggEqV, cellEq, intBin, isShift, V.ids, lendV, frz, flatV, cellsOf, addOff, firstReg, oneOf, cellsAt, isAggD, isPure, ↓reduceIte, reduceCtorEq, Nat.reduceAdd, Nat.reduceSub, Nat.reduceMul, Nat.reduceLeDiff, Nat.reduceEqDiff, Nat.reduceBEq, Int.reduceToNat, Int.reduceLE, Int.reduceLT, Nat.reduceLT, Int.reduceBEq, Int.reduceBNe, Int.reduceEq, String.reduceEq, xk B15 [2, 3, 2, 3, 2, 3, 2, 2, 2, 1, 2, 2, 2] (.cd 131) rfl]
  replace hF := cond_some hF
  rcases hF with ⟨h1, hF⟩ | ⟨h1, hF⟩
  · simp (maxSteps := 999999) (disch := first | exact D (by decide) | exact K (by kernel_rfl)) only [EA, EE, EG, EF, ED, ofVal, ofVal1, ofCell, lenV, aggEqV, cellEq, intBin, isShift, V.ids, lendV, frz, flatV, cellsOf, addOff, firstReg, oneOf, cellsAt, isAggD, isPure, ↓reduceIte, reduceCtorEq, Nat.reduceAdd, Nat.reduceSub, Nat.reduceMul, Nat.reduceLeDiff, Nat.reduceEqDiff, Nat.reduceBEq, Int.reduceToNat, Int.reduceLE, Int.reduceLT, Nat.reduceLT, Int.reduceBEq, Int.reduceBNe, Int.reduceEq, String.reduceEq, xk B15 [2, 2, 3, 2, 3, 2, 3, 2, 2, 2, 1, 2, 2, 2] .sq rfl, show (nav B15 [1, 2, 2, 3, 2, 3, 2, 3, 2, 2, 2, 1, 2, 2, 2]) = Code.region 17 _ false from rfl, hk_15_17, hz_15_17, hs_15_17, fieldAddrV, u_26, i_26, is_26, ib_26, iz_26, u_3, i_3, is_3, ib_3, iz_3, show (nav B15 [2, 2, 2, 3, 2, 3, 2, 3, 2, 2, 2, 1, 2, 2, 2]) = Code.region 18 _ false from rfl, hk_15_18, hz_15_18, hs_15_18, h1]
    replace hF := cond_some hF
    rcases hF with ⟨h2, hF⟩ | ⟨h2, hF⟩
    · replace hF := Option.bind_eq_some_iff.1 hF
      obtain ⟨o3, h4, hF⟩ := hF
      have hc5 := f27_iii_ok k m1_9 0 255 _ h4
      cases o3 with
      | o0 v6 =>
        (try dsimp only at hF)
        (try simp only [NM, EE, R27_iii.st] at hc5)
        have hJ := f15_ai10brrz_j1_ok k v6 m1 m1_1 m1_2 m1_3 m1_4 m1_5 m1_6 m1_7 m1_8 m1_9 m1_10 m1_11 m1_12 m3 m3_1 m3_2 m3_3 m3_4 m3_5 m3_6 m3_7 m3_8 m1_9 m3_10 m3_11 m3_12 _ hF
        simp (maxSteps := 999999) (disch := first | exact D (by decide) | exact K (by kernel_rfl)) only [EA, EE, EG, EF, ED, ofVal, ofVal1, ofCell, lenV, aggEqV, cellEq, intBin, isShift, V.ids, lendV, frz, flatV, cellsOf, addOff, firstReg, oneOf, cellsAt, isAggD, isPure, ↓reduceIte, reduceCtorEq, Nat.reduceAdd, Nat.reduceSub, Nat.reduceMul, Nat.reduceLeDiff, Nat.reduceEqDiff, Nat.reduceBEq, Int.reduceToNat, Int.reduceLE, Int.reduceLT, Nat.reduceLT, Int.reduceBEq, Int.reduceBNe, Int.reduceEq, String.reduceEq, fieldAddrV, u_26, i_26, is_26, ib_26, iz_26, u_3, i_3, is_3, ib_3, iz_3, callStep, calleeOf, gv, List.contains, h1, h2, hc5]
        try simp only [NM, EE] at hJ
        exact hJ
    · have hJ := f15_ai10brrz_j1_ok k false m1 m1_1 m1_2 m1_3 m1_4 m1_5 m1_6 m1_7 m1_8 m1_9 m1_10 m1_11 m1_12 m3 m3_1 m3_2 m3_3 m3_4 m3_5 m3_6 m3_7 m3_8 m1_9 m3_10 m3_11 m3_12 _ hF
      simp (maxSteps := 999999) (disch := first | exact D (by decide) | exact K (by kernel_rfl)) only [EA, EE, EG, EF, ED, ofVal, ofVal1, ofCell, lenV, aggEqV, cellEq, intBin, isShift, V.ids, lendV, frz, flatV, cellsOf, addOff, firstReg, oneOf, cellsAt, isAggD, isPure, ↓reduceIte, reduceCtorEq, Nat.reduceAdd, Nat.reduceSub, Nat.reduceMul, Nat.reduceLeDiff, Nat.reduceEqDiff, Nat.reduceBEq, Int.reduceToNat, Int.reduceLE, Int.reduceLT, Nat.reduceLT, Int.reduceBEq, Int.reduceBNe, Int.reduceEq, String.reduceEq, h1, h2]
      try simp only [NM, EE] at hJ
      exact hJ
  · simp (maxSteps := 999999) (disch := first | exact D (by decide) | exact K (by kernel_rfl)) only [EA, EE, EG, EF, ED, ofVal, ofVal1, ofCell, lenV, aggEqV, cellEq, intBin, isShift, V.ids, lendV, frz, flatV, cellsOf, addOff, firstReg, oneOf, cellsAt, isAggD, isPure, ↓reduceIte, reduceCtorEq, Nat.reduceAdd, Nat.reduceSub, Nat.reduceMul, Nat.reduceLeDiff, Nat.reduceEqDiff, Nat.reduceBEq, Int.reduceToNat, Int.reduceLE, Int.reduceLT, Nat.reduceLT, Int.reduceBEq, Int.reduceBNe, Int.reduceEq, String.reduceEq, xk B15 [3, 2, 3, 2, 3, 2, 3, 2, 2, 2, 1, 2, 2, 2] .sq rfl, xk B15 [1, 3, 2, 3, 2, 3, 2, 3, 2, 2, 2, 1, 2, 2, 2] .sq rfl, show (nav B15 [1, 1, 3, 2, 3, 2, 3, 2, 3, 2, 2, 2, 1, 2, 2, 2]) = Code.region 19 _ false from rfl, hk_15_19, hz_15_19, hs_15_19, xk B15 [2, 1, 3, 2, 3, 2, 3, 2, 3, 2, 2, 2, 1, 2, 2, 2] (.cd 143) rfl, h1]
    replace hF := cond_some hF
    rcases hF with ⟨h7, hF⟩ | ⟨h7, hF⟩
    · have hJ := f15_ai10brrz_j4_ok k x4 x22 true m1 m1_1 m1_2 m1_3 m1_4 m1_5 m1_6 m1_7 m1_8 m1_9 m1_10 m1_11 m1_12 m3 m3_1 m3_2 m3_3 m3_4 m3_5 m3_6 m3_7 m3_8 m3_9 m3_10 m3_11 m3_12 _ hF
      simp (maxSteps := 999999) (disch := first | exact D (by decide) | exact K (by kernel_rfl)) only [EA, EE, EG, EF, ED, ofVal, ofVal1, ofCell, lenV, aggEqV, cellEq, intBin, isShift, V.ids, lendV, frz, flatV, cellsOf, addOff, firstReg, oneOf, cellsAt, isAggD, isPure, ↓reduceIte, reduceCtorEq, Nat.reduceAdd, Nat.reduceSub, Nat.reduceMul, Nat.reduceLeDiff, Nat.reduceEqDiff, Nat.reduceBEq, Int.reduceToNat, Int.reduceLE, Int.reduceLT, Nat.reduceLT, Int.reduceBEq, Int.reduceBNe, Int.reduceEq, String.reduceEq, xk B15 [2, 2, 1, 3, 2, 3, 2, 3, 2, 3, 2, 2, 2, 1, 2, 2, 2] .sk rfl, h1, h7]
      try simp only [NM, EE] at hJ
      exact hJ
    · have hJ := f15_ai10brrz_j6_ok k x4 (x22 == 7) m1 m1_1 m1_2 m1_3 m1_4 m1_5 m1_6 m1_7 m1_8 m1_9 m1_10 m1_11 m1_12 m3 m3_1 m3_2 m3_3 m3_4 m3_5 m3_6 m3_7 m3_8 m3_9 m3_10 m3_11 m3_12 _ hF
      simp (maxSteps := 999999) (disch := first | exact D (by decide) | exact K (by kernel_rfl)) only [EA, EE, EG, EF, ED, ofVal, ofVal1, ofCell, lenV, aggEqV, cellEq, intBin, isShift, V.ids, lendV, frz, flatV, cellsOf, addOff, firstReg, oneOf, cellsAt, isAggD, isPure, ↓reduceIte, reduceCtorEq, Nat.reduceAdd, Nat.reduceSub, Nat.reduceMul, Nat.reduceLeDiff, Nat.reduceEqDiff, Nat.reduceBEq, Int.reduceToNat, Int.reduceLE, Int.reduceLT, Nat.reduceLT, Int.reduceBEq, Int.reduceBNe, Int.reduceEq, String.reduceEq, show (nav B15 [3, 2, 1, 3, 2, 3, 2, 3, 2, 3, 2, 2, 2, 1, 2, 2, 2]) = Code.region 20 _ false from rfl, hk_15_20, hz_15_20, hs_15_20, h1, h7]
      try simp only [NM, EE] at hJ
      exact hJ
noncomputable def f15_ai10brrz_e (k : Nat) (a0 : Int) (a0_1 : Int) (a0_2 : Int) (a0_3 : Int) (a0_4 : Int) (a0_5 : Int) (a0_6 : Int) (a0_7 : Int) (a0_8 : Int) (a0_9 : Int) (a0_10 : Bool) (a0_11 : List Int) (a0_12 : List T45) : Option R15_ai10brrz :=
  Option.bind (f27_iii k a0_1 1 6) fun o1 =>
    match o1 with
    | .o0 v4 =>
      cond (v4)
        (
          cond ((a0 == 1))
            (
              cond ((decide (a0_2 > 0)))
                (
                  Option.bind (f27_iii k a0_6 1 512) fun o8 =>
                    match o8 with
                    | .o0 v11 =>
                      cond (v11)
                        (
                          Option.bind (f27_iii k ((List.length a0_11) : Int) 1 100) fun o13 =>
                            match o13 with
                            | .o0 v16 =>
                              cond (v16)
                                (
                                  Option.bind (f27_iii k a0_5 0 (IntKind.i64.wrap (a0_6 - ((List.length a0_11) : Int)))) fun o18 =>
                                    match o18 with
                                    | .o0 v21 =>
                                      cond (v21)
                                        (f15_ai10brrz_j1 k (a0_10 == (decide (a0_3 > 0))) a0 a0_1 a0_2 a0_3 a0_4 a0_5 a0_6 a0_7 a0_8 a0_9 a0_10 a0_11 a0_12 a0 a0_1 a0_2 a0_3 0 a0_5 a0_6 0 0 0 a0_10 a0_11 [])
                                        (f15_ai10brrz_j1 k false a0 a0_1 a0_2 a0_3 a0_4 a0_5 a0_6 a0_7 a0_8 a0_9 a0_10 a0_11 a0_12 a0 a0_1 a0_2 a0_3 0 a0_5 a0_6 0 0 0 a0_10 a0_11 []))
                                (f15_ai10brrz_j1 k false a0 a0_1 a0_2 a0_3 a0_4 a0_5 a0_6 a0_7 a0_8 a0_9 a0_10 a0_11 a0_12 a0 a0_1 a0_2 a0_3 0 a0_5 a0_6 0 0 0 a0_10 a0_11 []))
                        (f15_ai10brrz_j1 k false a0 a0_1 a0_2 a0_3 a0_4 a0_5 a0_6 a0_7 a0_8 a0_9 a0_10 a0_11 a0_12 a0 a0_1 a0_2 a0_3 0 a0_5 a0_6 0 0 0 a0_10 a0_11 []))
                (f15_ai10brrz_j1 k false a0 a0_1 a0_2 a0_3 a0_4 a0_5 a0_6 a0_7 a0_8 a0_9 a0_10 a0_11 a0_12 a0 a0_1 a0_2 a0_3 0 a0_5 a0_6 0 0 0 a0_10 a0_11 []))
            (
              cond ((a0 == 2))
                (
                  cond ((decide (a0_2 > 0)))
                    (
                      cond ((decide (a0_3 > 0)))
                        (
                          cond ((decide (a0_4 > 0)))
                            (
                              Option.bind (f27_iii k a0_8 1 512) fun o27 =>
                                match o27 with
                                | .o0 v30 =>
                                  cond (v30)
                                    (
                                      Option.bind (f27_iii k a0_7 0 (IntKind.i64.wrap (a0_8 - (1 : Int)))) fun o32 =>
                                        match o32 with
                                        | .o0 v35 =>
                                          cond (v35)
                                            (
                                              Option.bind (f28_rii k a0_12 a0_7 a0_8) fun o37 =>
                                                match o37 with
                                                | .o0 v40 =>
                                                  f15_ai10brrz_j1 k v40 a0 a0_1 a0_2 a0_3 a0_4 a0_5 a0_6 a0_7 a0_8 a0_9 a0_10 a0_11 a0_12 a0 a0_1 a0_2 a0_3 a0_4 0 0 a0_7 a0_8 0 false [] a0_12)
                                            (f15_ai10brrz_j1 k false a0 a0_1 a0_2 a0_3 a0_4 a0_5 a0_6 a0_7 a0_8 a0_9 a0_10 a0_11 a0_12 a0 a0_1 a0_2 a0_3 a0_4 0 0 a0_7 a0_8 0 false [] a0_12))
                                    (f15_ai10brrz_j1 k false a0 a0_1 a0_2 a0_3 a0_4 a0_5 a0_6 a0_7 a0_8 a0_9 a0_10 a0_11 a0_12 a0 a0_1 a0_2 a0_3 a0_4 0 0 a0_7 a0_8 0 false [] a0_12))
                            (f15_ai10brrz_j1 k false a0 a0_1 a0_2 a0_3 a0_4 a0_5 a0_6 a0_7 a0_8 a0_9 a0_10 a0_11 a0_12 a0 a0_1 a0_2 a0_3 a0_4 0 0 a0_7 a0_8 0 false [] a0_12))
                        (f15_ai10brrz_j1 k false a0 a0_1 a0_2 a0_3 a0_4 a0_5 a0_6 a0_7 a0_8 a0_9 a0_10 a0_11 a0_12 a0 a0_1 a0_2 a0_3 a0_4 0 0 a0_7 a0_8 0 false [] a0_12))
                    (f15_ai10brrz_j1 k false a0 a0_1 a0_2 a0_3 a0_4 a0_5 a0_6 a0_7 a0_8 a0_9 a0_10 a0_11 a0_12 a0 a0_1 a0_2 a0_3 a0_4 0 0 a0_7 a0_8 0 false [] a0_12))
                (
                  cond ((a0 == 3))
                    (
                      cond ((decide (a0_2 > 0)))
                        (f15_ai10brrz_j1 k (decide (a0_3 > 0)) a0 a0_1 a0_2 a0_3 a0_4 a0_5 a0_6 a0_7 a0_8 a0_9 a0_10 a0_11 a0_12 a0 a0_1 a0_2 a0_3 0 0 0 0 0 0 false [] [])
                        (f15_ai10brrz_j1 k false a0 a0_1 a0_2 a0_3 a0_4 a0_5 a0_6 a0_7 a0_8 a0_9 a0_10 a0_11 a0_12 a0 a0_1 a0_2 a0_3 0 0 0 0 0 0 false [] []))
                    (
                      cond ((a0 == 4))
                        (f15_ai10brrz_j3 k (decide (a0_2 > 0)) a0 true a0 a0_1 a0_2 a0_3 a0_4 a0_5 a0_6 a0_7 a0_8 a0_9 a0_10 a0_11 a0_12 a0 a0_1 a0_2 0 0 0 0 0 0 0 false [] [])
                        (f15_ai10brrz_j3 k (decide (a0_2 > 0)) a0 (a0 == 6) a0 a0_1 a0_2 a0_3 a0_4 a0_5 a0_6 a0_7 a0_8 a0_9 a0_10 a0_11 a0_12 a0 a0_1 a0_2 0 0 0 0 0 0 0 false [] [])))))
        (
          cond ((a0 == 1))
            (f15_ai10brrz_j1 k false a0 a0_1 a0_2 a0_3 a0_4 a0_5 a0_6 a0_7 a0_8 a0_9 a0_10 a0_11 a0_12 a0 a0_1 a0_2 a0_3 0 a0_5 a0_6 0 0 0 a0_10 a0_11 [])
            (
              cond ((a0 == 2))
                (f15_ai10brrz_j1 k false a0 a0_1 a0_2 a0_3 a0_4 a0_5 a0_6 a0_7 a0_8 a0_9 a0_10 a0_11 a0_12 a0 a0_1 a0_2 a0_3 a0_4 0 0 a0_7 a0_8 0 false [] a0_12)
                (
                  cond ((a0 == 3))
                    (f15_ai10brrz_j1 k false a0 a0_1 a0_2 a0_3 a0_4 a0_5 a0_6 a0_7 a0_8 a0_9 a0_10 a0_11 a0_12 a0 a0_1 a0_2 a0_3 0 0 0 0 0 0 false [] [])
                    (
                      cond ((a0 == 4))
                        (f15_ai10brrz_j3 k false a0 true a0 a0_1 a0_2 a0_3 a0_4 a0_5 a0_6 a0_7 a0_8 a0_9 a0_10 a0_11 a0_12 a0 a0_1 a0_2 0 0 0 0 0 0 0 false [] [])
                        (f15_ai10brrz_j3 k false a0 (a0 == 6) a0 a0_1 a0_2 a0_3 a0_4 a0_5 a0_6 a0_7 a0_8 a0_9 a0_10 a0_11 a0_12 a0 a0_1 a0_2 0 0 0 0 0 0 0 false [] [])))))
theorem f15_ai10brrz_e_ok (k : Nat) (a0 : Int) (a0_1 : Int) (a0_2 : Int) (a0_3 : Int) (a0_4 : Int) (a0_5 : Int) (a0_6 : Int) (a0_7 : Int) (a0_8 : Int) (a0_9 : Int) (a0_10 : Bool) (a0_11 : List Int) (a0_12 : List T45) (r : R15_ai10brrz) (hF : f15_ai10brrz_e k a0 a0_1 a0_2 a0_3 a0_4 a0_5 a0_6 a0_7 a0_8 a0_9 a0_10 a0_11 a0_12 = some r) : finK Try.prog Try.f15 0 (EX 15 k (nav B15 []) ({ n := 154, F := [(0, V.agg [V.p (Value.int .i64 a0), V.p (Value.int .i64 a0_1), V.p (Value.int .u32 a0_2), V.p (Value.int .u32 a0_3), V.p (Value.int .u32 a0_4), V.p (Value.int .i64 a0_5), V.p (Value.int .i64 a0_6), V.p (Value.int .i64 a0_7), V.p (Value.int .i64 a0_8), V.p (Value.int .i64 a0_9), V.p (Value.bool a0_10), V.sl 1 (rowsOf (encI .u8) a0_11), V.sl 2 (rowsOf encT45 a0_12)])], M := [] } : St)) = some r.st := by
  unfold f15_ai10brrz_e at hF
  replace hF := Option.bind_eq_some_iff.1 hF
  obtain ⟨o1, h2, hF⟩ := hF
  have hc3 := f27_iii_ok k a0_1 1 6 _ h2
  cases o1 with
  | o0 v4 =>
    (try dsimp only at hF)
    (try simp only [NM, EE, R27_iii.st] at hc3)
    simp (maxSteps := 999999) (disch := first | exact D (by decide) | exact K (by kernel_rfl)) only [EA, EE, EG, EF, ED, ofVal, ofVal1, ofCell, lenV, aggEqV, cellEq, intBin, isShift, V.ids, lendV, frz, flatV, cellsOf, addOff, firstReg, oneOf, cellsAt, isAggD, isPure, ↓reduceIte, reduceCtorEq, Nat.reduceAdd, Nat.reduceSub, Nat.reduceMul, Nat.reduceLeDiff, Nat.reduceEqDiff, Nat.reduceBEq, Int.reduceToNat, Int.reduceLE, Int.reduceLT, Nat.reduceLT, Int.reduceBEq, Int.reduceBNe, Int.reduceEq, String.reduceEq, xk B15 [] .sq rfl, show (nav B15 [1]) = Code.region 0 _ false from rfl, hk_15_0, hz_15_0, hs_15_0, xk B15 [2] .sq rfl, show (nav B15 [1, 2]) = Code.region 1 _ false from rfl, hk_15_1, hz_15_1, hs_15_1, fieldAddrV, u_26, i_26, is_26, ib_26, iz_26, u_3, i_3, is_3, ib_3, iz_3, u_22, i_22, is_22, ib_22, iz_22, bl_26, xk B15 [2, 2] .sq rfl, show (nav B15 [1, 2, 2]) = Code.region 2 _ false from rfl, hk_15_2, hz_15_2, hs_15_2, callStep, calleeOf, gv, List.contains, hc3]
    replace hF := cond_some hF
    rcases hF with ⟨h5, hF⟩ | ⟨h5, hF⟩
    · simp (maxSteps := 999999) (disch := first | exact D (by decide) | exact K (by kernel_rfl)) only [EA, EE, EG, EF, ED, ofVal, ofVal1, ofCell, lenV, aggEqV, cellEq, intBin, isShift, V.ids, lendV, frz, flatV, cellsOf, addOff, firstReg, oneOf, cellsAt, isAggD, isPure, ↓reduceIte, reduceCtorEq, Nat.reduceAdd, Nat.reduceSub, Nat.reduceMul, Nat.reduceLeDiff, Nat.reduceEqDiff, Nat.reduceBEq, Int.reduceToNat, Int.reduceLE, Int.reduceLT, Nat.reduceLT, Int.reduceBEq, Int.reduceBNe, Int.reduceEq, String.reduceEq, fieldAddrV, u_26, i_26, is_26, ib_26, iz_26, u_22, i_22, is_22, ib_22, iz_22, xk B15 [2, 2, 2] .sq rfl, xk B15 [1, 2, 2, 2] .sq rfl, show (nav B15 [1, 1, 2, 2, 2]) = Code.region 3 _ false from rfl, hk_15_3, hz_15_3, hs_15_3, u_3, i_3, is_3, ib_3, iz_3, xk B15 [2, 1, 2, 2, 2] (.bk 0) rfl, xk B15 [2, 2, 1, 2, 2, 2] .sq rfl, show (nav B15 [1, 2, 2, 1, 2, 2, 2]) = Code.region 5 _ false from rfl, hk_15_5, hz_15_5, hs_15_5, xk B15 [2, 2, 2, 1, 2, 2, 2] (.cd 23) rfl, hc3, h5]
      replace hF := cond_some hF
      rcases hF with ⟨h6, hF⟩ | ⟨h6, hF⟩
      · simp (maxSteps := 999999) (disch := first | exact D (by decide) | exact K (by kernel_rfl)) only [EA, EE, EG, EF, ED, ofVal, ofVal1, ofCell, lenV, aggEqV, cellEq, intBin, isShift, V.ids, lendV, frz, flatV, cellsOf, addOff, firstReg, oneOf, cellsAt, isAggD, isPure, ↓reduceIte, reduceCtorEq, Nat.reduceAdd, Nat.reduceSub, Nat.reduceMul, Nat.reduceLeDiff, Nat.reduceEqDiff, Nat.reduceBEq, Int.reduceToNat, Int.reduceLE, Int.reduceLT, Nat.reduceLT, Int.reduceBEq, Int.reduceBNe, Int.reduceEq, String.reduceEq, xk B15 [2, 2, 2, 2, 1, 2, 2, 2] .sq rfl, show (nav B15 [1, 2, 2, 2, 2, 1, 2, 2, 2]) = Code.region 6 _ false from rfl, hk_15_6, hz_15_6, hs_15_6, fieldAddrV, u_26, i_26, is_26, ib_26, iz_26, u_23, i_23, is_23, ib_23, iz_23, xk B15 [2, 2, 2, 2, 2, 1, 2, 2, 2] .sq rfl, show (nav B15 [1, 2, 2, 2, 2, 2, 1, 2, 2, 2]) = Code.region 7 _ true from rfl, hk_15_7, hz_15_7, hs_15_7, u_3, i_3, is_3, ib_3, iz_3, u_4, i_4, is_4, ib_4, iz_4, u_22, i_22, is_22, ib_22, iz_22, show (nav B15 [2, 2, 2, 2, 2, 2, 1, 2, 2, 2]) = Code.region 8 _ false from rfl, hk_15_8, hz_15_8, hs_15_8, hc3, h5, h6]
        replace hF := cond_some hF
        rcases hF with ⟨h7, hF⟩ | ⟨h7, hF⟩
        · replace hF := Option.bind_eq_some_iff.1 hF
          obtain ⟨o8, h9, hF⟩ := hF
          have hc10 := f27_iii_ok k a0_6 1 512 _ h9
          cases o8 with
          | o0 v11 =>
            (try dsimp only at hF)
            (try simp only [NM, EE, R27_iii.st] at hc10)
            simp (maxSteps := 999999) (disch := first | exact D (by decide) | exact K (by kernel_rfl)) only [EA, EE, EG, EF, ED, ofVal, ofVal1, ofCell, lenV, aggEqV, cellEq, intBin, isShift, V.ids, lendV, frz, flatV, cellsOf, addOff, firstReg, oneOf, cellsAt, isAggD, isPure, ↓reduceIte, reduceCtorEq, Nat.reduceAdd, Nat.reduceSub, Nat.reduceMul, Nat.reduceLeDiff, Nat.reduceEqDiff, Nat.reduceBEq, Int.reduceToNat, Int.reduceLE, Int.reduceLT, Nat.reduceLT, Int.reduceBEq, Int.reduceBNe, Int.reduceEq, String.reduceEq, fieldAddrV, u_26, i_26, is_26, ib_26, iz_26, u_3, i_3, is_3, ib_3, iz_3, callStep, calleeOf, gv, List.contains, hc3, h5, h6, h7, hc10]
            replace hF := cond_some hF
            rcases hF with ⟨h12, hF⟩ | ⟨h12, hF⟩
            · replace hF := Option.bind_eq_some_iff.1 hF
              obtain ⟨o13, h14, hF⟩ := hF
              have hc15 := f27_iii_ok k ((List.length a0_11) : Int) 1 100 _ h14
              cases o13 with
              | o0 v16 =>
                (try dsimp only at hF)
                (try simp only [NM, EE, R27_iii.st] at hc15)
                simp (maxSteps := 999999) (disch := first | exact D (by decide) | exact K (by kernel_rfl)) only [EA, EE, EG, EF, ED, ofVal, ofVal1, ofCell, lenV, aggEqV, cellEq, intBin, isShift, V.ids, lendV, frz, flatV, cellsOf, addOff, firstReg, oneOf, cellsAt, isAggD, isPure, ↓reduceIte, reduceCtorEq, Nat.reduceAdd, Nat.reduceSub, Nat.reduceMul, Nat.reduceLeDiff, Nat.reduceEqDiff, Nat.reduceBEq, Int.reduceToNat, Int.reduceLE, Int.reduceLT, Nat.reduceLT, Int.reduceBEq, Int.reduceBNe, Int.reduceEq, String.reduceEq, callStep, calleeOf, gv, List.contains, hc3, h5, h6, h7, hc10, h12, hc15]
                replace hF := cond_some hF
                rcases hF with ⟨h17, hF⟩ | ⟨h17, hF⟩
                · replace hF := Option.bind_eq_some_iff.1 hF
                  obtain ⟨o18, h19, hF⟩ := hF
                  have hc20 := f27_iii_ok k a0_5 0 (IntKind.i64.wrap (a0_6 - ((List.length a0_11) : Int))) _ h19
                  cases o18 with
                  | o0 v21 =>
                    (try dsimp only at hF)
                    (try simp only [NM, EE, R27_iii.st] at hc20)
                    simp (maxSteps := 999999) (disch := first | exact D (by decide) | exact K (by kernel_rfl)) only [EA, EE, EG, EF, ED, ofVal, ofVal1, ofCell, lenV, aggEqV, cellEq, intBin, isShift, V.ids, lendV, frz, flatV, cellsOf, addOff, firstReg, oneOf, cellsAt, isAggD, isPure, ↓reduceIte, reduceCtorEq, Nat.reduceAdd, Nat.reduceSub, Nat.reduceMul, Nat.reduceLeDiff, Nat.reduceEqDiff, Nat.reduceBEq, Int.reduceToNat, Int.reduceLE, Int.reduceLT, Nat.reduceLT, Int.reduceBEq, Int.reduceBNe, Int.reduceEq, String.reduceEq, fieldAddrV, u_26, i_26, is_26, ib_26, iz_26, u_3, i_3, is_3, ib_3, iz_3, callStep, calleeOf, gv, List.contains, hc3, h5, h6, h7, hc10, h12, hc15, h17, hc20]
                    replace hF := cond_some hF
                    rcases hF with ⟨h22, hF⟩ | ⟨h22, hF⟩
                    · have hJ := f15_ai10brrz_j1_ok k (a0_10 == (decide (a0_3 > 0))) a0 a0_1 a0_2 a0_3 a0_4 a0_5 a0_6 a0_7 a0_8 a0_9 a0_10 a0_11 a0_12 a0 a0_1 a0_2 a0_3 0 a0_5 a0_6 0 0 0 a0_10 a0_11 [] _ hF
                      simp (maxSteps := 999999) (disch := first | exact D (by decide) | exact K (by kernel_rfl)) only [EA, EE, EG, EF, ED, ofVal, ofVal1, ofCell, lenV, aggEqV, cellEq, intBin, isShift, V.ids, lendV, frz, flatV, cellsOf, addOff, firstReg, oneOf, cellsAt, isAggD, isPure, ↓reduceIte, reduceCtorEq, Nat.reduceAdd, Nat.reduceSub, Nat.reduceMul, Nat.reduceLeDiff, Nat.reduceEqDiff, Nat.reduceBEq, Int.reduceToNat, Int.reduceLE, Int.reduceLT, Nat.reduceLT, Int.reduceBEq, Int.reduceBNe, Int.reduceEq, String.reduceEq, fieldAddrV, u_26, i_26, is_26, ib_26, iz_26, u_4, i_4, is_4, ib_4, iz_4, u_22, i_22, is_22, ib_22, iz_22, hc3, h5, h6, h7, hc10, h12, hc15, h17, hc20, h22]
                      try simp only [NM, EE] at hJ
                      exact hJ
                    · have hJ := f15_ai10brrz_j1_ok k false a0 a0_1 a0_2 a0_3 a0_4 a0_5 a0_6 a0_7 a0_8 a0_9 a0_10 a0_11 a0_12 a0 a0_1 a0_2 a0_3 0 a0_5 a0_6 0 0 0 a0_10 a0_11 [] _ hF
                      simp (maxSteps := 999999) (disch := first | exact D (by decide) | exact K (by kernel_rfl)) only [EA, EE, EG, EF, ED, ofVal, ofVal1, ofCell, lenV, aggEqV, cellEq, intBin, isShift, V.ids, lendV, frz, flatV, cellsOf, addOff, firstReg, oneOf, cellsAt, isAggD, isPure, ↓reduceIte, reduceCtorEq, Nat.reduceAdd, Nat.reduceSub, Nat.reduceMul, Nat.reduceLeDiff, Nat.reduceEqDiff, Nat.reduceBEq, Int.reduceToNat, Int.reduceLE, Int.reduceLT, Nat.reduceLT, Int.reduceBEq, Int.reduceBNe, Int.reduceEq, String.reduceEq, hc3, h5, h6, h7, hc10, h12, hc15, h17, hc20, h22]
                      try simp only [NM, EE] at hJ
                      exact hJ
                · have hJ := f15_ai10brrz_j1_ok k false a0 a0_1 a0_2 a0_3 a0_4 a0_5 a0_6 a0_7 a0_8 a0_9 a0_10 a0_11 a0_12 a0 a0_1 a0_2 a0_3 0 a0_5 a0_6 0 0 0 a0_10 a0_11 [] _ hF
                  simp (maxSteps := 999999) (disch := first | exact D (by decide) | exact K (by kernel_rfl)) only [EA, EE, EG, EF, ED, ofVal, ofVal1, ofCell, lenV, aggEqV, cellEq, intBin, isShift, V.ids, lendV, frz, flatV, cellsOf, addOff, firstReg, oneOf, cellsAt, isAggD, isPure, ↓reduceIte, reduceCtorEq, Nat.reduceAdd, Nat.reduceSub, Nat.reduceMul, Nat.reduceLeDiff, Nat.reduceEqDiff, Nat.reduceBEq, Int.reduceToNat, Int.reduceLE, Int.reduceLT, Nat.reduceLT, Int.reduceBEq, Int.reduceBNe, Int.reduceEq, String.reduceEq, hc3, h5, h6, h7, hc10, h12, hc15, h17]
                  try simp only [NM, EE] at hJ
                  exact hJ
            · have hJ := f15_ai10brrz_j1_ok k false a0 a0_1 a0_2 a0_3 a0_4 a0_5 a0_6 a0_7 a0_8 a0_9 a0_10 a0_11 a0_12 a0 a0_1 a0_2 a0_3 0 a0_5 a0_6 0 0 0 a0_10 a0_11 [] _ hF
              simp (maxSteps := 999999) (disch := first | exact D (by decide) | exact K (by kernel_rfl)) only [EA, EE, EG, EF, ED, ofVal, ofVal1, ofCell, lenV, aggEqV, cellEq, intBin, isShift, V.ids, lendV, frz, flatV, cellsOf, addOff, firstReg, oneOf, cellsAt, isAggD, isPure, ↓reduceIte, reduceCtorEq, Nat.reduceAdd, Nat.reduceSub, Nat.reduceMul, Nat.reduceLeDiff, Nat.reduceEqDiff, Nat.reduceBEq, Int.reduceToNat, Int.reduceLE, Int.reduceLT, Nat.reduceLT, Int.reduceBEq, Int.reduceBNe, Int.reduceEq, String.reduceEq, hc3, h5, h6, h7, hc10, h12]
              try simp only [NM, EE] at hJ
              exact hJ
        · have hJ := f15_ai10brrz_j1_ok k false a0 a0_1 a0_2 a0_3 a0_4 a0_5 a0_6 a0_7 a0_8 a0_9 a0_10 a0_11 a0_12 a0 a0_1 a0_2 a0_3 0 a0_5 a0_6 0 0 0 a0_10 a0_11 [] _ hF
          simp (maxSteps := 999999) (disch := first | exact D (by decide) | exact K (by kernel_rfl)) only [EA, EE, EG, EF, ED, ofVal, ofVal1, ofCell, lenV, aggEqV, cellEq, intBin, isShift, V.ids, lendV, frz, flatV, cellsOf, addOff, firstReg, oneOf, cellsAt, isAggD, isPure, ↓reduceIte, reduceCtorEq, Nat.reduceAdd, Nat.reduceSub, Nat.reduceMul, Nat.reduceLeDiff, Nat.reduceEqDiff, Nat.reduceBEq, Int.reduceToNat, Int.reduceLE, Int.reduceLT, Nat.reduceLT, Int.reduceBEq, Int.reduceBNe, Int.reduceEq, String.reduceEq, hc3, h5, h6, h7]
          try simp only [NM, EE] at hJ
          exact hJ
      · simp (maxSteps := 999999) (disch := first | exact D (by decide) | exact K (by kernel_rfl)) only [EA, EE, EG, EF, ED, ofVal, ofVal1, ofCell, lenV, aggEqV, cellEq, intBin, isShift, V.ids, lendV, frz, flatV, cellsOf, addOff, firstReg, oneOf, cellsAt, isAggD, isPure, ↓reduceIte, reduceCtorEq, Nat.reduceAdd, Nat.reduceSub, Nat.reduceMul, Nat.reduceLeDiff, Nat.reduceEqDiff, Nat.reduceBEq, Int.reduceToNat, Int.reduceLE, Int.reduceLT, Nat.reduceLT, Int.reduceBEq, Int.reduceBNe, Int.reduceEq, String.reduceEq, xk B15 [3, 2, 2, 2, 1, 2, 2, 2] .sq rfl, show (nav B15 [1, 3, 2, 2, 2, 1, 2, 2, 2]) = Code.region 9 _ false from rfl, hk_15_9, hz_15_9, hs_15_9, xk B15 [2, 3, 2, 2, 2, 1, 2, 2, 2] (.cd 70) rfl, hc3, h5, h6]
        replace hF := cond_some hF
        rcases hF with ⟨h23, hF⟩ | ⟨h23, hF⟩
        · simp (maxSteps := 999999) (disch := first | exact D (by decide) | exact K (by kernel_rfl)) only [EA, EE, EG, EF, ED, ofVal, ofVal1, ofCell, lenV, aggEqV, cellEq, intBin, isShift, V.ids, lendV, frz, flatV, cellsOf, addOff, firstReg, oneOf, cellsAt, isAggD, isPure, ↓reduceIte, reduceCtorEq, Nat.reduceAdd, Nat.reduceSub, Nat.reduceMul, Nat.reduceLeDiff, Nat.reduceEqDiff, Nat.reduceBEq, Int.reduceToNat, Int.reduceLE, Int.reduceLT, Nat.reduceLT, Int.reduceBEq, Int.reduceBNe, Int.reduceEq, String.reduceEq, xk B15 [2, 2, 3, 2, 2, 2, 1, 2, 2, 2] .sq rfl, show (nav B15 [1, 2, 2, 3, 2, 2, 2, 1, 2, 2, 2]) = Code.region 10 _ true from rfl, hk_15_10, hz_15_10, hs_15_10, fieldAddrV, u_26, i_26, is_26, ib_26, iz_26, u_22, i_22, is_22, ib_22, iz_22, u_3, i_3, is_3, ib_3, iz_3, u_24, i_24, is_24, ib_24, iz_24, show (nav B15 [2, 2, 2, 3, 2, 2, 2, 1, 2, 2, 2]) = Code.region 11 _ false from rfl, hk_15_11, hz_15_11, hs_15_11, hc3, h5, h6, h23]
          replace hF := cond_some hF
          rcases hF with ⟨h24, hF⟩ | ⟨h24, hF⟩
          · simp (maxSteps := 999999) (disch := first | exact D (by decide) | exact K (by kernel_rfl)) only [EA, EE, EG, EF, ED, ofVal, ofVal1, ofCell, lenV, aggEqV, cellEq, intBin, isShift, V.ids, lendV, frz, flatV, cellsOf, addOff, firstReg, oneOf, cellsAt, isAggD, isPure, ↓reduceIte, reduceCtorEq, Nat.reduceAdd, Nat.reduceSub, Nat.reduceMul, Nat.reduceLeDiff, Nat.reduceEqDiff, Nat.reduceBEq, Int.reduceToNat, Int.reduceLE, Int.reduceLT, Nat.reduceLT, Int.reduceBEq, Int.reduceBNe, Int.reduceEq, String.reduceEq, fieldAddrV, u_26, i_26, is_26, ib_26, iz_26, u_22, i_22, is_22, ib_22, iz_22, hc3, h5, h6, h23, h24]
            replace hF := cond_some hF
            rcases hF with ⟨h25, hF⟩ | ⟨h25, hF⟩
            · simp (maxSteps := 999999) (disch := first | exact D (by decide) | exact K (by kernel_rfl)) only [EA, EE, EG, EF, ED, ofVal, ofVal1, ofCell, lenV, aggEqV, cellEq, intBin, isShift, V.ids, lendV, frz, flatV, cellsOf, addOff, firstReg, oneOf, cellsAt, isAggD, isPure, ↓reduceIte, reduceCtorEq, Nat.reduceAdd, Nat.reduceSub, Nat.reduceMul, Nat.reduceLeDiff, Nat.reduceEqDiff, Nat.reduceBEq, Int.reduceToNat, Int.reduceLE, Int.reduceLT, Nat.reduceLT, Int.reduceBEq, Int.reduceBNe, Int.reduceEq, String.reduceEq, fieldAddrV, u_26, i_26, is_26, ib_26, iz_26, u_22, i_22, is_22, ib_22, iz_22, hc3, h5, h6, h23, h24, h25]
              replace hF := cond_some hF
              rcases hF with ⟨h26, hF⟩ | ⟨h26, hF⟩
              · replace hF := Option.bind_eq_some_iff.1 hF
                obtain ⟨o27, h28, hF⟩ := hF
                have hc29 := f27_iii_ok k a0_8 1 512 _ h28
                cases o27 with
                | o0 v30 =>
                  (try dsimp only at hF)
                  (try simp only [NM, EE, R27_iii.st] at hc29)
                  simp (maxSteps := 999999) (disch := first | exact D (by decide) | exact K (by kernel_rfl)) only [EA, EE, EG, EF, ED, ofVal, ofVal1, ofCell, lenV, aggEqV, cellEq, intBin, isShift, V.ids, lendV, frz, flatV, cellsOf, addOff, firstReg, oneOf, cellsAt, isAggD, isPure, ↓reduceIte, reduceCtorEq, Nat.reduceAdd, Nat.reduceSub, Nat.reduceMul, Nat.reduceLeDiff, Nat.reduceEqDiff, Nat.reduceBEq, Int.reduceToNat, Int.reduceLE, Int.reduceLT, Nat.reduceLT, Int.reduceBEq, Int.reduceBNe, Int.reduceEq, String.reduceEq, fieldAddrV, u_26, i_26, is_26, ib_26, iz_26, u_3, i_3, is_3, ib_3, iz_3, callStep, calleeOf, gv, List.contains, hc3, h5, h6, h23, h24, h25, h26, hc29]
                  replace hF := cond_some hF
                  rcases hF with ⟨h31, hF⟩ | ⟨h31, hF⟩
                  · replace hF := Option.bind_eq_some_iff.1 hF
                    obtain ⟨o32, h33, hF⟩ := hF
                    have hc34 := f27_iii_ok k a0_7 0 (IntKind.i64.wrap (a0_8 - (1 : Int))) _ h33
                    cases o32 with
                    | o0 v35 =>
                      (try dsimp only at hF)
                      (try simp only [NM, EE, R27_iii.st] at hc34)
                      simp (maxSteps := 999999) (disch := first | exact D (by decide) | exact K (by kernel_rfl)) only [EA, EE, EG, EF, ED, ofVal, ofVal1, ofCell, lenV, aggEqV, cellEq, intBin, isShift, V.ids, lendV, frz, flatV, cellsOf, addOff, firstReg, oneOf, cellsAt, isAggD, isPure, ↓reduceIte, reduceCtorEq, Nat.reduceAdd, Nat.reduceSub, Nat.reduceMul, Nat.reduceLeDiff, Nat.reduceEqDiff, Nat.reduceBEq, Int.reduceToNat, Int.reduceLE, Int.reduceLT, Nat.reduceLT, Int.reduceBEq, Int.reduceBNe, Int.reduceEq, String.reduceEq, fieldAddrV, u_26, i_26, is_26, ib_26, iz_26, u_3, i_3, is_3, ib_3, iz_3, callStep, calleeOf, gv, List.contains, hc3, h5, h6, h23, h24, h25, h26, hc29, h31, hc34]
                      replace hF := cond_some hF
                      rcases hF with ⟨h36, hF⟩ | ⟨h36, hF⟩
                      · replace hF := Option.bind_eq_some_iff.1 hF
                        obtain ⟨o37, h38, hF⟩ := hF
                        have hc39 := f28_rii_ok k a0_12 a0_7 a0_8 _ h38
                        cases o37 with
                        | o0 v40 =>
                          (try dsimp only at hF)
                          (try simp only [NM, EE, R28_rii.st] at hc39)
                          have hJ := f15_ai10brrz_j1_ok k v40 a0 a0_1 a0_2 a0_3 a0_4 a0_5 a0_6 a0_7 a0_8 a0_9 a0_10 a0_11 a0_12 a0 a0_1 a0_2 a0_3 a0_4 0 0 a0_7 a0_8 0 false [] a0_12 _ hF
                          simp (maxSteps := 999999) (disch := first | exact D (by decide) | exact K (by kernel_rfl)) only [EA, EE, EG, EF, ED, ofVal, ofVal1, ofCell, lenV, aggEqV, cellEq, intBin, isShift, V.ids, lendV, frz, flatV, cellsOf, addOff, firstReg, oneOf, cellsAt, isAggD, isPure, ↓reduceIte, reduceCtorEq, Nat.reduceAdd, Nat.reduceSub, Nat.reduceMul, Nat.reduceLeDiff, Nat.reduceEqDiff, Nat.reduceBEq, Int.reduceToNat, Int.reduceLE, Int.reduceLT, Nat.reduceLT, Int.reduceBEq, Int.reduceBNe, Int.reduceEq, String.reduceEq, fieldAddrV, u_26, i_26, is_26, ib_26, iz_26, u_24, i_24, is_24, ib_24, iz_24, u_3, i_3, is_3, ib_3, iz_3, callStep, calleeOf, gv, List.contains, hc3, h5, h6, h23, h24, h25, h26, hc29, h31, hc34, h36, hc39]
                          try simp only [NM, EE] at hJ
                          exact hJ
                      · have hJ := f15_ai10brrz_j1_ok k false a0 a0_1 a0_2 a0_3 a0_4 a0_5 a0_6 a0_7 a0_8 a0_9 a0_10 a0_11 a0_12 a0 a0_1 a0_2 a0_3 a0_4 0 0 a0_7 a0_8 0 false [] a0_12 _ hF
                        simp (maxSteps := 999999) (disch := first | exact D (by decide) | exact K (by kernel_rfl)) only [EA, EE, EG, EF, ED, ofVal, ofVal1, ofCell, lenV, aggEqV, cellEq, intBin, isShift, V.ids, lendV, frz, flatV, cellsOf, addOff, firstReg, oneOf, cellsAt, isAggD, isPure, ↓reduceIte, reduceCtorEq, Nat.reduceAdd, Nat.reduceSub, Nat.reduceMul, Nat.reduceLeDiff, Nat.reduceEqDiff, Nat.reduceBEq, Int.reduceToNat, Int.reduceLE, Int.reduceLT, Nat.reduceLT, Int.reduceBEq, Int.reduceBNe, Int.reduceEq, String.reduceEq, hc3, h5, h6, h23, h24, h25, h26, hc29, h31, hc34, h36]
                        try simp only [NM, EE] at hJ
                        exact hJ
                  · have hJ := f15_ai10brrz_j1_ok k false a0 a0_1 a0_2 a0_3 a0_4 a0_5 a0_6 a0_7 a0_8 a0_9 a0_10 a0_11 a0_12 a0 a0_1 a0_2 a0_3 a0_4 0 0 a0_7 a0_8 0 false [] a0_12 _ hF
                    simp (maxSteps := 999999) (disch := first | exact D (by decide) | exact K (by kernel_rfl)) only [EA, EE, EG, EF, ED, ofVal, ofVal1, ofCell, lenV, aggEqV, cellEq, intBin, isShift, V.ids, lendV, frz, flatV, cellsOf, addOff, firstReg, oneOf, cellsAt, isAggD, isPure, ↓reduceIte, reduceCtorEq, Nat.reduceAdd, Nat.reduceSub, Nat.reduceMul, Nat.reduceLeDiff, Nat.reduceEqDiff, Nat.reduceBEq, Int.reduceToNat, Int.reduceLE, Int.reduceLT, Nat.reduceLT, Int.reduceBEq, Int.reduceBNe, Int.reduceEq, String.reduceEq, hc3, h5, h6, h23, h24, h25, h26, hc29, h31]
                    try simp only [NM, EE] at hJ
                    exact hJ
              · have hJ := f15_ai10brrz_j1_ok k false a0 a0_1 a0_2 a0_3 a0_4 a0_5 a0_6 a0_7 a0_8 a0_9 a0_10 a0_11 a0_12 a0 a0_1 a0_2 a0_3 a0_4 0 0 a0_7 a0_8 0 false [] a0_12 _ hF
                simp (maxSteps := 999999) (disch := first | exact D (by decide) | exact K (by kernel_rfl)) only [EA, EE, EG, EF, ED, ofVal, ofVal1, ofCell, lenV, aggEqV, cellEq, intBin, isShift, V.ids, lendV, frz, flatV, cellsOf, addOff, firstReg, oneOf, cellsAt, isAggD, isPure, ↓reduceIte, reduceCtorEq, Nat.reduceAdd, Nat.reduceSub, Nat.reduceMul, Nat.reduceLeDiff, Nat.reduceEqDiff, Nat.reduceBEq, Int.reduceToNat, Int.reduceLE, Int.reduceLT, Nat.reduceLT, Int.reduceBEq, Int.reduceBNe, Int.reduceEq, String.reduceEq, hc3, h5, h6, h23, h24, h25, h26]
                try simp only [NM, EE] at hJ
                exact hJ
            · have hJ := f15_ai10brrz_j1_ok k false a0 a0_1 a0_2 a0_3 a0_4 a0_5 a0_6 a0_7 a0_8 a0_9 a0_10 a0_11 a0_12 a0 a0_1 a0_2 a0_3 a0_4 0 0 a0_7 a0_8 0 false [] a0_12 _ hF
              simp (maxSteps := 999999) (disch := first | exact D (by decide) | exact K (by kernel_rfl)) only [EA, EE, EG, EF, ED, ofVal, ofVal1, ofCell, lenV, aggEqV, cellEq, intBin, isShift, V.ids, lendV, frz, flatV, cellsOf, addOff, firstReg, oneOf, cellsAt, isAggD, isPure, ↓reduceIte, reduceCtorEq, Nat.reduceAdd, Nat.reduceSub, Nat.reduceMul, Nat.reduceLeDiff, Nat.reduceEqDiff, Nat.reduceBEq, Int.reduceToNat, Int.reduceLE, Int.reduceLT, Nat.reduceLT, Int.reduceBEq, Int.reduceBNe, Int.reduceEq, String.reduceEq, hc3, h5, h6, h23, h24, h25]
              try simp only [NM, EE] at hJ
              exact hJ
          · have hJ := f15_ai10brrz_j1_ok k false a0 a0_1 a0_2 a0_3 a0_4 a0_5 a0_6 a0_7 a0_8 a0_9 a0_10 a0_11 a0_12 a0 a0_1 a0_2 a0_3 a0_4 0 0 a0_7 a0_8 0 false [] a0_12 _ hF
            simp (maxSteps := 999999) (disch := first | exact D (by decide) | exact K (by kernel_rfl)) only [EA, EE, EG, EF, ED, ofVal, ofVal1, ofCell, lenV, aggEqV, cellEq, intBin, isShift, V.ids, lendV, frz, flatV, cellsOf, addOff, firstReg, oneOf, cellsAt, isAggD, isPure, ↓reduceIte, reduceCtorEq, Nat.reduceAdd, Nat.reduceSub, Nat.reduceMul, Nat.reduceLeDiff, Nat.reduceEqDiff, Nat.reduceBEq, Int.reduceToNat, Int.reduceLE, Int.reduceLT, Nat.reduceLT, Int.reduceBEq, Int.reduceBNe, Int.reduceEq, String.reduceEq, hc3, h5, h6, h23, h24]
            try simp only [NM, EE] at hJ
            exact hJ
        · simp (maxSteps := 999999) (disch := first | exact D (by decide) | exact K (by kernel_rfl)) only [EA, EE, EG, EF, ED, ofVal, ofVal1, ofCell, lenV, aggEqV, cellEq, intBin, isShift, V.ids, lendV, frz, flatV, cellsOf, addOff, firstReg, oneOf, cellsAt, isAggD, isPure, ↓reduceIte, reduceCtorEq, Nat.reduceAdd, Nat.reduceSub, Nat.reduceMul, Nat.reduceLeDiff, Nat.reduceEqDiff, Nat.reduceBEq, Int.reduceToNat, Int.reduceLE, Int.reduceLT, Nat.reduceLT, Int.reduceBEq, Int.reduceBNe, Int.reduceEq, String.reduceEq, xk B15 [3, 2, 3, 2, 2, 2, 1, 2, 2, 2] .sq rfl, show (nav B15 [1, 3, 2, 3, 2, 2, 2, 1, 2, 2, 2]) = Code.region 12 _ false from rfl, hk_15_12, hz_15_12, hs_15_12, xk B15 [2, 3, 2, 3, 2, 2, 2, 1, 2, 2, 2] (.cd 120) rfl, hc3, h5, h6, h23]
          replace hF := cond_some hF
          rcases hF with ⟨h41, hF⟩ | ⟨h41, hF⟩
          · simp (maxSteps := 999999) (disch := first | exact D (by decide) | exact K (by kernel_rfl)) only [EA, EE, EG, EF, ED, ofVal, ofVal1, ofCell, lenV, aggEqV, cellEq, intBin, isShift, V.ids, lendV, frz, flatV, cellsOf, addOff, firstReg, oneOf, cellsAt, isAggD, isPure, ↓reduceIte, reduceCtorEq, Nat.reduceAdd, Nat.reduceSub, Nat.reduceMul, Nat.reduceLeDiff, Nat.reduceEqDiff, Nat.reduceBEq, Int.reduceToNat, Int.reduceLE, Int.reduceLT, Nat.reduceLT, Int.reduceBEq, Int.reduceBNe, Int.reduceEq, String.reduceEq, xk B15 [2, 2, 3, 2, 3, 2, 2, 2, 1, 2, 2, 2] .sq rfl, show (nav B15 [1, 2, 2, 3, 2, 3, 2, 2, 2, 1, 2, 2, 2]) = Code.region 13 _ false from rfl, hk_15_13, hz_15_13, hs_15_13, fieldAddrV, u_26, i_26, is_26, ib_26, iz_26, u_22, i_22, is_22, ib_22, iz_22, show (nav B15 [2, 2, 2, 3, 2, 3, 2, 2, 2, 1, 2, 2, 2]) = Code.region 14 _ false from rfl, hk_15_14, hz_15_14, hs_15_14, hc3, h5, h6, h23, h41]
            replace hF := cond_some hF
            rcases hF with ⟨h42, hF⟩ | ⟨h42, hF⟩
            · have hJ := f15_ai10brrz_j1_ok k (decide (a0_3 > 0)) a0 a0_1 a0_2 a0_3 a0_4 a0_5 a0_6 a0_7 a0_8 a0_9 a0_10 a0_11 a0_12 a0 a0_1 a0_2 a0_3 0 0 0 0 0 0 false [] [] _ hF
              simp (maxSteps := 999999) (disch := first | exact D (by decide) | exact K (by kernel_rfl)) only [EA, EE, EG, EF, ED, ofVal, ofVal1, ofCell, lenV, aggEqV, cellEq, intBin, isShift, V.ids, lendV, frz, flatV, cellsOf, addOff, firstReg, oneOf, cellsAt, isAggD, isPure, ↓reduceIte, reduceCtorEq, Nat.reduceAdd, Nat.reduceSub, Nat.reduceMul, Nat.reduceLeDiff, Nat.reduceEqDiff, Nat.reduceBEq, Int.reduceToNat, Int.reduceLE, Int.reduceLT, Nat.reduceLT, Int.reduceBEq, Int.reduceBNe, Int.reduceEq, String.reduceEq, fieldAddrV, u_26, i_26, is_26, ib_26, iz_26, u_22, i_22, is_22, ib_22, iz_22, hc3, h5, h6, h23, h41, h42]
              try simp only [NM, EE] at hJ
              exact hJ
            · have hJ := f15_ai10brrz_j1_ok k false a0 a0_1 a0_2 a0_3 a0_4 a0_5 a0_6 a0_7 a0_8 a0_9 a0_10 a0_11 a0_12 a0 a0_1 a0_2 a0_3 0 0 0 0 0 0 false [] [] _ hF
              simp (maxSteps := 999999) (disch := first | exact D (by decide) | exact K (by kernel_rfl)) only [EA, EE, EG, EF, ED, ofVal, ofVal1, ofCell, lenV, aggEqV, cellEq, intBin, isShift, V.ids, lendV, frz, flatV, cellsOf, addOff, firstReg, oneOf, cellsAt, isAggD, isPure, ↓reduceIte, reduceCtorEq, Nat.reduceAdd, Nat.reduceSub, Nat.reduceMul, Nat.reduceLeDiff, Nat.reduceEqDiff, Nat.reduceBEq, Int.reduceToNat, Int.reduceLE, Int.reduceLT, Nat.reduceLT, Int.reduceBEq, Int.reduceBNe, Int.reduceEq, String.reduceEq, hc3, h5, h6, h23, h41, h42]
              try simp only [NM, EE] at hJ
              exact hJ
          · simp (maxSteps := 999999) (disch := first | exact D (by decide) | exact K (by kernel_rfl)) only [EA, EE, EG, EF, ED, ofVal, ofVal1, ofCell, lenV, aggEqV, cellEq, intBin, isShift, V.ids, lendV, frz, flatV, cellsOf, addOff, firstReg, oneOf, cellsAt, isAggD, isPure, ↓reduceIte, reduceCtorEq, Nat.reduceAdd, Nat.reduceSub, Nat.reduceMul, Nat.reduceLeDiff, Nat.reduceEqDiff, Nat.reduceBEq, Int.reduceToNat, Int.reduceLE, Int.reduceLT, Nat.reduceLT, Int.reduceBEq, Int.reduceBNe, Int.reduceEq, String.reduceEq, xk B15 [3, 2, 3, 2, 3, 2, 2, 2, 1, 2, 2, 2] .sq rfl, xk B15 [1, 3, 2, 3, 2, 3, 2, 2, 2, 1, 2, 2, 2] .sq rfl, show (nav B15 [1, 1, 3, 2, 3, 2, 3, 2, 2, 2, 1, 2, 2, 2]) = Code.region 15 _ false from rfl, hk_15_15, hz_15_15, hs_15_15, xk B15 [2, 1, 3, 2, 3, 2, 3, 2, 2, 2, 1, 2, 2, 2] (.cd 131) rfl, hc3, h5, h6, h23, h41]
            replace hF := cond_some hF
            rcases hF with ⟨h43, hF⟩ | ⟨h43, hF⟩
            · have hJ := f15_ai10brrz_j3_ok k (decide (a0_2 > 0)) a0 true a0 a0_1 a0_2 a0_3 a0_4 a0_5 a0_6 a0_7 a0_8 a0_9 a0_10 a0_11 a0_12 a0 a0_1 a0_2 0 0 0 0 0 0 0 false [] [] _ hF
              simp (maxSteps := 999999) (disch := first | exact D (by decide) | exact K (by kernel_rfl)) only [EA, EE, EG, EF, ED, ofVal, ofVal1, ofCell, lenV, aggEqV, cellEq, intBin, isShift, V.ids, lendV, frz, flatV, cellsOf, addOff, firstReg, oneOf, cellsAt, isAggD, isPure, ↓reduceIte, reduceCtorEq, Nat.reduceAdd, Nat.reduceSub, Nat.reduceMul, Nat.reduceLeDiff, Nat.reduceEqDiff, Nat.reduceBEq, Int.reduceToNat, Int.reduceLE, Int.reduceLT, Nat.reduceLT, Int.reduceBEq, Int.reduceBNe, Int.reduceEq, String.reduceEq, xk B15 [2, 2, 1, 3, 2, 3, 2, 3, 2, 2, 2, 1, 2, 2, 2] .sk rfl, hc3, h5, h6, h23, h41, h43]
              try simp only [NM, EE] at hJ
              exact hJ
            · have hJ := f15_ai10brrz_j3_ok k (decide (a0_2 > 0)) a0 (a0 == 6) a0 a0_1 a0_2 a0_3 a0_4 a0_5 a0_6 a0_7 a0_8 a0_9 a0_10 a0_11 a0_12 a0 a0_1 a0_2 0 0 0 0 0 0 0 false [] [] _ hF
              simp (maxSteps := 999999) (disch := first | exact D (by decide) | exact K (by kernel_rfl)) only [EA, EE, EG, EF, ED, ofVal, ofVal1, ofCell, lenV, aggEqV, cellEq, intBin, isShift, V.ids, lendV, frz, flatV, cellsOf, addOff, firstReg, oneOf, cellsAt, isAggD, isPure, ↓reduceIte, reduceCtorEq, Nat.reduceAdd, Nat.reduceSub, Nat.reduceMul, Nat.reduceLeDiff, Nat.reduceEqDiff, Nat.reduceBEq, Int.reduceToNat, Int.reduceLE, Int.reduceLT, Nat.reduceLT, Int.reduceBEq, Int.reduceBNe, Int.reduceEq, String.reduceEq, show (nav B15 [3, 2, 1, 3, 2, 3, 2, 3, 2, 2, 2, 1, 2, 2, 2]) = Code.region 16 _ false from rfl, hk_15_16, hz_15_16, hs_15_16, hc3, h5, h6, h23, h41, h43]
              try simp only [NM, EE] at hJ
              exact hJ
    · simp (maxSteps := 999999) (disch := first | exact D (by decide) | exact K (by kernel_rfl)) only [EA, EE, EG, EF, ED, ofVal, ofVal1, ofCell, lenV, aggEqV, cellEq, intBin, isShift, V.ids, lendV, frz, flatV, cellsOf, addOff, firstReg, oneOf, cellsAt, isAggD, isPure, ↓reduceIte, reduceCtorEq, Nat.reduceAdd, Nat.reduceSub, Nat.reduceMul, Nat.reduceLeDiff, Nat.reduceEqDiff, Nat.reduceBEq, Int.reduceToNat, Int.reduceLE, Int.reduceLT, Nat.reduceLT, Int.reduceBEq, Int.reduceBNe, Int.reduceEq, String.reduceEq, xk B15 [2, 2, 2] .sq rfl, xk B15 [1, 2, 2, 2] .sq rfl, show (nav B15 [1, 1, 2, 2, 2]) = Code.region 3 _ false from rfl, hk_15_3, hz_15_3, hs_15_3, fieldAddrV, u_26, i_26, is_26, ib_26, iz_26, u_3, i_3, is_3, ib_3, iz_3, xk B15 [2, 1, 2, 2, 2] (.bk 0) rfl, xk B15 [2, 2, 1, 2, 2, 2] .sq rfl, show (nav B15 [1, 2, 2, 1, 2, 2, 2]) = Code.region 5 _ false from rfl, hk_15_5, hz_15_5, hs_15_5, xk B15 [2, 2, 2, 1, 2, 2, 2] (.cd 23) rfl, hc3, h5]
      replace hF := cond_some hF
      rcases hF with ⟨h44, hF⟩ | ⟨h44, hF⟩
      · have hJ := f15_ai10brrz_j1_ok k false a0 a0_1 a0_2 a0_3 a0_4 a0_5 a0_6 a0_7 a0_8 a0_9 a0_10 a0_11 a0_12 a0 a0_1 a0_2 a0_3 0 a0_5 a0_6 0 0 0 a0_10 a0_11 [] _ hF
        simp (maxSteps := 999999) (disch := first | exact D (by decide) | exact K (by kernel_rfl)) only [EA, EE, EG, EF, ED, ofVal, ofVal1, ofCell, lenV, aggEqV, cellEq, intBin, isShift, V.ids, lendV, frz, flatV, cellsOf, addOff, firstReg, oneOf, cellsAt, isAggD, isPure, ↓reduceIte, reduceCtorEq, Nat.reduceAdd, Nat.reduceSub, Nat.reduceMul, Nat.reduceLeDiff, Nat.reduceEqDiff, Nat.reduceBEq, Int.reduceToNat, Int.reduceLE, Int.reduceLT, Nat.reduceLT, Int.reduceBEq, Int.reduceBNe, Int.reduceEq, String.reduceEq, xk B15 [2, 2, 2, 2, 1, 2, 2, 2] .sq rfl, show (nav B15 [1, 2, 2, 2, 2, 1, 2, 2, 2]) = Code.region 6 _ false from rfl, hk_15_6, hz_15_6, hs_15_6, fieldAddrV, u_26, i_26, is_26, ib_26, iz_26, u_23, i_23, is_23, ib_23, iz_23, xk B15 [2, 2, 2, 2, 2, 1, 2, 2, 2] .sq rfl, show (nav B15 [1, 2, 2, 2, 2, 2, 1, 2, 2, 2]) = Code.region 7 _ true from rfl, hk_15_7, hz_15_7, hs_15_7, u_3, i_3, is_3, ib_3, iz_3, u_4, i_4, is_4, ib_4, iz_4, u_22, i_22, is_22, ib_22, iz_22, show (nav B15 [2, 2, 2, 2, 2, 2, 1, 2, 2, 2]) = Code.region 8 _ false from rfl, hk_15_8, hz_15_8, hs_15_8, hc3, h5, h44]
        try simp only [NM, EE] at hJ
        exact hJ
      · simp (maxSteps := 999999) (disch := first | exact D (by decide) | exact K (by kernel_rfl)) only [EA, EE, EG, EF, ED, ofVal, ofVal1, ofCell, lenV, aggEqV, cellEq, intBin, isShift, V.ids, lendV, frz, flatV, cellsOf, addOff, firstReg, oneOf, cellsAt, isAggD, isPure, ↓reduceIte, reduceCtorEq, Nat.reduceAdd, Nat.reduceSub, Nat.reduceMul, Nat.reduceLeDiff, Nat.reduceEqDiff, Nat.reduceBEq, Int.reduceToNat, Int.reduceLE, Int.reduceLT, Nat.reduceLT, Int.reduceBEq, Int.reduceBNe, Int.reduceEq, String.reduceEq, xk B15 [3, 2, 2, 2, 1, 2, 2, 2] .sq rfl, show (nav B15 [1, 3, 2, 2, 2, 1, 2, 2, 2]) = Code.region 9 _ false from rfl, hk_15_9, hz_15_9, hs_15_9, xk B15 [2, 3, 2, 2, 2, 1, 2, 2, 2] (.cd 70) rfl, hc3, h5, h44]
        replace hF := cond_some hF
        rcases hF with ⟨h45, hF⟩ | ⟨h45, hF⟩
        · have hJ := f15_ai10brrz_j1_ok k false a0 a0_1 a0_2 a0_3 a0_4 a0_5 a0_6 a0_7 a0_8 a0_9 a0_10 a0_11 a0_12 a0 a0_1 a0_2 a0_3 a0_4 0 0 a0_7 a0_8 0 false [] a0_12 _ hF
          simp (maxSteps := 999999) (disch := first | exact D (by decide) | exact K (by kernel_rfl)) only [EA, EE, EG, EF, ED, ofVal, ofVal1, ofCell, lenV, aggEqV, cellEq, intBin, isShift, V.ids, lendV, frz, flatV, cellsOf, addOff, firstReg, oneOf, cellsAt, isAggD, isPure, ↓reduceIte, reduceCtorEq, Nat.reduceAdd, Nat.reduceSub, Nat.reduceMul, Nat.reduceLeDiff, Nat.reduceEqDiff, Nat.reduceBEq, Int.reduceToNat, Int.reduceLE, Int.reduceLT, Nat.reduceLT, Int.reduceBEq, Int.reduceBNe, Int.reduceEq, String.reduceEq, xk B15 [2, 2, 3, 2, 2, 2, 1, 2, 2, 2] .sq rfl, show (nav B15 [1, 2, 2, 3, 2, 2, 2, 1, 2, 2, 2]) = Code.region 10 _ true from rfl, hk_15_10, hz_15_10, hs_15_10, fieldAddrV, u_26, i_26, is_26, ib_26, iz_26, u_22, i_22, is_22, ib_22, iz_22, u_3, i_3, is_3, ib_3, iz_3, u_24, i_24, is_24, ib_24, iz_24, show (nav B15 [2, 2, 2, 3, 2, 2, 2, 1, 2, 2, 2]) = Code.region 11 _ false from rfl, hk_15_11, hz_15_11, hs_15_11, hc3, h5, h44, h45]
          try simp only [NM, EE] at hJ
          exact hJ
        · simp (maxSteps := 999999) (disch := first | exact D (by decide) | exact K (by kernel_rfl)) only [EA, EE, EG, EF, ED, ofVal, ofVal1, ofCell, lenV, aggEqV, cellEq, intBin, isShift, V.ids, lendV, frz, flatV, cellsOf, addOff, firstReg, oneOf, cellsAt, isAggD, isPure, ↓reduceIte, reduceCtorEq, Nat.reduceAdd, Nat.reduceSub, Nat.reduceMul, Nat.reduceLeDiff, Nat.reduceEqDiff, Nat.reduceBEq, Int.reduceToNat, Int.reduceLE, Int.reduceLT, Nat.reduceLT, Int.reduceBEq, Int.reduceBNe, Int.reduceEq, String.reduceEq, xk B15 [3, 2, 3, 2, 2, 2, 1, 2, 2, 2] .sq rfl, show (nav B15 [1, 3, 2, 3, 2, 2, 2, 1, 2, 2, 2]) = Code.region 12 _ false from rfl, hk_15_12, hz_15_12, hs_15_12, xk B15 [2, 3, 2, 3, 2, 2, 2, 1, 2, 2, 2] (.cd 120) rfl, hc3, h5, h44, h45]
          replace hF := cond_some hF
          rcases hF with ⟨h46, hF⟩ | ⟨h46, hF⟩
          · have hJ := f15_ai10brrz_j1_ok k false a0 a0_1 a0_2 a0_3 a0_4 a0_5 a0_6 a0_7 a0_8 a0_9 a0_10 a0_11 a0_12 a0 a0_1 a0_2 a0_3 0 0 0 0 0 0 false [] [] _ hF
            simp (maxSteps := 999999) (disch := first | exact D (by decide) | exact K (by kernel_rfl)) only [EA, EE, EG, EF, ED, ofVal, ofVal1, ofCell, lenV, aggEqV, cellEq, intBin, isShift, V.ids, lendV, frz, flatV, cellsOf, addOff, firstReg, oneOf, cellsAt, isAggD, isPure, ↓reduceIte, reduceCtorEq, Nat.reduceAdd, Nat.reduceSub, Nat.reduceMul, Nat.reduceLeDiff, Nat.reduceEqDiff, Nat.reduceBEq, Int.reduceToNat, Int.reduceLE, Int.reduceLT, Nat.reduceLT, Int.reduceBEq, Int.reduceBNe, Int.reduceEq, String.reduceEq, xk B15 [2, 2, 3, 2, 3, 2, 2, 2, 1, 2, 2, 2] .sq rfl, show (nav B15 [1, 2, 2, 3, 2, 3, 2, 2, 2, 1, 2, 2, 2]) = Code.region 13 _ false from rfl, hk_15_13, hz_15_13, hs_15_13, fieldAddrV, u_26, i_26, is_26, ib_26, iz_26, u_22, i_22, is_22, ib_22, iz_22, show (nav B15 [2, 2, 2, 3, 2, 3, 2, 2, 2, 1, 2, 2, 2]) = Code.region 14 _ false from rfl, hk_15_14, hz_15_14, hs_15_14, hc3, h5, h44, h45, h46]
            try simp only [NM, EE] at hJ
            exact hJ
          · simp (maxSteps := 999999) (disch := first | exact D (by decide) | exact K (by kernel_rfl)) only [EA, EE, EG, EF, ED, ofVal, ofVal1, ofCell, lenV, aggEqV, cellEq, intBin, isShift, V.ids, lendV, frz, flatV, cellsOf, addOff, firstReg, oneOf, cellsAt, isAggD, isPure, ↓reduceIte, reduceCtorEq, Nat.reduceAdd, Nat.reduceSub, Nat.reduceMul, Nat.reduceLeDiff, Nat.reduceEqDiff, Nat.reduceBEq, Int.reduceToNat, Int.reduceLE, Int.reduceLT, Nat.reduceLT, Int.reduceBEq, Int.reduceBNe, Int.reduceEq, String.reduceEq, xk B15 [3, 2, 3, 2, 3, 2, 2, 2, 1, 2, 2, 2] .sq rfl, xk B15 [1, 3, 2, 3, 2, 3, 2, 2, 2, 1, 2, 2, 2] .sq rfl, show (nav B15 [1, 1, 3, 2, 3, 2, 3, 2, 2, 2, 1, 2, 2, 2]) = Code.region 15 _ false from rfl, hk_15_15, hz_15_15, hs_15_15, xk B15 [2, 1, 3, 2, 3, 2, 3, 2, 2, 2, 1, 2, 2, 2] (.cd 131) rfl, hc3, h5, h44, h45, h46]
            replace hF := cond_some hF
            rcases hF with ⟨h47, hF⟩ | ⟨h47, hF⟩
            · have hJ := f15_ai10brrz_j3_ok k false a0 true a0 a0_1 a0_2 a0_3 a0_4 a0_5 a0_6 a0_7 a0_8 a0_9 a0_10 a0_11 a0_12 a0 a0_1 a0_2 0 0 0 0 0 0 0 false [] [] _ hF
              simp (maxSteps := 999999) (disch := first | exact D (by decide) | exact K (by kernel_rfl)) only [EA, EE, EG, EF, ED, ofVal, ofVal1, ofCell, lenV, aggEqV, cellEq, intBin, isShift, V.ids, lendV, frz, flatV, cellsOf, addOff, firstReg, oneOf, cellsAt, isAggD, isPure, ↓reduceIte, reduceCtorEq, Nat.reduceAdd, Nat.reduceSub, Nat.reduceMul, Nat.reduceLeDiff, Nat.reduceEqDiff, Nat.reduceBEq, Int.reduceToNat, Int.reduceLE, Int.reduceLT, Nat.reduceLT, Int.reduceBEq, Int.reduceBNe, Int.reduceEq, String.reduceEq, xk B15 [2, 2, 1, 3, 2, 3, 2, 3, 2, 2, 2, 1, 2, 2, 2] .sk rfl, hc3, h5, h44, h45, h46, h47]
              try simp only [NM, EE] at hJ
              exact hJ
            · have hJ := f15_ai10brrz_j3_ok k false a0 (a0 == 6) a0 a0_1 a0_2 a0_3 a0_4 a0_5 a0_6 a0_7 a0_8 a0_9 a0_10 a0_11 a0_12 a0 a0_1 a0_2 0 0 0 0 0 0 0 false [] [] _ hF
              simp (maxSteps := 999999) (disch := first | exact D (by decide) | exact K (by kernel_rfl)) only [EA, EE, EG, EF, ED, ofVal, ofVal1, ofCell, lenV, aggEqV, cellEq, intBin, isShift, V.ids, lendV, frz, flatV, cellsOf, addOff, firstReg, oneOf, cellsAt, isAggD, isPure, ↓reduceIte, reduceCtorEq, Nat.reduceAdd, Nat.reduceSub, Nat.reduceMul, Nat.reduceLeDiff, Nat.reduceEqDiff, Nat.reduceBEq, Int.reduceToNat, Int.reduceLE, Int.reduceLT, Nat.reduceLT, Int.reduceBEq, Int.reduceBNe, Int.reduceEq, String.reduceEq, show (nav B15 [3, 2, 1, 3, 2, 3, 2, 3, 2, 2, 2, 1, 2, 2, 2]) = Code.region 16 _ false from rfl, hk_15_16, hz_15_16, hs_15_16, hc3, h5, h44, h45, h46, h47]
              try simp only [NM, EE] at hJ
              exact hJ
noncomputable def f15_ai10brrz (k : Nat) (a0 : Int) (a0_1 : Int) (a0_2 : Int) (a0_3 : Int) (a0_4 : Int) (a0_5 : Int) (a0_6 : Int) (a0_7 : Int) (a0_8 : Int) (a0_9 : Int) (a0_10 : Bool) (a0_11 : List Int) (a0_12 : List T45) : Option R15_ai10brrz := match k with | 0 => none | k + 1 => f15_ai10brrz_e k a0 a0_1 a0_2 a0_3 a0_4 a0_5 a0_6 a0_7 a0_8 a0_9 a0_10 a0_11 a0_12
theorem f15_ai10brrz_ok (k : Nat) (a0 : Int) (a0_1 : Int) (a0_2 : Int) (a0_3 : Int) (a0_4 : Int) (a0_5 : Int) (a0_6 : Int) (a0_7 : Int) (a0_8 : Int) (a0_9 : Int) (a0_10 : Bool) (a0_11 : List Int) (a0_12 : List T45) (r : R15_ai10brrz) (hF : f15_ai10brrz k a0 a0_1 a0_2 a0_3 a0_4 a0_5 a0_6 a0_7 a0_8 a0_9 a0_10 a0_11 a0_12 = some r) : CV k 15 [V.agg [V.p (Value.int .i64 a0), V.p (Value.int .i64 a0_1), V.p (Value.int .u32 a0_2), V.p (Value.int .u32 a0_3), V.p (Value.int .u32 a0_4), V.p (Value.int .i64 a0_5), V.p (Value.int .i64 a0_6), V.p (Value.int .i64 a0_7), V.p (Value.int .i64 a0_8), V.p (Value.int .i64 a0_9), V.p (Value.bool a0_10), V.sl 1 (rowsOf (encI .u8) a0_11), V.sl 2 (rowsOf encT45 a0_12)]] [] = some r.st := by
  cases k with
  | zero => cases hF
  | succ k =>
    unfold CV
    rw [ev_call (F := Try.f15) (c := (nav B15 [])) rfl Try.func15 rfl rfl rfl]
    exact f15_ai10brrz_e_ok k a0 a0_1 a0_2 a0_3 a0_4 a0_5 a0_6 a0_7 a0_8 a0_9 a0_10 a0_11 a0_12 r hF
end Go.Proofs.YthjefcamonmjpaaV
