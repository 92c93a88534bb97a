/- What the program's functions answer: plain functions, and that the interpreter answers what they do. Written by a program of this session, out of the translation. -/
import Derived.Test.YthjefcamonmjpaaVP1
namespace Go.Proofs.YthjefcamonmjpaaV
open Go
set_option linter.unusedVariables false
set_option linter.unusedSimpArgs false
set_option maxRecDepth 8000
set_option maxHeartbeats 4000000
-- f28_rii: f28 heliograph/segment.claimed
inductive R28_rii where
  | o0 (y : Bool)
noncomputable def R28_rii.st : R28_rii → V × List O × List O
  | .o0 y => (V.p (Value.bool y), [], [])
inductive R28_rii_l1 where
  | o0 (y : Bool)
  | o1 (y : List T45) (y_1 : Int) (y_2 : Int) (y_3 : List T45) (y_4 : Int) (y_5 : Int)
  | o2 (y : List T45) (y_1 : Int) (y_2 : Int) (y_3 : List T45) (y_4 : Int) (y_5 : Int) (y_6 : Bool)
noncomputable def R28_rii_l1.st : R28_rii_l1 → Out × St
  | .o0 y => (.ret, ({ n := 51, F := [(6, V.p (Value.bool y))], M := [] } : St))
  | .o1 y y_1 y_2 y_3 y_4 y_5 => (.norm, ({ n := 51, F := [(0, V.sl 2 (rowsOf encT45 y)), (2, V.p (Value.int .i64 y_1)), (7, V.p (Value.int .i64 y_2)), (12, V.sl 2 (rowsOf encT45 y_3)), (13, V.p (Value.int .i64 y_4)), (14, V.p (Value.int .i64 y_5))], M := [] } : St))
  | .o2 y y_1 y_2 y_3 y_4 y_5 y_6 => (.exit 0, ({ n := 51, F := [(0, V.sl 2 (rowsOf encT45 y)), (2, V.p (Value.int .i64 y_1)), (7, V.p (Value.int .i64 y_2)), (12, V.sl 2 (rowsOf encT45 y_3)), (13, V.p (Value.int .i64 y_4)), (14, V.p (Value.int .i64 y_5)), (15, V.p (Value.bool y_6))], M := [] } : St))
noncomputable def f28_rii_l1_j3 (k : Nat) (x0 : List T45) (x2 : Int) (x7 : Int) (x12 : List T45) (x13 : Int) (x14 : Int) : Option R28_rii_l1 :=
  some (R28_rii_l1.o1 x0 x2 x7 x12 x13 (IntKind.i64.wrap (x14 + (1 : Int))))
theorem f28_rii_l1_j3_ok (k : Nat) (x0 : List T45) (x2 : Int) (x7 : Int) (x12 : List T45) (x13 : Int) (x14 : Int) (r : R28_rii_l1) (hF : f28_rii_l1_j3 k x0 x2 x7 x12 x13 x14 = some r) : EX 28 k (nav B28 [2, 2, 2, 1, 2, 2, 1, 2, 2]) ({ n := 51, F := [(0, V.sl 2 (rowsOf encT45 x0)), (2, V.p (Value.int .i64 x2)), (7, V.p (Value.int .i64 x7)), (12, V.sl 2 (rowsOf encT45 x12)), (13, V.p (Value.int .i64 x13)), (14, V.p (Value.int .i64 x14))], M := [] } : St) = some r.st := by
  unfold f28_rii_l1_j3 at hF
  cases hF
  simp (maxSteps := 999999) (disch := first | exact D (by decide) | exact K (by kernel_rfl)) only [EA, EE, EG, EF, ED, ofVal, ofVal1, ofCell, lenV, aggEqV, cellEq, intBin, isShift, V.ids, lendV, frz, flatV, cellsOf, addOff, firstReg, oneOf, cellsAt, isAggD, isPure, ↓reduceIte, reduceCtorEq, Nat.reduceAdd, Nat.reduceSub, Nat.reduceMul, Nat.reduceLeDiff, Nat.reduceEqDiff, Nat.reduceBEq, Int.reduceToNat, Int.reduceLE, Int.reduceLT, Nat.reduceLT, Int.reduceBEq, Int.reduceBNe, Int.reduceEq, String.reduceEq, show (nav B28 [2, 2, 2, 1, 2, 2, 1, 2, 2]) = Code.region 8 _ false from rfl, hk_28_8, hz_28_8, hs_28_8, R28_rii_l1.st]
noncomputable def f28_rii_l1_j2 (k : Nat) (x0 : List T45) (x2 : Int) (x12 : List T45) (x13 : Int) (x14 : Int) (x41 : Bool) (m9 : Int) (m9_1 : Int) : Option R28_rii_l1 :=
  f28_rii_l1_j3 k x0 x2 (IntKind.i64.wrap (m9 + m9_1)) x12 x13 x14
theorem f28_rii_l1_j2_ok (k : Nat) (x0 : List T45) (x2 : Int) (x12 : List T45) (x13 : Int) (x14 : Int) (x41 : Bool) (m9 : Int) (m9_1 : Int) (r : R28_rii_l1) (hF : f28_rii_l1_j2 k x0 x2 x12 x13 x14 x41 m9 m9_1 = some r) : SQ 28 k (nav B28 [2, 2, 2, 1, 2, 2, 1, 2, 2]) (blockK 1 (EX 28 k (nav B28 [2, 2, 2, 1, 2, 2, 1, 2, 2, 1, 2, 2]) ({ n := 51, F := [(0, V.sl 2 (rowsOf encT45 x0)), (2, V.p (Value.int .i64 x2)), (9, V.ptr 9 0), (12, V.sl 2 (rowsOf encT45 x12)), (13, V.p (Value.int .i64 x13)), (14, V.p (Value.int .i64 x14)), (41, V.p (Value.bool x41))], M := [(9, O.box 45 [V.p (Value.int .i64 m9), V.p (Value.int .i64 m9_1)])] } : St))) = some r.st := by
  unfold f28_rii_l1_j2 at hF
  have hJ := f28_rii_l1_j3_ok k x0 x2 (IntKind.i64.wrap (m9 + m9_1)) x12 x13 x14 _ hF
  simp (maxSteps := 999999) (disch := first | exact D (by decide) | exact K (by kernel_rfl)) only [EA, EE, EG, EF, ED, ofVal, ofVal1, ofCell, lenV, aggEqV, cellEq, intBin, isShift, V.ids, lendV, frz, flatV, cellsOf, addOff, firstReg, oneOf, cellsAt, isAggD, isPure, ↓reduceIte, reduceCtorEq, Nat.reduceAdd, Nat.reduceSub, Nat.reduceMul, Nat.reduceLeDiff, Nat.reduceEqDiff, Nat.reduceBEq, Int.reduceToNat, Int.reduceLE, Int.reduceLT, Nat.reduceLT, Int.reduceBEq, Int.reduceBNe, Int.reduceEq, String.reduceEq, show (nav B28 [2, 2, 2, 1, 2, 2, 1, 2, 2, 1, 2, 2]) = Code.region 7 _ false from rfl, hk_28_7, hz_28_7, hs_28_7, fieldAddrV, u_45, i_45, is_45, ib_45, iz_45, u_3, i_3, is_3, ib_3, iz_3]
  try simp only [NM, EE] at hJ
  exact hJ
noncomputable def f28_rii_l1_j1 (k : Nat) (x0 : List T45) (x2 : Int) (x7 : Int) (x12 : List T45) (x13 : Int) (x14 : Int) (x15 : Bool) : Option R28_rii_l1 :=
  ifE ((0 : Int) ≤ x14) (
    Option.bind (x12[(Int.toNat x14)]?) fun v2 =>
      cond ((decide (v2.N < 1)))
        (some (R28_rii_l1.o0 false))
        (
          cond ((decide (v2.At ≤ x7)))
            (some (R28_rii_l1.o0 false))
            (
              cond ((decide (v2.At ≥ x2)))
                (some (R28_rii_l1.o0 false))
                (
                  cond ((decide (v2.N > (IntKind.i64.wrap (x2 - v2.At)))))
                    (some (R28_rii_l1.o0 false))
                    (f28_rii_l1_j2 k x0 x2 x12 x13 x14 false v2.At v2.N)))))
theorem f28_rii_l1_j1_ok (k : Nat) (x0 : List T45) (x2 : Int) (x7 : Int) (x12 : List T45) (x13 : Int) (x14 : Int) (x15 : Bool) (r : R28_rii_l1) (hF : f28_rii_l1_j1 k x0 x2 x7 x12 x13 x14 x15 = some r) : EX 28 k (nav B28 [2, 2, 1, 2, 2, 1, 2, 2]) ({ n := 51, F := [(0, V.sl 2 (rowsOf encT45 x0)), (2, V.p (Value.int .i64 x2)), (7, V.p (Value.int .i64 x7)), (12, V.sl 2 (rowsOf encT45 x12)), (13, V.p (Value.int .i64 x13)), (14, V.p (Value.int .i64 x14)), (15, V.p (Value.bool x15))], M := [] } : St) = some r.st := by
  unfold f28_rii_l1_j1 at hF
  replace hF := ifE_some.1 hF
  obtain ⟨h1, hF⟩ := hF
  replace hF := Option.bind_eq_some_iff.1 hF
  obtain ⟨v2, h3, hF⟩ := hF
  simp (maxSteps := 999999) (disch := first | exact D (by decide) | exact K (by kernel_rfl)) only [EA, EE, EG, EF, ED, ofVal, ofVal1, ofCell, lenV, aggEqV, cellEq, intBin, isShift, V.ids, lendV, frz, flatV, cellsOf, addOff, firstReg, oneOf, cellsAt, isAggD, isPure, ↓reduceIte, reduceCtorEq, Nat.reduceAdd, Nat.reduceSub, Nat.reduceMul, Nat.reduceLeDiff, Nat.reduceEqDiff, Nat.reduceBEq, Int.reduceToNat, Int.reduceLE, Int.reduceLT, Nat.reduceLT, Int.reduceBEq, Int.reduceBNe, Int.reduceEq, String.reduceEq, xk B28 [2, 2, 1, 2, 2, 1, 2, 2] .sq rfl, xk B28 [1, 2, 2, 1, 2, 2, 1, 2, 2] (.bk 1) rfl, xk B28 [2, 1, 2, 2, 1, 2, 2, 1, 2, 2] .sq rfl, show (nav B28 [1, 2, 1, 2, 2, 1, 2, 2, 1, 2, 2]) = Code.region 4 _ false from rfl, hk_28_4, hz_28_4, hs_28_4, indexAddrV, u_24, i_24, is_24, ib_24, iz_24, u_45, i_45, is_45, ib_45, iz_45, encT45_eq, xk B28 [2, 2, 1, 2, 2, 1, 2, 2, 1, 2, 2] .sq rfl, xk B28 [1, 2, 2, 1, 2, 2, 1, 2, 2, 1, 2, 2] .sq rfl, show (nav B28 [1, 1, 2, 2, 1, 2, 2, 1, 2, 2, 1, 2, 2]) = Code.region 5 _ false from rfl, hk_28_5, hz_28_5, hs_28_5, fieldAddrV, u_3, i_3, is_3, ib_3, iz_3, h1, h3]
  replace hF := cond_some hF
  rcases hF with ⟨h4, hF⟩ | ⟨h4, hF⟩
  · cases hF
    simp (maxSteps := 999999) (disch := first | exact D (by decide) | exact K (by kernel_rfl)) only [EA, EE, EG, EF, ED, ofVal, ofVal1, ofCell, lenV, aggEqV, cellEq, intBin, isShift, V.ids, lendV, frz, flatV, cellsOf, addOff, firstReg, oneOf, cellsAt, isAggD, isPure, ↓reduceIte, reduceCtorEq, Nat.reduceAdd, Nat.reduceSub, Nat.reduceMul, Nat.reduceLeDiff, Nat.reduceEqDiff, Nat.reduceBEq, Int.reduceToNat, Int.reduceLE, Int.reduceLT, Nat.reduceLT, Int.reduceBEq, Int.reduceBNe, Int.reduceEq, String.reduceEq, xk B28 [2, 1, 2, 2, 1, 2, 2, 1, 2, 2, 1, 2, 2] (.cd 41) rfl, xk B28 [2, 2, 1, 2, 2, 1, 2, 2, 1, 2, 2, 1, 2, 2] .sq rfl, show (nav B28 [1, 2, 2, 1, 2, 2, 1, 2, 2, 1, 2, 2, 1, 2, 2]) = Code.region 6 _ false from rfl, hk_28_6, hz_28_6, hs_28_6, xk B28 [2, 2, 2, 1, 2, 2, 1, 2, 2, 1, 2, 2, 1, 2, 2] .rt rfl, R28_rii_l1.st, h1, h3, h4]
  · simp (maxSteps := 999999) (disch := first | exact D (by decide) | exact K (by kernel_rfl)) only [EA, EE, EG, EF, ED, ofVal, ofVal1, ofCell, lenV, aggEqV, cellEq, intBin, isShift, V.ids, lendV, frz, flatV, cellsOf, addOff, firstReg, oneOf, cellsAt, isAggD, isPure, ↓reduceIte, reduceCtorEq, Nat.reduceAdd, Nat.reduceSub, Nat.reduceMul, Nat.reduceLeDiff, Nat.reduceEqDiff, Nat.reduceBEq, Int.reduceToNat, Int.reduceLE, Int.reduceLT, Nat.reduceLT, Int.reduceBEq, Int.reduceBNe, Int.reduceEq, String.reduceEq, fieldAddrV, u_45, i_45, is_45, ib_45, iz_45, u_3, i_3, is_3, ib_3, iz_3, h1, h3, h4]
    replace hF := cond_some hF
    rcases hF with ⟨h5, hF⟩ | ⟨h5, hF⟩
    · cases hF
      simp (maxSteps := 999999) (disch := first | exact D (by decide) | exact K (by kernel_rfl)) only [EA, EE, EG, EF, ED, ofVal, ofVal1, ofCell, lenV, aggEqV, cellEq, intBin, isShift, V.ids, lendV, frz, flatV, cellsOf, addOff, firstReg, oneOf, cellsAt, isAggD, isPure, ↓reduceIte, reduceCtorEq, Nat.reduceAdd, Nat.reduceSub, Nat.reduceMul, Nat.reduceLeDiff, Nat.reduceEqDiff, Nat.reduceBEq, Int.reduceToNat, Int.reduceLE, Int.reduceLT, Nat.reduceLT, Int.reduceBEq, Int.reduceBNe, Int.reduceEq, String.reduceEq, xk B28 [2, 1, 2, 2, 1, 2, 2, 1, 2, 2, 1, 2, 2] (.cd 41) rfl, xk B28 [2, 2, 1, 2, 2, 1, 2, 2, 1, 2, 2, 1, 2, 2] .sq rfl, show (nav B28 [1, 2, 2, 1, 2, 2, 1, 2, 2, 1, 2, 2, 1, 2, 2]) = Code.region 6 _ false from rfl, hk_28_6, hz_28_6, hs_28_6, xk B28 [2, 2, 2, 1, 2, 2, 1, 2, 2, 1, 2, 2, 1, 2, 2] .rt rfl, R28_rii_l1.st, h1, h3, h4, h5]
    · simp (maxSteps := 999999) (disch := first | exact D (by decide) | exact K (by kernel_rfl)) only [EA, EE, EG, EF, ED, ofVal, ofVal1, ofCell, lenV, aggEqV, cellEq, intBin, isShift, V.ids, lendV, frz, flatV, cellsOf, addOff, firstReg, oneOf, cellsAt, isAggD, isPure, ↓reduceIte, reduceCtorEq, Nat.reduceAdd, Nat.reduceSub, Nat.reduceMul, Nat.reduceLeDiff, Nat.reduceEqDiff, Nat.reduceBEq, Int.reduceToNat, Int.reduceLE, Int.reduceLT, Nat.reduceLT, Int.reduceBEq, Int.reduceBNe, Int.reduceEq, String.reduceEq, fieldAddrV, u_45, i_45, is_45, ib_45, iz_45, u_3, i_3, is_3, ib_3, iz_3, h1, h3, h4, h5]
      replace hF := cond_some hF
      rcases hF with ⟨h6, hF⟩ | ⟨h6, hF⟩
      · cases hF
        simp (maxSteps := 999999) (disch := first | exact D (by decide) | exact K (by kernel_rfl)) only [EA, EE, EG, EF, ED, ofVal, ofVal1, ofCell, lenV, aggEqV, cellEq, intBin, isShift, V.ids, lendV, frz, flatV, cellsOf, addOff, firstReg, oneOf, cellsAt, isAggD, isPure, ↓reduceIte, reduceCtorEq, Nat.reduceAdd, Nat.reduceSub, Nat.reduceMul, Nat.reduceLeDiff, Nat.reduceEqDiff, Nat.reduceBEq, Int.reduceToNat, Int.reduceLE, Int.reduceLT, Nat.reduceLT, Int.reduceBEq, Int.reduceBNe, Int.reduceEq, String.reduceEq, xk B28 [2, 1, 2, 2, 1, 2, 2, 1, 2, 2, 1, 2, 2] (.cd 41) rfl, xk B28 [2, 2, 1, 2, 2, 1, 2, 2, 1, 2, 2, 1, 2, 2] .sq rfl, show (nav B28 [1, 2, 2, 1, 2, 2, 1, 2, 2, 1, 2, 2, 1, 2, 2]) = Code.region 6 _ false from rfl, hk_28_6, hz_28_6, hs_28_6, xk B28 [2, 2, 2, 1, 2, 2, 1, 2, 2, 1, 2, 2, 1, 2, 2] .rt rfl, R28_rii_l1.st, h1, h3, h4, h5, h6]
      · simp (maxSteps := 999999) (disch := first | exact D (by decide) | exact K (by kernel_rfl)) only [EA, EE, EG, EF, ED, ofVal, ofVal1, ofCell, lenV, aggEqV, cellEq, intBin, isShift, V.ids, lendV, frz, flatV, cellsOf, addOff, firstReg, oneOf, cellsAt, isAggD, isPure, ↓reduceIte, reduceCtorEq, Nat.reduceAdd, Nat.reduceSub, Nat.reduceMul, Nat.reduceLeDiff, Nat.reduceEqDiff, Nat.reduceBEq, Int.reduceToNat, Int.reduceLE, Int.reduceLT, Nat.reduceLT, Int.reduceBEq, Int.reduceBNe, Int.reduceEq, String.reduceEq, fieldAddrV, u_45, i_45, is_45, ib_45, iz_45, u_3, i_3, is_3, ib_3, iz_3, xk B28 [2, 1, 2, 2, 1, 2, 2, 1, 2, 2, 1, 2, 2] (.cd 41) rfl, h1, h3, h4, h5, h6]
        replace hF := cond_some hF
        rcases hF with ⟨h7, hF⟩ | ⟨h7, hF⟩
        · cases hF
          simp (maxSteps := 999999) (disch := first | exact D (by decide) | exact K (by kernel_rfl)) only [EA, EE, EG, EF, ED, ofVal, ofVal1, ofCell, lenV, aggEqV, cellEq, intBin, isShift, V.ids, lendV, frz, flatV, cellsOf, addOff, firstReg, oneOf, cellsAt, isAggD, isPure, ↓reduceIte, reduceCtorEq, Nat.reduceAdd, Nat.reduceSub, Nat.reduceMul, Nat.reduceLeDiff, Nat.reduceEqDiff, Nat.reduceBEq, Int.reduceToNat, Int.reduceLE, Int.reduceLT, Nat.reduceLT, Int.reduceBEq, Int.reduceBNe, Int.reduceEq, String.reduceEq, xk B28 [2, 2, 1, 2, 2, 1, 2, 2, 1, 2, 2, 1, 2, 2] .sq rfl, show (nav B28 [1, 2, 2, 1, 2, 2, 1, 2, 2, 1, 2, 2, 1, 2, 2]) = Code.region 6 _ false from rfl, hk_28_6, hz_28_6, hs_28_6, xk B28 [2, 2, 2, 1, 2, 2, 1, 2, 2, 1, 2, 2, 1, 2, 2] .rt rfl, R28_rii_l1.st, h1, h3, h4, h5, h6, h7]
        · have hJ := f28_rii_l1_j2_ok k x0 x2 x12 x13 x14 false v2.At v2.N _ hF
          simp (maxSteps := 999999) (disch := first | exact D (by decide) | exact K (by kernel_rfl)) only [EA, EE, EG, EF, ED, ofVal, ofVal1, ofCell, lenV, aggEqV, cellEq, intBin, isShift, V.ids, lendV, frz, flatV, cellsOf, addOff, firstReg, oneOf, cellsAt, isAggD, isPure, ↓reduceIte, reduceCtorEq, Nat.reduceAdd, Nat.reduceSub, Nat.reduceMul, Nat.reduceLeDiff, Nat.reduceEqDiff, Nat.reduceBEq, Int.reduceToNat, Int.reduceLE, Int.reduceLT, Nat.reduceLT, Int.reduceBEq, Int.reduceBNe, Int.reduceEq, String.reduceEq, xk B28 [3, 2, 1, 2, 2, 1, 2, 2, 1, 2, 2, 1, 2, 2] .sk rfl, h1, h3, h4, h5, h6, h7]
          try simp only [NM, EE] at hJ
          exact hJ
noncomputable def f28_rii_l1_b (k : Nat) (x0 : List T45) (x2 : Int) (x7 : Int) (x12 : List T45) (x13 : Int) (x14 : Int) : Option R28_rii_l1 :=
  cond ((decide (x14 < x13)))
    (f28_rii_l1_j1 k x0 x2 x7 x12 x13 x14 true)
    (some (R28_rii_l1.o2 x0 x2 x7 x12 x13 x14 false))
theorem f28_rii_l1_b_ok (k : Nat) (x0 : List T45) (x2 : Int) (x7 : Int) (x12 : List T45) (x13 : Int) (x14 : Int) (r : R28_rii_l1) (hF : f28_rii_l1_b k x0 x2 x7 x12 x13 x14 = some r) : EX 28 k (nav B28 [1, 2, 2, 1, 2, 2]) ({ n := 51, F := [(0, V.sl 2 (rowsOf encT45 x0)), (2, V.p (Value.int .i64 x2)), (7, V.p (Value.int .i64 x7)), (12, V.sl 2 (rowsOf encT45 x12)), (13, V.p (Value.int .i64 x13)), (14, V.p (Value.int .i64 x14))], M := [] } : St) = some r.st := by
  unfold f28_rii_l1_b at hF
  simp (maxSteps := 999999) (disch := first | exact D (by decide) | exact K (by kernel_rfl)) only [EA, EE, EG, EF, ED, ofVal, ofVal1, ofCell, lenV, aggEqV, cellEq, intBin, isShift, V.ids, lendV, frz, flatV, cellsOf, addOff, firstReg, oneOf, cellsAt, isAggD, isPure, ↓reduceIte, reduceCtorEq, Nat.reduceAdd, Nat.reduceSub, Nat.reduceMul, Nat.reduceLeDiff, Nat.reduceEqDiff, Nat.reduceBEq, Int.reduceToNat, Int.reduceLE, Int.reduceLT, Nat.reduceLT, Int.reduceBEq, Int.reduceBNe, Int.reduceEq, String.reduceEq, xk B28 [1, 2, 2, 1, 2, 2] .sq rfl, show (nav B28 [1, 1, 2, 2, 1, 2, 2]) = Code.region 3 _ false from rfl, hk_28_3, hz_28_3, hs_28_3, xk B28 [2, 1, 2, 2, 1, 2, 2] .sq rfl, xk B28 [1, 2, 1, 2, 2, 1, 2, 2] (.cd 15) rfl]
  replace hF := cond_some hF
  rcases hF with ⟨h1, hF⟩ | ⟨h1, hF⟩
  · have hJ := f28_rii_l1_j1_ok k x0 x2 x7 x12 x13 x14 true _ hF
    simp (maxSteps := 999999) (disch := first | exact D (by decide) | exact K (by kernel_rfl)) only [EA, EE, EG, EF, ED, ofVal, ofVal1, ofCell, lenV, aggEqV, cellEq, intBin, isShift, V.ids, lendV, frz, flatV, cellsOf, addOff, firstReg, oneOf, cellsAt, isAggD, isPure, ↓reduceIte, reduceCtorEq, Nat.reduceAdd, Nat.reduceSub, Nat.reduceMul, Nat.reduceLeDiff, Nat.reduceEqDiff, Nat.reduceBEq, Int.reduceToNat, Int.reduceLE, Int.reduceLT, Nat.reduceLT, Int.reduceBEq, Int.reduceBNe, Int.reduceEq, String.reduceEq, xk B28 [2, 1, 2, 1, 2, 2, 1, 2, 2] .sk rfl, h1]
    try simp only [NM, EE] at hJ
    exact hJ
  · cases hF
    simp (maxSteps := 999999) (disch := first | exact D (by decide) | exact K (by kernel_rfl)) only [EA, EE, EG, EF, ED, ofVal, ofVal1, ofCell, lenV, aggEqV, cellEq, intBin, isShift, V.ids, lendV, frz, flatV, cellsOf, addOff, firstReg, oneOf, cellsAt, isAggD, isPure, ↓reduceIte, reduceCtorEq, Nat.reduceAdd, Nat.reduceSub, Nat.reduceMul, Nat.reduceLeDiff, Nat.reduceEqDiff, Nat.reduceBEq, Int.reduceToNat, Int.reduceLE, Int.reduceLT, Nat.reduceLT, Int.reduceBEq, Int.reduceBNe, Int.reduceEq, String.reduceEq, xk B28 [3, 1, 2, 1, 2, 2, 1, 2, 2] (.ex 0) rfl, R28_rii_l1.st, h1]
noncomputable def f28_rii_l1 (k : Nat) : Nat → (List T45) → Int → Int → (List T45) → Int → Int → Option R28_rii_l1
  | 0, _, _, _, _, _, _ => none
  | n + 1, x0, x2, x7, x12, x13, x14 => Option.bind (f28_rii_l1_b k x0 x2 x7 x12 x13 x14) fun o =>
    match o with
    | .o0 y => some (.o0 y)
    | .o1 y y_1 y_2 y_3 y_4 y_5 => f28_rii_l1 k n y y_1 y_2 y_3 y_4 y_5
    | .o2 y y_1 y_2 y_3 y_4 y_5 y_6 => some (.o2 y y_1 y_2 y_3 y_4 y_5 y_6)
theorem f28_rii_l1_ok (k : Nat) (n : Nat) : ∀ (x0 : List T45) (x2 : Int) (x7 : Int) (x12 : List T45) (x13 : Int) (x14 : Int) (r : R28_rii_l1) (hF : f28_rii_l1 k n x0 x2 x7 x12 x13 x14 = some r) (σ : St) (hσ : headR (hints.head 28 3) (hints.canon 28 3) σ = some ({ n := 51, F := [(0, V.sl 2 (rowsOf encT45 x0)), (2, V.p (Value.int .i64 x2)), (7, V.p (Value.int .i64 x7)), (12, V.sl 2 (rowsOf encT45 x12)), (13, V.p (Value.int .i64 x13)), (14, V.p (Value.int .i64 x14))], M := [] } : St)), LP 28 k (nav B28 [1, 2, 2, 1, 2, 2]) n σ = some r.st := by
  induction n with
  | zero => intro x0 x2 x7 x12 x13 x14 r hF; cases hF
  | succ n ih =>
    intro x0 x2 x7 x12 x13 x14 r hF σ hσ
    rw [f28_rii_l1] at hF
    obtain ⟨o, h, hF⟩ := Option.bind_eq_some_iff.1 hF
    have hB := f28_rii_l1_b_ok k x0 x2 x7 x12 x13 x14 o h
    unfold LP at ih ⊢
    unfold EX at hB
    rw [loopK_succ, show firstReg (nav B28 [1, 2, 2, 1, 2, 2]) = 3 from rfl, hσ, headK_some, hB]
    cases o with
    | o0 y => cases hF; rfl
    | o1 y y_1 y_2 y_3 y_4 y_5 =>
      refine ih y y_1 y_2 y_3 y_4 y_5 r hF _ ?_
      simp (maxSteps := 999999) (disch := first | exact D (by decide) | exact K (by kernel_rfl)) only [EA, EE, EG, EF, ED, ofVal, ofVal1, ofCell, lenV, aggEqV, cellEq, intBin, isShift, V.ids, lendV, frz, flatV, cellsOf, addOff, firstReg, oneOf, cellsAt, isAggD, isPure, ↓reduceIte, reduceCtorEq, Nat.reduceAdd, Nat.reduceSub, Nat.reduceMul, Nat.reduceLeDiff, Nat.reduceEqDiff, Nat.reduceBEq, Int.reduceToNat, Int.reduceLE, Int.reduceLT, Nat.reduceLT, Int.reduceBEq, Int.reduceBNe, Int.reduceEq, String.reduceEq, hh_28_3, hc_28_3]
    | o2 y y_1 y_2 y_3 y_4 y_5 y_6 => cases hF; rfl
noncomputable def f28_rii_j2 (k : Nat) (x0 : List T45) (x2 : Int) (x7 : Int) (x12 : List T45) (x13 : Int) (x14 : Int) (x15 : Bool) : Option R28_rii :=
  some (R28_rii.o0 (decide (((List.length x0) : Int) ≤ 20)))
theorem f28_rii_j2_ok (k : Nat) (x0 : List T45) (x2 : Int) (x7 : Int) (x12 : List T45) (x13 : Int) (x14 : Int) (x15 : Bool) (r : R28_rii) (hF : f28_rii_j2 k x0 x2 x7 x12 x13 x14 x15 = some r) : finK Try.prog Try.f28 0 (EX 28 k (nav B28 [2, 2, 2]) ({ n := 51, F := [(0, V.sl 2 (rowsOf encT45 x0)), (2, V.p (Value.int .i64 x2)), (7, V.p (Value.int .i64 x7)), (12, V.sl 2 (rowsOf encT45 x12)), (13, V.p (Value.int .i64 x13)), (14, V.p (Value.int .i64 x14)), (15, V.p (Value.bool x15))], M := [] } : St)) = some r.st := by
  unfold f28_rii_j2 at hF
  cases hF
  simp (maxSteps := 999999) (disch := first | exact D (by decide) | exact K (by kernel_rfl)) only [EA, EE, EG, EF, ED, ofVal, ofVal1, ofCell, lenV, aggEqV, cellEq, intBin, isShift, V.ids, lendV, frz, flatV, cellsOf, addOff, firstReg, oneOf, cellsAt, isAggD, isPure, ↓reduceIte, reduceCtorEq, Nat.reduceAdd, Nat.reduceSub, Nat.reduceMul, Nat.reduceLeDiff, Nat.reduceEqDiff, Nat.reduceBEq, Int.reduceToNat, Int.reduceLE, Int.reduceLT, Nat.reduceLT, Int.reduceBEq, Int.reduceBNe, Int.reduceEq, String.reduceEq, xk B28 [2, 2, 2] .sq rfl, show (nav B28 [1, 2, 2, 2]) = Code.region 9 _ false from rfl, hk_28_9, hz_28_9, hs_28_9, u_24, i_24, is_24, ib_24, iz_24, xk B28 [2, 2, 2, 2] .rt rfl, finK_norm, finK_ret, fin28, R28_rii.st]
noncomputable def f28_rii_e (k : Nat) (a0 : List T45) (a1 : Int) (a2 : Int) : Option R28_rii :=
  Option.bind (f28_rii_l1 k k a0 a2 (IntKind.i64.wrap (a1 - (1 : Int))) a0 ((List.length a0) : Int) 0) fun o1 =>
    match o1 with
    | .o0 v4 =>
      some (R28_rii.o0 v4)
    | .o1 _ _ _ _ _ _ =>
      none  -- no way out
    | .o2 v5 v6 v7 v8 v9 v10 v11 =>
      f28_rii_j2 k v5 v6 v7 v8 v9 v10 v11
theorem f28_rii_e_ok (k : Nat) (a0 : List T45) (a1 : Int) (a2 : Int) (r : R28_rii) (hF : f28_rii_e k a0 a1 a2 = some r) : finK Try.prog Try.f28 0 (EX 28 k (nav B28 []) ({ n := 51, F := [(0, V.sl 2 (rowsOf encT45 a0)), (1, V.p (Value.int .i64 a1)), (2, V.p (Value.int .i64 a2))], M := [] } : St)) = some r.st := by
  unfold f28_rii_e at hF
  replace hF := Option.bind_eq_some_iff.1 hF
  obtain ⟨o1, h2, hF⟩ := hF
  have hc3 := f28_rii_l1_ok k k a0 a2 (IntKind.i64.wrap (a1 - (1 : Int))) a0 ((List.length a0) : Int) 0 _ h2
  simp (maxSteps := 999999) (disch := first | exact D (by decide) | exact K (by kernel_rfl)) only [EA, EE, EG, EF, ED, ofVal, ofVal1, ofCell, lenV, aggEqV, cellEq, intBin, isShift, V.ids, lendV, frz, flatV, cellsOf, addOff, firstReg, oneOf, cellsAt, isAggD, isPure, ↓reduceIte, reduceCtorEq, Nat.reduceAdd, Nat.reduceSub, Nat.reduceMul, Nat.reduceLeDiff, Nat.reduceEqDiff, Nat.reduceBEq, Int.reduceToNat, Int.reduceLE, Int.reduceLT, Nat.reduceLT, Int.reduceBEq, Int.reduceBNe, Int.reduceEq, String.reduceEq, xk B28 [] .sq rfl, show (nav B28 [1]) = Code.region 0 _ false from rfl, hk_28_0, hz_28_0, hs_28_0, xk B28 [2] .sq rfl, show (nav B28 [1, 2]) = Code.region 1 _ false from rfl, hk_28_1, hz_28_1, hs_28_1, xk B28 [2, 2] .sq rfl, xk B28 [1, 2, 2] .sq rfl, show (nav B28 [1, 1, 2, 2]) = Code.region 2 _ false from rfl, hk_28_2, hz_28_2, hs_28_2, u_24, i_24, is_24, ib_24, iz_24, xk B28 [2, 1, 2, 2] (.bk 0) rfl, xk B28 [2, 2, 1, 2, 2] .lp rfl, hh_28_3, hc_28_3]
  (try simp only [NM, EE] at hc3)
  rw [hc3 _ (by simp (maxSteps := 999999) (disch := first | exact D (by decide) | exact K (by kernel_rfl)) only [EA, EE, EG, EF, ED, ofVal, ofVal1, ofCell, lenV, aggEqV, cellEq, intBin, isShift, V.ids, lendV, frz, flatV, cellsOf, addOff, firstReg, oneOf, cellsAt, isAggD, isPure, ↓reduceIte, reduceCtorEq, Nat.reduceAdd, Nat.reduceSub, Nat.reduceMul, Nat.reduceLeDiff, Nat.reduceEqDiff, Nat.reduceBEq, Int.reduceToNat, Int.reduceLE, Int.reduceLT, Nat.reduceLT, Int.reduceBEq, Int.reduceBNe, Int.reduceEq, String.reduceEq, hh_28_3, hc_28_3])]
  clear hc3
  cases o1 with
  | o0 v4 =>
    (try dsimp only at hF)
    cases hF
    simp (maxSteps := 999999) (disch := first | exact D (by decide) | exact K (by kernel_rfl)) only [EA, EE, EG, EF, ED, ofVal, ofVal1, ofCell, lenV, aggEqV, cellEq, intBin, isShift, V.ids, lendV, frz, flatV, cellsOf, addOff, firstReg, oneOf, cellsAt, isAggD, isPure, ↓reduceIte, reduceCtorEq, Nat.reduceAdd, Nat.reduceSub, Nat.reduceMul, Nat.reduceLeDiff, Nat.reduceEqDiff, Nat.reduceBEq, Int.reduceToNat, Int.reduceLE, Int.reduceLT, Nat.reduceLT, Int.reduceBEq, Int.reduceBNe, Int.reduceEq, String.reduceEq, R28_rii_l1.st, finK_norm, finK_ret, fin28, R28_rii.st]
  | o1 _ _ _ _ _ _ =>
    (try dsimp only at hF)
    cases hF
  | o2 v5 v6 v7 v8 v9 v10 v11 =>
    (try dsimp only at hF)
    have hJ := f28_rii_j2_ok k v5 v6 v7 v8 v9 v10 v11 _ hF
    simp (maxSteps := 999999) (disch := first | exact D (by decide) | exact K (by kernel_rfl)) only [EA, EE, EG, EF, ED, ofVal, ofVal1, ofCell, lenV, aggEqV, cellEq, intBin, isShift, V.ids, lendV, frz, flatV, cellsOf, addOff, firstReg, oneOf, cellsAt, isAggD, isPure, ↓reduceIte, reduceCtorEq, Nat.reduceAdd, Nat.reduceSub, Nat.reduceMul, Nat.reduceLeDiff, Nat.reduceEqDiff, Nat.reduceBEq, Int.reduceToNat, Int.reduceLE, Int.reduceLT, Nat.reduceLT, Int.reduceBEq, Int.reduceBNe, Int.reduceEq, String.reduceEq, R28_rii_l1.st]
    try simp only [NM, EE] at hJ
    exact hJ
noncomputable def f28_rii (k : Nat) (a0 : List T45) (a1 : Int) (a2 : Int) : Option R28_rii := match k with | 0 => none | k + 1 => f28_rii_e k a0 a1 a2
theorem f28_rii_ok (k : Nat) (a0 : List T45) (a1 : Int) (a2 : Int) (r : R28_rii) (hF : f28_rii k a0 a1 a2 = some r) : CV k 28 [V.sl 2 (rowsOf encT45 a0), V.p (Value.int .i64 a1), V.p (Value.int .i64 a2)] [] = some r.st := by
  cases k with
  | zero => cases hF
  | succ k =>
    unfold CV
    rw [ev_call (F := Try.f28) (c := (nav B28 [])) rfl Try.func28 rfl rfl rfl]
    exact f28_rii_e_ok k a0 a1 a2 r hF
end Go.Proofs.YthjefcamonmjpaaV
