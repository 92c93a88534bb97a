/- What the program's functions answer: plain functions, and that the interpreter answers what they do. Written by a program of this session, out of the translation. -/
import Derived.Test.YthjefcamonmjpaaVP3
namespace Go.Proofs.YthjefcamonmjpaaV
open Go
set_option linter.unusedVariables false
set_option linter.unusedSimpArgs false
set_option maxRecDepth 8000
set_option maxHeartbeats 4000000
-- f37_i: f37 math/bits.Len64
inductive R37_i where
  | o0 (y : Int)
noncomputable def R37_i.st : R37_i → V × List O × List O
  | .o0 y => (V.p (Value.int .i64 y), [], [])
noncomputable def f37_i_j3 (k : Nat) (x0 : Int) (x2 : Int) : Option R37_i :=
  ifE ((0 : Int) ≤ (IntKind.u8.wrap x0)) (
    ifE ((IntKind.u8.wrap x0) ≤ 255) (
      some (R37_i.o0 (IntKind.i64.wrap (x2 + (IntKind.i64.wrap (Lib.len8 (IntKind.u8.wrap x0))))))))
theorem f37_i_j3_ok (k : Nat) (x0 : Int) (x2 : Int) (r : R37_i) (hF : f37_i_j3 k x0 x2 = some r) : finK Try.prog Try.f37 0 (EX 37 k (nav B37 [2, 2, 2, 2]) ({ n := 25, F := [(0, V.p (Value.int .u64 x0)), (2, V.p (Value.int .i64 x2))], M := [] } : St)) = some r.st := by
  unfold f37_i_j3 at hF
  replace hF := ifE_some.1 hF
  obtain ⟨h2, hF⟩ := hF
  replace hF := ifE_some.1 hF
  obtain ⟨h3, hF⟩ := hF
  have q1 : Try.prog.underlying 9 = some TypeDesc.string := u_9
  cases hF
  simp (maxSteps := 999999) (disch := first | exact D (by decide) | exact K (by kernel_rfl)) only [EA, EE, EG, EF, ED, ofVal, ofVal1, ofCell, lenV, aggEqV, cellEq, intBin, isShift, V.ids, lendV, frz, flatV, cellsOf, addOff, firstReg, oneOf, cellsAt, isAggD, isPure, ↓reduceIte, reduceCtorEq, Nat.reduceAdd, Nat.reduceSub, Nat.reduceMul, Nat.reduceLeDiff, Nat.reduceEqDiff, Nat.reduceBEq, Int.reduceToNat, Int.reduceLE, Int.reduceLT, Nat.reduceLT, Int.reduceBEq, Int.reduceBNe, Int.reduceEq, String.reduceEq, xk B37 [2, 2, 2, 2] .sq rfl, show (nav B37 [1, 2, 2, 2, 2]) = Code.region 10 _ false from rfl, hk_37_10, hz_37_10, hs_37_10, u_65, i_65, is_65, ib_65, iz_65, u_5, i_5, is_5, ib_5, iz_5, convV, arrIdx_const, idx_len8 q1 h2 h3, Lib.fold_len8tab, u_3, i_3, is_3, ib_3, iz_3, xk B37 [2, 2, 2, 2, 2] .rt rfl, finK_norm, finK_ret, fin37, R37_i.st, h2, h3, q1]
noncomputable def f37_i_j4 (k : Nat) (x0 : Int) (x2 : Int) (x14 : Bool) : Option R37_i :=
  ifE ((0 : Int) ≤ (IntKind.u8.wrap x0)) (
    ifE ((IntKind.u8.wrap x0) ≤ 255) (
      some (R37_i.o0 (IntKind.i64.wrap (x2 + (IntKind.i64.wrap (Lib.len8 (IntKind.u8.wrap x0))))))))
theorem f37_i_j4_ok (k : Nat) (x0 : Int) (x2 : Int) (x14 : Bool) (r : R37_i) (hF : f37_i_j4 k x0 x2 x14 = some r) : finK Try.prog Try.f37 0 (EX 37 k (nav B37 [2, 2, 2, 2]) ({ n := 25, F := [(0, V.p (Value.int .u64 x0)), (2, V.p (Value.int .i64 x2)), (14, V.p (Value.bool x14))], M := [] } : St)) = some r.st := by
  unfold f37_i_j4 at hF
  replace hF := ifE_some.1 hF
  obtain ⟨h2, hF⟩ := hF
  replace hF := ifE_some.1 hF
  obtain ⟨h3, hF⟩ := hF
  have q1 : Try.prog.underlying 9 = some TypeDesc.string := u_9
  cases hF
  simp (maxSteps := 999999) (disch := first | exact D (by decide) | exact K (by kernel_rfl)) only [EA, EE, EG, EF, ED, ofVal, ofVal1, ofCell, lenV, aggEqV, cellEq, intBin, isShift, V.ids, lendV, frz, flatV, cellsOf, addOff, firstReg, oneOf, cellsAt, isAggD, isPure, ↓reduceIte, reduceCtorEq, Nat.reduceAdd, Nat.reduceSub, Nat.reduceMul, Nat.reduceLeDiff, Nat.reduceEqDiff, Nat.reduceBEq, Int.reduceToNat, Int.reduceLE, Int.reduceLT, Nat.reduceLT, Int.reduceBEq, Int.reduceBNe, Int.reduceEq, String.reduceEq, xk B37 [2, 2, 2, 2] .sq rfl, show (nav B37 [1, 2, 2, 2, 2]) = Code.region 10 _ false from rfl, hk_37_10, hz_37_10, hs_37_10, u_65, i_65, is_65, ib_65, iz_65, u_5, i_5, is_5, ib_5, iz_5, convV, arrIdx_const, idx_len8 q1 h2 h3, Lib.fold_len8tab, u_3, i_3, is_3, ib_3, iz_3, xk B37 [2, 2, 2, 2, 2] .rt rfl, finK_norm, finK_ret, fin37, R37_i.st, h2, h3, q1]
noncomputable def f37_i_j2 (k : Nat) (x0 : Int) (x2 : Int) : Option R37_i :=
  cond ((decide (x0 ≥ 256)))
    (f37_i_j3 k (Int.fdiv x0 (2 ^ (min 8 (IntKind.bits .u64)))) (IntKind.i64.wrap (x2 + (8 : Int))))
    (f37_i_j4 k x0 x2 false)
theorem f37_i_j2_ok (k : Nat) (x0 : Int) (x2 : Int) (r : R37_i) (hF : f37_i_j2 k x0 x2 = some r) : finK Try.prog Try.f37 0 (EX 37 k (nav B37 [2, 2, 2]) ({ n := 25, F := [(0, V.p (Value.int .u64 x0)), (2, V.p (Value.int .i64 x2))], M := [] } : St)) = some r.st := by
  unfold f37_i_j2 at hF
  simp (maxSteps := 999999) (disch := first | exact D (by decide) | exact K (by kernel_rfl)) only [EA, EE, EG, EF, ED, ofVal, ofVal1, ofCell, lenV, aggEqV, cellEq, intBin, isShift, V.ids, lendV, frz, flatV, cellsOf, addOff, firstReg, oneOf, cellsAt, isAggD, isPure, ↓reduceIte, reduceCtorEq, Nat.reduceAdd, Nat.reduceSub, Nat.reduceMul, Nat.reduceLeDiff, Nat.reduceEqDiff, Nat.reduceBEq, Int.reduceToNat, Int.reduceLE, Int.reduceLT, Nat.reduceLT, Int.reduceBEq, Int.reduceBNe, Int.reduceEq, String.reduceEq, xk B37 [2, 2, 2] .sq rfl, xk B37 [1, 2, 2, 2] .sq rfl, show (nav B37 [1, 1, 2, 2, 2]) = Code.region 7 _ false from rfl, hk_37_7, hz_37_7, hs_37_7, xk B37 [2, 1, 2, 2, 2] (.cd 14) rfl]
  replace hF := cond_some hF
  rcases hF with ⟨h1, hF⟩ | ⟨h1, hF⟩
  · have hJ := f37_i_j3_ok k (Int.fdiv x0 (2 ^ (min 8 (IntKind.bits .u64)))) (IntKind.i64.wrap (x2 + (8 : Int))) _ hF
    simp (maxSteps := 999999) (disch := first | exact D (by decide) | exact K (by kernel_rfl)) only [EA, EE, EG, EF, ED, ofVal, ofVal1, ofCell, lenV, aggEqV, cellEq, intBin, isShift, V.ids, lendV, frz, flatV, cellsOf, addOff, firstReg, oneOf, cellsAt, isAggD, isPure, ↓reduceIte, reduceCtorEq, Nat.reduceAdd, Nat.reduceSub, Nat.reduceMul, Nat.reduceLeDiff, Nat.reduceEqDiff, Nat.reduceBEq, Int.reduceToNat, Int.reduceLE, Int.reduceLT, Nat.reduceLT, Int.reduceBEq, Int.reduceBNe, Int.reduceEq, String.reduceEq, xk B37 [2, 2, 1, 2, 2, 2] .sq rfl, show (nav B37 [1, 2, 2, 1, 2, 2, 2]) = Code.region 8 _ false from rfl, hk_37_8, hz_37_8, hs_37_8, shiftV, show (nav B37 [2, 2, 2, 1, 2, 2, 2]) = Code.region 9 _ false from rfl, hk_37_9, hz_37_9, hs_37_9, h1]
    try simp only [NM, EE] at hJ
    exact hJ
  · have hJ := f37_i_j4_ok k x0 x2 false _ hF
    simp (maxSteps := 999999) (disch := first | exact D (by decide) | exact K (by kernel_rfl)) only [EA, EE, EG, EF, ED, ofVal, ofVal1, ofCell, lenV, aggEqV, cellEq, intBin, isShift, V.ids, lendV, frz, flatV, cellsOf, addOff, firstReg, oneOf, cellsAt, isAggD, isPure, ↓reduceIte, reduceCtorEq, Nat.reduceAdd, Nat.reduceSub, Nat.reduceMul, Nat.reduceLeDiff, Nat.reduceEqDiff, Nat.reduceBEq, Int.reduceToNat, Int.reduceLE, Int.reduceLT, Nat.reduceLT, Int.reduceBEq, Int.reduceBNe, Int.reduceEq, String.reduceEq, xk B37 [3, 2, 1, 2, 2, 2] .sk rfl, h1]
    try simp only [NM, EE] at hJ
    exact hJ
noncomputable def f37_i_j5 (k : Nat) (x0 : Int) (x2 : Int) (x8 : Bool) : Option R37_i :=
  cond ((decide (x0 ≥ 256)))
    (f37_i_j3 k (Int.fdiv x0 (2 ^ (min 8 (IntKind.bits .u64)))) (IntKind.i64.wrap (x2 + (8 : Int))))
    (f37_i_j4 k x0 x2 false)
theorem f37_i_j5_ok (k : Nat) (x0 : Int) (x2 : Int) (x8 : Bool) (r : R37_i) (hF : f37_i_j5 k x0 x2 x8 = some r) : finK Try.prog Try.f37 0 (EX 37 k (nav B37 [2, 2, 2]) ({ n := 25, F := [(0, V.p (Value.int .u64 x0)), (2, V.p (Value.int .i64 x2)), (8, V.p (Value.bool x8))], M := [] } : St)) = some r.st := by
  unfold f37_i_j5 at hF
  simp (maxSteps := 999999) (disch := first | exact D (by decide) | exact K (by kernel_rfl)) only [EA, EE, EG, EF, ED, ofVal, ofVal1, ofCell, lenV, aggEqV, cellEq, intBin, isShift, V.ids, lendV, frz, flatV, cellsOf, addOff, firstReg, oneOf, cellsAt, isAggD, isPure, ↓reduceIte, reduceCtorEq, Nat.reduceAdd, Nat.reduceSub, Nat.reduceMul, Nat.reduceLeDiff, Nat.reduceEqDiff, Nat.reduceBEq, Int.reduceToNat, Int.reduceLE, Int.reduceLT, Nat.reduceLT, Int.reduceBEq, Int.reduceBNe, Int.reduceEq, String.reduceEq, xk B37 [2, 2, 2] .sq rfl, xk B37 [1, 2, 2, 2] .sq rfl, show (nav B37 [1, 1, 2, 2, 2]) = Code.region 7 _ false from rfl, hk_37_7, hz_37_7, hs_37_7, xk B37 [2, 1, 2, 2, 2] (.cd 14) rfl]
  replace hF := cond_some hF
  rcases hF with ⟨h1, hF⟩ | ⟨h1, hF⟩
  · have hJ := f37_i_j3_ok k (Int.fdiv x0 (2 ^ (min 8 (IntKind.bits .u64)))) (IntKind.i64.wrap (x2 + (8 : Int))) _ hF
    simp (maxSteps := 999999) (disch := first | exact D (by decide) | exact K (by kernel_rfl)) only [EA, EE, EG, EF, ED, ofVal, ofVal1, ofCell, lenV, aggEqV, cellEq, intBin, isShift, V.ids, lendV, frz, flatV, cellsOf, addOff, firstReg, oneOf, cellsAt, isAggD, isPure, ↓reduceIte, reduceCtorEq, Nat.reduceAdd, Nat.reduceSub, Nat.reduceMul, Nat.reduceLeDiff, Nat.reduceEqDiff, Nat.reduceBEq, Int.reduceToNat, Int.reduceLE, Int.reduceLT, Nat.reduceLT, Int.reduceBEq, Int.reduceBNe, Int.reduceEq, String.reduceEq, xk B37 [2, 2, 1, 2, 2, 2] .sq rfl, show (nav B37 [1, 2, 2, 1, 2, 2, 2]) = Code.region 8 _ false from rfl, hk_37_8, hz_37_8, hs_37_8, shiftV, show (nav B37 [2, 2, 2, 1, 2, 2, 2]) = Code.region 9 _ false from rfl, hk_37_9, hz_37_9, hs_37_9, h1]
    try simp only [NM, EE] at hJ
    exact hJ
  · have hJ := f37_i_j4_ok k x0 x2 false _ hF
    simp (maxSteps := 999999) (disch := first | exact D (by decide) | exact K (by kernel_rfl)) only [EA, EE, EG, EF, ED, ofVal, ofVal1, ofCell, lenV, aggEqV, cellEq, intBin, isShift, V.ids, lendV, frz, flatV, cellsOf, addOff, firstReg, oneOf, cellsAt, isAggD, isPure, ↓reduceIte, reduceCtorEq, Nat.reduceAdd, Nat.reduceSub, Nat.reduceMul, Nat.reduceLeDiff, Nat.reduceEqDiff, Nat.reduceBEq, Int.reduceToNat, Int.reduceLE, Int.reduceLT, Nat.reduceLT, Int.reduceBEq, Int.reduceBNe, Int.reduceEq, String.reduceEq, xk B37 [3, 2, 1, 2, 2, 2] .sk rfl, h1]
    try simp only [NM, EE] at hJ
    exact hJ
noncomputable def f37_i_j1 (k : Nat) (x0 : Int) (x2 : Int) : Option R37_i :=
  cond ((decide (x0 ≥ 65536)))
    (f37_i_j2 k (Int.fdiv x0 (2 ^ (min 16 (IntKind.bits .u64)))) (IntKind.i64.wrap (x2 + (16 : Int))))
    (f37_i_j5 k x0 x2 false)
theorem f37_i_j1_ok (k : Nat) (x0 : Int) (x2 : Int) (r : R37_i) (hF : f37_i_j1 k x0 x2 = some r) : finK Try.prog Try.f37 0 (EX 37 k (nav B37 [2, 2]) ({ n := 25, F := [(0, V.p (Value.int .u64 x0)), (2, V.p (Value.int .i64 x2))], M := [] } : St)) = some r.st := by
  unfold f37_i_j1 at hF
  simp (maxSteps := 999999) (disch := first | exact D (by decide) | exact K (by kernel_rfl)) only [EA, EE, EG, EF, ED, ofVal, ofVal1, ofCell, lenV, aggEqV, cellEq, intBin, isShift, V.ids, lendV, frz, flatV, cellsOf, addOff, firstReg, oneOf, cellsAt, isAggD, isPure, ↓reduceIte, reduceCtorEq, Nat.reduceAdd, Nat.reduceSub, Nat.reduceMul, Nat.reduceLeDiff, Nat.reduceEqDiff, Nat.reduceBEq, Int.reduceToNat, Int.reduceLE, Int.reduceLT, Nat.reduceLT, Int.reduceBEq, Int.reduceBNe, Int.reduceEq, String.reduceEq, xk B37 [2, 2] .sq rfl, xk B37 [1, 2, 2] .sq rfl, show (nav B37 [1, 1, 2, 2]) = Code.region 4 _ false from rfl, hk_37_4, hz_37_4, hs_37_4, xk B37 [2, 1, 2, 2] (.cd 8) rfl]
  replace hF := cond_some hF
  rcases hF with ⟨h1, hF⟩ | ⟨h1, hF⟩
  · have hJ := f37_i_j2_ok k (Int.fdiv x0 (2 ^ (min 16 (IntKind.bits .u64)))) (IntKind.i64.wrap (x2 + (16 : Int))) _ hF
    simp (maxSteps := 999999) (disch := first | exact D (by decide) | exact K (by kernel_rfl)) only [EA, EE, EG, EF, ED, ofVal, ofVal1, ofCell, lenV, aggEqV, cellEq, intBin, isShift, V.ids, lendV, frz, flatV, cellsOf, addOff, firstReg, oneOf, cellsAt, isAggD, isPure, ↓reduceIte, reduceCtorEq, Nat.reduceAdd, Nat.reduceSub, Nat.reduceMul, Nat.reduceLeDiff, Nat.reduceEqDiff, Nat.reduceBEq, Int.reduceToNat, Int.reduceLE, Int.reduceLT, Nat.reduceLT, Int.reduceBEq, Int.reduceBNe, Int.reduceEq, String.reduceEq, xk B37 [2, 2, 1, 2, 2] .sq rfl, show (nav B37 [1, 2, 2, 1, 2, 2]) = Code.region 5 _ false from rfl, hk_37_5, hz_37_5, hs_37_5, shiftV, show (nav B37 [2, 2, 2, 1, 2, 2]) = Code.region 6 _ false from rfl, hk_37_6, hz_37_6, hs_37_6, h1]
    try simp only [NM, EE] at hJ
    exact hJ
  · have hJ := f37_i_j5_ok k x0 x2 false _ hF
    simp (maxSteps := 999999) (disch := first | exact D (by decide) | exact K (by kernel_rfl)) only [EA, EE, EG, EF, ED, ofVal, ofVal1, ofCell, lenV, aggEqV, cellEq, intBin, isShift, V.ids, lendV, frz, flatV, cellsOf, addOff, firstReg, oneOf, cellsAt, isAggD, isPure, ↓reduceIte, reduceCtorEq, Nat.reduceAdd, Nat.reduceSub, Nat.reduceMul, Nat.reduceLeDiff, Nat.reduceEqDiff, Nat.reduceBEq, Int.reduceToNat, Int.reduceLE, Int.reduceLT, Nat.reduceLT, Int.reduceBEq, Int.reduceBNe, Int.reduceEq, String.reduceEq, xk B37 [3, 2, 1, 2, 2] .sk rfl, h1]
    try simp only [NM, EE] at hJ
    exact hJ
noncomputable def f37_i_j6 (k : Nat) (x0 : Int) (x2 : Int) (x4 : Bool) : Option R37_i :=
  cond ((decide (x0 ≥ 65536)))
    (f37_i_j2 k (Int.fdiv x0 (2 ^ (min 16 (IntKind.bits .u64)))) (IntKind.i64.wrap (x2 + (16 : Int))))
    (f37_i_j5 k x0 x2 false)
theorem f37_i_j6_ok (k : Nat) (x0 : Int) (x2 : Int) (x4 : Bool) (r : R37_i) (hF : f37_i_j6 k x0 x2 x4 = some r) : finK Try.prog Try.f37 0 (EX 37 k (nav B37 [2, 2]) ({ n := 25, F := [(0, V.p (Value.int .u64 x0)), (2, V.p (Value.int .i64 x2)), (4, V.p (Value.bool x4))], M := [] } : St)) = some r.st := by
  unfold f37_i_j6 at hF
  simp (maxSteps := 999999) (disch := first | exact D (by decide) | exact K (by kernel_rfl)) only [EA, EE, EG, EF, ED, ofVal, ofVal1, ofCell, lenV, aggEqV, cellEq, intBin, isShift, V.ids, lendV, frz, flatV, cellsOf, addOff, firstReg, oneOf, cellsAt, isAggD, isPure, ↓reduceIte, reduceCtorEq, Nat.reduceAdd, Nat.reduceSub, Nat.reduceMul, Nat.reduceLeDiff, Nat.reduceEqDiff, Nat.reduceBEq, Int.reduceToNat, Int.reduceLE, Int.reduceLT, Nat.reduceLT, Int.reduceBEq, Int.reduceBNe, Int.reduceEq, String.reduceEq, xk B37 [2, 2] .sq rfl, xk B37 [1, 2, 2] .sq rfl, show (nav B37 [1, 1, 2, 2]) = Code.region 4 _ false from rfl, hk_37_4, hz_37_4, hs_37_4, xk B37 [2, 1, 2, 2] (.cd 8) rfl]
  replace hF := cond_some hF
  rcases hF with ⟨h1, hF⟩ | ⟨h1, hF⟩
  · have hJ := f37_i_j2_ok k (Int.fdiv x0 (2 ^ (min 16 (IntKind.bits .u64)))) (IntKind.i64.wrap (x2 + (16 : Int))) _ hF
    simp (maxSteps := 999999) (disch := first | exact D (by decide) | exact K (by kernel_rfl)) only [EA, EE, EG, EF, ED, ofVal, ofVal1, ofCell, lenV, aggEqV, cellEq, intBin, isShift, V.ids, lendV, frz, flatV, cellsOf, addOff, firstReg, oneOf, cellsAt, isAggD, isPure, ↓reduceIte, reduceCtorEq, Nat.reduceAdd, Nat.reduceSub, Nat.reduceMul, Nat.reduceLeDiff, Nat.reduceEqDiff, Nat.reduceBEq, Int.reduceToNat, Int.reduceLE, Int.reduceLT, Nat.reduceLT, Int.reduceBEq, Int.reduceBNe, Int.reduceEq, String.reduceEq, xk B37 [2, 2, 1, 2, 2] .sq rfl, show (nav B37 [1, 2, 2, 1, 2, 2]) = Code.region 5 _ false from rfl, hk_37_5, hz_37_5, hs_37_5, shiftV, show (nav B37 [2, 2, 2, 1, 2, 2]) = Code.region 6 _ false from rfl, hk_37_6, hz_37_6, hs_37_6, h1]
    try simp only [NM, EE] at hJ
    exact hJ
  · have hJ := f37_i_j5_ok k x0 x2 false _ hF
    simp (maxSteps := 999999) (disch := first | exact D (by decide) | exact K (by kernel_rfl)) only [EA, EE, EG, EF, ED, ofVal, ofVal1, ofCell, lenV, aggEqV, cellEq, intBin, isShift, V.ids, lendV, frz, flatV, cellsOf, addOff, firstReg, oneOf, cellsAt, isAggD, isPure, ↓reduceIte, reduceCtorEq, Nat.reduceAdd, Nat.reduceSub, Nat.reduceMul, Nat.reduceLeDiff, Nat.reduceEqDiff, Nat.reduceBEq, Int.reduceToNat, Int.reduceLE, Int.reduceLT, Nat.reduceLT, Int.reduceBEq, Int.reduceBNe, Int.reduceEq, String.reduceEq, xk B37 [3, 2, 1, 2, 2] .sk rfl, h1]
    try simp only [NM, EE] at hJ
    exact hJ
noncomputable def f37_i_e (k : Nat) (a0 : Int) : Option R37_i :=
  cond ((decide (a0 ≥ 4294967296)))
    (f37_i_j1 k (Int.fdiv a0 (2 ^ (min 32 (IntKind.bits .u64)))) 32)
    (f37_i_j6 k a0 0 false)
theorem f37_i_e_ok (k : Nat) (a0 : Int) (r : R37_i) (hF : f37_i_e k a0 = some r) : finK Try.prog Try.f37 0 (EX 37 k (nav B37 []) ({ n := 25, F := [(0, V.p (Value.int .u64 a0))], M := [] } : St)) = some r.st := by
  unfold f37_i_e at hF
  simp (maxSteps := 999999) (disch := first | exact D (by decide) | exact K (by kernel_rfl)) only [EA, EE, EG, EF, ED, ofVal, ofVal1, ofCell, lenV, aggEqV, cellEq, intBin, isShift, V.ids, lendV, frz, flatV, cellsOf, addOff, firstReg, oneOf, cellsAt, isAggD, isPure, ↓reduceIte, reduceCtorEq, Nat.reduceAdd, Nat.reduceSub, Nat.reduceMul, Nat.reduceLeDiff, Nat.reduceEqDiff, Nat.reduceBEq, Int.reduceToNat, Int.reduceLE, Int.reduceLT, Nat.reduceLT, Int.reduceBEq, Int.reduceBNe, Int.reduceEq, String.reduceEq, xk B37 [] .sq rfl, show (nav B37 [1]) = Code.region 0 _ false from rfl, hk_37_0, hz_37_0, hs_37_0, xk B37 [2] .sq rfl, xk B37 [1, 2] .sq rfl, show (nav B37 [1, 1, 2]) = Code.region 1 _ false from rfl, hk_37_1, hz_37_1, hs_37_1, xk B37 [2, 1, 2] (.cd 4) rfl]
  replace hF := cond_some hF
  rcases hF with ⟨h1, hF⟩ | ⟨h1, hF⟩
  · have hJ := f37_i_j1_ok k (Int.fdiv a0 (2 ^ (min 32 (IntKind.bits .u64)))) 32 _ hF
    simp (maxSteps := 999999) (disch := first | exact D (by decide) | exact K (by kernel_rfl)) only [EA, EE, EG, EF, ED, ofVal, ofVal1, ofCell, lenV, aggEqV, cellEq, intBin, isShift, V.ids, lendV, frz, flatV, cellsOf, addOff, firstReg, oneOf, cellsAt, isAggD, isPure, ↓reduceIte, reduceCtorEq, Nat.reduceAdd, Nat.reduceSub, Nat.reduceMul, Nat.reduceLeDiff, Nat.reduceEqDiff, Nat.reduceBEq, Int.reduceToNat, Int.reduceLE, Int.reduceLT, Nat.reduceLT, Int.reduceBEq, Int.reduceBNe, Int.reduceEq, String.reduceEq, xk B37 [2, 2, 1, 2] .sq rfl, show (nav B37 [1, 2, 2, 1, 2]) = Code.region 2 _ false from rfl, hk_37_2, hz_37_2, hs_37_2, shiftV, show (nav B37 [2, 2, 2, 1, 2]) = Code.region 3 _ false from rfl, hk_37_3, hz_37_3, hs_37_3, h1]
    try simp only [NM, EE] at hJ
    exact hJ
  · have hJ := f37_i_j6_ok k a0 0 false _ hF
    simp (maxSteps := 999999) (disch := first | exact D (by decide) | exact K (by kernel_rfl)) only [EA, EE, EG, EF, ED, ofVal, ofVal1, ofCell, lenV, aggEqV, cellEq, intBin, isShift, V.ids, lendV, frz, flatV, cellsOf, addOff, firstReg, oneOf, cellsAt, isAggD, isPure, ↓reduceIte, reduceCtorEq, Nat.reduceAdd, Nat.reduceSub, Nat.reduceMul, Nat.reduceLeDiff, Nat.reduceEqDiff, Nat.reduceBEq, Int.reduceToNat, Int.reduceLE, Int.reduceLT, Nat.reduceLT, Int.reduceBEq, Int.reduceBNe, Int.reduceEq, String.reduceEq, xk B37 [3, 2, 1, 2] .sk rfl, h1]
    try simp only [NM, EE] at hJ
    exact hJ
noncomputable def f37_i (k : Nat) (a0 : Int) : Option R37_i := match k with | 0 => none | k + 1 => f37_i_e k a0
theorem f37_i_ok (k : Nat) (a0 : Int) (r : R37_i) (hF : f37_i k a0 = some r) : CV k 37 [V.p (Value.int .u64 a0)] [] = some r.st := by
  cases k with
  | zero => cases hF
  | succ k =>
    unfold CV
    rw [ev_call (F := Try.f37) (c := (nav B37 [])) rfl Try.func37 rfl rfl rfl]
    exact f37_i_e_ok k a0 r hF
-- f35_i: f35 heliograph/sdnv.Size
inductive R35_i where
  | o0 (y : Int)
noncomputable def R35_i.st : R35_i → V × List O × List O
  | .o0 y => (V.p (Value.int .i64 y), [], [])
noncomputable def f35_i_e (k : Nat) (a0 : Int) : Option R35_i :=
  Option.bind (f37_i k a0) fun o1 =>
    match o1 with
    | .o0 v4 =>
      some (R35_i.o0 ((if (1 : Int) > (IntKind.i64.wrap (Int.tdiv (IntKind.i64.wrap ((IntKind.i64.wrap (v4 + (7 : Int))) - (1 : Int))) (7 : Int))) then 1 else (IntKind.i64.wrap (Int.tdiv (IntKind.i64.wrap ((IntKind.i64.wrap (v4 + (7 : Int))) - (1 : Int))) (7 : Int))))))
theorem f35_i_e_ok (k : Nat) (a0 : Int) (r : R35_i) (hF : f35_i_e k a0 = some r) : finK Try.prog Try.f35 0 (EX 35 k (nav B35 []) ({ n := 9, F := [(0, V.p (Value.int .u64 a0))], M := [] } : St)) = some r.st := by
  unfold f35_i_e at hF
  replace hF := Option.bind_eq_some_iff.1 hF
  obtain ⟨o1, h2, hF⟩ := hF
  have hc3 := f37_i_ok k a0 _ h2
  cases o1 with
  | o0 v4 =>
    (try dsimp only at hF)
    (try simp only [NM, EE, R37_i.st] at hc3)
    cases hF
    simp (maxSteps := 999999) (disch := first | exact D (by decide) | exact K (by kernel_rfl)) only [EA, EE, EG, EF, ED, ofVal, ofVal1, ofCell, lenV, aggEqV, cellEq, intBin, isShift, V.ids, lendV, frz, flatV, cellsOf, addOff, firstReg, oneOf, cellsAt, isAggD, isPure, ↓reduceIte, reduceCtorEq, Nat.reduceAdd, Nat.reduceSub, Nat.reduceMul, Nat.reduceLeDiff, Nat.reduceEqDiff, Nat.reduceBEq, Int.reduceToNat, Int.reduceLE, Int.reduceLT, Nat.reduceLT, Int.reduceBEq, Int.reduceBNe, Int.reduceEq, String.reduceEq, xk B35 [] .sq rfl, show (nav B35 [1]) = Code.region 0 _ false from rfl, hk_35_0, hz_35_0, hs_35_0, xk B35 [2] .sq rfl, show (nav B35 [1, 2]) = Code.region 1 _ false from rfl, hk_35_1, hz_35_1, hs_35_1, callStep, calleeOf, gv, List.contains, minmaxV, minmaxGo, xk B35 [2, 2] .rt rfl, finK_norm, finK_ret, fin35, R35_i.st, hc3]
noncomputable def f35_i (k : Nat) (a0 : Int) : Option R35_i := match k with | 0 => none | k + 1 => f35_i_e k a0
theorem f35_i_ok (k : Nat) (a0 : Int) (r : R35_i) (hF : f35_i k a0 = some r) : CV k 35 [V.p (Value.int .u64 a0)] [] = some r.st := by
  cases k with
  | zero => cases hF
  | succ k =>
    unfold CV
    rw [ev_call (F := Try.f35) (c := (nav B35 [])) rfl Try.func35 rfl rfl rfl]
    exact f35_i_e_ok k a0 r hF
-- f29_ri: f29 heliograph/sdnv.Put
inductive R29_ri where
  | o0 (y : List Int)
noncomputable def R29_ri.st : R29_ri → V × List O × List O
  | .o0 y => (V.own 2000000, [], [O.row true 1 5 (rowsOf (encI .u8) y)])
inductive R29_ri_l1 where
  | o0 (y : Int) (y_1 : Int) (y_2 : List Int)
  | o1 (y : Int) (y_1 : Int) (y_2 : Bool) (y_3 : List Int)
noncomputable def R29_ri_l1.st : R29_ri_l1 → Out × St
  | .o0 y y_1 y_2 => (.norm, ({ n := 42, F := [(1, V.p (Value.int .u64 y)), (6, V.own 40), (7, V.p (Value.int .i64 y_1))], M := [(40, O.row true 1 5 (rowsOf (encI .u8) y_2))] } : St))
  | .o1 y y_1 y_2 y_3 => (.exit 0, ({ n := 42, F := [(1, V.p (Value.int .u64 y)), (6, V.own 30000), (7, V.p (Value.int .i64 y_1)), (24, V.p (Value.bool y_2))], M := [(30000, O.row true 1 5 (rowsOf (encI .u8) y_3))] } : St))
noncomputable def f29_ri_l1_j3 (k : Nat) (x1 : Int) (x7 : Int) (m40 : List Int) : Option R29_ri_l1 :=
  some (R29_ri_l1.o0 x1 (IntKind.i64.wrap (x7 - (1 : Int))) m40)
theorem f29_ri_l1_j3_ok (k : Nat) (x1 : Int) (x7 : Int) (m40 : List Int) (r : R29_ri_l1) (hF : f29_ri_l1_j3 k x1 x7 m40 = some r) : EX 29 k (nav B29 [2, 2, 1, 2, 2, 1, 2, 2, 2, 2]) ({ n := 42, F := [(1, V.p (Value.int .u64 x1)), (6, V.own 40), (7, V.p (Value.int .i64 x7))], M := [(40, O.row true 1 5 (rowsOf (encI .u8) m40))] } : St) = some r.st := by
  unfold f29_ri_l1_j3 at hF
  cases hF
  simp (maxSteps := 999999) (disch := first | exact D (by decide) | exact K (by kernel_rfl)) only [EA, EE, EG, EF, ED, ofVal, ofVal1, ofCell, lenV, aggEqV, cellEq, intBin, isShift, V.ids, lendV, frz, flatV, cellsOf, addOff, firstReg, oneOf, cellsAt, isAggD, isPure, ↓reduceIte, reduceCtorEq, Nat.reduceAdd, Nat.reduceSub, Nat.reduceMul, Nat.reduceLeDiff, Nat.reduceEqDiff, Nat.reduceBEq, Int.reduceToNat, Int.reduceLE, Int.reduceLT, Nat.reduceLT, Int.reduceBEq, Int.reduceBNe, Int.reduceEq, String.reduceEq, show (nav B29 [2, 2, 1, 2, 2, 1, 2, 2, 2, 2]) = Code.region 6 _ false from rfl, hk_29_6, hz_29_6, hs_29_6, R29_ri_l1.st]
noncomputable def f29_ri_l1_j2 (k : Nat) (x1 : Int) (x7 : Int) (x8 : Int) (h0_ : List Int) : Option R29_ri_l1 :=
  ifE (((List.length h0_) + 1) ≤ roomy) (
    f29_ri_l1_j3 k x1 x7 (h0_ ++ ([x8] : List Int)))
theorem f29_ri_l1_j2_ok (k : Nat) (x1 : Int) (x7 : Int) (x8 : Int) (h0_ : List Int) (r : R29_ri_l1) (hF : f29_ri_l1_j2 k x1 x7 x8 h0_ = some r) : SQ 29 k (nav B29 [2, 2, 1, 2, 2, 1, 2, 2, 2, 2]) (blockK 1 (EX 29 k (nav B29 [2, 2, 2, 1, 2, 1, 2, 2, 1, 2, 2, 2, 2]) ({ n := 42, F := [(1, V.p (Value.int .u64 x1)), (6, V.own 30000), (7, V.p (Value.int .i64 x7)), (8, V.p (Value.int .u8 x8))], M := [(30000, O.row true 1 5 (rowsOf (encI .u8) h0_))] } : St))) = some r.st := by
  unfold f29_ri_l1_j2 at hF
  have q1 : [[V.p (Value.int .u8 x8)]] = rowsOf (encI .u8) ([x8] : List Int) := rfl
  have q2 : List.map (tell [0]) (rowsOf (encI .u8) ([x8] : List Int)) = rowsOf (encI .u8) ([x8] : List Int) := rfl
  replace hF := ifE_some.1 hF
  obtain ⟨h3, hF⟩ := hF
  have hJ := f29_ri_l1_j3_ok k x1 x7 (h0_ ++ ([x8] : List Int)) _ hF
  simp (maxSteps := 999999) (disch := first | exact D (by decide) | exact K (by kernel_rfl)) only [EA, EE, EG, EF, ED, ofVal, ofVal1, ofCell, lenV, aggEqV, cellEq, intBin, isShift, V.ids, lendV, frz, flatV, cellsOf, addOff, firstReg, oneOf, cellsAt, isAggD, isPure, ↓reduceIte, reduceCtorEq, Nat.reduceAdd, Nat.reduceSub, Nat.reduceMul, Nat.reduceLeDiff, Nat.reduceEqDiff, Nat.reduceBEq, Int.reduceToNat, Int.reduceLE, Int.reduceLT, Nat.reduceLT, Int.reduceBEq, Int.reduceBNe, Int.reduceEq, String.reduceEq, show (nav B29 [2, 2, 2, 1, 2, 1, 2, 2, 1, 2, 2, 2, 2]) = Code.region 10 _ false from rfl, hk_29_10, hz_29_10, hs_29_10, buildSliceV, fillRows, sm_5, u_23, i_23, is_23, ib_23, iz_23, u_5, i_5, is_5, ib_5, iz_5, appendV, content, q1, q2, h3]
  try simp only [NM, EE] at hJ
  exact hJ
noncomputable def f29_ri_l1_j4 (k : Nat) (x1 : Int) (x7 : Int) (x8 : Int) (x34 : Bool) (h0_ : List Int) : Option R29_ri_l1 :=
  ifE (((List.length h0_) + 1) ≤ roomy) (
    f29_ri_l1_j3 k x1 x7 (h0_ ++ ([x8] : List Int)))
theorem f29_ri_l1_j4_ok (k : Nat) (x1 : Int) (x7 : Int) (x8 : Int) (x34 : Bool) (h0_ : List Int) (r : R29_ri_l1) (hF : f29_ri_l1_j4 k x1 x7 x8 x34 h0_ = some r) : SQ 29 k (nav B29 [2, 2, 1, 2, 2, 1, 2, 2, 2, 2]) (blockK 1 (EX 29 k (nav B29 [2, 2, 2, 1, 2, 1, 2, 2, 1, 2, 2, 2, 2]) ({ n := 42, F := [(1, V.p (Value.int .u64 x1)), (6, V.own 30000), (7, V.p (Value.int .i64 x7)), (8, V.p (Value.int .u8 x8)), (34, V.p (Value.bool x34))], M := [(30000, O.row true 1 5 (rowsOf (encI .u8) h0_))] } : St))) = some r.st := by
  unfold f29_ri_l1_j4 at hF
  have q1 : [[V.p (Value.int .u8 x8)]] = rowsOf (encI .u8) ([x8] : List Int) := rfl
  have q2 : List.map (tell [0]) (rowsOf (encI .u8) ([x8] : List Int)) = rowsOf (encI .u8) ([x8] : List Int) := rfl
  replace hF := ifE_some.1 hF
  obtain ⟨h3, hF⟩ := hF
  have hJ := f29_ri_l1_j3_ok k x1 x7 (h0_ ++ ([x8] : List Int)) _ hF
  simp (maxSteps := 999999) (disch := first | exact D (by decide) | exact K (by kernel_rfl)) only [EA, EE, EG, EF, ED, ofVal, ofVal1, ofCell, lenV, aggEqV, cellEq, intBin, isShift, V.ids, lendV, frz, flatV, cellsOf, addOff, firstReg, oneOf, cellsAt, isAggD, isPure, ↓reduceIte, reduceCtorEq, Nat.reduceAdd, Nat.reduceSub, Nat.reduceMul, Nat.reduceLeDiff, Nat.reduceEqDiff, Nat.reduceBEq, Int.reduceToNat, Int.reduceLE, Int.reduceLT, Nat.reduceLT, Int.reduceBEq, Int.reduceBNe, Int.reduceEq, String.reduceEq, show (nav B29 [2, 2, 2, 1, 2, 1, 2, 2, 1, 2, 2, 2, 2]) = Code.region 10 _ false from rfl, hk_29_10, hz_29_10, hs_29_10, buildSliceV, fillRows, sm_5, u_23, i_23, is_23, ib_23, iz_23, u_5, i_5, is_5, ib_5, iz_5, appendV, content, q1, q2, h3]
  try simp only [NM, EE] at hJ
  exact hJ
noncomputable def f29_ri_l1_j1 (k : Nat) (x1 : Int) (x7 : Int) (x24 : Bool) (h0_ : List Int) : Option R29_ri_l1 :=
  ifE (¬ (IntKind.i64.wrap ((7 : Int) * x7)) < 0) (
    cond ((decide (x7 > 0)))
      (f29_ri_l1_j2 k x1 x7 ((IntKind.u8.wrap ((BitVec.ofInt (IntKind.bits .u8) (IntKind.u8.wrap ((BitVec.ofInt (IntKind.bits .u8) (IntKind.u8.wrap (Int.fdiv x1 (2 ^ (min (Int.toNat (IntKind.i64.wrap ((7 : Int) * x7))) (IntKind.bits .u64))))) &&& ~~~BitVec.ofInt (IntKind.bits .u8) (128 : Int)).toNat : Nat)) ||| BitVec.ofInt (IntKind.bits .u8) (128 : Int)).toNat : Nat))) h0_)
      (f29_ri_l1_j4 k x1 x7 ((IntKind.u8.wrap ((BitVec.ofInt (IntKind.bits .u8) (IntKind.u8.wrap (Int.fdiv x1 (2 ^ (min (Int.toNat (IntKind.i64.wrap ((7 : Int) * x7))) (IntKind.bits .u64))))) &&& ~~~BitVec.ofInt (IntKind.bits .u8) (128 : Int)).toNat : Nat))) false h0_))
theorem f29_ri_l1_j1_ok (k : Nat) (x1 : Int) (x7 : Int) (x24 : Bool) (h0_ : List Int) (r : R29_ri_l1) (hF : f29_ri_l1_j1 k x1 x7 x24 h0_ = some r) : EX 29 k (nav B29 [2, 1, 2, 2, 1, 2, 2, 2, 2]) ({ n := 42, F := [(1, V.p (Value.int .u64 x1)), (6, V.own 30000), (7, V.p (Value.int .i64 x7)), (24, V.p (Value.bool x24))], M := [(30000, O.row true 1 5 (rowsOf (encI .u8) h0_))] } : St) = some r.st := by
  unfold f29_ri_l1_j1 at hF
  replace hF := ifE_some.1 hF
  obtain ⟨h2, hF⟩ := hF
  simp (maxSteps := 999999) (disch := first | exact D (by decide) | exact K (by kernel_rfl)) only [EA, EE, EG, EF, ED, ofVal, ofVal1, ofCell, lenV, aggEqV, cellEq, intBin, isShift, V.ids, lendV, frz, flatV, cellsOf, addOff, firstReg, oneOf, cellsAt, isAggD, isPure, ↓reduceIte, reduceCtorEq, Nat.reduceAdd, Nat.reduceSub, Nat.reduceMul, Nat.reduceLeDiff, Nat.reduceEqDiff, Nat.reduceBEq, Int.reduceToNat, Int.reduceLE, Int.reduceLT, Nat.reduceLT, Int.reduceBEq, Int.reduceBNe, Int.reduceEq, String.reduceEq, xk B29 [2, 1, 2, 2, 1, 2, 2, 2, 2] .sq rfl, xk B29 [1, 2, 1, 2, 2, 1, 2, 2, 2, 2] (.bk 1) rfl, xk B29 [2, 1, 2, 1, 2, 2, 1, 2, 2, 2, 2] .sq rfl, show (nav B29 [1, 2, 1, 2, 1, 2, 2, 1, 2, 2, 2, 2]) = Code.region 7 _ false from rfl, hk_29_7, hz_29_7, hs_29_7, shiftV, u_65, i_65, is_65, ib_65, iz_65, u_5, i_5, is_5, ib_5, iz_5, convV, xk B29 [2, 2, 1, 2, 1, 2, 2, 1, 2, 2, 2, 2] .sq rfl, xk B29 [1, 2, 2, 1, 2, 1, 2, 2, 1, 2, 2, 2, 2] .sq rfl, show (nav B29 [1, 1, 2, 2, 1, 2, 1, 2, 2, 1, 2, 2, 2, 2]) = Code.region 8 _ false from rfl, hk_29_8, hz_29_8, hs_29_8, xk B29 [2, 1, 2, 2, 1, 2, 1, 2, 2, 1, 2, 2, 2, 2] (.cd 34) rfl, h2]
  replace hF := cond_some hF
  rcases hF with ⟨h3, hF⟩ | ⟨h3, hF⟩
  · have hJ := f29_ri_l1_j2_ok k x1 x7 ((IntKind.u8.wrap ((BitVec.ofInt (IntKind.bits .u8) (IntKind.u8.wrap ((BitVec.ofInt (IntKind.bits .u8) (IntKind.u8.wrap (Int.fdiv x1 (2 ^ (min (Int.toNat (IntKind.i64.wrap ((7 : Int) * x7))) (IntKind.bits .u64))))) &&& ~~~BitVec.ofInt (IntKind.bits .u8) (128 : Int)).toNat : Nat)) ||| BitVec.ofInt (IntKind.bits .u8) (128 : Int)).toNat : Nat))) h0_ _ hF
    simp (maxSteps := 999999) (disch := first | exact D (by decide) | exact K (by kernel_rfl)) only [EA, EE, EG, EF, ED, ofVal, ofVal1, ofCell, lenV, aggEqV, cellEq, intBin, isShift, V.ids, lendV, frz, flatV, cellsOf, addOff, firstReg, oneOf, cellsAt, isAggD, isPure, ↓reduceIte, reduceCtorEq, Nat.reduceAdd, Nat.reduceSub, Nat.reduceMul, Nat.reduceLeDiff, Nat.reduceEqDiff, Nat.reduceBEq, Int.reduceToNat, Int.reduceLE, Int.reduceLT, Nat.reduceLT, Int.reduceBEq, Int.reduceBNe, Int.reduceEq, String.reduceEq, show (nav B29 [2, 2, 1, 2, 2, 1, 2, 1, 2, 2, 1, 2, 2, 2, 2]) = Code.region 9 _ false from rfl, hk_29_9, hz_29_9, hs_29_9, h2, h3]
    try simp only [NM, EE] at hJ
    exact hJ
  · have hJ := f29_ri_l1_j4_ok k x1 x7 ((IntKind.u8.wrap ((BitVec.ofInt (IntKind.bits .u8) (IntKind.u8.wrap (Int.fdiv x1 (2 ^ (min (Int.toNat (IntKind.i64.wrap ((7 : Int) * x7))) (IntKind.bits .u64))))) &&& ~~~BitVec.ofInt (IntKind.bits .u8) (128 : Int)).toNat : Nat))) false h0_ _ hF
    simp (maxSteps := 999999) (disch := first | exact D (by decide) | exact K (by kernel_rfl)) only [EA, EE, EG, EF, ED, ofVal, ofVal1, ofCell, lenV, aggEqV, cellEq, intBin, isShift, V.ids, lendV, frz, flatV, cellsOf, addOff, firstReg, oneOf, cellsAt, isAggD, isPure, ↓reduceIte, reduceCtorEq, Nat.reduceAdd, Nat.reduceSub, Nat.reduceMul, Nat.reduceLeDiff, Nat.reduceEqDiff, Nat.reduceBEq, Int.reduceToNat, Int.reduceLE, Int.reduceLT, Nat.reduceLT, Int.reduceBEq, Int.reduceBNe, Int.reduceEq, String.reduceEq, xk B29 [3, 2, 1, 2, 2, 1, 2, 1, 2, 2, 1, 2, 2, 2, 2] .sk rfl, h2, h3]
    try simp only [NM, EE] at hJ
    exact hJ
noncomputable def f29_ri_l1_b (k : Nat) (x1 : Int) (x7 : Int) (h0_ : List Int) : Option R29_ri_l1 :=
  cond ((decide (x7 ≥ 0)))
    (f29_ri_l1_j1 k x1 x7 true h0_)
    (some (R29_ri_l1.o1 x1 x7 false h0_))
theorem f29_ri_l1_b_ok (k : Nat) (x1 : Int) (x7 : Int) (h0_ : List Int) (r : R29_ri_l1) (hF : f29_ri_l1_b k x1 x7 h0_ = some r) : EX 29 k (nav B29 [1, 2, 2, 1, 2, 2, 2, 2]) ({ n := 42, F := [(1, V.p (Value.int .u64 x1)), (6, V.own 30000), (7, V.p (Value.int .i64 x7))], M := [(30000, O.row true 1 5 (rowsOf (encI .u8) h0_))] } : St) = some r.st := by
  unfold f29_ri_l1_b at hF
  simp (maxSteps := 999999) (disch := first | exact D (by decide) | exact K (by kernel_rfl)) only [EA, EE, EG, EF, ED, ofVal, ofVal1, ofCell, lenV, aggEqV, cellEq, intBin, isShift, V.ids, lendV, frz, flatV, cellsOf, addOff, firstReg, oneOf, cellsAt, isAggD, isPure, ↓reduceIte, reduceCtorEq, Nat.reduceAdd, Nat.reduceSub, Nat.reduceMul, Nat.reduceLeDiff, Nat.reduceEqDiff, Nat.reduceBEq, Int.reduceToNat, Int.reduceLE, Int.reduceLT, Nat.reduceLT, Int.reduceBEq, Int.reduceBNe, Int.reduceEq, String.reduceEq, xk B29 [1, 2, 2, 1, 2, 2, 2, 2] .sq rfl, xk B29 [1, 1, 2, 2, 1, 2, 2, 2, 2] .sq rfl, show (nav B29 [1, 1, 1, 2, 2, 1, 2, 2, 2, 2]) = Code.region 5 _ false from rfl, hk_29_5, hz_29_5, hs_29_5, xk B29 [2, 1, 1, 2, 2, 1, 2, 2, 2, 2] (.cd 24) rfl]
  replace hF := cond_some hF
  rcases hF with ⟨h1, hF⟩ | ⟨h1, hF⟩
  · have hJ := f29_ri_l1_j1_ok k x1 x7 true h0_ _ hF
    simp (maxSteps := 999999) (disch := first | exact D (by decide) | exact K (by kernel_rfl)) only [EA, EE, EG, EF, ED, ofVal, ofVal1, ofCell, lenV, aggEqV, cellEq, intBin, isShift, V.ids, lendV, frz, flatV, cellsOf, addOff, firstReg, oneOf, cellsAt, isAggD, isPure, ↓reduceIte, reduceCtorEq, Nat.reduceAdd, Nat.reduceSub, Nat.reduceMul, Nat.reduceLeDiff, Nat.reduceEqDiff, Nat.reduceBEq, Int.reduceToNat, Int.reduceLE, Int.reduceLT, Nat.reduceLT, Int.reduceBEq, Int.reduceBNe, Int.reduceEq, String.reduceEq, xk B29 [2, 2, 1, 1, 2, 2, 1, 2, 2, 2, 2] .sk rfl, h1]
    try simp only [NM, EE] at hJ
    exact hJ
  · cases hF
    simp (maxSteps := 999999) (disch := first | exact D (by decide) | exact K (by kernel_rfl)) only [EA, EE, EG, EF, ED, ofVal, ofVal1, ofCell, lenV, aggEqV, cellEq, intBin, isShift, V.ids, lendV, frz, flatV, cellsOf, addOff, firstReg, oneOf, cellsAt, isAggD, isPure, ↓reduceIte, reduceCtorEq, Nat.reduceAdd, Nat.reduceSub, Nat.reduceMul, Nat.reduceLeDiff, Nat.reduceEqDiff, Nat.reduceBEq, Int.reduceToNat, Int.reduceLE, Int.reduceLT, Nat.reduceLT, Int.reduceBEq, Int.reduceBNe, Int.reduceEq, String.reduceEq, xk B29 [3, 2, 1, 1, 2, 2, 1, 2, 2, 2, 2] (.ex 0) rfl, R29_ri_l1.st, h1]
noncomputable def f29_ri_l1 (k : Nat) : Nat → Int → Int → (List Int) → Option R29_ri_l1
  | 0, _, _, _ => none
  | n + 1, x1, x7, h0_ => Option.bind (f29_ri_l1_b k x1 x7 h0_) fun o =>
    match o with
    | .o0 y y_1 y_2 => f29_ri_l1 k n y y_1 y_2
    | .o1 y y_1 y_2 y_3 => some (.o1 y y_1 y_2 y_3)
theorem f29_ri_l1_ok (k : Nat) (n : Nat) : ∀ (x1 : Int) (x7 : Int) (h0_ : List Int) (r : R29_ri_l1) (hF : f29_ri_l1 k n x1 x7 h0_ = some r) (σ : St) (hσ : headR (hints.head 29 5) (hints.canon 29 5) σ = some ({ n := 42, F := [(1, V.p (Value.int .u64 x1)), (6, V.own 30000), (7, V.p (Value.int .i64 x7))], M := [(30000, O.row true 1 5 (rowsOf (encI .u8) h0_))] } : St)), LP 29 k (nav B29 [1, 2, 2, 1, 2, 2, 2, 2]) n σ = some r.st := by
  induction n with
  | zero => intro x1 x7 h0_ r hF; cases hF
  | succ n ih =>
    intro x1 x7 h0_ r hF σ hσ
    rw [f29_ri_l1] at hF
    obtain ⟨o, h, hF⟩ := Option.bind_eq_some_iff.1 hF
    have hB := f29_ri_l1_b_ok k x1 x7 h0_ o h
    unfold LP at ih ⊢
    unfold EX at hB
    rw [loopK_succ, show firstReg (nav B29 [1, 2, 2, 1, 2, 2, 2, 2]) = 5 from rfl, hσ, headK_some, hB]
    cases o with
    | o0 y y_1 y_2 =>
      refine ih y y_1 y_2 r hF _ ?_
      simp (maxSteps := 999999) (disch := first | exact D (by decide) | exact K (by kernel_rfl)) only [EA, EE, EG, EF, ED, ofVal, ofVal1, ofCell, lenV, aggEqV, cellEq, intBin, isShift, V.ids, lendV, frz, flatV, cellsOf, addOff, firstReg, oneOf, cellsAt, isAggD, isPure, ↓reduceIte, reduceCtorEq, Nat.reduceAdd, Nat.reduceSub, Nat.reduceMul, Nat.reduceLeDiff, Nat.reduceEqDiff, Nat.reduceBEq, Int.reduceToNat, Int.reduceLE, Int.reduceLT, Nat.reduceLT, Int.reduceBEq, Int.reduceBNe, Int.reduceEq, String.reduceEq, hh_29_5, hc_29_5]
    | o1 y y_1 y_2 y_3 => cases hF; rfl
noncomputable def f29_ri_j2 (k : Nat) (x1 : Int) (x7 : Int) (x24 : Bool) (h0_ : List Int) : Option R29_ri :=
  some (R29_ri.o0 h0_)
theorem f29_ri_j2_ok (k : Nat) (x1 : Int) (x7 : Int) (x24 : Bool) (h0_ : List Int) (r : R29_ri) (hF : f29_ri_j2 k x1 x7 x24 h0_ = some r) : finK Try.prog Try.f29 0 (EX 29 k (nav B29 [2, 2, 2, 2, 2]) ({ n := 42, F := [(1, V.p (Value.int .u64 x1)), (6, V.own 30000), (7, V.p (Value.int .i64 x7)), (24, V.p (Value.bool x24))], M := [(30000, O.row true 1 5 (rowsOf (encI .u8) h0_))] } : St)) = some r.st := by
  unfold f29_ri_j2 at hF
  cases hF
  simp (maxSteps := 999999) (disch := first | exact D (by decide) | exact K (by kernel_rfl)) only [EA, EE, EG, EF, ED, ofVal, ofVal1, ofCell, lenV, aggEqV, cellEq, intBin, isShift, V.ids, lendV, frz, flatV, cellsOf, addOff, firstReg, oneOf, cellsAt, isAggD, isPure, ↓reduceIte, reduceCtorEq, Nat.reduceAdd, Nat.reduceSub, Nat.reduceMul, Nat.reduceLeDiff, Nat.reduceEqDiff, Nat.reduceBEq, Int.reduceToNat, Int.reduceLE, Int.reduceLT, Nat.reduceLT, Int.reduceBEq, Int.reduceBNe, Int.reduceEq, String.reduceEq, xk B29 [2, 2, 2, 2, 2] .sq rfl, show (nav B29 [1, 2, 2, 2, 2, 2]) = Code.region 11 _ false from rfl, hk_29_11, hz_29_11, hs_29_11, xk B29 [2, 2, 2, 2, 2, 2] .rt rfl, finK_norm, finK_ret, fin29, R29_ri.st]
noncomputable def f29_ri_e (k : Nat) (a0 : List Int) (a1 : Int) : Option R29_ri :=
  Option.bind (f35_i k a1) fun o1 =>
    match o1 with
    | .o0 v4 =>
      ifE ((0 : Int) ≤ ((List.length a0) : Int)) (
        ifE (((List.length a0) : Int) ≤ (IntKind.i64.wrap (((List.length a0) : Int) + v4))) (
          ifE ((IntKind.i64.wrap (((List.length a0) : Int) + v4)) * 1 ≤ roomy) (
            Option.bind (f29_ri_l1 k k a1 (IntKind.i64.wrap (v4 - (1 : Int))) (((List.take ((List.length ((List.replicate (Int.toNat ((List.length a0) : Int)) (0 : Int))))) a0) ++ (List.drop ((List.length ((List.take ((List.length ((List.replicate (Int.toNat ((List.length a0) : Int)) (0 : Int))))) a0)))) ((List.replicate (Int.toNat ((List.length a0) : Int)) (0 : Int))))))) fun o9 =>
              match o9 with
              | .o0 _ _ _ =>
                none  -- no way out
              | .o1 v12 v13 v14 v15 =>
                f29_ri_j2 k v12 v13 v14 v15)))
theorem f29_ri_e_ok (k : Nat) (a0 : List Int) (a1 : Int) (r : R29_ri) (hF : f29_ri_e k a0 a1 = some r) : finK Try.prog Try.f29 0 (EX 29 k (nav B29 []) ({ n := 42, F := [(0, V.sl 1 (rowsOf (encI .u8) a0)), (1, V.p (Value.int .u64 a1))], M := [] } : St)) = some r.st := by
  unfold f29_ri_e at hF
  replace hF := Option.bind_eq_some_iff.1 hF
  obtain ⟨o1, h2, hF⟩ := hF
  have hc3 := f35_i_ok k a1 _ h2
  cases o1 with
  | o0 v4 =>
    (try dsimp only at hF)
    (try simp only [NM, EE, R35_i.st] at hc3)
    replace hF := ifE_some.1 hF
    obtain ⟨h5, hF⟩ := hF
    replace hF := ifE_some.1 hF
    obtain ⟨h6, hF⟩ := hF
    replace hF := ifE_some.1 hF
    obtain ⟨h7, hF⟩ := hF
    have q8 : List.replicate (Int.toNat ((List.length a0) : Int)) [V.p (Value.int .u8 0)] = rowsOf (encI .u8) (List.replicate (Int.toNat ((List.length a0) : Int)) (0 : Int)) := (rowsOf_replicate (enc := (encI .u8)) (n := (Int.toNat ((List.length a0) : Int))) (x := (0 : Int))).symm
    replace hF := Option.bind_eq_some_iff.1 hF
    obtain ⟨o9, h10, hF⟩ := hF
    have hc11 := f29_ri_l1_ok k k a1 (IntKind.i64.wrap (v4 - (1 : Int))) (((List.take ((List.length ((List.replicate (Int.toNat ((List.length a0) : Int)) (0 : Int))))) a0) ++ (List.drop ((List.length ((List.take ((List.length ((List.replicate (Int.toNat ((List.length a0) : Int)) (0 : Int))))) a0)))) ((List.replicate (Int.toNat ((List.length a0) : Int)) (0 : Int)))))) _ h10
    simp (maxSteps := 999999) (disch := first | exact D (by decide) | exact K (by kernel_rfl)) only [EA, EE, EG, EF, ED, ofVal, ofVal1, ofCell, lenV, aggEqV, cellEq, intBin, isShift, V.ids, lendV, frz, flatV, cellsOf, addOff, firstReg, oneOf, cellsAt, isAggD, isPure, ↓reduceIte, reduceCtorEq, Nat.reduceAdd, Nat.reduceSub, Nat.reduceMul, Nat.reduceLeDiff, Nat.reduceEqDiff, Nat.reduceBEq, Int.reduceToNat, Int.reduceLE, Int.reduceLT, Nat.reduceLT, Int.reduceBEq, Int.reduceBNe, Int.reduceEq, String.reduceEq, xk B29 [] .sq rfl, show (nav B29 [1]) = Code.region 0 _ false from rfl, hk_29_0, hz_29_0, hs_29_0, xk B29 [2] .sq rfl, show (nav B29 [1, 2]) = Code.region 1 _ false from rfl, hk_29_1, hz_29_1, hs_29_1, callStep, calleeOf, gv, List.contains, xk B29 [2, 2] .sq rfl, show (nav B29 [1, 2, 2]) = Code.region 2 _ false from rfl, hk_29_2, hz_29_2, hs_29_2, u_23, i_23, is_23, ib_23, iz_23, makeV, intArg, sm_5, u_5, i_5, is_5, ib_5, iz_5, xk B29 [2, 2, 2] .sq rfl, show (nav B29 [1, 2, 2, 2]) = Code.region 3 _ false from rfl, hk_29_3, hz_29_3, hs_29_3, copyV, content, xk B29 [2, 2, 2, 2] .sq rfl, xk B29 [1, 2, 2, 2, 2] .sq rfl, show (nav B29 [1, 1, 2, 2, 2, 2]) = Code.region 4 _ false from rfl, hk_29_4, hz_29_4, hs_29_4, xk B29 [2, 1, 2, 2, 2, 2] (.bk 0) rfl, xk B29 [2, 2, 1, 2, 2, 2, 2] .lp rfl, hh_29_5, hc_29_5, hc3, h5, h6, h7, q8]
    (try simp only [NM, EE] at hc11)
    rw [hc11 _ (by simp (maxSteps := 999999) (disch := first | exact D (by decide) | exact K (by kernel_rfl)) only [EA, EE, EG, EF, ED, ofVal, ofVal1, ofCell, lenV, aggEqV, cellEq, intBin, isShift, V.ids, lendV, frz, flatV, cellsOf, addOff, firstReg, oneOf, cellsAt, isAggD, isPure, ↓reduceIte, reduceCtorEq, Nat.reduceAdd, Nat.reduceSub, Nat.reduceMul, Nat.reduceLeDiff, Nat.reduceEqDiff, Nat.reduceBEq, Int.reduceToNat, Int.reduceLE, Int.reduceLT, Nat.reduceLT, Int.reduceBEq, Int.reduceBNe, Int.reduceEq, String.reduceEq, hh_29_5, hc_29_5, hc3, h5, h6, h7, q8])]
    clear hc11
    cases o9 with
    | o0 _ _ _ =>
      (try dsimp only at hF)
      cases hF
    | o1 v12 v13 v14 v15 =>
      (try dsimp only at hF)
      have hJ := f29_ri_j2_ok k v12 v13 v14 v15 _ hF
      simp (maxSteps := 999999) (disch := first | exact D (by decide) | exact K (by kernel_rfl)) only [EA, EE, EG, EF, ED, ofVal, ofVal1, ofCell, lenV, aggEqV, cellEq, intBin, isShift, V.ids, lendV, frz, flatV, cellsOf, addOff, firstReg, oneOf, cellsAt, isAggD, isPure, ↓reduceIte, reduceCtorEq, Nat.reduceAdd, Nat.reduceSub, Nat.reduceMul, Nat.reduceLeDiff, Nat.reduceEqDiff, Nat.reduceBEq, Int.reduceToNat, Int.reduceLE, Int.reduceLT, Nat.reduceLT, Int.reduceBEq, Int.reduceBNe, Int.reduceEq, String.reduceEq, R29_ri_l1.st, hc3, h5, h6, h7, q8]
      try simp only [NM, EE] at hJ
      exact hJ
noncomputable def f29_ri (k : Nat) (a0 : List Int) (a1 : Int) : Option R29_ri := match k with | 0 => none | k + 1 => f29_ri_e k a0 a1
theorem f29_ri_ok (k : Nat) (a0 : List Int) (a1 : Int) (r : R29_ri) (hF : f29_ri k a0 a1 = some r) : CV k 29 [V.sl 1 (rowsOf (encI .u8) a0), V.p (Value.int .u64 a1)] [] = some r.st := by
  cases k with
  | zero => cases hF
  | succ k =>
    unfold CV
    rw [ev_call (F := Try.f29) (c := (nav B29 [])) rfl Try.func29 rfl rfl rfl]
    exact f29_ri_e_ok k a0 a1 r hF
-- f22_pr_bow: f22 (*heliograph/segment.writer).put
inductive R22_pr_bow where
  | o0 (y : List Int)
  | o1 (y : List Int) (y_1 : List Int)
noncomputable def R22_pr_bow.st : R22_pr_bow → V × List O × List O
  | .o0 y => (V.tup [], [O.box 52 [V.own 1000001], O.row true 1 5 (rowsOf (encI .u8) y)], [])
  | .o1 y y_1 => (V.tup [], [O.box 52 [V.own 2000000], O.row false 1 5 (rowsOf (encI .u8) y)], [O.row true 1 5 (rowsOf (encI .u8) y_1)])
inductive R22_pr_bow_l1 where
  | o0 (y : List Int) (y_1 : Int) (y_2 : Int) (y_3 : List Int) (y_4 : List Int)
  | o1 (y : List Int) (y_1 : Int) (y_2 : Int) (y_3 : Bool) (y_4 : List Int)
  | o2 (y : List Int) (y_1 : Int) (y_2 : Int) (y_3 : Bool) (y_4 : List Int) (y_5 : List Int)
noncomputable def R22_pr_bow_l1.st : R22_pr_bow_l1 → Out × St
  | .o0 y y_1 y_2 y_3 y_4 => (.norm, ({ n := 23, F := [(0, V.ptr 1000000 0), (6, V.sl 1 (rowsOf (encI .i64) y)), (7, V.p (Value.int .i64 y_1)), (8, V.p (Value.int .i64 y_2))], M := [(1000000, O.box 52 [V.own 19]), (19, O.row true 1 5 (rowsOf (encI .u8) y_3)), (1000001, O.row false 1 5 (rowsOf (encI .u8) y_4))] } : St))
  | .o1 y y_1 y_2 y_3 y_4 => (.exit 0, ({ n := 23, F := [(0, V.ptr 1000000 0), (6, V.sl 1 (rowsOf (encI .i64) y)), (7, V.p (Value.int .i64 y_1)), (8, V.p (Value.int .i64 y_2)), (9, V.p (Value.bool y_3))], M := [(1000000, O.box 52 [V.own 1000001]), (1000001, O.row true 1 5 (rowsOf (encI .u8) y_4))] } : St))
  | .o2 y y_1 y_2 y_3 y_4 y_5 => (.exit 0, ({ n := 23, F := [(0, V.ptr 1000000 0), (6, V.sl 1 (rowsOf (encI .i64) y)), (7, V.p (Value.int .i64 y_1)), (8, V.p (Value.int .i64 y_2)), (9, V.p (Value.bool y_3))], M := [(1000000, O.box 52 [V.own 30001]), (30001, O.row true 1 5 (rowsOf (encI .u8) y_4)), (1000001, O.row false 1 5 (rowsOf (encI .u8) y_5))] } : St))
noncomputable def f22_pr_bow_l1_j2 (k : Nat) (x6 : List Int) (x7 : Int) (x8 : Int) (m19 : List Int) (e1 : List Int) : Option R22_pr_bow_l1 :=
  some (R22_pr_bow_l1.o0 x6 x7 (IntKind.i64.wrap (x8 + (1 : Int))) m19 e1)
theorem f22_pr_bow_l1_j2_ok (k : Nat) (x6 : List Int) (x7 : Int) (x8 : Int) (m19 : List Int) (e1 : List Int) (r : R22_pr_bow_l1) (hF : f22_pr_bow_l1_j2 k x6 x7 x8 m19 e1 = some r) : EX 22 k (nav B22 [2, 2, 2, 1, 2, 2]) ({ n := 23, F := [(0, V.ptr 1000000 0), (6, V.sl 1 (rowsOf (encI .i64) x6)), (7, V.p (Value.int .i64 x7)), (8, V.p (Value.int .i64 x8))], M := [(1000000, O.box 52 [V.own 19]), (19, O.row true 1 5 (rowsOf (encI .u8) m19)), (1000001, O.row false 1 5 (rowsOf (encI .u8) e1))] } : St) = some r.st := by
  unfold f22_pr_bow_l1_j2 at hF
  cases hF
  simp (maxSteps := 999999) (disch := first | exact D (by decide) | exact K (by kernel_rfl)) only [EA, EE, EG, EF, ED, ofVal, ofVal1, ofCell, lenV, aggEqV, cellEq, intBin, isShift, V.ids, lendV, frz, flatV, cellsOf, addOff, firstReg, oneOf, cellsAt, isAggD, isPure, ↓reduceIte, reduceCtorEq, Nat.reduceAdd, Nat.reduceSub, Nat.reduceMul, Nat.reduceLeDiff, Nat.reduceEqDiff, Nat.reduceBEq, Int.reduceToNat, Int.reduceLE, Int.reduceLT, Nat.reduceLT, Int.reduceBEq, Int.reduceBNe, Int.reduceEq, String.reduceEq, show (nav B22 [2, 2, 2, 1, 2, 2]) = Code.region 4 _ false from rfl, hk_22_4, hz_22_4, hs_22_4, R22_pr_bow_l1.st]
noncomputable def f22_pr_bow_l1_j1 (k : Nat) (x6 : List Int) (x7 : Int) (x8 : Int) (x9 : Bool) (e1 : List Int) : Option R22_pr_bow_l1 :=
  ifE ((0 : Int) ≤ x8) (
    Option.bind (x6[(Int.toNat x8)]?) fun v2 =>
      Option.bind (f29_ri k e1 (IntKind.u64.wrap v2)) fun o4 =>
        match o4 with
        | .o0 v7 =>
          f22_pr_bow_l1_j2 k x6 x7 x8 v7 e1)
theorem f22_pr_bow_l1_j1_ok (k : Nat) (x6 : List Int) (x7 : Int) (x8 : Int) (x9 : Bool) (e1 : List Int) (r : R22_pr_bow_l1) (hF : f22_pr_bow_l1_j1 k x6 x7 x8 x9 e1 = some r) : EX 22 k (nav B22 [2, 2, 1, 2, 2]) ({ n := 23, F := [(0, V.ptr 1000000 0), (6, V.sl 1 (rowsOf (encI .i64) x6)), (7, V.p (Value.int .i64 x7)), (8, V.p (Value.int .i64 x8)), (9, V.p (Value.bool x9))], M := [(1000000, O.box 52 [V.own 1000001]), (1000001, O.row true 1 5 (rowsOf (encI .u8) e1))] } : St) = some r.st := by
  unfold f22_pr_bow_l1_j1 at hF
  replace hF := ifE_some.1 hF
  obtain ⟨h1, hF⟩ := hF
  replace hF := Option.bind_eq_some_iff.1 hF
  obtain ⟨v2, h3, hF⟩ := hF
  replace hF := Option.bind_eq_some_iff.1 hF
  obtain ⟨o4, h5, hF⟩ := hF
  have hc6 := f29_ri_ok k e1 (IntKind.u64.wrap v2) _ h5
  cases o4 with
  | o0 v7 =>
    (try dsimp only at hF)
    (try simp only [NM, EE, R29_ri.st] at hc6)
    have hJ := f22_pr_bow_l1_j2_ok k x6 x7 x8 v7 e1 _ hF
    simp (maxSteps := 999999) (disch := first | exact D (by decide) | exact K (by kernel_rfl)) only [EA, EE, EG, EF, ED, ofVal, ofVal1, ofCell, lenV, aggEqV, cellEq, intBin, isShift, V.ids, lendV, frz, flatV, cellsOf, addOff, firstReg, oneOf, cellsAt, isAggD, isPure, ↓reduceIte, reduceCtorEq, Nat.reduceAdd, Nat.reduceSub, Nat.reduceMul, Nat.reduceLeDiff, Nat.reduceEqDiff, Nat.reduceBEq, Int.reduceToNat, Int.reduceLE, Int.reduceLT, Nat.reduceLT, Int.reduceBEq, Int.reduceBNe, Int.reduceEq, String.reduceEq, xk B22 [2, 2, 1, 2, 2] .sq rfl, xk B22 [1, 2, 2, 1, 2, 2] (.bk 1) rfl, xk B22 [2, 1, 2, 2, 1, 2, 2] .sq rfl, show (nav B22 [1, 2, 1, 2, 2, 1, 2, 2]) = Code.region 2 _ false from rfl, hk_22_2, hz_22_2, hs_22_2, indexAddrV, u_63, i_63, is_63, ib_63, iz_63, u_3, i_3, is_3, ib_3, iz_3, encI_eq, show (nav B22 [2, 2, 1, 2, 2, 1, 2, 2]) = Code.region 3 _ false from rfl, hk_22_3, hz_22_3, hs_22_3, fieldAddrV, u_52, i_52, is_52, ib_52, iz_52, u_23, i_23, is_23, ib_23, iz_23, u_65, i_65, is_65, ib_65, iz_65, convV, callStep, calleeOf, gv, List.contains, h1, h3, hc6]
    try simp only [NM, EE] at hJ
    exact hJ
noncomputable def f22_pr_bow_l1_b (k : Nat) (x6 : List Int) (x7 : Int) (x8 : Int) (e1 : List Int) : Option R22_pr_bow_l1 :=
  cond ((decide (x8 < x7)))
    (f22_pr_bow_l1_j1 k x6 x7 x8 true e1)
    (some (R22_pr_bow_l1.o1 x6 x7 x8 false e1))
theorem f22_pr_bow_l1_b_ok (k : Nat) (x6 : List Int) (x7 : Int) (x8 : Int) (e1 : List Int) (r : R22_pr_bow_l1) (hF : f22_pr_bow_l1_b k x6 x7 x8 e1 = some r) : EX 22 k (nav B22 [1, 2, 2]) ({ n := 23, F := [(0, V.ptr 1000000 0), (6, V.sl 1 (rowsOf (encI .i64) x6)), (7, V.p (Value.int .i64 x7)), (8, V.p (Value.int .i64 x8))], M := [(1000000, O.box 52 [V.own 1000001]), (1000001, O.row true 1 5 (rowsOf (encI .u8) e1))] } : St) = some r.st := by
  unfold f22_pr_bow_l1_b at hF
  simp (maxSteps := 999999) (disch := first | exact D (by decide) | exact K (by kernel_rfl)) only [EA, EE, EG, EF, ED, ofVal, ofVal1, ofCell, lenV, aggEqV, cellEq, intBin, isShift, V.ids, lendV, frz, flatV, cellsOf, addOff, firstReg, oneOf, cellsAt, isAggD, isPure, ↓reduceIte, reduceCtorEq, Nat.reduceAdd, Nat.reduceSub, Nat.reduceMul, Nat.reduceLeDiff, Nat.reduceEqDiff, Nat.reduceBEq, Int.reduceToNat, Int.reduceLE, Int.reduceLT, Nat.reduceLT, Int.reduceBEq, Int.reduceBNe, Int.reduceEq, String.reduceEq, xk B22 [1, 2, 2] .sq rfl, show (nav B22 [1, 1, 2, 2]) = Code.region 1 _ false from rfl, hk_22_1, hz_22_1, hs_22_1, xk B22 [2, 1, 2, 2] .sq rfl, xk B22 [1, 2, 1, 2, 2] (.cd 9) rfl]
  replace hF := cond_some hF
  rcases hF with ⟨h1, hF⟩ | ⟨h1, hF⟩
  · have hJ := f22_pr_bow_l1_j1_ok k x6 x7 x8 true e1 _ hF
    simp (maxSteps := 999999) (disch := first | exact D (by decide) | exact K (by kernel_rfl)) only [EA, EE, EG, EF, ED, ofVal, ofVal1, ofCell, lenV, aggEqV, cellEq, intBin, isShift, V.ids, lendV, frz, flatV, cellsOf, addOff, firstReg, oneOf, cellsAt, isAggD, isPure, ↓reduceIte, reduceCtorEq, Nat.reduceAdd, Nat.reduceSub, Nat.reduceMul, Nat.reduceLeDiff, Nat.reduceEqDiff, Nat.reduceBEq, Int.reduceToNat, Int.reduceLE, Int.reduceLT, Nat.reduceLT, Int.reduceBEq, Int.reduceBNe, Int.reduceEq, String.reduceEq, xk B22 [2, 1, 2, 1, 2, 2] .sk rfl, h1]
    try simp only [NM, EE] at hJ
    exact hJ
  · cases hF
    simp (maxSteps := 999999) (disch := first | exact D (by decide) | exact K (by kernel_rfl)) only [EA, EE, EG, EF, ED, ofVal, ofVal1, ofCell, lenV, aggEqV, cellEq, intBin, isShift, V.ids, lendV, frz, flatV, cellsOf, addOff, firstReg, oneOf, cellsAt, isAggD, isPure, ↓reduceIte, reduceCtorEq, Nat.reduceAdd, Nat.reduceSub, Nat.reduceMul, Nat.reduceLeDiff, Nat.reduceEqDiff, Nat.reduceBEq, Int.reduceToNat, Int.reduceLE, Int.reduceLT, Nat.reduceLT, Int.reduceBEq, Int.reduceBNe, Int.reduceEq, String.reduceEq, xk B22 [3, 1, 2, 1, 2, 2] (.ex 0) rfl, R22_pr_bow_l1.st, h1]
inductive R22_pr_bow_l2 where
  | o0 (y : List Int) (y_1 : Int) (y_2 : Int) (y_3 : List Int) (y_4 : List Int)
  | o1 (y : List Int) (y_1 : Int) (y_2 : Int) (y_3 : Bool) (y_4 : List Int) (y_5 : List Int)
noncomputable def R22_pr_bow_l2.st : R22_pr_bow_l2 → Out × St
  | .o0 y y_1 y_2 y_3 y_4 => (.norm, ({ n := 23, F := [(0, V.ptr 1000000 0), (6, V.sl 1 (rowsOf (encI .i64) y)), (7, V.p (Value.int .i64 y_1)), (8, V.p (Value.int .i64 y_2))], M := [(1000000, O.box 52 [V.own 19]), (19, O.row true 1 5 (rowsOf (encI .u8) y_3)), (1000001, O.row false 1 5 (rowsOf (encI .u8) y_4))] } : St))
  | .o1 y y_1 y_2 y_3 y_4 y_5 => (.exit 0, ({ n := 23, F := [(0, V.ptr 1000000 0), (6, V.sl 1 (rowsOf (encI .i64) y)), (7, V.p (Value.int .i64 y_1)), (8, V.p (Value.int .i64 y_2)), (9, V.p (Value.bool y_3))], M := [(1000000, O.box 52 [V.own 30001]), (30001, O.row true 1 5 (rowsOf (encI .u8) y_4)), (1000001, O.row false 1 5 (rowsOf (encI .u8) y_5))] } : St))
noncomputable def f22_pr_bow_l2_j2 (k : Nat) (x6 : List Int) (x7 : Int) (x8 : Int) (m19 : List Int) (e1 : List Int) : Option R22_pr_bow_l2 :=
  some (R22_pr_bow_l2.o0 x6 x7 (IntKind.i64.wrap (x8 + (1 : Int))) m19 e1)
theorem f22_pr_bow_l2_j2_ok (k : Nat) (x6 : List Int) (x7 : Int) (x8 : Int) (m19 : List Int) (e1 : List Int) (r : R22_pr_bow_l2) (hF : f22_pr_bow_l2_j2 k x6 x7 x8 m19 e1 = some r) : EX 22 k (nav B22 [2, 2, 2, 1, 2, 2]) ({ n := 23, F := [(0, V.ptr 1000000 0), (6, V.sl 1 (rowsOf (encI .i64) x6)), (7, V.p (Value.int .i64 x7)), (8, V.p (Value.int .i64 x8))], M := [(1000000, O.box 52 [V.own 19]), (19, O.row true 1 5 (rowsOf (encI .u8) m19)), (1000001, O.row false 1 5 (rowsOf (encI .u8) e1))] } : St) = some r.st := by
  unfold f22_pr_bow_l2_j2 at hF
  cases hF
  simp (maxSteps := 999999) (disch := first | exact D (by decide) | exact K (by kernel_rfl)) only [EA, EE, EG, EF, ED, ofVal, ofVal1, ofCell, lenV, aggEqV, cellEq, intBin, isShift, V.ids, lendV, frz, flatV, cellsOf, addOff, firstReg, oneOf, cellsAt, isAggD, isPure, ↓reduceIte, reduceCtorEq, Nat.reduceAdd, Nat.reduceSub, Nat.reduceMul, Nat.reduceLeDiff, Nat.reduceEqDiff, Nat.reduceBEq, Int.reduceToNat, Int.reduceLE, Int.reduceLT, Nat.reduceLT, Int.reduceBEq, Int.reduceBNe, Int.reduceEq, String.reduceEq, show (nav B22 [2, 2, 2, 1, 2, 2]) = Code.region 4 _ false from rfl, hk_22_4, hz_22_4, hs_22_4, R22_pr_bow_l2.st]
noncomputable def f22_pr_bow_l2_j1 (k : Nat) (x6 : List Int) (x7 : Int) (x8 : Int) (x9 : Bool) (h1_ : List Int) (e1 : List Int) : Option R22_pr_bow_l2 :=
  ifE ((0 : Int) ≤ x8) (
    Option.bind (x6[(Int.toNat x8)]?) fun v2 =>
      Option.bind (f29_ri k h1_ (IntKind.u64.wrap v2)) fun o4 =>
        match o4 with
        | .o0 v7 =>
          f22_pr_bow_l2_j2 k x6 x7 x8 v7 e1)
theorem f22_pr_bow_l2_j1_ok (k : Nat) (x6 : List Int) (x7 : Int) (x8 : Int) (x9 : Bool) (h1_ : List Int) (e1 : List Int) (r : R22_pr_bow_l2) (hF : f22_pr_bow_l2_j1 k x6 x7 x8 x9 h1_ e1 = some r) : EX 22 k (nav B22 [2, 2, 1, 2, 2]) ({ n := 23, F := [(0, V.ptr 1000000 0), (6, V.sl 1 (rowsOf (encI .i64) x6)), (7, V.p (Value.int .i64 x7)), (8, V.p (Value.int .i64 x8)), (9, V.p (Value.bool x9))], M := [(1000000, O.box 52 [V.own 30001]), (30001, O.row true 1 5 (rowsOf (encI .u8) h1_)), (1000001, O.row false 1 5 (rowsOf (encI .u8) e1))] } : St) = some r.st := by
  unfold f22_pr_bow_l2_j1 at hF
  replace hF := ifE_some.1 hF
  obtain ⟨h1, hF⟩ := hF
  replace hF := Option.bind_eq_some_iff.1 hF
  obtain ⟨v2, h3, hF⟩ := hF
  replace hF := Option.bind_eq_some_iff.1 hF
  obtain ⟨o4, h5, hF⟩ := hF
  have hc6 := f29_ri_ok k h1_ (IntKind.u64.wrap v2) _ h5
  cases o4 with
  | o0 v7 =>
    (try dsimp only at hF)
    (try simp only [NM, EE, R29_ri.st] at hc6)
    have hJ := f22_pr_bow_l2_j2_ok k x6 x7 x8 v7 e1 _ hF
    simp (maxSteps := 999999) (disch := first | exact D (by decide) | exact K (by kernel_rfl)) only [EA, EE, EG, EF, ED, ofVal, ofVal1, ofCell, lenV, aggEqV, cellEq, intBin, isShift, V.ids, lendV, frz, flatV, cellsOf, addOff, firstReg, oneOf, cellsAt, isAggD, isPure, ↓reduceIte, reduceCtorEq, Nat.reduceAdd, Nat.reduceSub, Nat.reduceMul, Nat.reduceLeDiff, Nat.reduceEqDiff, Nat.reduceBEq, Int.reduceToNat, Int.reduceLE, Int.reduceLT, Nat.reduceLT, Int.reduceBEq, Int.reduceBNe, Int.reduceEq, String.reduceEq, xk B22 [2, 2, 1, 2, 2] .sq rfl, xk B22 [1, 2, 2, 1, 2, 2] (.bk 1) rfl, xk B22 [2, 1, 2, 2, 1, 2, 2] .sq rfl, show (nav B22 [1, 2, 1, 2, 2, 1, 2, 2]) = Code.region 2 _ false from rfl, hk_22_2, hz_22_2, hs_22_2, indexAddrV, u_63, i_63, is_63, ib_63, iz_63, u_3, i_3, is_3, ib_3, iz_3, encI_eq, show (nav B22 [2, 2, 1, 2, 2, 1, 2, 2]) = Code.region 3 _ false from rfl, hk_22_3, hz_22_3, hs_22_3, fieldAddrV, u_52, i_52, is_52, ib_52, iz_52, u_23, i_23, is_23, ib_23, iz_23, u_65, i_65, is_65, ib_65, iz_65, convV, callStep, calleeOf, gv, List.contains, h1, h3, hc6]
    try simp only [NM, EE] at hJ
    exact hJ
noncomputable def f22_pr_bow_l2_b (k : Nat) (x6 : List Int) (x7 : Int) (x8 : Int) (h1_ : List Int) (e1 : List Int) : Option R22_pr_bow_l2 :=
  cond ((decide (x8 < x7)))
    (f22_pr_bow_l2_j1 k x6 x7 x8 true h1_ e1)
    (some (R22_pr_bow_l2.o1 x6 x7 x8 false h1_ e1))
theorem f22_pr_bow_l2_b_ok (k : Nat) (x6 : List Int) (x7 : Int) (x8 : Int) (h1_ : List Int) (e1 : List Int) (r : R22_pr_bow_l2) (hF : f22_pr_bow_l2_b k x6 x7 x8 h1_ e1 = some r) : EX 22 k (nav B22 [1, 2, 2]) ({ n := 23, F := [(0, V.ptr 1000000 0), (6, V.sl 1 (rowsOf (encI .i64) x6)), (7, V.p (Value.int .i64 x7)), (8, V.p (Value.int .i64 x8))], M := [(1000000, O.box 52 [V.own 30001]), (30001, O.row true 1 5 (rowsOf (encI .u8) h1_)), (1000001, O.row false 1 5 (rowsOf (encI .u8) e1))] } : St) = some r.st := by
  unfold f22_pr_bow_l2_b at hF
  simp (maxSteps := 999999) (disch := first | exact D (by decide) | exact K (by kernel_rfl)) only [EA, EE, EG, EF, ED, ofVal, ofVal1, ofCell, lenV, aggEqV, cellEq, intBin, isShift, V.ids, lendV, frz, flatV, cellsOf, addOff, firstReg, oneOf, cellsAt, isAggD, isPure, ↓reduceIte, reduceCtorEq, Nat.reduceAdd, Nat.reduceSub, Nat.reduceMul, Nat.reduceLeDiff, Nat.reduceEqDiff, Nat.reduceBEq, Int.reduceToNat, Int.reduceLE, Int.reduceLT, Nat.reduceLT, Int.reduceBEq, Int.reduceBNe, Int.reduceEq, String.reduceEq, xk B22 [1, 2, 2] .sq rfl, show (nav B22 [1, 1, 2, 2]) = Code.region 1 _ false from rfl, hk_22_1, hz_22_1, hs_22_1, xk B22 [2, 1, 2, 2] .sq rfl, xk B22 [1, 2, 1, 2, 2] (.cd 9) rfl]
  replace hF := cond_some hF
  rcases hF with ⟨h1, hF⟩ | ⟨h1, hF⟩
  · have hJ := f22_pr_bow_l2_j1_ok k x6 x7 x8 true h1_ e1 _ hF
    simp (maxSteps := 999999) (disch := first | exact D (by decide) | exact K (by kernel_rfl)) only [EA, EE, EG, EF, ED, ofVal, ofVal1, ofCell, lenV, aggEqV, cellEq, intBin, isShift, V.ids, lendV, frz, flatV, cellsOf, addOff, firstReg, oneOf, cellsAt, isAggD, isPure, ↓reduceIte, reduceCtorEq, Nat.reduceAdd, Nat.reduceSub, Nat.reduceMul, Nat.reduceLeDiff, Nat.reduceEqDiff, Nat.reduceBEq, Int.reduceToNat, Int.reduceLE, Int.reduceLT, Nat.reduceLT, Int.reduceBEq, Int.reduceBNe, Int.reduceEq, String.reduceEq, xk B22 [2, 1, 2, 1, 2, 2] .sk rfl, h1]
    try simp only [NM, EE] at hJ
    exact hJ
  · cases hF
    simp (maxSteps := 999999) (disch := first | exact D (by decide) | exact K (by kernel_rfl)) only [EA, EE, EG, EF, ED, ofVal, ofVal1, ofCell, lenV, aggEqV, cellEq, intBin, isShift, V.ids, lendV, frz, flatV, cellsOf, addOff, firstReg, oneOf, cellsAt, isAggD, isPure, ↓reduceIte, reduceCtorEq, Nat.reduceAdd, Nat.reduceSub, Nat.reduceMul, Nat.reduceLeDiff, Nat.reduceEqDiff, Nat.reduceBEq, Int.reduceToNat, Int.reduceLE, Int.reduceLT, Nat.reduceLT, Int.reduceBEq, Int.reduceBNe, Int.reduceEq, String.reduceEq, xk B22 [3, 1, 2, 1, 2, 2] (.ex 0) rfl, R22_pr_bow_l2.st, h1]
noncomputable def f22_pr_bow_l2 (k : Nat) : Nat → (List Int) → Int → Int → (List Int) → (List Int) → Option R22_pr_bow_l2
  | 0, _, _, _, _, _ => none
  | n + 1, x6, x7, x8, h1_, e1 => Option.bind (f22_pr_bow_l2_b k x6 x7 x8 h1_ e1) fun o =>
    match o with
    | .o0 y y_1 y_2 y_3 y_4 => f22_pr_bow_l2 k n y y_1 y_2 y_3 y_4
    | .o1 y y_1 y_2 y_3 y_4 y_5 => some (.o1 y y_1 y_2 y_3 y_4 y_5)
theorem f22_pr_bow_l2_ok (k : Nat) (n : Nat) : ∀ (x6 : List Int) (x7 : Int) (x8 : Int) (h1_ : List Int) (e1 : List Int) (r : R22_pr_bow_l2) (hF : f22_pr_bow_l2 k n x6 x7 x8 h1_ e1 = some r) (σ : St) (hσ : headR (hints.head 22 1) (hints.canon 22 1) σ = some ({ n := 23, F := [(0, V.ptr 1000000 0), (6, V.sl 1 (rowsOf (encI .i64) x6)), (7, V.p (Value.int .i64 x7)), (8, V.p (Value.int .i64 x8))], M := [(1000000, O.box 52 [V.own 30001]), (30001, O.row true 1 5 (rowsOf (encI .u8) h1_)), (1000001, O.row false 1 5 (rowsOf (encI .u8) e1))] } : St)), LP 22 k (nav B22 [1, 2, 2]) n σ = some r.st := by
  induction n with
  | zero => intro x6 x7 x8 h1_ e1 r hF; cases hF
  | succ n ih =>
    intro x6 x7 x8 h1_ e1 r hF σ hσ
    rw [f22_pr_bow_l2] at hF
    obtain ⟨o, h, hF⟩ := Option.bind_eq_some_iff.1 hF
    have hB := f22_pr_bow_l2_b_ok k x6 x7 x8 h1_ e1 o h
    unfold LP at ih ⊢
    unfold EX at hB
    rw [loopK_succ, show firstReg (nav B22 [1, 2, 2]) = 1 from rfl, hσ, headK_some, hB]
    cases o with
    | o0 y y_1 y_2 y_3 y_4 =>
      refine ih y y_1 y_2 y_3 y_4 r hF _ ?_
      simp (maxSteps := 999999) (disch := first | exact D (by decide) | exact K (by kernel_rfl)) only [EA, EE, EG, EF, ED, ofVal, ofVal1, ofCell, lenV, aggEqV, cellEq, intBin, isShift, V.ids, lendV, frz, flatV, cellsOf, addOff, firstReg, oneOf, cellsAt, isAggD, isPure, ↓reduceIte, reduceCtorEq, Nat.reduceAdd, Nat.reduceSub, Nat.reduceMul, Nat.reduceLeDiff, Nat.reduceEqDiff, Nat.reduceBEq, Int.reduceToNat, Int.reduceLE, Int.reduceLT, Nat.reduceLT, Int.reduceBEq, Int.reduceBNe, Int.reduceEq, String.reduceEq, hh_22_1, hc_22_1]
    | o1 y y_1 y_2 y_3 y_4 y_5 => cases hF; rfl
noncomputable def f22_pr_bow_l1 (k : Nat) : Nat → (List Int) → Int → Int → (List Int) → Option R22_pr_bow_l1
  | 0, _, _, _, _ => none
  | n + 1, x6, x7, x8, e1 => Option.bind (f22_pr_bow_l1_b k x6 x7 x8 e1) fun o =>
    match o with
    | .o0 y y_1 y_2 y_3 y_4 => Option.bind (f22_pr_bow_l2 k n y y_1 y_2 y_3 y_4) fun o2 =>
      match o2 with
      | .o0 z0 z1 z2 z3 z4 => none
      | .o1 z0 z1 z2 z3 z4 z5 => some (.o2 z0 z1 z2 z3 z4 z5)
    | .o1 y y_1 y_2 y_3 y_4 => some (.o1 y y_1 y_2 y_3 y_4)
    | .o2 y y_1 y_2 y_3 y_4 y_5 => some (.o2 y y_1 y_2 y_3 y_4 y_5)
theorem f22_pr_bow_l1_ok (k : Nat) (n : Nat) : ∀ (x6 : List Int) (x7 : Int) (x8 : Int) (e1 : List Int) (r : R22_pr_bow_l1) (hF : f22_pr_bow_l1 k n x6 x7 x8 e1 = some r) (σ : St) (hσ : headR (hints.head 22 1) (hints.canon 22 1) σ = some ({ n := 23, F := [(0, V.ptr 1000000 0), (6, V.sl 1 (rowsOf (encI .i64) x6)), (7, V.p (Value.int .i64 x7)), (8, V.p (Value.int .i64 x8))], M := [(1000000, O.box 52 [V.own 1000001]), (1000001, O.row true 1 5 (rowsOf (encI .u8) e1))] } : St)), LP 22 k (nav B22 [1, 2, 2]) n σ = some r.st := by
  induction n with
  | zero => intro x6 x7 x8 e1 r hF; cases hF
  | succ n ih =>
    intro x6 x7 x8 e1 r hF σ hσ
    rw [f22_pr_bow_l1] at hF
    obtain ⟨o, h, hF⟩ := Option.bind_eq_some_iff.1 hF
    have hB := f22_pr_bow_l1_b_ok k x6 x7 x8 e1 o h
    unfold LP at ih ⊢
    unfold EX at hB
    rw [loopK_succ, show firstReg (nav B22 [1, 2, 2]) = 1 from rfl, hσ, headK_some, hB]
    cases o with
    | o0 y y_1 y_2 y_3 y_4 =>
      replace hF := Option.bind_eq_some_iff.1 hF
      obtain ⟨o2, h2, hF⟩ := hF
      refine Eq.trans (f22_pr_bow_l2_ok k n y y_1 y_2 y_3 y_4 o2 h2 _ ?_) ?_
      · simp (maxSteps := 999999) (disch := first | exact D (by decide) | exact K (by kernel_rfl)) only [EA, EE, EG, EF, ED, ofVal, ofVal1, ofCell, lenV, aggEqV, cellEq, intBin, isShift, V.ids, lendV, frz, flatV, cellsOf, addOff, firstReg, oneOf, cellsAt, isAggD, isPure, ↓reduceIte, reduceCtorEq, Nat.reduceAdd, Nat.reduceSub, Nat.reduceMul, Nat.reduceLeDiff, Nat.reduceEqDiff, Nat.reduceBEq, Int.reduceToNat, Int.reduceLE, Int.reduceLT, Nat.reduceLT, Int.reduceBEq, Int.reduceBNe, Int.reduceEq, String.reduceEq, hh_22_1, hc_22_1]
      · cases o2 <;> first | (cases hF; rfl) | cases hF
    | o1 y y_1 y_2 y_3 y_4 => cases hF; rfl
    | o2 y y_1 y_2 y_3 y_4 y_5 => cases hF; rfl
noncomputable def f22_pr_bow_e (k : Nat) (a1 : List Int) (e1 : List Int) : Option R22_pr_bow :=
  Option.bind (f22_pr_bow_l1 k k a1 ((List.length a1) : Int) 0 e1) fun o1 =>
    match o1 with
    | .o0 _ _ _ _ _ =>
      none  -- no way out
    | .o1 v4 v5 v6 v7 v8 =>
      some (R22_pr_bow.o0 v8)
    | .o2 v9 v10 v11 v12 v13 v14 =>
      some (R22_pr_bow.o1 v14 v13)
theorem f22_pr_bow_e_ok (k : Nat) (a1 : List Int) (e1 : List Int) (r : R22_pr_bow) (hF : f22_pr_bow_e k a1 e1 = some r) : finK Try.prog Try.f22 2 (EX 22 k (nav B22 []) ({ n := 23, F := [(0, V.ptr 1000000 0), (1, V.sl 1 (rowsOf (encI .i64) a1))], M := [(1000000, O.box 52 [V.own 1000001]), (1000001, O.row true 1 5 (rowsOf (encI .u8) e1))] } : St)) = some r.st := by
  unfold f22_pr_bow_e at hF
  replace hF := Option.bind_eq_some_iff.1 hF
  obtain ⟨o1, h2, hF⟩ := hF
  have hc3 := f22_pr_bow_l1_ok k k a1 ((List.length a1) : Int) 0 e1 _ h2
  simp (maxSteps := 999999) (disch := first | exact D (by decide) | exact K (by kernel_rfl)) only [EA, EE, EG, EF, ED, ofVal, ofVal1, ofCell, lenV, aggEqV, cellEq, intBin, isShift, V.ids, lendV, frz, flatV, cellsOf, addOff, firstReg, oneOf, cellsAt, isAggD, isPure, ↓reduceIte, reduceCtorEq, Nat.reduceAdd, Nat.reduceSub, Nat.reduceMul, Nat.reduceLeDiff, Nat.reduceEqDiff, Nat.reduceBEq, Int.reduceToNat, Int.reduceLE, Int.reduceLT, Nat.reduceLT, Int.reduceBEq, Int.reduceBNe, Int.reduceEq, String.reduceEq, xk B22 [] .sq rfl, show (nav B22 [1]) = Code.region 0 _ false from rfl, hk_22_0, hz_22_0, hs_22_0, u_63, i_63, is_63, ib_63, iz_63, xk B22 [2] (.bk 0) rfl, xk B22 [2, 2] .lp rfl, hh_22_1, hc_22_1]
  (try simp only [NM, EE] at hc3)
  rw [hc3 _ (by simp (maxSteps := 999999) (disch := first | exact D (by decide) | exact K (by kernel_rfl)) only [EA, EE, EG, EF, ED, ofVal, ofVal1, ofCell, lenV, aggEqV, cellEq, intBin, isShift, V.ids, lendV, frz, flatV, cellsOf, addOff, firstReg, oneOf, cellsAt, isAggD, isPure, ↓reduceIte, reduceCtorEq, Nat.reduceAdd, Nat.reduceSub, Nat.reduceMul, Nat.reduceLeDiff, Nat.reduceEqDiff, Nat.reduceBEq, Int.reduceToNat, Int.reduceLE, Int.reduceLT, Nat.reduceLT, Int.reduceBEq, Int.reduceBNe, Int.reduceEq, String.reduceEq, hh_22_1, hc_22_1])]
  clear hc3
  cases o1 with
  | o0 _ _ _ _ _ =>
    (try dsimp only at hF)
    cases hF
  | o1 v4 v5 v6 v7 v8 =>
    (try dsimp only at hF)
    cases hF
    simp (maxSteps := 999999) (disch := first | exact D (by decide) | exact K (by kernel_rfl)) only [EA, EE, EG, EF, ED, ofVal, ofVal1, ofCell, lenV, aggEqV, cellEq, intBin, isShift, V.ids, lendV, frz, flatV, cellsOf, addOff, firstReg, oneOf, cellsAt, isAggD, isPure, ↓reduceIte, reduceCtorEq, Nat.reduceAdd, Nat.reduceSub, Nat.reduceMul, Nat.reduceLeDiff, Nat.reduceEqDiff, Nat.reduceBEq, Int.reduceToNat, Int.reduceLE, Int.reduceLT, Nat.reduceLT, Int.reduceBEq, Int.reduceBNe, Int.reduceEq, String.reduceEq, R22_pr_bow_l1.st, finK_norm, finK_ret, fin22, R22_pr_bow.st]
  | o2 v9 v10 v11 v12 v13 v14 =>
    (try dsimp only at hF)
    cases hF
    simp (maxSteps := 999999) (disch := first | exact D (by decide) | exact K (by kernel_rfl)) only [EA, EE, EG, EF, ED, ofVal, ofVal1, ofCell, lenV, aggEqV, cellEq, intBin, isShift, V.ids, lendV, frz, flatV, cellsOf, addOff, firstReg, oneOf, cellsAt, isAggD, isPure, ↓reduceIte, reduceCtorEq, Nat.reduceAdd, Nat.reduceSub, Nat.reduceMul, Nat.reduceLeDiff, Nat.reduceEqDiff, Nat.reduceBEq, Int.reduceToNat, Int.reduceLE, Int.reduceLT, Nat.reduceLT, Int.reduceBEq, Int.reduceBNe, Int.reduceEq, String.reduceEq, R22_pr_bow_l1.st, finK_norm, finK_ret, fin22, R22_pr_bow.st]
noncomputable def f22_pr_bow (k : Nat) (a1 : List Int) (e1 : List Int) : Option R22_pr_bow := match k with | 0 => none | k + 1 => f22_pr_bow_e k a1 e1
theorem f22_pr_bow_ok (k : Nat) (a1 : List Int) (e1 : List Int) (r : R22_pr_bow) (hF : f22_pr_bow k a1 e1 = some r) : CV k 22 [V.ptr 1000000 0, V.sl 1 (rowsOf (encI .i64) a1)] [O.box 52 [V.own 1000001], O.row true 1 5 (rowsOf (encI .u8) e1)] = some r.st := by
  cases k with
  | zero => cases hF
  | succ k =>
    unfold CV
    rw [ev_call (F := Try.f22) (c := (nav B22 [])) rfl Try.func22 rfl rfl rfl]
    exact f22_pr_bow_e_ok k a1 e1 r hF
end Go.Proofs.YthjefcamonmjpaaV
