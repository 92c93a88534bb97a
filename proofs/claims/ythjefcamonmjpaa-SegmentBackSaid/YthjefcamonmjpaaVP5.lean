/- What the program's functions answer: plain functions, and that the interpreter answers what they do. Written by a program of this session, out of the translation. -/
import Derived.Test.YthjefcamonmjpaaVP4
namespace Go.Proofs.YthjefcamonmjpaaV
open Go
set_option linter.unusedVariables false
set_option linter.unusedSimpArgs false
set_option maxRecDepth 8000
set_option maxHeartbeats 4000000
-- f36_ri: f36 heliograph/sum.sum[uint32]
inductive R36_ri where
  | o0 (y : Int)
noncomputable def R36_ri.st : R36_ri → V × List O × List O
  | .o0 y => (V.p (Value.int .u32 y), [], [])
inductive R36_ri_l1_l2 where
  | o0 (y : Int) (y_1 : Int) (y_2 : List Int) (y_3 : Int) (y_4 : Int) (y_5 : Int)
  | o1 (y : Int) (y_1 : Int) (y_2 : List Int) (y_3 : Int) (y_4 : Int) (y_5 : Int) (y_6 : Bool)
noncomputable def R36_ri_l1_l2.st : R36_ri_l1_l2 → Out × St
  | .o0 y y_1 y_2 y_3 y_4 y_5 => (.norm, ({ n := 36, F := [(1, V.p (Value.int .u32 y)), (5, V.p (Value.int .u32 y_1)), (11, V.sl 1 (rowsOf (encI .u8) y_2)), (12, V.p (Value.int .i64 y_3)), (13, V.p (Value.int .i64 y_4)), (21, V.p (Value.int .i64 y_5))], M := [] } : St))
  | .o1 y y_1 y_2 y_3 y_4 y_5 y_6 => (.exit 2, ({ n := 36, F := [(1, V.p (Value.int .u32 y)), (5, V.p (Value.int .u32 y_1)), (11, V.sl 1 (rowsOf (encI .u8) y_2)), (12, V.p (Value.int .i64 y_3)), (13, V.p (Value.int .i64 y_4)), (21, V.p (Value.int .i64 y_5)), (22, V.p (Value.bool y_6))], M := [] } : St))
noncomputable def f36_ri_l1_l2_j2 (k : Nat) (x1 : Int) (x5 : Int) (x11 : List Int) (x12 : Int) (x13 : Int) (x21 : Int) : Option R36_ri_l1_l2 :=
  some (R36_ri_l1_l2.o0 x1 x5 x11 x12 x13 (IntKind.i64.wrap (x21 + (1 : Int))))
theorem f36_ri_l1_l2_j2_ok (k : Nat) (x1 : Int) (x5 : Int) (x11 : List Int) (x12 : Int) (x13 : Int) (x21 : Int) (r : R36_ri_l1_l2) (hF : f36_ri_l1_l2_j2 k x1 x5 x11 x12 x13 x21 = some r) : EX 36 k (nav B36 [2, 2, 2, 1, 2, 2, 2, 2, 2, 1, 2, 2, 1, 2, 2, 1, 2, 2]) ({ n := 36, F := [(1, V.p (Value.int .u32 x1)), (5, V.p (Value.int .u32 x5)), (11, V.sl 1 (rowsOf (encI .u8) x11)), (12, V.p (Value.int .i64 x12)), (13, V.p (Value.int .i64 x13)), (21, V.p (Value.int .i64 x21))], M := [] } : St) = some r.st := by
  unfold f36_ri_l1_l2_j2 at hF
  cases hF
  simp (maxSteps := 999999) (disch := first | exact D (by decide) | exact K (by kernel_rfl)) only [EA, EE, EG, EF, ED, ofVal, ofVal1, ofCell, lenV, aggEqV, cellEq, intBin, isShift, V.ids, lendV, frz, flatV, cellsOf, addOff, firstReg, oneOf, cellsAt, isAggD, isPure, ↓reduceIte, reduceCtorEq, Nat.reduceAdd, Nat.reduceSub, Nat.reduceMul, Nat.reduceLeDiff, Nat.reduceEqDiff, Nat.reduceBEq, Int.reduceToNat, Int.reduceLE, Int.reduceLT, Nat.reduceLT, Int.reduceBEq, Int.reduceBNe, Int.reduceEq, String.reduceEq, show (nav B36 [2, 2, 2, 1, 2, 2, 2, 2, 2, 1, 2, 2, 1, 2, 2, 1, 2, 2]) = Code.region 12 _ false from rfl, hk_36_12, hz_36_12, hs_36_12, R36_ri_l1_l2.st]
noncomputable def f36_ri_l1_l2_j3 (k : Nat) (x1 : Int) (x5 : Int) (x11 : List Int) (x12 : Int) (x13 : Int) (x21 : Int) (x28 : Bool) : Option R36_ri_l1_l2 :=
  some (R36_ri_l1_l2.o0 x1 x5 x11 x12 x13 (IntKind.i64.wrap (x21 + (1 : Int))))
theorem f36_ri_l1_l2_j3_ok (k : Nat) (x1 : Int) (x5 : Int) (x11 : List Int) (x12 : Int) (x13 : Int) (x21 : Int) (x28 : Bool) (r : R36_ri_l1_l2) (hF : f36_ri_l1_l2_j3 k x1 x5 x11 x12 x13 x21 x28 = some r) : EX 36 k (nav B36 [2, 2, 2, 1, 2, 2, 2, 2, 2, 1, 2, 2, 1, 2, 2, 1, 2, 2]) ({ n := 36, F := [(1, V.p (Value.int .u32 x1)), (5, V.p (Value.int .u32 x5)), (11, V.sl 1 (rowsOf (encI .u8) x11)), (12, V.p (Value.int .i64 x12)), (13, V.p (Value.int .i64 x13)), (21, V.p (Value.int .i64 x21)), (28, V.p (Value.bool x28))], M := [] } : St) = some r.st := by
  unfold f36_ri_l1_l2_j3 at hF
  cases hF
  simp (maxSteps := 999999) (disch := first | exact D (by decide) | exact K (by kernel_rfl)) only [EA, EE, EG, EF, ED, ofVal, ofVal1, ofCell, lenV, aggEqV, cellEq, intBin, isShift, V.ids, lendV, frz, flatV, cellsOf, addOff, firstReg, oneOf, cellsAt, isAggD, isPure, ↓reduceIte, reduceCtorEq, Nat.reduceAdd, Nat.reduceSub, Nat.reduceMul, Nat.reduceLeDiff, Nat.reduceEqDiff, Nat.reduceBEq, Int.reduceToNat, Int.reduceLE, Int.reduceLT, Nat.reduceLT, Int.reduceBEq, Int.reduceBNe, Int.reduceEq, String.reduceEq, show (nav B36 [2, 2, 2, 1, 2, 2, 2, 2, 2, 1, 2, 2, 1, 2, 2, 1, 2, 2]) = Code.region 12 _ false from rfl, hk_36_12, hz_36_12, hs_36_12, R36_ri_l1_l2.st]
noncomputable def f36_ri_l1_l2_j1 (k : Nat) (x1 : Int) (x5 : Int) (x11 : List Int) (x12 : Int) (x13 : Int) (x21 : Int) (x22 : Bool) : Option R36_ri_l1_l2 :=
  cond (((IntKind.u32.wrap ((BitVec.ofInt (IntKind.bits .u32) x5 &&& BitVec.ofInt (IntKind.bits .u32) (1 : Int)).toNat : Nat)) == 1))
    (f36_ri_l1_l2_j2 k x1 ((IntKind.u32.wrap ((BitVec.ofInt (IntKind.bits .u32) (Int.fdiv x5 (2 ^ (min 1 (IntKind.bits .u32)))) ^^^ BitVec.ofInt (IntKind.bits .u32) x1).toNat : Nat))) x11 x12 x13 x21)
    (f36_ri_l1_l2_j3 k x1 (Int.fdiv x5 (2 ^ (min 1 (IntKind.bits .u32)))) x11 x12 x13 x21 false)
theorem f36_ri_l1_l2_j1_ok (k : Nat) (x1 : Int) (x5 : Int) (x11 : List Int) (x12 : Int) (x13 : Int) (x21 : Int) (x22 : Bool) (r : R36_ri_l1_l2) (hF : f36_ri_l1_l2_j1 k x1 x5 x11 x12 x13 x21 x22 = some r) : EX 36 k (nav B36 [2, 2, 1, 2, 2, 2, 2, 2, 1, 2, 2, 1, 2, 2, 1, 2, 2]) ({ n := 36, F := [(1, V.p (Value.int .u32 x1)), (5, V.p (Value.int .u32 x5)), (11, V.sl 1 (rowsOf (encI .u8) x11)), (12, V.p (Value.int .i64 x12)), (13, V.p (Value.int .i64 x13)), (21, V.p (Value.int .i64 x21)), (22, V.p (Value.bool x22))], M := [] } : St) = some r.st := by
  unfold f36_ri_l1_l2_j1 at hF
  simp (maxSteps := 999999) (disch := first | exact D (by decide) | exact K (by kernel_rfl)) only [EA, EE, EG, EF, ED, ofVal, ofVal1, ofCell, lenV, aggEqV, cellEq, intBin, isShift, V.ids, lendV, frz, flatV, cellsOf, addOff, firstReg, oneOf, cellsAt, isAggD, isPure, ↓reduceIte, reduceCtorEq, Nat.reduceAdd, Nat.reduceSub, Nat.reduceMul, Nat.reduceLeDiff, Nat.reduceEqDiff, Nat.reduceBEq, Int.reduceToNat, Int.reduceLE, Int.reduceLT, Nat.reduceLT, Int.reduceBEq, Int.reduceBNe, Int.reduceEq, String.reduceEq, xk B36 [2, 2, 1, 2, 2, 2, 2, 2, 1, 2, 2, 1, 2, 2, 1, 2, 2] .sq rfl, xk B36 [1, 2, 2, 1, 2, 2, 2, 2, 2, 1, 2, 2, 1, 2, 2, 1, 2, 2] (.bk 3) rfl, xk B36 [2, 1, 2, 2, 1, 2, 2, 2, 2, 2, 1, 2, 2, 1, 2, 2, 1, 2, 2] .sq rfl, show (nav B36 [1, 2, 1, 2, 2, 1, 2, 2, 2, 2, 2, 1, 2, 2, 1, 2, 2, 1, 2, 2]) = Code.region 8 _ false from rfl, hk_36_8, hz_36_8, hs_36_8, xk B36 [2, 2, 1, 2, 2, 1, 2, 2, 2, 2, 2, 1, 2, 2, 1, 2, 2, 1, 2, 2] .sq rfl, show (nav B36 [1, 2, 2, 1, 2, 2, 1, 2, 2, 2, 2, 2, 1, 2, 2, 1, 2, 2, 1, 2, 2]) = Code.region 9 _ false from rfl, hk_36_9, hz_36_9, hs_36_9, shiftV, xk B36 [2, 2, 2, 1, 2, 2, 1, 2, 2, 2, 2, 2, 1, 2, 2, 1, 2, 2, 1, 2, 2] .sq rfl, show (nav B36 [1, 2, 2, 2, 1, 2, 2, 1, 2, 2, 2, 2, 2, 1, 2, 2, 1, 2, 2, 1, 2, 2]) = Code.region 10 _ false from rfl, hk_36_10, hz_36_10, hs_36_10, xk B36 [2, 2, 2, 2, 1, 2, 2, 1, 2, 2, 2, 2, 2, 1, 2, 2, 1, 2, 2, 1, 2, 2] (.cd 28) rfl]
  replace hF := cond_some hF
  rcases hF with ⟨h1, hF⟩ | ⟨h1, hF⟩
  · have hJ := f36_ri_l1_l2_j2_ok k x1 ((IntKind.u32.wrap ((BitVec.ofInt (IntKind.bits .u32) (Int.fdiv x5 (2 ^ (min 1 (IntKind.bits .u32)))) ^^^ BitVec.ofInt (IntKind.bits .u32) x1).toNat : Nat))) x11 x12 x13 x21 _ hF
    simp (maxSteps := 999999) (disch := first | exact D (by decide) | exact K (by kernel_rfl)) only [EA, EE, EG, EF, ED, ofVal, ofVal1, ofCell, lenV, aggEqV, cellEq, intBin, isShift, V.ids, lendV, frz, flatV, cellsOf, addOff, firstReg, oneOf, cellsAt, isAggD, isPure, ↓reduceIte, reduceCtorEq, Nat.reduceAdd, Nat.reduceSub, Nat.reduceMul, Nat.reduceLeDiff, Nat.reduceEqDiff, Nat.reduceBEq, Int.reduceToNat, Int.reduceLE, Int.reduceLT, Nat.reduceLT, Int.reduceBEq, Int.reduceBNe, Int.reduceEq, String.reduceEq, show (nav B36 [2, 2, 2, 2, 2, 1, 2, 2, 1, 2, 2, 2, 2, 2, 1, 2, 2, 1, 2, 2, 1, 2, 2]) = Code.region 11 _ false from rfl, hk_36_11, hz_36_11, hs_36_11, h1]
    try simp only [NM, EE] at hJ
    exact hJ
  · have hJ := f36_ri_l1_l2_j3_ok k x1 (Int.fdiv x5 (2 ^ (min 1 (IntKind.bits .u32)))) x11 x12 x13 x21 false _ hF
    simp (maxSteps := 999999) (disch := first | exact D (by decide) | exact K (by kernel_rfl)) only [EA, EE, EG, EF, ED, ofVal, ofVal1, ofCell, lenV, aggEqV, cellEq, intBin, isShift, V.ids, lendV, frz, flatV, cellsOf, addOff, firstReg, oneOf, cellsAt, isAggD, isPure, ↓reduceIte, reduceCtorEq, Nat.reduceAdd, Nat.reduceSub, Nat.reduceMul, Nat.reduceLeDiff, Nat.reduceEqDiff, Nat.reduceBEq, Int.reduceToNat, Int.reduceLE, Int.reduceLT, Nat.reduceLT, Int.reduceBEq, Int.reduceBNe, Int.reduceEq, String.reduceEq, xk B36 [3, 2, 2, 2, 2, 1, 2, 2, 1, 2, 2, 2, 2, 2, 1, 2, 2, 1, 2, 2, 1, 2, 2] .sk rfl, h1]
    try simp only [NM, EE] at hJ
    exact hJ
noncomputable def f36_ri_l1_l2_b (k : Nat) (x1 : Int) (x5 : Int) (x11 : List Int) (x12 : Int) (x13 : Int) (x21 : Int) : Option R36_ri_l1_l2 :=
  cond ((decide (x21 < 8)))
    (f36_ri_l1_l2_j1 k x1 x5 x11 x12 x13 x21 true)
    (some (R36_ri_l1_l2.o1 x1 x5 x11 x12 x13 x21 false))
theorem f36_ri_l1_l2_b_ok (k : Nat) (x1 : Int) (x5 : Int) (x11 : List Int) (x12 : Int) (x13 : Int) (x21 : Int) (r : R36_ri_l1_l2) (hF : f36_ri_l1_l2_b k x1 x5 x11 x12 x13 x21 = some r) : EX 36 k (nav B36 [1, 2, 2, 2, 2, 2, 1, 2, 2, 1, 2, 2, 1, 2, 2]) ({ n := 36, F := [(1, V.p (Value.int .u32 x1)), (5, V.p (Value.int .u32 x5)), (11, V.sl 1 (rowsOf (encI .u8) x11)), (12, V.p (Value.int .i64 x12)), (13, V.p (Value.int .i64 x13)), (21, V.p (Value.int .i64 x21))], M := [] } : St) = some r.st := by
  unfold f36_ri_l1_l2_b at hF
  simp (maxSteps := 999999) (disch := first | exact D (by decide) | exact K (by kernel_rfl)) only [EA, EE, EG, EF, ED, ofVal, ofVal1, ofCell, lenV, aggEqV, cellEq, intBin, isShift, V.ids, lendV, frz, flatV, cellsOf, addOff, firstReg, oneOf, cellsAt, isAggD, isPure, ↓reduceIte, reduceCtorEq, Nat.reduceAdd, Nat.reduceSub, Nat.reduceMul, Nat.reduceLeDiff, Nat.reduceEqDiff, Nat.reduceBEq, Int.reduceToNat, Int.reduceLE, Int.reduceLT, Nat.reduceLT, Int.reduceBEq, Int.reduceBNe, Int.reduceEq, String.reduceEq, xk B36 [1, 2, 2, 2, 2, 2, 1, 2, 2, 1, 2, 2, 1, 2, 2] .sq rfl, show (nav B36 [1, 1, 2, 2, 2, 2, 2, 1, 2, 2, 1, 2, 2, 1, 2, 2]) = Code.region 7 _ false from rfl, hk_36_7, hz_36_7, hs_36_7, xk B36 [2, 1, 2, 2, 2, 2, 2, 1, 2, 2, 1, 2, 2, 1, 2, 2] .sq rfl, xk B36 [1, 2, 1, 2, 2, 2, 2, 2, 1, 2, 2, 1, 2, 2, 1, 2, 2] (.cd 22) rfl]
  replace hF := cond_some hF
  rcases hF with ⟨h1, hF⟩ | ⟨h1, hF⟩
  · have hJ := f36_ri_l1_l2_j1_ok k x1 x5 x11 x12 x13 x21 true _ hF
    simp (maxSteps := 999999) (disch := first | exact D (by decide) | exact K (by kernel_rfl)) only [EA, EE, EG, EF, ED, ofVal, ofVal1, ofCell, lenV, aggEqV, cellEq, intBin, isShift, V.ids, lendV, frz, flatV, cellsOf, addOff, firstReg, oneOf, cellsAt, isAggD, isPure, ↓reduceIte, reduceCtorEq, Nat.reduceAdd, Nat.reduceSub, Nat.reduceMul, Nat.reduceLeDiff, Nat.reduceEqDiff, Nat.reduceBEq, Int.reduceToNat, Int.reduceLE, Int.reduceLT, Nat.reduceLT, Int.reduceBEq, Int.reduceBNe, Int.reduceEq, String.reduceEq, xk B36 [2, 1, 2, 1, 2, 2, 2, 2, 2, 1, 2, 2, 1, 2, 2, 1, 2, 2] .sk rfl, h1]
    try simp only [NM, EE] at hJ
    exact hJ
  · cases hF
    simp (maxSteps := 999999) (disch := first | exact D (by decide) | exact K (by kernel_rfl)) only [EA, EE, EG, EF, ED, ofVal, ofVal1, ofCell, lenV, aggEqV, cellEq, intBin, isShift, V.ids, lendV, frz, flatV, cellsOf, addOff, firstReg, oneOf, cellsAt, isAggD, isPure, ↓reduceIte, reduceCtorEq, Nat.reduceAdd, Nat.reduceSub, Nat.reduceMul, Nat.reduceLeDiff, Nat.reduceEqDiff, Nat.reduceBEq, Int.reduceToNat, Int.reduceLE, Int.reduceLT, Nat.reduceLT, Int.reduceBEq, Int.reduceBNe, Int.reduceEq, String.reduceEq, xk B36 [3, 1, 2, 1, 2, 2, 2, 2, 2, 1, 2, 2, 1, 2, 2, 1, 2, 2] (.ex 2) rfl, R36_ri_l1_l2.st, h1]
noncomputable def f36_ri_l1_l2 (k : Nat) : Nat → Int → Int → (List Int) → Int → Int → Int → Option R36_ri_l1_l2
  | 0, _, _, _, _, _, _ => none
  | n + 1, x1, x5, x11, x12, x13, x21 => Option.bind (f36_ri_l1_l2_b k x1 x5 x11 x12 x13 x21) fun o =>
    match o with
    | .o0 y y_1 y_2 y_3 y_4 y_5 => f36_ri_l1_l2 k n y y_1 y_2 y_3 y_4 y_5
    | .o1 y y_1 y_2 y_3 y_4 y_5 y_6 => some (.o1 y y_1 y_2 y_3 y_4 y_5 y_6)
theorem f36_ri_l1_l2_ok (k : Nat) (n : Nat) : ∀ (x1 : Int) (x5 : Int) (x11 : List Int) (x12 : Int) (x13 : Int) (x21 : Int) (r : R36_ri_l1_l2) (hF : f36_ri_l1_l2 k n x1 x5 x11 x12 x13 x21 = some r) (σ : St) (hσ : headR (hints.head 36 7) (hints.canon 36 7) σ = some ({ n := 36, F := [(1, V.p (Value.int .u32 x1)), (5, V.p (Value.int .u32 x5)), (11, V.sl 1 (rowsOf (encI .u8) x11)), (12, V.p (Value.int .i64 x12)), (13, V.p (Value.int .i64 x13)), (21, V.p (Value.int .i64 x21))], M := [] } : St)), LP 36 k (nav B36 [1, 2, 2, 2, 2, 2, 1, 2, 2, 1, 2, 2, 1, 2, 2]) n σ = some r.st := by
  induction n with
  | zero => intro x1 x5 x11 x12 x13 x21 r hF; cases hF
  | succ n ih =>
    intro x1 x5 x11 x12 x13 x21 r hF σ hσ
    rw [f36_ri_l1_l2] at hF
    obtain ⟨o, h, hF⟩ := Option.bind_eq_some_iff.1 hF
    have hB := f36_ri_l1_l2_b_ok k x1 x5 x11 x12 x13 x21 o h
    unfold LP at ih ⊢
    unfold EX at hB
    rw [loopK_succ, show firstReg (nav B36 [1, 2, 2, 2, 2, 2, 1, 2, 2, 1, 2, 2, 1, 2, 2]) = 7 from rfl, hσ, headK_some, hB]
    cases o with
    | o0 y y_1 y_2 y_3 y_4 y_5 =>
      refine ih y y_1 y_2 y_3 y_4 y_5 r hF _ ?_
      simp (maxSteps := 999999) (disch := first | exact D (by decide) | exact K (by kernel_rfl)) only [EA, EE, EG, EF, ED, ofVal, ofVal1, ofCell, lenV, aggEqV, cellEq, intBin, isShift, V.ids, lendV, frz, flatV, cellsOf, addOff, firstReg, oneOf, cellsAt, isAggD, isPure, ↓reduceIte, reduceCtorEq, Nat.reduceAdd, Nat.reduceSub, Nat.reduceMul, Nat.reduceLeDiff, Nat.reduceEqDiff, Nat.reduceBEq, Int.reduceToNat, Int.reduceLE, Int.reduceLT, Nat.reduceLT, Int.reduceBEq, Int.reduceBNe, Int.reduceEq, String.reduceEq, hh_36_7, hc_36_7]
    | o1 y y_1 y_2 y_3 y_4 y_5 y_6 => cases hF; rfl
inductive R36_ri_l1 where
  | o0 (y : Int) (y_1 : Int) (y_2 : List Int) (y_3 : Int) (y_4 : Int)
  | o1 (y : Int) (y_1 : Int) (y_2 : List Int) (y_3 : Int) (y_4 : Int) (y_5 : Bool)
noncomputable def R36_ri_l1.st : R36_ri_l1 → Out × St
  | .o0 y y_1 y_2 y_3 y_4 => (.norm, ({ n := 36, F := [(1, V.p (Value.int .u32 y)), (5, V.p (Value.int .u32 y_1)), (11, V.sl 1 (rowsOf (encI .u8) y_2)), (12, V.p (Value.int .i64 y_3)), (13, V.p (Value.int .i64 y_4))], M := [] } : St))
  | .o1 y y_1 y_2 y_3 y_4 y_5 => (.exit 0, ({ n := 36, F := [(1, V.p (Value.int .u32 y)), (5, V.p (Value.int .u32 y_1)), (11, V.sl 1 (rowsOf (encI .u8) y_2)), (12, V.p (Value.int .i64 y_3)), (13, V.p (Value.int .i64 y_4)), (14, V.p (Value.bool y_5))], M := [] } : St))
noncomputable def f36_ri_l1_j3 (k : Nat) (x1 : Int) (x5 : Int) (x11 : List Int) (x12 : Int) (x13 : Int) (x21 : Int) (x22 : Bool) : Option R36_ri_l1 :=
  some (R36_ri_l1.o0 x1 x5 x11 x12 (IntKind.i64.wrap (x13 + (1 : Int))))
theorem f36_ri_l1_j3_ok (k : Nat) (x1 : Int) (x5 : Int) (x11 : List Int) (x12 : Int) (x13 : Int) (x21 : Int) (x22 : Bool) (r : R36_ri_l1) (hF : f36_ri_l1_j3 k x1 x5 x11 x12 x13 x21 x22 = some r) : EX 36 k (nav B36 [2, 2, 2, 1, 2, 2, 1, 2, 2]) ({ n := 36, F := [(1, V.p (Value.int .u32 x1)), (5, V.p (Value.int .u32 x5)), (11, V.sl 1 (rowsOf (encI .u8) x11)), (12, V.p (Value.int .i64 x12)), (13, V.p (Value.int .i64 x13)), (21, V.p (Value.int .i64 x21)), (22, V.p (Value.bool x22))], M := [] } : St) = some r.st := by
  unfold f36_ri_l1_j3 at hF
  cases hF
  simp (maxSteps := 999999) (disch := first | exact D (by decide) | exact K (by kernel_rfl)) only [EA, EE, EG, EF, ED, ofVal, ofVal1, ofCell, lenV, aggEqV, cellEq, intBin, isShift, V.ids, lendV, frz, flatV, cellsOf, addOff, firstReg, oneOf, cellsAt, isAggD, isPure, ↓reduceIte, reduceCtorEq, Nat.reduceAdd, Nat.reduceSub, Nat.reduceMul, Nat.reduceLeDiff, Nat.reduceEqDiff, Nat.reduceBEq, Int.reduceToNat, Int.reduceLE, Int.reduceLT, Nat.reduceLT, Int.reduceBEq, Int.reduceBNe, Int.reduceEq, String.reduceEq, show (nav B36 [2, 2, 2, 1, 2, 2, 1, 2, 2]) = Code.region 13 _ false from rfl, hk_36_13, hz_36_13, hs_36_13, R36_ri_l1.st]
noncomputable def f36_ri_l1_j1 (k : Nat) (x1 : Int) (x5 : Int) (x11 : List Int) (x12 : Int) (x13 : Int) (x14 : Bool) : Option R36_ri_l1 :=
  ifE ((0 : Int) ≤ x13) (
    Option.bind (x11[(Int.toNat x13)]?) fun v2 =>
      Option.bind (f36_ri_l1_l2 k k x1 ((IntKind.u32.wrap ((BitVec.ofInt (IntKind.bits .u32) x5 ^^^ BitVec.ofInt (IntKind.bits .u32) (IntKind.u32.wrap v2)).toNat : Nat))) x11 x12 x13 0) fun o4 =>
        match o4 with
        | .o0 _ _ _ _ _ _ =>
          none  -- no way out
        | .o1 v7 v8 v9 v10 v11 v12 v13 =>
          f36_ri_l1_j3 k v7 v8 v9 v10 v11 v12 v13)
theorem f36_ri_l1_j1_ok (k : Nat) (x1 : Int) (x5 : Int) (x11 : List Int) (x12 : Int) (x13 : Int) (x14 : Bool) (r : R36_ri_l1) (hF : f36_ri_l1_j1 k x1 x5 x11 x12 x13 x14 = some r) : EX 36 k (nav B36 [2, 2, 1, 2, 2, 1, 2, 2]) ({ n := 36, F := [(1, V.p (Value.int .u32 x1)), (5, V.p (Value.int .u32 x5)), (11, V.sl 1 (rowsOf (encI .u8) x11)), (12, V.p (Value.int .i64 x12)), (13, V.p (Value.int .i64 x13)), (14, V.p (Value.bool x14))], M := [] } : St) = some r.st := by
  unfold f36_ri_l1_j1 at hF
  replace hF := ifE_some.1 hF
  obtain ⟨h1, hF⟩ := hF
  replace hF := Option.bind_eq_some_iff.1 hF
  obtain ⟨v2, h3, hF⟩ := hF
  replace hF := Option.bind_eq_some_iff.1 hF
  obtain ⟨o4, h5, hF⟩ := hF
  have hc6 := f36_ri_l1_l2_ok k k x1 ((IntKind.u32.wrap ((BitVec.ofInt (IntKind.bits .u32) x5 ^^^ BitVec.ofInt (IntKind.bits .u32) (IntKind.u32.wrap v2)).toNat : Nat))) x11 x12 x13 0 _ h5
  simp (maxSteps := 999999) (disch := first | exact D (by decide) | exact K (by kernel_rfl)) only [EA, EE, EG, EF, ED, ofVal, ofVal1, ofCell, lenV, aggEqV, cellEq, intBin, isShift, V.ids, lendV, frz, flatV, cellsOf, addOff, firstReg, oneOf, cellsAt, isAggD, isPure, ↓reduceIte, reduceCtorEq, Nat.reduceAdd, Nat.reduceSub, Nat.reduceMul, Nat.reduceLeDiff, Nat.reduceEqDiff, Nat.reduceBEq, Int.reduceToNat, Int.reduceLE, Int.reduceLT, Nat.reduceLT, Int.reduceBEq, Int.reduceBNe, Int.reduceEq, String.reduceEq, xk B36 [2, 2, 1, 2, 2, 1, 2, 2] .sq rfl, xk B36 [1, 2, 2, 1, 2, 2, 1, 2, 2] (.bk 1) rfl, xk B36 [2, 1, 2, 2, 1, 2, 2, 1, 2, 2] .sq rfl, show (nav B36 [1, 2, 1, 2, 2, 1, 2, 2, 1, 2, 2]) = Code.region 4 _ false from rfl, hk_36_4, hz_36_4, hs_36_4, indexAddrV, u_23, i_23, is_23, ib_23, iz_23, u_5, i_5, is_5, ib_5, iz_5, encI_eq, xk B36 [2, 2, 1, 2, 2, 1, 2, 2, 1, 2, 2] .sq rfl, show (nav B36 [1, 2, 2, 1, 2, 2, 1, 2, 2, 1, 2, 2]) = Code.region 5 _ false from rfl, hk_36_5, hz_36_5, hs_36_5, u_22, i_22, is_22, ib_22, iz_22, convV, xk B36 [2, 2, 2, 1, 2, 2, 1, 2, 2, 1, 2, 2] .sq rfl, show (nav B36 [1, 2, 2, 2, 1, 2, 2, 1, 2, 2, 1, 2, 2]) = Code.region 6 _ false from rfl, hk_36_6, hz_36_6, hs_36_6, xk B36 [2, 2, 2, 2, 1, 2, 2, 1, 2, 2, 1, 2, 2] (.bk 2) rfl, xk B36 [2, 2, 2, 2, 2, 1, 2, 2, 1, 2, 2, 1, 2, 2] .lp rfl, hh_36_7, hc_36_7, h1, h3]
  (try simp only [NM, EE] at hc6)
  rw [hc6 _ (by simp (maxSteps := 999999) (disch := first | exact D (by decide) | exact K (by kernel_rfl)) only [EA, EE, EG, EF, ED, ofVal, ofVal1, ofCell, lenV, aggEqV, cellEq, intBin, isShift, V.ids, lendV, frz, flatV, cellsOf, addOff, firstReg, oneOf, cellsAt, isAggD, isPure, ↓reduceIte, reduceCtorEq, Nat.reduceAdd, Nat.reduceSub, Nat.reduceMul, Nat.reduceLeDiff, Nat.reduceEqDiff, Nat.reduceBEq, Int.reduceToNat, Int.reduceLE, Int.reduceLT, Nat.reduceLT, Int.reduceBEq, Int.reduceBNe, Int.reduceEq, String.reduceEq, hh_36_7, hc_36_7, h1, h3])]
  clear hc6
  cases o4 with
  | o0 _ _ _ _ _ _ =>
    (try dsimp only at hF)
    cases hF
  | o1 v7 v8 v9 v10 v11 v12 v13 =>
    (try dsimp only at hF)
    have hJ := f36_ri_l1_j3_ok k v7 v8 v9 v10 v11 v12 v13 _ hF
    simp (maxSteps := 999999) (disch := first | exact D (by decide) | exact K (by kernel_rfl)) only [EA, EE, EG, EF, ED, ofVal, ofVal1, ofCell, lenV, aggEqV, cellEq, intBin, isShift, V.ids, lendV, frz, flatV, cellsOf, addOff, firstReg, oneOf, cellsAt, isAggD, isPure, ↓reduceIte, reduceCtorEq, Nat.reduceAdd, Nat.reduceSub, Nat.reduceMul, Nat.reduceLeDiff, Nat.reduceEqDiff, Nat.reduceBEq, Int.reduceToNat, Int.reduceLE, Int.reduceLT, Nat.reduceLT, Int.reduceBEq, Int.reduceBNe, Int.reduceEq, String.reduceEq, R36_ri_l1_l2.st, h1, h3]
    try simp only [NM, EE] at hJ
    exact hJ
noncomputable def f36_ri_l1_b (k : Nat) (x1 : Int) (x5 : Int) (x11 : List Int) (x12 : Int) (x13 : Int) : Option R36_ri_l1 :=
  cond ((decide (x13 < x12)))
    (f36_ri_l1_j1 k x1 x5 x11 x12 x13 true)
    (some (R36_ri_l1.o1 x1 x5 x11 x12 x13 false))
theorem f36_ri_l1_b_ok (k : Nat) (x1 : Int) (x5 : Int) (x11 : List Int) (x12 : Int) (x13 : Int) (r : R36_ri_l1) (hF : f36_ri_l1_b k x1 x5 x11 x12 x13 = some r) : EX 36 k (nav B36 [1, 2, 2, 1, 2, 2]) ({ n := 36, F := [(1, V.p (Value.int .u32 x1)), (5, V.p (Value.int .u32 x5)), (11, V.sl 1 (rowsOf (encI .u8) x11)), (12, V.p (Value.int .i64 x12)), (13, V.p (Value.int .i64 x13))], M := [] } : St) = some r.st := by
  unfold f36_ri_l1_b at hF
  simp (maxSteps := 999999) (disch := first | exact D (by decide) | exact K (by kernel_rfl)) only [EA, EE, EG, EF, ED, ofVal, ofVal1, ofCell, lenV, aggEqV, cellEq, intBin, isShift, V.ids, lendV, frz, flatV, cellsOf, addOff, firstReg, oneOf, cellsAt, isAggD, isPure, ↓reduceIte, reduceCtorEq, Nat.reduceAdd, Nat.reduceSub, Nat.reduceMul, Nat.reduceLeDiff, Nat.reduceEqDiff, Nat.reduceBEq, Int.reduceToNat, Int.reduceLE, Int.reduceLT, Nat.reduceLT, Int.reduceBEq, Int.reduceBNe, Int.reduceEq, String.reduceEq, xk B36 [1, 2, 2, 1, 2, 2] .sq rfl, show (nav B36 [1, 1, 2, 2, 1, 2, 2]) = Code.region 3 _ false from rfl, hk_36_3, hz_36_3, hs_36_3, xk B36 [2, 1, 2, 2, 1, 2, 2] .sq rfl, xk B36 [1, 2, 1, 2, 2, 1, 2, 2] (.cd 14) rfl]
  replace hF := cond_some hF
  rcases hF with ⟨h1, hF⟩ | ⟨h1, hF⟩
  · have hJ := f36_ri_l1_j1_ok k x1 x5 x11 x12 x13 true _ hF
    simp (maxSteps := 999999) (disch := first | exact D (by decide) | exact K (by kernel_rfl)) only [EA, EE, EG, EF, ED, ofVal, ofVal1, ofCell, lenV, aggEqV, cellEq, intBin, isShift, V.ids, lendV, frz, flatV, cellsOf, addOff, firstReg, oneOf, cellsAt, isAggD, isPure, ↓reduceIte, reduceCtorEq, Nat.reduceAdd, Nat.reduceSub, Nat.reduceMul, Nat.reduceLeDiff, Nat.reduceEqDiff, Nat.reduceBEq, Int.reduceToNat, Int.reduceLE, Int.reduceLT, Nat.reduceLT, Int.reduceBEq, Int.reduceBNe, Int.reduceEq, String.reduceEq, xk B36 [2, 1, 2, 1, 2, 2, 1, 2, 2] .sk rfl, h1]
    try simp only [NM, EE] at hJ
    exact hJ
  · cases hF
    simp (maxSteps := 999999) (disch := first | exact D (by decide) | exact K (by kernel_rfl)) only [EA, EE, EG, EF, ED, ofVal, ofVal1, ofCell, lenV, aggEqV, cellEq, intBin, isShift, V.ids, lendV, frz, flatV, cellsOf, addOff, firstReg, oneOf, cellsAt, isAggD, isPure, ↓reduceIte, reduceCtorEq, Nat.reduceAdd, Nat.reduceSub, Nat.reduceMul, Nat.reduceLeDiff, Nat.reduceEqDiff, Nat.reduceBEq, Int.reduceToNat, Int.reduceLE, Int.reduceLT, Nat.reduceLT, Int.reduceBEq, Int.reduceBNe, Int.reduceEq, String.reduceEq, xk B36 [3, 1, 2, 1, 2, 2, 1, 2, 2] (.ex 0) rfl, R36_ri_l1.st, h1]
noncomputable def f36_ri_l1 (k : Nat) : Nat → Int → Int → (List Int) → Int → Int → Option R36_ri_l1
  | 0, _, _, _, _, _ => none
  | n + 1, x1, x5, x11, x12, x13 => Option.bind (f36_ri_l1_b k x1 x5 x11 x12 x13) fun o =>
    match o with
    | .o0 y y_1 y_2 y_3 y_4 => f36_ri_l1 k n y y_1 y_2 y_3 y_4
    | .o1 y y_1 y_2 y_3 y_4 y_5 => some (.o1 y y_1 y_2 y_3 y_4 y_5)
theorem f36_ri_l1_ok (k : Nat) (n : Nat) : ∀ (x1 : Int) (x5 : Int) (x11 : List Int) (x12 : Int) (x13 : Int) (r : R36_ri_l1) (hF : f36_ri_l1 k n x1 x5 x11 x12 x13 = some r) (σ : St) (hσ : headR (hints.head 36 3) (hints.canon 36 3) σ = some ({ n := 36, F := [(1, V.p (Value.int .u32 x1)), (5, V.p (Value.int .u32 x5)), (11, V.sl 1 (rowsOf (encI .u8) x11)), (12, V.p (Value.int .i64 x12)), (13, V.p (Value.int .i64 x13))], M := [] } : St)), LP 36 k (nav B36 [1, 2, 2, 1, 2, 2]) n σ = some r.st := by
  induction n with
  | zero => intro x1 x5 x11 x12 x13 r hF; cases hF
  | succ n ih =>
    intro x1 x5 x11 x12 x13 r hF σ hσ
    rw [f36_ri_l1] at hF
    obtain ⟨o, h, hF⟩ := Option.bind_eq_some_iff.1 hF
    have hB := f36_ri_l1_b_ok k x1 x5 x11 x12 x13 o h
    unfold LP at ih ⊢
    unfold EX at hB
    rw [loopK_succ, show firstReg (nav B36 [1, 2, 2, 1, 2, 2]) = 3 from rfl, hσ, headK_some, hB]
    cases o with
    | o0 y y_1 y_2 y_3 y_4 =>
      refine ih y y_1 y_2 y_3 y_4 r hF _ ?_
      simp (maxSteps := 999999) (disch := first | exact D (by decide) | exact K (by kernel_rfl)) only [EA, EE, EG, EF, ED, ofVal, ofVal1, ofCell, lenV, aggEqV, cellEq, intBin, isShift, V.ids, lendV, frz, flatV, cellsOf, addOff, firstReg, oneOf, cellsAt, isAggD, isPure, ↓reduceIte, reduceCtorEq, Nat.reduceAdd, Nat.reduceSub, Nat.reduceMul, Nat.reduceLeDiff, Nat.reduceEqDiff, Nat.reduceBEq, Int.reduceToNat, Int.reduceLE, Int.reduceLT, Nat.reduceLT, Int.reduceBEq, Int.reduceBNe, Int.reduceEq, String.reduceEq, hh_36_3, hc_36_3]
    | o1 y y_1 y_2 y_3 y_4 y_5 => cases hF; rfl
noncomputable def f36_ri_j2 (k : Nat) (x1 : Int) (x5 : Int) (x11 : List Int) (x12 : Int) (x13 : Int) (x14 : Bool) : Option R36_ri :=
  some (R36_ri.o0 (flipI .u32 x5))
theorem f36_ri_j2_ok (k : Nat) (x1 : Int) (x5 : Int) (x11 : List Int) (x12 : Int) (x13 : Int) (x14 : Bool) (r : R36_ri) (hF : f36_ri_j2 k x1 x5 x11 x12 x13 x14 = some r) : finK Try.prog Try.f36 0 (EX 36 k (nav B36 [2, 2, 2]) ({ n := 36, F := [(1, V.p (Value.int .u32 x1)), (5, V.p (Value.int .u32 x5)), (11, V.sl 1 (rowsOf (encI .u8) x11)), (12, V.p (Value.int .i64 x12)), (13, V.p (Value.int .i64 x13)), (14, V.p (Value.bool x14))], M := [] } : St)) = some r.st := by
  unfold f36_ri_j2 at hF
  cases hF
  simp (maxSteps := 999999) (disch := first | exact D (by decide) | exact K (by kernel_rfl)) only [EA, EE, EG, EF, ED, ofVal, ofVal1, ofCell, lenV, aggEqV, cellEq, intBin, isShift, V.ids, lendV, frz, flatV, cellsOf, addOff, firstReg, oneOf, cellsAt, isAggD, isPure, ↓reduceIte, reduceCtorEq, Nat.reduceAdd, Nat.reduceSub, Nat.reduceMul, Nat.reduceLeDiff, Nat.reduceEqDiff, Nat.reduceBEq, Int.reduceToNat, Int.reduceLE, Int.reduceLT, Nat.reduceLT, Int.reduceBEq, Int.reduceBNe, Int.reduceEq, String.reduceEq, xk B36 [2, 2, 2] .sq rfl, show (nav B36 [1, 2, 2, 2]) = Code.region 14 _ false from rfl, hk_36_14, hz_36_14, hs_36_14, xk B36 [2, 2, 2, 2] .rt rfl, finK_norm, finK_ret, fin36, R36_ri.st]
noncomputable def f36_ri_e (k : Nat) (a0 : List Int) (a1 : Int) : Option R36_ri :=
  Option.bind (f36_ri_l1 k k a1 (flipI .u32 (IntKind.u32.wrap 0)) a0 ((List.length a0) : Int) 0) fun o1 =>
    match o1 with
    | .o0 _ _ _ _ _ =>
      none  -- no way out
    | .o1 v4 v5 v6 v7 v8 v9 =>
      f36_ri_j2 k v4 v5 v6 v7 v8 v9
theorem f36_ri_e_ok (k : Nat) (a0 : List Int) (a1 : Int) (r : R36_ri) (hF : f36_ri_e k a0 a1 = some r) : finK Try.prog Try.f36 0 (EX 36 k (nav B36 []) ({ n := 36, F := [(0, V.sl 1 (rowsOf (encI .u8) a0)), (1, V.p (Value.int .u32 a1))], M := [] } : St)) = some r.st := by
  unfold f36_ri_e at hF
  replace hF := Option.bind_eq_some_iff.1 hF
  obtain ⟨o1, h2, hF⟩ := hF
  have hc3 := f36_ri_l1_ok k k a1 (flipI .u32 (IntKind.u32.wrap 0)) a0 ((List.length a0) : Int) 0 _ h2
  simp (maxSteps := 999999) (disch := first | exact D (by decide) | exact K (by kernel_rfl)) only [EA, EE, EG, EF, ED, ofVal, ofVal1, ofCell, lenV, aggEqV, cellEq, intBin, isShift, V.ids, lendV, frz, flatV, cellsOf, addOff, firstReg, oneOf, cellsAt, isAggD, isPure, ↓reduceIte, reduceCtorEq, Nat.reduceAdd, Nat.reduceSub, Nat.reduceMul, Nat.reduceLeDiff, Nat.reduceEqDiff, Nat.reduceBEq, Int.reduceToNat, Int.reduceLE, Int.reduceLT, Nat.reduceLT, Int.reduceBEq, Int.reduceBNe, Int.reduceEq, String.reduceEq, xk B36 [] .sq rfl, show (nav B36 [1]) = Code.region 0 _ false from rfl, hk_36_0, hz_36_0, hs_36_0, xk B36 [2] .sq rfl, show (nav B36 [1, 2]) = Code.region 1 _ false from rfl, hk_36_1, hz_36_1, hs_36_1, u_3, i_3, is_3, ib_3, iz_3, u_22, i_22, is_22, ib_22, iz_22, convV, xk B36 [2, 2] .sq rfl, xk B36 [1, 2, 2] .sq rfl, show (nav B36 [1, 1, 2, 2]) = Code.region 2 _ false from rfl, hk_36_2, hz_36_2, hs_36_2, u_23, i_23, is_23, ib_23, iz_23, xk B36 [2, 1, 2, 2] (.bk 0) rfl, xk B36 [2, 2, 1, 2, 2] .lp rfl, hh_36_3, hc_36_3]
  (try simp only [NM, EE] at hc3)
  rw [hc3 _ (by simp (maxSteps := 999999) (disch := first | exact D (by decide) | exact K (by kernel_rfl)) only [EA, EE, EG, EF, ED, ofVal, ofVal1, ofCell, lenV, aggEqV, cellEq, intBin, isShift, V.ids, lendV, frz, flatV, cellsOf, addOff, firstReg, oneOf, cellsAt, isAggD, isPure, ↓reduceIte, reduceCtorEq, Nat.reduceAdd, Nat.reduceSub, Nat.reduceMul, Nat.reduceLeDiff, Nat.reduceEqDiff, Nat.reduceBEq, Int.reduceToNat, Int.reduceLE, Int.reduceLT, Nat.reduceLT, Int.reduceBEq, Int.reduceBNe, Int.reduceEq, String.reduceEq, hh_36_3, hc_36_3])]
  clear hc3
  cases o1 with
  | o0 _ _ _ _ _ =>
    (try dsimp only at hF)
    cases hF
  | o1 v4 v5 v6 v7 v8 v9 =>
    (try dsimp only at hF)
    have hJ := f36_ri_j2_ok k v4 v5 v6 v7 v8 v9 _ hF
    simp (maxSteps := 999999) (disch := first | exact D (by decide) | exact K (by kernel_rfl)) only [EA, EE, EG, EF, ED, ofVal, ofVal1, ofCell, lenV, aggEqV, cellEq, intBin, isShift, V.ids, lendV, frz, flatV, cellsOf, addOff, firstReg, oneOf, cellsAt, isAggD, isPure, ↓reduceIte, reduceCtorEq, Nat.reduceAdd, Nat.reduceSub, Nat.reduceMul, Nat.reduceLeDiff, Nat.reduceEqDiff, Nat.reduceBEq, Int.reduceToNat, Int.reduceLE, Int.reduceLT, Nat.reduceLT, Int.reduceBEq, Int.reduceBNe, Int.reduceEq, String.reduceEq, R36_ri_l1.st]
    try simp only [NM, EE] at hJ
    exact hJ
noncomputable def f36_ri (k : Nat) (a0 : List Int) (a1 : Int) : Option R36_ri := match k with | 0 => none | k + 1 => f36_ri_e k a0 a1
theorem f36_ri_ok (k : Nat) (a0 : List Int) (a1 : Int) (r : R36_ri) (hF : f36_ri k a0 a1 = some r) : CV k 36 [V.sl 1 (rowsOf (encI .u8) a0), V.p (Value.int .u32 a1)] [] = some r.st := by
  cases k with
  | zero => cases hF
  | succ k =>
    unfold CV
    rw [ev_call (F := Try.f36) (c := (nav B36 [])) rfl Try.func36 rfl rfl rfl]
    exact f36_ri_e_ok k a0 a1 r hF
-- f31_r: f31 heliograph/sum.Sum32
inductive R31_r where
  | o0 (y : Int)
noncomputable def R31_r.st : R31_r → V × List O × List O
  | .o0 y => (V.p (Value.int .u32 y), [], [])
noncomputable def f31_r_e (k : Nat) (a0 : List Int) : Option R31_r :=
  Option.bind (f36_ri k a0 2197175160) fun o1 =>
    match o1 with
    | .o0 v4 =>
      some (R31_r.o0 v4)
theorem f31_r_e_ok (k : Nat) (a0 : List Int) (r : R31_r) (hF : f31_r_e k a0 = some r) : finK Try.prog Try.f31 0 (EX 31 k (nav B31 []) ({ n := 5, F := [(0, V.sl 1 (rowsOf (encI .u8) a0))], M := [] } : St)) = some r.st := by
  unfold f31_r_e at hF
  replace hF := Option.bind_eq_some_iff.1 hF
  obtain ⟨o1, h2, hF⟩ := hF
  have hc3 := f36_ri_ok k a0 2197175160 _ h2
  cases o1 with
  | o0 v4 =>
    (try dsimp only at hF)
    (try simp only [NM, EE, R36_ri.st] at hc3)
    cases hF
    simp (maxSteps := 999999) (disch := first | exact D (by decide) | exact K (by kernel_rfl)) only [EA, EE, EG, EF, ED, ofVal, ofVal1, ofCell, lenV, aggEqV, cellEq, intBin, isShift, V.ids, lendV, frz, flatV, cellsOf, addOff, firstReg, oneOf, cellsAt, isAggD, isPure, ↓reduceIte, reduceCtorEq, Nat.reduceAdd, Nat.reduceSub, Nat.reduceMul, Nat.reduceLeDiff, Nat.reduceEqDiff, Nat.reduceBEq, Int.reduceToNat, Int.reduceLE, Int.reduceLT, Nat.reduceLT, Int.reduceBEq, Int.reduceBNe, Int.reduceEq, String.reduceEq, xk B31 [] .sq rfl, show (nav B31 [1]) = Code.region 0 _ false from rfl, hk_31_0, hz_31_0, hs_31_0, xk B31 [2] .sq rfl, show (nav B31 [1, 2]) = Code.region 1 _ false from rfl, hk_31_1, hz_31_1, hs_31_1, callStep, calleeOf, gv, List.contains, xk B31 [2, 2] .rt rfl, finK_norm, finK_ret, fin31, R31_r.st, hc3]
noncomputable def f31_r (k : Nat) (a0 : List Int) : Option R31_r := match k with | 0 => none | k + 1 => f31_r_e k a0
theorem f31_r_ok (k : Nat) (a0 : List Int) (r : R31_r) (hF : f31_r k a0 = some r) : CV k 31 [V.sl 1 (rowsOf (encI .u8) a0)] [] = some r.st := by
  cases k with
  | zero => cases hF
  | succ k =>
    unfold CV
    rw [ev_call (F := Try.f31) (c := (nav B31 [])) rfl Try.func31 rfl rfl rfl]
    exact f31_r_e_ok k a0 r hF
-- f34_r: f34 slices.Clone[[]byte,byte]
inductive R34_r where
  | o0 (y : List Int)
noncomputable def R34_r.st : R34_r → V × List O × List O
  | .o0 y => (V.own 2000000, [], [O.row true 1 5 (rowsOf (encI .u8) y)])
noncomputable def f34_r (k : Nat) (a0 : List Int) : Option R34_r := match k with | 0 => none | _ + 1 => ifE (a0.length * 1 ≤ roomy) (some (.o0 a0))
theorem f34_r_ok (k : Nat) (a0 : List Int) (r : R34_r) (hF : f34_r k a0 = some r) : CV k 34 [V.sl 1 (rowsOf (encI .u8) a0)] [] = some r.st := by
  cases k with
  | zero => cases hF
  | succ k =>
    obtain ⟨h, hF⟩ := ifE_some.1 hF
    cases hF
    have h' : ((rowsOf (encI .u8) a0)).length * 1 ≤ roomy := by rw [rowsOf_length]; exact h
    unfold CV
    rw [ev_ctx (show ctx 34 = some (cloneS 1 5 1) from rfl)]
    simp only [cloneS, h', and_self, if_true]; rfl
-- f30_rii: f30 heliograph/sum.seal
inductive R30_rii where
  | o0 (y : List Int)
noncomputable def R30_rii.st : R30_rii → V × List O × List O
  | .o0 y => (V.own 2000000, [], [O.row true 1 5 (rowsOf (encI .u8) y)])
inductive R30_rii_l1 where
  | o0 (y : Int) (y_1 : Int) (y_2 : Int) (y_3 : List Int)
  | o1 (y : Int) (y_1 : Int) (y_2 : Int) (y_3 : Bool) (y_4 : List Int)
noncomputable def R30_rii_l1.st : R30_rii_l1 → Out × St
  | .o0 y y_1 y_2 y_3 => (.norm, ({ n := 25, F := [(1, V.p (Value.int .u32 y)), (7, V.own 22), (11, V.p (Value.int .i64 y_1)), (12, V.p (Value.int .i64 y_2))], M := [(22, O.row true 1 5 (rowsOf (encI .u8) y_3))] } : St))
  | .o1 y y_1 y_2 y_3 y_4 => (.exit 0, ({ n := 25, F := [(1, V.p (Value.int .u32 y)), (7, V.own 30000), (11, V.p (Value.int .i64 y_1)), (12, V.p (Value.int .i64 y_2)), (13, V.p (Value.bool y_3))], M := [(30000, O.row true 1 5 (rowsOf (encI .u8) y_4))] } : St))
noncomputable def f30_rii_l1_j2 (k : Nat) (x1 : Int) (x11 : Int) (x12 : Int) (m22 : List Int) : Option R30_rii_l1 :=
  some (R30_rii_l1.o0 x1 x11 (IntKind.i64.wrap (x12 + (1 : Int))) m22)
theorem f30_rii_l1_j2_ok (k : Nat) (x1 : Int) (x11 : Int) (x12 : Int) (m22 : List Int) (r : R30_rii_l1) (hF : f30_rii_l1_j2 k x1 x11 x12 m22 = some r) : EX 30 k (nav B30 [2, 2, 2, 1, 2, 2, 1, 2, 2]) ({ n := 25, F := [(1, V.p (Value.int .u32 x1)), (7, V.own 22), (11, V.p (Value.int .i64 x11)), (12, V.p (Value.int .i64 x12))], M := [(22, O.row true 1 5 (rowsOf (encI .u8) m22))] } : St) = some r.st := by
  unfold f30_rii_l1_j2 at hF
  cases hF
  simp (maxSteps := 999999) (disch := first | exact D (by decide) | exact K (by kernel_rfl)) only [EA, EE, EG, EF, ED, ofVal, ofVal1, ofCell, lenV, aggEqV, cellEq, intBin, isShift, V.ids, lendV, frz, flatV, cellsOf, addOff, firstReg, oneOf, cellsAt, isAggD, isPure, ↓reduceIte, reduceCtorEq, Nat.reduceAdd, Nat.reduceSub, Nat.reduceMul, Nat.reduceLeDiff, Nat.reduceEqDiff, Nat.reduceBEq, Int.reduceToNat, Int.reduceLE, Int.reduceLT, Nat.reduceLT, Int.reduceBEq, Int.reduceBNe, Int.reduceEq, String.reduceEq, show (nav B30 [2, 2, 2, 1, 2, 2, 1, 2, 2]) = Code.region 6 _ false from rfl, hk_30_6, hz_30_6, hs_30_6, R30_rii_l1.st]
noncomputable def f30_rii_l1_j1 (k : Nat) (x1 : Int) (x11 : Int) (x12 : Int) (x13 : Bool) (h0_ : List Int) : Option R30_rii_l1 :=
  ifE (¬ (IntKind.i64.wrap ((8 : Int) * x12)) < 0) (
    ifE (((List.length h0_) + 1) ≤ roomy) (
      f30_rii_l1_j2 k x1 x11 x12 ((h0_ ++ ([(IntKind.u8.wrap (Int.fdiv x1 (2 ^ (min (Int.toNat (IntKind.i64.wrap ((8 : Int) * x12))) (IntKind.bits .u32)))))] : List Int)))))
theorem f30_rii_l1_j1_ok (k : Nat) (x1 : Int) (x11 : Int) (x12 : Int) (x13 : Bool) (h0_ : List Int) (r : R30_rii_l1) (hF : f30_rii_l1_j1 k x1 x11 x12 x13 h0_ = some r) : EX 30 k (nav B30 [2, 2, 1, 2, 2, 1, 2, 2]) ({ n := 25, F := [(1, V.p (Value.int .u32 x1)), (7, V.own 30000), (11, V.p (Value.int .i64 x11)), (12, V.p (Value.int .i64 x12)), (13, V.p (Value.bool x13))], M := [(30000, O.row true 1 5 (rowsOf (encI .u8) h0_))] } : St) = some r.st := by
  unfold f30_rii_l1_j1 at hF
  replace hF := ifE_some.1 hF
  obtain ⟨h2, hF⟩ := hF
  have q3 : [[V.p (Value.int .u8 (IntKind.u8.wrap (Int.fdiv x1 (2 ^ (min (Int.toNat (IntKind.i64.wrap ((8 : Int) * x12))) (IntKind.bits .u32))))))]] = rowsOf (encI .u8) ([(IntKind.u8.wrap (Int.fdiv x1 (2 ^ (min (Int.toNat (IntKind.i64.wrap ((8 : Int) * x12))) (IntKind.bits .u32)))))] : List Int) := rfl
  have q4 : List.map (tell [0]) (rowsOf (encI .u8) ([(IntKind.u8.wrap (Int.fdiv x1 (2 ^ (min (Int.toNat (IntKind.i64.wrap ((8 : Int) * x12))) (IntKind.bits .u32)))))] : List Int)) = rowsOf (encI .u8) ([(IntKind.u8.wrap (Int.fdiv x1 (2 ^ (min (Int.toNat (IntKind.i64.wrap ((8 : Int) * x12))) (IntKind.bits .u32)))))] : List Int) := rfl
  replace hF := ifE_some.1 hF
  obtain ⟨h5, hF⟩ := hF
  have hJ := f30_rii_l1_j2_ok k x1 x11 x12 ((h0_ ++ ([(IntKind.u8.wrap (Int.fdiv x1 (2 ^ (min (Int.toNat (IntKind.i64.wrap ((8 : Int) * x12))) (IntKind.bits .u32)))))] : List Int))) _ hF
  simp (maxSteps := 999999) (disch := first | exact D (by decide) | exact K (by kernel_rfl)) only [EA, EE, EG, EF, ED, ofVal, ofVal1, ofCell, lenV, aggEqV, cellEq, intBin, isShift, V.ids, lendV, frz, flatV, cellsOf, addOff, firstReg, oneOf, cellsAt, isAggD, isPure, ↓reduceIte, reduceCtorEq, Nat.reduceAdd, Nat.reduceSub, Nat.reduceMul, Nat.reduceLeDiff, Nat.reduceEqDiff, Nat.reduceBEq, Int.reduceToNat, Int.reduceLE, Int.reduceLT, Nat.reduceLT, Int.reduceBEq, Int.reduceBNe, Int.reduceEq, String.reduceEq, xk B30 [2, 2, 1, 2, 2, 1, 2, 2] .sq rfl, xk B30 [1, 2, 2, 1, 2, 2, 1, 2, 2] (.bk 1) rfl, xk B30 [2, 1, 2, 2, 1, 2, 2, 1, 2, 2] .sq rfl, show (nav B30 [1, 2, 1, 2, 2, 1, 2, 2, 1, 2, 2]) = Code.region 4 _ false from rfl, hk_30_4, hz_30_4, hs_30_4, show (nav B30 [2, 2, 1, 2, 2, 1, 2, 2, 1, 2, 2]) = Code.region 5 _ false from rfl, hk_30_5, hz_30_5, hs_30_5, shiftV, u_22, i_22, is_22, ib_22, iz_22, u_5, i_5, is_5, ib_5, iz_5, convV, buildSliceV, fillRows, sm_5, u_23, i_23, is_23, ib_23, iz_23, appendV, content, h2, q3, q4, h5]
  try simp only [NM, EE] at hJ
  exact hJ
noncomputable def f30_rii_l1_b (k : Nat) (x1 : Int) (x11 : Int) (x12 : Int) (h0_ : List Int) : Option R30_rii_l1 :=
  cond ((decide (x12 < x11)))
    (f30_rii_l1_j1 k x1 x11 x12 true h0_)
    (some (R30_rii_l1.o1 x1 x11 x12 false h0_))
theorem f30_rii_l1_b_ok (k : Nat) (x1 : Int) (x11 : Int) (x12 : Int) (h0_ : List Int) (r : R30_rii_l1) (hF : f30_rii_l1_b k x1 x11 x12 h0_ = some r) : EX 30 k (nav B30 [1, 2, 2, 1, 2, 2]) ({ n := 25, F := [(1, V.p (Value.int .u32 x1)), (7, V.own 30000), (11, V.p (Value.int .i64 x11)), (12, V.p (Value.int .i64 x12))], M := [(30000, O.row true 1 5 (rowsOf (encI .u8) h0_))] } : St) = some r.st := by
  unfold f30_rii_l1_b at hF
  simp (maxSteps := 999999) (disch := first | exact D (by decide) | exact K (by kernel_rfl)) only [EA, EE, EG, EF, ED, ofVal, ofVal1, ofCell, lenV, aggEqV, cellEq, intBin, isShift, V.ids, lendV, frz, flatV, cellsOf, addOff, firstReg, oneOf, cellsAt, isAggD, isPure, ↓reduceIte, reduceCtorEq, Nat.reduceAdd, Nat.reduceSub, Nat.reduceMul, Nat.reduceLeDiff, Nat.reduceEqDiff, Nat.reduceBEq, Int.reduceToNat, Int.reduceLE, Int.reduceLT, Nat.reduceLT, Int.reduceBEq, Int.reduceBNe, Int.reduceEq, String.reduceEq, xk B30 [1, 2, 2, 1, 2, 2] .sq rfl, show (nav B30 [1, 1, 2, 2, 1, 2, 2]) = Code.region 3 _ false from rfl, hk_30_3, hz_30_3, hs_30_3, xk B30 [2, 1, 2, 2, 1, 2, 2] .sq rfl, xk B30 [1, 2, 1, 2, 2, 1, 2, 2] (.cd 13) rfl]
  replace hF := cond_some hF
  rcases hF with ⟨h1, hF⟩ | ⟨h1, hF⟩
  · have hJ := f30_rii_l1_j1_ok k x1 x11 x12 true h0_ _ hF
    simp (maxSteps := 999999) (disch := first | exact D (by decide) | exact K (by kernel_rfl)) only [EA, EE, EG, EF, ED, ofVal, ofVal1, ofCell, lenV, aggEqV, cellEq, intBin, isShift, V.ids, lendV, frz, flatV, cellsOf, addOff, firstReg, oneOf, cellsAt, isAggD, isPure, ↓reduceIte, reduceCtorEq, Nat.reduceAdd, Nat.reduceSub, Nat.reduceMul, Nat.reduceLeDiff, Nat.reduceEqDiff, Nat.reduceBEq, Int.reduceToNat, Int.reduceLE, Int.reduceLT, Nat.reduceLT, Int.reduceBEq, Int.reduceBNe, Int.reduceEq, String.reduceEq, xk B30 [2, 1, 2, 1, 2, 2, 1, 2, 2] .sk rfl, h1]
    try simp only [NM, EE] at hJ
    exact hJ
  · cases hF
    simp (maxSteps := 999999) (disch := first | exact D (by decide) | exact K (by kernel_rfl)) only [EA, EE, EG, EF, ED, ofVal, ofVal1, ofCell, lenV, aggEqV, cellEq, intBin, isShift, V.ids, lendV, frz, flatV, cellsOf, addOff, firstReg, oneOf, cellsAt, isAggD, isPure, ↓reduceIte, reduceCtorEq, Nat.reduceAdd, Nat.reduceSub, Nat.reduceMul, Nat.reduceLeDiff, Nat.reduceEqDiff, Nat.reduceBEq, Int.reduceToNat, Int.reduceLE, Int.reduceLT, Nat.reduceLT, Int.reduceBEq, Int.reduceBNe, Int.reduceEq, String.reduceEq, xk B30 [3, 1, 2, 1, 2, 2, 1, 2, 2] (.ex 0) rfl, R30_rii_l1.st, h1]
noncomputable def f30_rii_l1 (k : Nat) : Nat → Int → Int → Int → (List Int) → Option R30_rii_l1
  | 0, _, _, _, _ => none
  | n + 1, x1, x11, x12, h0_ => Option.bind (f30_rii_l1_b k x1 x11 x12 h0_) fun o =>
    match o with
    | .o0 y y_1 y_2 y_3 => f30_rii_l1 k n y y_1 y_2 y_3
    | .o1 y y_1 y_2 y_3 y_4 => some (.o1 y y_1 y_2 y_3 y_4)
theorem f30_rii_l1_ok (k : Nat) (n : Nat) : ∀ (x1 : Int) (x11 : Int) (x12 : Int) (h0_ : List Int) (r : R30_rii_l1) (hF : f30_rii_l1 k n x1 x11 x12 h0_ = some r) (σ : St) (hσ : headR (hints.head 30 3) (hints.canon 30 3) σ = some ({ n := 25, F := [(1, V.p (Value.int .u32 x1)), (7, V.own 30000), (11, V.p (Value.int .i64 x11)), (12, V.p (Value.int .i64 x12))], M := [(30000, O.row true 1 5 (rowsOf (encI .u8) h0_))] } : St)), LP 30 k (nav B30 [1, 2, 2, 1, 2, 2]) n σ = some r.st := by
  induction n with
  | zero => intro x1 x11 x12 h0_ r hF; cases hF
  | succ n ih =>
    intro x1 x11 x12 h0_ r hF σ hσ
    rw [f30_rii_l1] at hF
    obtain ⟨o, h, hF⟩ := Option.bind_eq_some_iff.1 hF
    have hB := f30_rii_l1_b_ok k x1 x11 x12 h0_ o h
    unfold LP at ih ⊢
    unfold EX at hB
    rw [loopK_succ, show firstReg (nav B30 [1, 2, 2, 1, 2, 2]) = 3 from rfl, hσ, headK_some, hB]
    cases o with
    | o0 y y_1 y_2 y_3 =>
      refine ih y y_1 y_2 y_3 r hF _ ?_
      simp (maxSteps := 999999) (disch := first | exact D (by decide) | exact K (by kernel_rfl)) only [EA, EE, EG, EF, ED, ofVal, ofVal1, ofCell, lenV, aggEqV, cellEq, intBin, isShift, V.ids, lendV, frz, flatV, cellsOf, addOff, firstReg, oneOf, cellsAt, isAggD, isPure, ↓reduceIte, reduceCtorEq, Nat.reduceAdd, Nat.reduceSub, Nat.reduceMul, Nat.reduceLeDiff, Nat.reduceEqDiff, Nat.reduceBEq, Int.reduceToNat, Int.reduceLE, Int.reduceLT, Nat.reduceLT, Int.reduceBEq, Int.reduceBNe, Int.reduceEq, String.reduceEq, hh_30_3, hc_30_3]
    | o1 y y_1 y_2 y_3 y_4 => cases hF; rfl
noncomputable def f30_rii_j2 (k : Nat) (x1 : Int) (x11 : Int) (x12 : Int) (x13 : Bool) (h0_ : List Int) : Option R30_rii :=
  some (R30_rii.o0 h0_)
theorem f30_rii_j2_ok (k : Nat) (x1 : Int) (x11 : Int) (x12 : Int) (x13 : Bool) (h0_ : List Int) (r : R30_rii) (hF : f30_rii_j2 k x1 x11 x12 x13 h0_ = some r) : finK Try.prog Try.f30 0 (EX 30 k (nav B30 [2, 2, 2]) ({ n := 25, F := [(1, V.p (Value.int .u32 x1)), (7, V.own 30000), (11, V.p (Value.int .i64 x11)), (12, V.p (Value.int .i64 x12)), (13, V.p (Value.bool x13))], M := [(30000, O.row true 1 5 (rowsOf (encI .u8) h0_))] } : St)) = some r.st := by
  unfold f30_rii_j2 at hF
  cases hF
  simp (maxSteps := 999999) (disch := first | exact D (by decide) | exact K (by kernel_rfl)) only [EA, EE, EG, EF, ED, ofVal, ofVal1, ofCell, lenV, aggEqV, cellEq, intBin, isShift, V.ids, lendV, frz, flatV, cellsOf, addOff, firstReg, oneOf, cellsAt, isAggD, isPure, ↓reduceIte, reduceCtorEq, Nat.reduceAdd, Nat.reduceSub, Nat.reduceMul, Nat.reduceLeDiff, Nat.reduceEqDiff, Nat.reduceBEq, Int.reduceToNat, Int.reduceLE, Int.reduceLT, Nat.reduceLT, Int.reduceBEq, Int.reduceBNe, Int.reduceEq, String.reduceEq, xk B30 [2, 2, 2] .sq rfl, show (nav B30 [1, 2, 2, 2]) = Code.region 7 _ false from rfl, hk_30_7, hz_30_7, hs_30_7, xk B30 [2, 2, 2, 2] .rt rfl, finK_norm, finK_ret, fin30, R30_rii.st]
noncomputable def f30_rii_e (k : Nat) (a0 : List Int) (a1 : Int) (a2 : Int) : Option R30_rii :=
  Option.bind (f34_r k a0) fun o1 =>
    match o1 with
    | .o0 v4 =>
      Option.bind (f30_rii_l1 k k a1 a2 0 v4) fun o5 =>
        match o5 with
        | .o0 _ _ _ _ =>
          none  -- no way out
        | .o1 v8 v9 v10 v11 v12 =>
          f30_rii_j2 k v8 v9 v10 v11 v12
theorem f30_rii_e_ok (k : Nat) (a0 : List Int) (a1 : Int) (a2 : Int) (r : R30_rii) (hF : f30_rii_e k a0 a1 a2 = some r) : finK Try.prog Try.f30 0 (EX 30 k (nav B30 []) ({ n := 25, F := [(0, V.sl 1 (rowsOf (encI .u8) a0)), (1, V.p (Value.int .u32 a1)), (2, V.p (Value.int .i64 a2))], M := [] } : St)) = some r.st := by
  unfold f30_rii_e at hF
  replace hF := Option.bind_eq_some_iff.1 hF
  obtain ⟨o1, h2, hF⟩ := hF
  have hc3 := f34_r_ok k a0 _ h2
  cases o1 with
  | o0 v4 =>
    (try dsimp only at hF)
    (try simp only [NM, EE, R34_r.st] at hc3)
    replace hF := Option.bind_eq_some_iff.1 hF
    obtain ⟨o5, h6, hF⟩ := hF
    have hc7 := f30_rii_l1_ok k k a1 a2 0 v4 _ h6
    simp (maxSteps := 999999) (disch := first | exact D (by decide) | exact K (by kernel_rfl)) only [EA, EE, EG, EF, ED, ofVal, ofVal1, ofCell, lenV, aggEqV, cellEq, intBin, isShift, V.ids, lendV, frz, flatV, cellsOf, addOff, firstReg, oneOf, cellsAt, isAggD, isPure, ↓reduceIte, reduceCtorEq, Nat.reduceAdd, Nat.reduceSub, Nat.reduceMul, Nat.reduceLeDiff, Nat.reduceEqDiff, Nat.reduceBEq, Int.reduceToNat, Int.reduceLE, Int.reduceLT, Nat.reduceLT, Int.reduceBEq, Int.reduceBNe, Int.reduceEq, String.reduceEq, xk B30 [] .sq rfl, show (nav B30 [1]) = Code.region 0 _ false from rfl, hk_30_0, hz_30_0, hs_30_0, xk B30 [2] .sq rfl, show (nav B30 [1, 2]) = Code.region 1 _ false from rfl, hk_30_1, hz_30_1, hs_30_1, callStep, calleeOf, gv, List.contains, xk B30 [2, 2] .sq rfl, xk B30 [1, 2, 2] .sq rfl, show (nav B30 [1, 1, 2, 2]) = Code.region 2 _ false from rfl, hk_30_2, hz_30_2, hs_30_2, xk B30 [2, 1, 2, 2] (.bk 0) rfl, xk B30 [2, 2, 1, 2, 2] .lp rfl, hh_30_3, hc_30_3, hc3]
    (try simp only [NM, EE] at hc7)
    rw [hc7 _ (by simp (maxSteps := 999999) (disch := first | exact D (by decide) | exact K (by kernel_rfl)) only [EA, EE, EG, EF, ED, ofVal, ofVal1, ofCell, lenV, aggEqV, cellEq, intBin, isShift, V.ids, lendV, frz, flatV, cellsOf, addOff, firstReg, oneOf, cellsAt, isAggD, isPure, ↓reduceIte, reduceCtorEq, Nat.reduceAdd, Nat.reduceSub, Nat.reduceMul, Nat.reduceLeDiff, Nat.reduceEqDiff, Nat.reduceBEq, Int.reduceToNat, Int.reduceLE, Int.reduceLT, Nat.reduceLT, Int.reduceBEq, Int.reduceBNe, Int.reduceEq, String.reduceEq, hh_30_3, hc_30_3, hc3])]
    clear hc7
    cases o5 with
    | o0 _ _ _ _ =>
      (try dsimp only at hF)
      cases hF
    | o1 v8 v9 v10 v11 v12 =>
      (try dsimp only at hF)
      have hJ := f30_rii_j2_ok k v8 v9 v10 v11 v12 _ hF
      simp (maxSteps := 999999) (disch := first | exact D (by decide) | exact K (by kernel_rfl)) only [EA, EE, EG, EF, ED, ofVal, ofVal1, ofCell, lenV, aggEqV, cellEq, intBin, isShift, V.ids, lendV, frz, flatV, cellsOf, addOff, firstReg, oneOf, cellsAt, isAggD, isPure, ↓reduceIte, reduceCtorEq, Nat.reduceAdd, Nat.reduceSub, Nat.reduceMul, Nat.reduceLeDiff, Nat.reduceEqDiff, Nat.reduceBEq, Int.reduceToNat, Int.reduceLE, Int.reduceLT, Nat.reduceLT, Int.reduceBEq, Int.reduceBNe, Int.reduceEq, String.reduceEq, R30_rii_l1.st, hc3]
      try simp only [NM, EE] at hJ
      exact hJ
noncomputable def f30_rii (k : Nat) (a0 : List Int) (a1 : Int) (a2 : Int) : Option R30_rii := match k with | 0 => none | k + 1 => f30_rii_e k a0 a1 a2
theorem f30_rii_ok (k : Nat) (a0 : List Int) (a1 : Int) (a2 : Int) (r : R30_rii) (hF : f30_rii k a0 a1 a2 = some r) : CV k 30 [V.sl 1 (rowsOf (encI .u8) a0), V.p (Value.int .u32 a1), V.p (Value.int .i64 a2)] [] = some r.st := by
  cases k with
  | zero => cases hF
  | succ k =>
    unfold CV
    rw [ev_call (F := Try.f30) (c := (nav B30 [])) rfl Try.func30 rfl rfl rfl]
    exact f30_rii_e_ok k a0 a1 a2 r hF
-- f23_r: f23 heliograph/sum.Seal32
inductive R23_r where
  | o0 (y : List Int)
noncomputable def R23_r.st : R23_r → V × List O × List O
  | .o0 y => (V.own 2000000, [], [O.row true 1 5 (rowsOf (encI .u8) y)])
noncomputable def f23_r_e (k : Nat) (a0 : List Int) : Option R23_r :=
  Option.bind (f31_r k a0) fun o1 =>
    match o1 with
    | .o0 v4 =>
      Option.bind (f30_rii k a0 v4 4) fun o5 =>
        match o5 with
        | .o0 v8 =>
          some (R23_r.o0 v8)
theorem f23_r_e_ok (k : Nat) (a0 : List Int) (r : R23_r) (hF : f23_r_e k a0 = some r) : finK Try.prog Try.f23 0 (EX 23 k (nav B23 []) ({ n := 7, F := [(0, V.sl 1 (rowsOf (encI .u8) a0))], M := [] } : St)) = some r.st := by
  unfold f23_r_e at hF
  replace hF := Option.bind_eq_some_iff.1 hF
  obtain ⟨o1, h2, hF⟩ := hF
  have hc3 := f31_r_ok k a0 _ h2
  cases o1 with
  | o0 v4 =>
    (try dsimp only at hF)
    (try simp only [NM, EE, R31_r.st] at hc3)
    replace hF := Option.bind_eq_some_iff.1 hF
    obtain ⟨o5, h6, hF⟩ := hF
    have hc7 := f30_rii_ok k a0 v4 4 _ h6
    cases o5 with
    | o0 v8 =>
      (try dsimp only at hF)
      (try simp only [NM, EE, R30_rii.st] at hc7)
      cases hF
      simp (maxSteps := 999999) (disch := first | exact D (by decide) | exact K (by kernel_rfl)) only [EA, EE, EG, EF, ED, ofVal, ofVal1, ofCell, lenV, aggEqV, cellEq, intBin, isShift, V.ids, lendV, frz, flatV, cellsOf, addOff, firstReg, oneOf, cellsAt, isAggD, isPure, ↓reduceIte, reduceCtorEq, Nat.reduceAdd, Nat.reduceSub, Nat.reduceMul, Nat.reduceLeDiff, Nat.reduceEqDiff, Nat.reduceBEq, Int.reduceToNat, Int.reduceLE, Int.reduceLT, Nat.reduceLT, Int.reduceBEq, Int.reduceBNe, Int.reduceEq, String.reduceEq, xk B23 [] .sq rfl, show (nav B23 [1]) = Code.region 0 _ false from rfl, hk_23_0, hz_23_0, hs_23_0, xk B23 [2] .sq rfl, show (nav B23 [1, 2]) = Code.region 1 _ false from rfl, hk_23_1, hz_23_1, hs_23_1, callStep, calleeOf, gv, List.contains, xk B23 [2, 2] .rt rfl, finK_norm, finK_ret, fin23, R23_r.st, hc3, hc7]
noncomputable def f23_r (k : Nat) (a0 : List Int) : Option R23_r := match k with | 0 => none | k + 1 => f23_r_e k a0
theorem f23_r_ok (k : Nat) (a0 : List Int) (r : R23_r) (hF : f23_r k a0 = some r) : CV k 23 [V.sl 1 (rowsOf (encI .u8) a0)] [] = some r.st := by
  cases k with
  | zero => cases hF
  | succ k =>
    unfold CV
    rw [ev_call (F := Try.f23) (c := (nav B23 [])) rfl Try.func23 rfl rfl rfl]
    exact f23_r_e_ok k a0 r hF
end Go.Proofs.YthjefcamonmjpaaV
