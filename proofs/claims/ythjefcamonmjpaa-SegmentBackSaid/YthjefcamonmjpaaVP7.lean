/- What the program's functions answer: plain functions, and that the interpreter answers what they do. Written by a program of this session, out of the translation. -/
import Derived.Test.YthjefcamonmjpaaVP6
namespace Go.Proofs.YthjefcamonmjpaaV
open Go
set_option linter.unusedVariables false
set_option linter.unusedSimpArgs false
set_option maxRecDepth 8000
set_option maxHeartbeats 4000000
-- f32_rif23: f32 heliograph/sum.open
inductive R32_rif23 where
  | o0 (y : List Int) (y_1 : Int)
  | o1 (y : Int) (y_1 : List Int)
noncomputable def R32_rif23.st : R32_rif23 → V × List O × List O
  | .o0 y y_1 => (V.tup [V.sl 1 (rowsOf (encI .u8) y), V.p (Value.int .i64 y_1)], [], [])
  | .o1 y y_1 => (V.tup [V.own 2000000, V.p (Value.int .i64 y)], [], [O.row true 1 5 (rowsOf (encI .u8) y_1)])
noncomputable def f32_rif23_j2 (k : Nat) (x0 : List Int) (x8 : Int) (x25 : Bool) : Option R32_rif23 :=
  ifE ((0 : Int) ≤ x8) (
    ifE ((Int.toNat x8) ≤ (List.length x0)) (
      Option.bind (f34_r k (List.take (Int.toNat x8) x0)) fun o3 =>
        match o3 with
        | .o0 v6 =>
          some (R32_rif23.o1 0 v6)))
theorem f32_rif23_j2_ok (k : Nat) (x0 : List Int) (x8 : Int) (x25 : Bool) (r : R32_rif23) (hF : f32_rif23_j2 k x0 x8 x25 = some r) : finK Try.prog Try.f32 0 (EX 32 k (nav B32 [2, 2, 2, 2]) ({ n := 30, F := [(0, V.sl 1 (rowsOf (encI .u8) x0)), (8, V.p (Value.int .i64 x8)), (25, V.p (Value.bool x25))], M := [] } : St)) = some r.st := by
  unfold f32_rif23_j2 at hF
  replace hF := ifE_some.1 hF
  obtain ⟨h1, hF⟩ := hF
  replace hF := ifE_some.1 hF
  obtain ⟨h2, hF⟩ := hF
  replace hF := Option.bind_eq_some_iff.1 hF
  obtain ⟨o3, h4, hF⟩ := hF
  have hc5 := f34_r_ok k (List.take (Int.toNat x8) x0) _ h4
  cases o3 with
  | o0 v6 =>
    (try dsimp only at hF)
    (try simp only [NM, EE, R34_r.st] at hc5)
    cases hF
    simp (maxSteps := 999999) (disch := first | exact D (by decide) | exact K (by kernel_rfl)) only [EA, EE, EG, EF, ED, ofVal, ofVal1, ofCell, lenV, aggEqV, cellEq, intBin, isShift, V.ids, lendV, frz, flatV, cellsOf, addOff, firstReg, oneOf, cellsAt, isAggD, isPure, ↓reduceIte, reduceCtorEq, Nat.reduceAdd, Nat.reduceSub, Nat.reduceMul, Nat.reduceLeDiff, Nat.reduceEqDiff, Nat.reduceBEq, Int.reduceToNat, Int.reduceLE, Int.reduceLT, Nat.reduceLT, Int.reduceBEq, Int.reduceBNe, Int.reduceEq, String.reduceEq, xk B32 [2, 2, 2, 2] .sq rfl, show (nav B32 [1, 2, 2, 2, 2]) = Code.region 6 _ false from rfl, hk_32_6, hz_32_6, hs_32_6, sliceV, bound, u_23, i_23, is_23, ib_23, iz_23, u_5, i_5, is_5, ib_5, iz_5, callStep, calleeOf, gv, List.contains, xk B32 [2, 2, 2, 2, 2] .rt rfl, finK_norm, finK_ret, fin32, R32_rif23.st, h1, h2, hc5]
noncomputable def f32_rif23_j1 (k : Nat) (x0 : List Int) (x1 : Int) (x12 : Bool) : Option R32_rif23 :=
  ifE ((0 : Int) ≤ (IntKind.i64.wrap (((List.length x0) : Int) - x1))) (
    ifE ((Int.toNat (IntKind.i64.wrap (((List.length x0) : Int) - x1))) ≤ (List.length x0)) (
      Option.bind (f23_r k (List.take (Int.toNat (IntKind.i64.wrap (((List.length x0) : Int) - x1))) x0)) fun o3 =>
        match o3 with
        | .o0 v6 =>
          Option.bind (f20_rr k v6 x0) fun o7 =>
            match o7 with
            | .o0 v10 =>
              cond ((!v10))
                (some (R32_rif23.o0 [] 130))
                (f32_rif23_j2 k x0 (IntKind.i64.wrap (((List.length x0) : Int) - x1)) false)))
theorem f32_rif23_j1_ok (k : Nat) (x0 : List Int) (x1 : Int) (x12 : Bool) (r : R32_rif23) (hF : f32_rif23_j1 k x0 x1 x12 = some r) : finK Try.prog Try.f32 0 (EX 32 k (nav B32 [2, 2]) ({ n := 30, F := [(0, V.sl 1 (rowsOf (encI .u8) x0)), (1, V.p (Value.int .i64 x1)), (2, V.p (Value.func (Fn.func 23) #[] #[])), (12, V.p (Value.bool x12))], M := [] } : St)) = some r.st := by
  unfold f32_rif23_j1 at hF
  replace hF := ifE_some.1 hF
  obtain ⟨h1, hF⟩ := hF
  replace hF := ifE_some.1 hF
  obtain ⟨h2, hF⟩ := hF
  replace hF := Option.bind_eq_some_iff.1 hF
  obtain ⟨o3, h4, hF⟩ := hF
  have hc5 := f23_r_ok k (List.take (Int.toNat (IntKind.i64.wrap (((List.length x0) : Int) - x1))) x0) _ h4
  cases o3 with
  | o0 v6 =>
    (try dsimp only at hF)
    (try simp only [NM, EE, R23_r.st] at hc5)
    replace hF := Option.bind_eq_some_iff.1 hF
    obtain ⟨o7, h8, hF⟩ := hF
    have hc9 := f20_rr_ok k v6 x0 _ h8
    cases o7 with
    | o0 v10 =>
      (try dsimp only at hF)
      (try simp only [NM, EE, R20_rr.st] at hc9)
      simp (maxSteps := 999999) (disch := first | exact D (by decide) | exact K (by kernel_rfl)) only [EA, EE, EG, EF, ED, ofVal, ofVal1, ofCell, lenV, aggEqV, cellEq, intBin, isShift, V.ids, lendV, frz, flatV, cellsOf, addOff, firstReg, oneOf, cellsAt, isAggD, isPure, ↓reduceIte, reduceCtorEq, Nat.reduceAdd, Nat.reduceSub, Nat.reduceMul, Nat.reduceLeDiff, Nat.reduceEqDiff, Nat.reduceBEq, Int.reduceToNat, Int.reduceLE, Int.reduceLT, Nat.reduceLT, Int.reduceBEq, Int.reduceBNe, Int.reduceEq, String.reduceEq, xk B32 [2, 2] .sq rfl, show (nav B32 [1, 2, 2]) = Code.region 3 _ false from rfl, hk_32_3, hz_32_3, hs_32_3, u_23, i_23, is_23, ib_23, iz_23, xk B32 [2, 2, 2] .sq rfl, xk B32 [1, 2, 2, 2] .sq rfl, show (nav B32 [1, 1, 2, 2, 2]) = Code.region 4 _ false from rfl, hk_32_4, hz_32_4, hs_32_4, sliceV, bound, u_5, i_5, is_5, ib_5, iz_5, callStep, calleeOf, gv, List.contains, xk B32 [2, 1, 2, 2, 2] (.cd 25) rfl, h1, h2, hc5, hc9]
      replace hF := cond_some hF
      rcases hF with ⟨h11, hF⟩ | ⟨h11, hF⟩
      · cases hF
        simp (maxSteps := 999999) (disch := first | exact D (by decide) | exact K (by kernel_rfl)) only [EA, EE, EG, EF, ED, ofVal, ofVal1, ofCell, lenV, aggEqV, cellEq, intBin, isShift, V.ids, lendV, frz, flatV, cellsOf, addOff, firstReg, oneOf, cellsAt, isAggD, isPure, ↓reduceIte, reduceCtorEq, Nat.reduceAdd, Nat.reduceSub, Nat.reduceMul, Nat.reduceLeDiff, Nat.reduceEqDiff, Nat.reduceBEq, Int.reduceToNat, Int.reduceLE, Int.reduceLT, Nat.reduceLT, Int.reduceBEq, Int.reduceBNe, Int.reduceEq, String.reduceEq, xk B32 [2, 2, 1, 2, 2, 2] .sq rfl, show (nav B32 [1, 2, 2, 1, 2, 2, 2]) = Code.region 5 _ false from rfl, hk_32_5, hz_32_5, hs_32_5, xk B32 [2, 2, 2, 1, 2, 2, 2] .rt rfl, finK_norm, finK_ret, fin32, R32_rif23.st, h1, h2, hc5, hc9, h11]
      · have hJ := f32_rif23_j2_ok k x0 (IntKind.i64.wrap (((List.length x0) : Int) - x1)) false _ hF
        simp (maxSteps := 999999) (disch := first | exact D (by decide) | exact K (by kernel_rfl)) only [EA, EE, EG, EF, ED, ofVal, ofVal1, ofCell, lenV, aggEqV, cellEq, intBin, isShift, V.ids, lendV, frz, flatV, cellsOf, addOff, firstReg, oneOf, cellsAt, isAggD, isPure, ↓reduceIte, reduceCtorEq, Nat.reduceAdd, Nat.reduceSub, Nat.reduceMul, Nat.reduceLeDiff, Nat.reduceEqDiff, Nat.reduceBEq, Int.reduceToNat, Int.reduceLE, Int.reduceLT, Nat.reduceLT, Int.reduceBEq, Int.reduceBNe, Int.reduceEq, String.reduceEq, xk B32 [3, 2, 1, 2, 2, 2] .sk rfl, h1, h2, hc5, hc9, h11]
        try simp only [NM, EE] at hJ
        exact hJ
noncomputable def f32_rif23_e (k : Nat) (a0 : List Int) (a1 : Int) : Option R32_rif23 :=
  cond ((decide (((List.length a0) : Int) < a1)))
    (some (R32_rif23.o0 [] 7))
    (f32_rif23_j1 k a0 a1 false)
theorem f32_rif23_e_ok (k : Nat) (a0 : List Int) (a1 : Int) (r : R32_rif23) (hF : f32_rif23_e k a0 a1 = some r) : finK Try.prog Try.f32 0 (EX 32 k (nav B32 []) ({ n := 30, F := [(0, V.sl 1 (rowsOf (encI .u8) a0)), (1, V.p (Value.int .i64 a1)), (2, V.p (Value.func (Fn.func 23) #[] #[]))], M := [] } : St)) = some r.st := by
  unfold f32_rif23_e at hF
  simp (maxSteps := 999999) (disch := first | exact D (by decide) | exact K (by kernel_rfl)) only [EA, EE, EG, EF, ED, ofVal, ofVal1, ofCell, lenV, aggEqV, cellEq, intBin, isShift, V.ids, lendV, frz, flatV, cellsOf, addOff, firstReg, oneOf, cellsAt, isAggD, isPure, ↓reduceIte, reduceCtorEq, Nat.reduceAdd, Nat.reduceSub, Nat.reduceMul, Nat.reduceLeDiff, Nat.reduceEqDiff, Nat.reduceBEq, Int.reduceToNat, Int.reduceLE, Int.reduceLT, Nat.reduceLT, Int.reduceBEq, Int.reduceBNe, Int.reduceEq, String.reduceEq, xk B32 [] .sq rfl, show (nav B32 [1]) = Code.region 0 _ false from rfl, hk_32_0, hz_32_0, hs_32_0, xk B32 [2] .sq rfl, xk B32 [1, 2] .sq rfl, show (nav B32 [1, 1, 2]) = Code.region 1 _ false from rfl, hk_32_1, hz_32_1, hs_32_1, u_23, i_23, is_23, ib_23, iz_23, xk B32 [2, 1, 2] (.cd 12) rfl]
  replace hF := cond_some hF
  rcases hF with ⟨h1, hF⟩ | ⟨h1, hF⟩
  · cases hF
    simp (maxSteps := 999999) (disch := first | exact D (by decide) | exact K (by kernel_rfl)) only [EA, EE, EG, EF, ED, ofVal, ofVal1, ofCell, lenV, aggEqV, cellEq, intBin, isShift, V.ids, lendV, frz, flatV, cellsOf, addOff, firstReg, oneOf, cellsAt, isAggD, isPure, ↓reduceIte, reduceCtorEq, Nat.reduceAdd, Nat.reduceSub, Nat.reduceMul, Nat.reduceLeDiff, Nat.reduceEqDiff, Nat.reduceBEq, Int.reduceToNat, Int.reduceLE, Int.reduceLT, Nat.reduceLT, Int.reduceBEq, Int.reduceBNe, Int.reduceEq, String.reduceEq, xk B32 [2, 2, 1, 2] .sq rfl, show (nav B32 [1, 2, 2, 1, 2]) = Code.region 2 _ false from rfl, hk_32_2, hz_32_2, hs_32_2, xk B32 [2, 2, 2, 1, 2] .rt rfl, finK_norm, finK_ret, fin32, R32_rif23.st, h1]
  · have hJ := f32_rif23_j1_ok k a0 a1 false _ hF
    simp (maxSteps := 999999) (disch := first | exact D (by decide) | exact K (by kernel_rfl)) only [EA, EE, EG, EF, ED, ofVal, ofVal1, ofCell, lenV, aggEqV, cellEq, intBin, isShift, V.ids, lendV, frz, flatV, cellsOf, addOff, firstReg, oneOf, cellsAt, isAggD, isPure, ↓reduceIte, reduceCtorEq, Nat.reduceAdd, Nat.reduceSub, Nat.reduceMul, Nat.reduceLeDiff, Nat.reduceEqDiff, Nat.reduceBEq, Int.reduceToNat, Int.reduceLE, Int.reduceLT, Nat.reduceLT, Int.reduceBEq, Int.reduceBNe, Int.reduceEq, String.reduceEq, xk B32 [3, 2, 1, 2] .sk rfl, h1]
    try simp only [NM, EE] at hJ
    exact hJ
noncomputable def f32_rif23 (k : Nat) (a0 : List Int) (a1 : Int) : Option R32_rif23 := match k with | 0 => none | k + 1 => f32_rif23_e k a0 a1
theorem f32_rif23_ok (k : Nat) (a0 : List Int) (a1 : Int) (r : R32_rif23) (hF : f32_rif23 k a0 a1 = some r) : CV k 32 [V.sl 1 (rowsOf (encI .u8) a0), V.p (Value.int .i64 a1), V.p (Value.func (Fn.func 23) #[] #[])] [] = some r.st := by
  cases k with
  | zero => cases hF
  | succ k =>
    unfold CV
    rw [ev_call (F := Try.f32) (c := (nav B32 [])) rfl Try.func32 rfl rfl rfl]
    exact f32_rif23_e_ok k a0 a1 r hF
-- f24_r: f24 heliograph/sum.Open32
inductive R24_r where
  | o0 (y : List Int) (y_1 : Int)
  | o1 (y : Int) (y_1 : List Int)
noncomputable def R24_r.st : R24_r → V × List O × List O
  | .o0 y y_1 => (V.tup [V.sl 1 (rowsOf (encI .u8) y), V.p (Value.int .i64 y_1)], [], [])
  | .o1 y y_1 => (V.tup [V.own 2000000, V.p (Value.int .i64 y)], [], [O.row true 1 5 (rowsOf (encI .u8) y_1)])
noncomputable def f24_r_e (k : Nat) (a0 : List Int) : Option R24_r :=
  Option.bind (f32_rif23 k a0 4) fun o1 =>
    match o1 with
    | .o0 v4 v5 =>
      some (R24_r.o0 v4 v5)
    | .o1 v6 v7 =>
      some (R24_r.o1 v6 v7)
theorem f24_r_e_ok (k : Nat) (a0 : List Int) (r : R24_r) (hF : f24_r_e k a0 = some r) : finK Try.prog Try.f24 0 (EX 24 k (nav B24 []) ({ n := 8, F := [(0, V.sl 1 (rowsOf (encI .u8) a0))], M := [] } : St)) = some r.st := by
  unfold f24_r_e at hF
  simp (maxSteps := 999999) (disch := first | exact D (by decide) | exact K (by kernel_rfl)) only [EA, EE, EG, EF, ED, ofVal, ofVal1, ofCell, lenV, aggEqV, cellEq, intBin, isShift, V.ids, lendV, frz, flatV, cellsOf, addOff, firstReg, oneOf, cellsAt, isAggD, isPure, ↓reduceIte, reduceCtorEq, Nat.reduceAdd, Nat.reduceSub, Nat.reduceMul, Nat.reduceLeDiff, Nat.reduceEqDiff, Nat.reduceBEq, Int.reduceToNat, Int.reduceLE, Int.reduceLT, Nat.reduceLT, Int.reduceBEq, Int.reduceBNe, Int.reduceEq, String.reduceEq, xk B24 [] .sq rfl, show (nav B24 [1]) = Code.region 0 _ false from rfl, hk_24_0, hz_24_0, hs_24_0, xk B24 [2] .sq rfl, show (nav B24 [1, 2]) = Code.region 1 _ false from rfl, hk_24_1, hz_24_1, hs_24_1, callStep, calleeOf, gv, List.contains]
  replace hF := Option.bind_eq_some_iff.1 hF
  obtain ⟨o1, h2, hF⟩ := hF
  have hc3 := f32_rif23_ok k a0 4 _ h2
  cases o1 with
  | o0 v4 v5 =>
    (try dsimp only at hF)
    (try simp only [NM, EE, R32_rif23.st] at hc3)
    cases hF
    simp (maxSteps := 999999) (disch := first | exact D (by decide) | exact K (by kernel_rfl)) only [EA, EE, EG, EF, ED, ofVal, ofVal1, ofCell, lenV, aggEqV, cellEq, intBin, isShift, V.ids, lendV, frz, flatV, cellsOf, addOff, firstReg, oneOf, cellsAt, isAggD, isPure, ↓reduceIte, reduceCtorEq, Nat.reduceAdd, Nat.reduceSub, Nat.reduceMul, Nat.reduceLeDiff, Nat.reduceEqDiff, Nat.reduceBEq, Int.reduceToNat, Int.reduceLE, Int.reduceLT, Nat.reduceLT, Int.reduceBEq, Int.reduceBNe, Int.reduceEq, String.reduceEq, xk B24 [2, 2] .rt rfl, finK_norm, finK_ret, fin24, R24_r.st, hc3]
  | o1 v6 v7 =>
    (try dsimp only at hF)
    (try simp only [NM, EE, R32_rif23.st] at hc3)
    cases hF
    simp (maxSteps := 999999) (disch := first | exact D (by decide) | exact K (by kernel_rfl)) only [EA, EE, EG, EF, ED, ofVal, ofVal1, ofCell, lenV, aggEqV, cellEq, intBin, isShift, V.ids, lendV, frz, flatV, cellsOf, addOff, firstReg, oneOf, cellsAt, isAggD, isPure, ↓reduceIte, reduceCtorEq, Nat.reduceAdd, Nat.reduceSub, Nat.reduceMul, Nat.reduceLeDiff, Nat.reduceEqDiff, Nat.reduceBEq, Int.reduceToNat, Int.reduceLE, Int.reduceLT, Nat.reduceLT, Int.reduceBEq, Int.reduceBNe, Int.reduceEq, String.reduceEq, xk B24 [2, 2] .rt rfl, finK_norm, finK_ret, fin24, R24_r.st, hc3]
noncomputable def f24_r (k : Nat) (a0 : List Int) : Option R24_r := match k with | 0 => none | k + 1 => f24_r_e k a0
theorem f24_r_ok (k : Nat) (a0 : List Int) (r : R24_r) (hF : f24_r k a0 = some r) : CV k 24 [V.sl 1 (rowsOf (encI .u8) a0)] [] = some r.st := by
  cases k with
  | zero => cases hF
  | succ k =>
    unfold CV
    rw [ev_call (F := Try.f24) (c := (nav B24 [])) rfl Try.func24 rfl rfl rfl]
    exact f24_r_e_ok k a0 r hF
-- f33_r: f33 heliograph/sdnv.Get
inductive R33_r where
  | o0 (y : Int) (y_1 : Int) (y_2 : Int)
noncomputable def R33_r.st : R33_r → V × List O × List O
  | .o0 y y_1 y_2 => (V.tup [V.p (Value.int .u64 y), V.p (Value.int .i64 y_1), V.p (Value.int .i64 y_2)], [], [])
inductive R33_r_s1 where
  | o0 (y : Int) (y_1 : Int) (y_2 : Int)
  | o1 (y : List Int) (y_1 : Int) (y_2 : Int) (y_3 : Bool)
noncomputable def R33_r_s1.st : R33_r_s1 → Out × St
  | .o0 y y_1 y_2 => (.ret, ({ n := 40, F := [(2, V.p (Value.int .u64 y)), (3, V.p (Value.int .i64 y_1)), (4, V.p (Value.int .i64 y_2))], M := [] } : St))
  | .o1 y y_1 y_2 y_3 => (.goto 0, ({ n := 40, F := [(0, V.sl 1 (rowsOf (encI .u8) y)), (5, V.p (Value.int .u64 y_1)), (6, V.p (Value.int .i64 y_2)), (37, V.p (Value.bool y_3))], M := [] } : St))
noncomputable def f33_r_s1_j4 (k : Nat) (x0 : List Int) (x5 : Int) (x6 : Int) (x37 : Bool) : Option R33_r_s1 :=
  some (R33_r_s1.o0 x5 x6 0)
theorem f33_r_s1_j4_ok (k : Nat) (x0 : List Int) (x5 : Int) (x6 : Int) (x37 : Bool) (r : R33_r_s1) (hF : f33_r_s1_j4 k x0 x5 x6 x37 = some r) : EX 33 k (nav B33 [2, 2, 2, 2, 2, 2, 2, 2, 2, 1, 2]) ({ n := 40, F := [(0, V.sl 1 (rowsOf (encI .u8) x0)), (5, V.p (Value.int .u64 x5)), (6, V.p (Value.int .i64 x6)), (37, V.p (Value.bool x37))], M := [] } : St) = some r.st := by
  unfold f33_r_s1_j4 at hF
  cases hF
  simp (maxSteps := 999999) (disch := first | exact D (by decide) | exact K (by kernel_rfl)) only [EA, EE, EG, EF, ED, ofVal, ofVal1, ofCell, lenV, aggEqV, cellEq, intBin, isShift, V.ids, lendV, frz, flatV, cellsOf, addOff, firstReg, oneOf, cellsAt, isAggD, isPure, ↓reduceIte, reduceCtorEq, Nat.reduceAdd, Nat.reduceSub, Nat.reduceMul, Nat.reduceLeDiff, Nat.reduceEqDiff, Nat.reduceBEq, Int.reduceToNat, Int.reduceLE, Int.reduceLT, Nat.reduceLT, Int.reduceBEq, Int.reduceBNe, Int.reduceEq, String.reduceEq, xk B33 [2, 2, 2, 2, 2, 2, 2, 2, 2, 1, 2] .sq rfl, show (nav B33 [1, 2, 2, 2, 2, 2, 2, 2, 2, 2, 1, 2]) = Code.region 12 _ false from rfl, hk_33_12, hz_33_12, hs_33_12, xk B33 [2, 2, 2, 2, 2, 2, 2, 2, 2, 2, 1, 2] .rt rfl, R33_r_s1.st]
noncomputable def f33_r_s1_j3 (k : Nat) (x0 : List Int) (x5 : Int) (x6 : Int) (x23 : Bool) : Option R33_r_s1 :=
  ifE ((0 : Int) ≤ x6) (
    Option.bind (x0[(Int.toNat x6)]?) fun v2 =>
      cond ((decide (v2 ≥ 128)))
        (some (R33_r_s1.o1 x0 ((IntKind.u64.wrap ((BitVec.ofInt (IntKind.bits .u64) (IntKind.u64.wrap (x5 * 2 ^ (min 7 (IntKind.bits .u64)))) ||| BitVec.ofInt (IntKind.bits .u64) (IntKind.u64.wrap (IntKind.u8.wrap ((BitVec.ofInt (IntKind.bits .u8) v2 &&& ~~~BitVec.ofInt (IntKind.bits .u8) (128 : Int)).toNat : Nat)))).toNat : Nat))) (IntKind.i64.wrap (x6 + (1 : Int))) true))
        (f33_r_s1_j4 k x0 ((IntKind.u64.wrap ((BitVec.ofInt (IntKind.bits .u64) (IntKind.u64.wrap (x5 * 2 ^ (min 7 (IntKind.bits .u64)))) ||| BitVec.ofInt (IntKind.bits .u64) (IntKind.u64.wrap (IntKind.u8.wrap ((BitVec.ofInt (IntKind.bits .u8) v2 &&& ~~~BitVec.ofInt (IntKind.bits .u8) (128 : Int)).toNat : Nat)))).toNat : Nat))) (IntKind.i64.wrap (x6 + (1 : Int))) false))
theorem f33_r_s1_j3_ok (k : Nat) (x0 : List Int) (x5 : Int) (x6 : Int) (x23 : Bool) (r : R33_r_s1) (hF : f33_r_s1_j3 k x0 x5 x6 x23 = some r) : EX 33 k (nav B33 [2, 2, 2, 2, 2, 1, 2]) ({ n := 40, F := [(0, V.sl 1 (rowsOf (encI .u8) x0)), (5, V.p (Value.int .u64 x5)), (6, V.p (Value.int .i64 x6)), (23, V.p (Value.bool x23))], M := [] } : St) = some r.st := by
  unfold f33_r_s1_j3 at hF
  replace hF := ifE_some.1 hF
  obtain ⟨h1, hF⟩ := hF
  replace hF := Option.bind_eq_some_iff.1 hF
  obtain ⟨v2, h3, hF⟩ := hF
  simp (maxSteps := 999999) (disch := first | exact D (by decide) | exact K (by kernel_rfl)) only [EA, EE, EG, EF, ED, ofVal, ofVal1, ofCell, lenV, aggEqV, cellEq, intBin, isShift, V.ids, lendV, frz, flatV, cellsOf, addOff, firstReg, oneOf, cellsAt, isAggD, isPure, ↓reduceIte, reduceCtorEq, Nat.reduceAdd, Nat.reduceSub, Nat.reduceMul, Nat.reduceLeDiff, Nat.reduceEqDiff, Nat.reduceBEq, Int.reduceToNat, Int.reduceLE, Int.reduceLT, Nat.reduceLT, Int.reduceBEq, Int.reduceBNe, Int.reduceEq, String.reduceEq, xk B33 [2, 2, 2, 2, 2, 1, 2] .sq rfl, show (nav B33 [1, 2, 2, 2, 2, 2, 1, 2]) = Code.region 8 _ false from rfl, hk_33_8, hz_33_8, hs_33_8, indexAddrV, u_23, i_23, is_23, ib_23, iz_23, u_5, i_5, is_5, ib_5, iz_5, encI_eq, xk B33 [2, 2, 2, 2, 2, 2, 1, 2] .sq rfl, show (nav B33 [1, 2, 2, 2, 2, 2, 2, 1, 2]) = Code.region 9 _ false from rfl, hk_33_9, hz_33_9, hs_33_9, shiftV, u_65, i_65, is_65, ib_65, iz_65, convV, xk B33 [2, 2, 2, 2, 2, 2, 2, 1, 2] .sq rfl, show (nav B33 [1, 2, 2, 2, 2, 2, 2, 2, 1, 2]) = Code.region 10 _ false from rfl, hk_33_10, hz_33_10, hs_33_10, xk B33 [2, 2, 2, 2, 2, 2, 2, 2, 1, 2] .sq rfl, xk B33 [1, 2, 2, 2, 2, 2, 2, 2, 2, 1, 2] .sq rfl, show (nav B33 [1, 1, 2, 2, 2, 2, 2, 2, 2, 2, 1, 2]) = Code.region 11 _ false from rfl, hk_33_11, hz_33_11, hs_33_11, xk B33 [2, 1, 2, 2, 2, 2, 2, 2, 2, 2, 1, 2] (.cd 37) rfl, h1, h3]
  replace hF := cond_some hF
  rcases hF with ⟨h4, hF⟩ | ⟨h4, hF⟩
  · cases hF
    simp (maxSteps := 999999) (disch := first | exact D (by decide) | exact K (by kernel_rfl)) only [EA, EE, EG, EF, ED, ofVal, ofVal1, ofCell, lenV, aggEqV, cellEq, intBin, isShift, V.ids, lendV, frz, flatV, cellsOf, addOff, firstReg, oneOf, cellsAt, isAggD, isPure, ↓reduceIte, reduceCtorEq, Nat.reduceAdd, Nat.reduceSub, Nat.reduceMul, Nat.reduceLeDiff, Nat.reduceEqDiff, Nat.reduceBEq, Int.reduceToNat, Int.reduceLE, Int.reduceLT, Nat.reduceLT, Int.reduceBEq, Int.reduceBNe, Int.reduceEq, String.reduceEq, xk B33 [2, 2, 1, 2, 2, 2, 2, 2, 2, 2, 2, 1, 2] (.gt 0) rfl, R33_r_s1.st, h1, h3, h4]
  · have hJ := f33_r_s1_j4_ok k x0 ((IntKind.u64.wrap ((BitVec.ofInt (IntKind.bits .u64) (IntKind.u64.wrap (x5 * 2 ^ (min 7 (IntKind.bits .u64)))) ||| BitVec.ofInt (IntKind.bits .u64) (IntKind.u64.wrap (IntKind.u8.wrap ((BitVec.ofInt (IntKind.bits .u8) v2 &&& ~~~BitVec.ofInt (IntKind.bits .u8) (128 : Int)).toNat : Nat)))).toNat : Nat))) (IntKind.i64.wrap (x6 + (1 : Int))) false _ hF
    simp (maxSteps := 999999) (disch := first | exact D (by decide) | exact K (by kernel_rfl)) only [EA, EE, EG, EF, ED, ofVal, ofVal1, ofCell, lenV, aggEqV, cellEq, intBin, isShift, V.ids, lendV, frz, flatV, cellsOf, addOff, firstReg, oneOf, cellsAt, isAggD, isPure, ↓reduceIte, reduceCtorEq, Nat.reduceAdd, Nat.reduceSub, Nat.reduceMul, Nat.reduceLeDiff, Nat.reduceEqDiff, Nat.reduceBEq, Int.reduceToNat, Int.reduceLE, Int.reduceLT, Nat.reduceLT, Int.reduceBEq, Int.reduceBNe, Int.reduceEq, String.reduceEq, xk B33 [3, 2, 1, 2, 2, 2, 2, 2, 2, 2, 2, 1, 2] .sk rfl, h1, h3, h4]
    try simp only [NM, EE] at hJ
    exact hJ
noncomputable def f33_r_s1_j2 (k : Nat) (x0 : List Int) (x5 : Int) (x6 : Int) (x20 : Bool) : Option R33_r_s1 :=
  cond ((decide ((Int.fdiv x5 (2 ^ (min 57 (IntKind.bits .u64)))) > 0)))
    (some (R33_r_s1.o0 0 0 3))
    (f33_r_s1_j3 k x0 x5 x6 false)
theorem f33_r_s1_j2_ok (k : Nat) (x0 : List Int) (x5 : Int) (x6 : Int) (x20 : Bool) (r : R33_r_s1) (hF : f33_r_s1_j2 k x0 x5 x6 x20 = some r) : EX 33 k (nav B33 [2, 2, 2, 2, 1, 2]) ({ n := 40, F := [(0, V.sl 1 (rowsOf (encI .u8) x0)), (5, V.p (Value.int .u64 x5)), (6, V.p (Value.int .i64 x6)), (20, V.p (Value.bool x20))], M := [] } : St) = some r.st := by
  unfold f33_r_s1_j2 at hF
  simp (maxSteps := 999999) (disch := first | exact D (by decide) | exact K (by kernel_rfl)) only [EA, EE, EG, EF, ED, ofVal, ofVal1, ofCell, lenV, aggEqV, cellEq, intBin, isShift, V.ids, lendV, frz, flatV, cellsOf, addOff, firstReg, oneOf, cellsAt, isAggD, isPure, ↓reduceIte, reduceCtorEq, Nat.reduceAdd, Nat.reduceSub, Nat.reduceMul, Nat.reduceLeDiff, Nat.reduceEqDiff, Nat.reduceBEq, Int.reduceToNat, Int.reduceLE, Int.reduceLT, Nat.reduceLT, Int.reduceBEq, Int.reduceBNe, Int.reduceEq, String.reduceEq, xk B33 [2, 2, 2, 2, 1, 2] .sq rfl, xk B33 [1, 2, 2, 2, 2, 1, 2] .sq rfl, show (nav B33 [1, 1, 2, 2, 2, 2, 1, 2]) = Code.region 6 _ false from rfl, hk_33_6, hz_33_6, hs_33_6, shiftV, xk B33 [2, 1, 2, 2, 2, 2, 1, 2] (.cd 23) rfl]
  replace hF := cond_some hF
  rcases hF with ⟨h1, hF⟩ | ⟨h1, hF⟩
  · cases hF
    simp (maxSteps := 999999) (disch := first | exact D (by decide) | exact K (by kernel_rfl)) only [EA, EE, EG, EF, ED, ofVal, ofVal1, ofCell, lenV, aggEqV, cellEq, intBin, isShift, V.ids, lendV, frz, flatV, cellsOf, addOff, firstReg, oneOf, cellsAt, isAggD, isPure, ↓reduceIte, reduceCtorEq, Nat.reduceAdd, Nat.reduceSub, Nat.reduceMul, Nat.reduceLeDiff, Nat.reduceEqDiff, Nat.reduceBEq, Int.reduceToNat, Int.reduceLE, Int.reduceLT, Nat.reduceLT, Int.reduceBEq, Int.reduceBNe, Int.reduceEq, String.reduceEq, xk B33 [2, 2, 1, 2, 2, 2, 2, 1, 2] .sq rfl, show (nav B33 [1, 2, 2, 1, 2, 2, 2, 2, 1, 2]) = Code.region 7 _ false from rfl, hk_33_7, hz_33_7, hs_33_7, xk B33 [2, 2, 2, 1, 2, 2, 2, 2, 1, 2] .rt rfl, R33_r_s1.st, h1]
  · have hJ := f33_r_s1_j3_ok k x0 x5 x6 false _ hF
    simp (maxSteps := 999999) (disch := first | exact D (by decide) | exact K (by kernel_rfl)) only [EA, EE, EG, EF, ED, ofVal, ofVal1, ofCell, lenV, aggEqV, cellEq, intBin, isShift, V.ids, lendV, frz, flatV, cellsOf, addOff, firstReg, oneOf, cellsAt, isAggD, isPure, ↓reduceIte, reduceCtorEq, Nat.reduceAdd, Nat.reduceSub, Nat.reduceMul, Nat.reduceLeDiff, Nat.reduceEqDiff, Nat.reduceBEq, Int.reduceToNat, Int.reduceLE, Int.reduceLT, Nat.reduceLT, Int.reduceBEq, Int.reduceBNe, Int.reduceEq, String.reduceEq, xk B33 [3, 2, 1, 2, 2, 2, 2, 1, 2] .sk rfl, h1]
    try simp only [NM, EE] at hJ
    exact hJ
noncomputable def f33_r_s1_j1 (k : Nat) (x0 : List Int) (x5 : Int) (x6 : Int) (x16 : Bool) : Option R33_r_s1 :=
  cond ((x6 == ((List.length x0) : Int)))
    (some (R33_r_s1.o0 0 0 7))
    (f33_r_s1_j2 k x0 x5 x6 false)
theorem f33_r_s1_j1_ok (k : Nat) (x0 : List Int) (x5 : Int) (x6 : Int) (x16 : Bool) (r : R33_r_s1) (hF : f33_r_s1_j1 k x0 x5 x6 x16 = some r) : EX 33 k (nav B33 [2, 2, 1, 2]) ({ n := 40, F := [(0, V.sl 1 (rowsOf (encI .u8) x0)), (5, V.p (Value.int .u64 x5)), (6, V.p (Value.int .i64 x6)), (16, V.p (Value.bool x16))], M := [] } : St) = some r.st := by
  unfold f33_r_s1_j1 at hF
  simp (maxSteps := 999999) (disch := first | exact D (by decide) | exact K (by kernel_rfl)) only [EA, EE, EG, EF, ED, ofVal, ofVal1, ofCell, lenV, aggEqV, cellEq, intBin, isShift, V.ids, lendV, frz, flatV, cellsOf, addOff, firstReg, oneOf, cellsAt, isAggD, isPure, ↓reduceIte, reduceCtorEq, Nat.reduceAdd, Nat.reduceSub, Nat.reduceMul, Nat.reduceLeDiff, Nat.reduceEqDiff, Nat.reduceBEq, Int.reduceToNat, Int.reduceLE, Int.reduceLT, Nat.reduceLT, Int.reduceBEq, Int.reduceBNe, Int.reduceEq, String.reduceEq, xk B33 [2, 2, 1, 2] .sq rfl, xk B33 [1, 2, 2, 1, 2] (.lb 0) rfl, xk B33 [2, 2, 2, 1, 2] .sq rfl, xk B33 [1, 2, 2, 2, 1, 2] .sq rfl, show (nav B33 [1, 1, 2, 2, 2, 1, 2]) = Code.region 4 _ false from rfl, hk_33_4, hz_33_4, hs_33_4, u_23, i_23, is_23, ib_23, iz_23, xk B33 [2, 1, 2, 2, 2, 1, 2] (.cd 20) rfl]
  replace hF := cond_some hF
  rcases hF with ⟨h1, hF⟩ | ⟨h1, hF⟩
  · cases hF
    simp (maxSteps := 999999) (disch := first | exact D (by decide) | exact K (by kernel_rfl)) only [EA, EE, EG, EF, ED, ofVal, ofVal1, ofCell, lenV, aggEqV, cellEq, intBin, isShift, V.ids, lendV, frz, flatV, cellsOf, addOff, firstReg, oneOf, cellsAt, isAggD, isPure, ↓reduceIte, reduceCtorEq, Nat.reduceAdd, Nat.reduceSub, Nat.reduceMul, Nat.reduceLeDiff, Nat.reduceEqDiff, Nat.reduceBEq, Int.reduceToNat, Int.reduceLE, Int.reduceLT, Nat.reduceLT, Int.reduceBEq, Int.reduceBNe, Int.reduceEq, String.reduceEq, xk B33 [2, 2, 1, 2, 2, 2, 1, 2] .sq rfl, show (nav B33 [1, 2, 2, 1, 2, 2, 2, 1, 2]) = Code.region 5 _ false from rfl, hk_33_5, hz_33_5, hs_33_5, xk B33 [2, 2, 2, 1, 2, 2, 2, 1, 2] .rt rfl, R33_r_s1.st, h1]
  · have hJ := f33_r_s1_j2_ok k x0 x5 x6 false _ hF
    simp (maxSteps := 999999) (disch := first | exact D (by decide) | exact K (by kernel_rfl)) only [EA, EE, EG, EF, ED, ofVal, ofVal1, ofCell, lenV, aggEqV, cellEq, intBin, isShift, V.ids, lendV, frz, flatV, cellsOf, addOff, firstReg, oneOf, cellsAt, isAggD, isPure, ↓reduceIte, reduceCtorEq, Nat.reduceAdd, Nat.reduceSub, Nat.reduceMul, Nat.reduceLeDiff, Nat.reduceEqDiff, Nat.reduceBEq, Int.reduceToNat, Int.reduceLE, Int.reduceLT, Nat.reduceLT, Int.reduceBEq, Int.reduceBNe, Int.reduceEq, String.reduceEq, xk B33 [3, 2, 1, 2, 2, 2, 1, 2] .sk rfl, h1]
    try simp only [NM, EE] at hJ
    exact hJ
noncomputable def f33_r_s1_b (k : Nat) (x0 : List Int) : Option R33_r_s1 :=
  cond ((decide (((List.length x0) : Int) > 0)))
    (
      Option.bind (x0[0]?) fun v2 =>
        cond ((v2 == 128))
          (some (R33_r_s1.o0 0 0 180))
          (f33_r_s1_j1 k x0 0 0 false))
    (f33_r_s1_j1 k x0 0 0 false)
theorem f33_r_s1_b_ok (k : Nat) (x0 : List Int) (r : R33_r_s1) (hF : f33_r_s1_b k x0 = some r) : EX 33 k (nav B33 [1, 2]) ({ n := 40, F := [(0, V.sl 1 (rowsOf (encI .u8) x0))], M := [] } : St) = some r.st := by
  unfold f33_r_s1_b at hF
  simp (maxSteps := 999999) (disch := first | exact D (by decide) | exact K (by kernel_rfl)) only [EA, EE, EG, EF, ED, ofVal, ofVal1, ofCell, lenV, aggEqV, cellEq, intBin, isShift, V.ids, lendV, frz, flatV, cellsOf, addOff, firstReg, oneOf, cellsAt, isAggD, isPure, ↓reduceIte, reduceCtorEq, Nat.reduceAdd, Nat.reduceSub, Nat.reduceMul, Nat.reduceLeDiff, Nat.reduceEqDiff, Nat.reduceBEq, Int.reduceToNat, Int.reduceLE, Int.reduceLT, Nat.reduceLT, Int.reduceBEq, Int.reduceBNe, Int.reduceEq, String.reduceEq, xk B33 [1, 2] .sq rfl, show (nav B33 [1, 1, 2]) = Code.region 1 _ false from rfl, hk_33_1, hz_33_1, hs_33_1, xk B33 [2, 1, 2] .sq rfl, xk B33 [1, 2, 1, 2] .sq rfl, show (nav B33 [1, 1, 2, 1, 2]) = Code.region 2 _ false from rfl, hk_33_2, hz_33_2, hs_33_2, u_23, i_23, is_23, ib_23, iz_23]
  replace hF := cond_some hF
  rcases hF with ⟨h1, hF⟩ | ⟨h1, hF⟩
  · replace hF := Option.bind_eq_some_iff.1 hF
    obtain ⟨v2, h3, hF⟩ := hF
    simp (maxSteps := 999999) (disch := first | exact D (by decide) | exact K (by kernel_rfl)) only [EA, EE, EG, EF, ED, ofVal, ofVal1, ofCell, lenV, aggEqV, cellEq, intBin, isShift, V.ids, lendV, frz, flatV, cellsOf, addOff, firstReg, oneOf, cellsAt, isAggD, isPure, ↓reduceIte, reduceCtorEq, Nat.reduceAdd, Nat.reduceSub, Nat.reduceMul, Nat.reduceLeDiff, Nat.reduceEqDiff, Nat.reduceBEq, Int.reduceToNat, Int.reduceLE, Int.reduceLT, Nat.reduceLT, Int.reduceBEq, Int.reduceBNe, Int.reduceEq, String.reduceEq, indexAddrV, u_23, i_23, is_23, ib_23, iz_23, u_5, i_5, is_5, ib_5, iz_5, encI_eq, xk B33 [2, 1, 2, 1, 2] (.cd 16) rfl, h1, h3]
    replace hF := cond_some hF
    rcases hF with ⟨h4, hF⟩ | ⟨h4, hF⟩
    · cases hF
      simp (maxSteps := 999999) (disch := first | exact D (by decide) | exact K (by kernel_rfl)) only [EA, EE, EG, EF, ED, ofVal, ofVal1, ofCell, lenV, aggEqV, cellEq, intBin, isShift, V.ids, lendV, frz, flatV, cellsOf, addOff, firstReg, oneOf, cellsAt, isAggD, isPure, ↓reduceIte, reduceCtorEq, Nat.reduceAdd, Nat.reduceSub, Nat.reduceMul, Nat.reduceLeDiff, Nat.reduceEqDiff, Nat.reduceBEq, Int.reduceToNat, Int.reduceLE, Int.reduceLT, Nat.reduceLT, Int.reduceBEq, Int.reduceBNe, Int.reduceEq, String.reduceEq, xk B33 [2, 2, 1, 2, 1, 2] .sq rfl, show (nav B33 [1, 2, 2, 1, 2, 1, 2]) = Code.region 3 _ false from rfl, hk_33_3, hz_33_3, hs_33_3, xk B33 [2, 2, 2, 1, 2, 1, 2] .rt rfl, R33_r_s1.st, h1, h3, h4]
    · have hJ := f33_r_s1_j1_ok k x0 0 0 false _ hF
      simp (maxSteps := 999999) (disch := first | exact D (by decide) | exact K (by kernel_rfl)) only [EA, EE, EG, EF, ED, ofVal, ofVal1, ofCell, lenV, aggEqV, cellEq, intBin, isShift, V.ids, lendV, frz, flatV, cellsOf, addOff, firstReg, oneOf, cellsAt, isAggD, isPure, ↓reduceIte, reduceCtorEq, Nat.reduceAdd, Nat.reduceSub, Nat.reduceMul, Nat.reduceLeDiff, Nat.reduceEqDiff, Nat.reduceBEq, Int.reduceToNat, Int.reduceLE, Int.reduceLT, Nat.reduceLT, Int.reduceBEq, Int.reduceBNe, Int.reduceEq, String.reduceEq, xk B33 [3, 2, 1, 2, 1, 2] .sk rfl, h1, h3, h4]
      try simp only [NM, EE] at hJ
      exact hJ
  · have hJ := f33_r_s1_j1_ok k x0 0 0 false _ hF
    simp (maxSteps := 999999) (disch := first | exact D (by decide) | exact K (by kernel_rfl)) only [EA, EE, EG, EF, ED, ofVal, ofVal1, ofCell, lenV, aggEqV, cellEq, intBin, isShift, V.ids, lendV, frz, flatV, cellsOf, addOff, firstReg, oneOf, cellsAt, isAggD, isPure, ↓reduceIte, reduceCtorEq, Nat.reduceAdd, Nat.reduceSub, Nat.reduceMul, Nat.reduceLeDiff, Nat.reduceEqDiff, Nat.reduceBEq, Int.reduceToNat, Int.reduceLE, Int.reduceLT, Nat.reduceLT, Int.reduceBEq, Int.reduceBNe, Int.reduceEq, String.reduceEq, xk B33 [2, 1, 2, 1, 2] (.cd 16) rfl, xk B33 [3, 2, 1, 2, 1, 2] .sk rfl, h1]
    try simp only [NM, EE] at hJ
    exact hJ
noncomputable def f33_r_s1_g0_b (k : Nat) (x0 : List Int) (x5 : Int) (x6 : Int) (x37 : Bool) : Option R33_r_s1 :=
  cond ((x6 == ((List.length x0) : Int)))
    (some (R33_r_s1.o0 0 0 7))
    (f33_r_s1_j2 k x0 x5 x6 false)
theorem f33_r_s1_g0_b_ok (k : Nat) (x0 : List Int) (x5 : Int) (x6 : Int) (x37 : Bool) (r : R33_r_s1) (hF : f33_r_s1_g0_b k x0 x5 x6 x37 = some r) : EL 33 k 0 (nav B33 [1, 2]) ({ n := 40, F := [(0, V.sl 1 (rowsOf (encI .u8) x0)), (5, V.p (Value.int .u64 x5)), (6, V.p (Value.int .i64 x6)), (37, V.p (Value.bool x37))], M := [] } : St) = some r.st := by
  unfold f33_r_s1_g0_b at hF
  simp (maxSteps := 999999) (disch := first | exact D (by decide) | exact K (by kernel_rfl)) only [EA, EE, EG, EF, ED, ofVal, ofVal1, ofCell, lenV, aggEqV, cellEq, intBin, isShift, V.ids, lendV, frz, flatV, cellsOf, addOff, firstReg, oneOf, cellsAt, isAggD, isPure, ↓reduceIte, reduceCtorEq, Nat.reduceAdd, Nat.reduceSub, Nat.reduceMul, Nat.reduceLeDiff, Nat.reduceEqDiff, Nat.reduceBEq, Int.reduceToNat, Int.reduceLE, Int.reduceLT, Nat.reduceLT, Int.reduceBEq, Int.reduceBNe, Int.reduceEq, String.reduceEq, y33_2_1_0, xk B33 [2, 2, 2, 1, 2] .sq rfl, xk B33 [1, 2, 2, 2, 1, 2] .sq rfl, show (nav B33 [1, 1, 2, 2, 2, 1, 2]) = Code.region 4 _ false from rfl, hk_33_4, hz_33_4, hs_33_4, u_23, i_23, is_23, ib_23, iz_23, xk B33 [2, 1, 2, 2, 2, 1, 2] (.cd 20) rfl]
  replace hF := cond_some hF
  rcases hF with ⟨h1, hF⟩ | ⟨h1, hF⟩
  · cases hF
    simp (maxSteps := 999999) (disch := first | exact D (by decide) | exact K (by kernel_rfl)) only [EA, EE, EG, EF, ED, ofVal, ofVal1, ofCell, lenV, aggEqV, cellEq, intBin, isShift, V.ids, lendV, frz, flatV, cellsOf, addOff, firstReg, oneOf, cellsAt, isAggD, isPure, ↓reduceIte, reduceCtorEq, Nat.reduceAdd, Nat.reduceSub, Nat.reduceMul, Nat.reduceLeDiff, Nat.reduceEqDiff, Nat.reduceBEq, Int.reduceToNat, Int.reduceLE, Int.reduceLT, Nat.reduceLT, Int.reduceBEq, Int.reduceBNe, Int.reduceEq, String.reduceEq, xk B33 [2, 2, 1, 2, 2, 2, 1, 2] .sq rfl, show (nav B33 [1, 2, 2, 1, 2, 2, 2, 1, 2]) = Code.region 5 _ false from rfl, hk_33_5, hz_33_5, hs_33_5, xk B33 [2, 2, 2, 1, 2, 2, 2, 1, 2] .rt rfl, R33_r_s1.st, h1]
  · have hJ := f33_r_s1_j2_ok k x0 x5 x6 false _ hF
    simp (maxSteps := 999999) (disch := first | exact D (by decide) | exact K (by kernel_rfl)) only [EA, EE, EG, EF, ED, ofVal, ofVal1, ofCell, lenV, aggEqV, cellEq, intBin, isShift, V.ids, lendV, frz, flatV, cellsOf, addOff, firstReg, oneOf, cellsAt, isAggD, isPure, ↓reduceIte, reduceCtorEq, Nat.reduceAdd, Nat.reduceSub, Nat.reduceMul, Nat.reduceLeDiff, Nat.reduceEqDiff, Nat.reduceBEq, Int.reduceToNat, Int.reduceLE, Int.reduceLT, Nat.reduceLT, Int.reduceBEq, Int.reduceBNe, Int.reduceEq, String.reduceEq, xk B33 [3, 2, 1, 2, 2, 2, 1, 2] .sk rfl, h1]
    try simp only [NM, EE] at hJ
    exact hJ
noncomputable def f33_r_s1_g0 (k : Nat) : Nat → (List Int) → Int → Int → Bool → Option R33_r_s1
  | 0, _, _, _, _ => none
  | n + 1, x0, x5, x6, x37 => Option.bind (f33_r_s1_g0_b k x0 x5 x6 x37) fun o =>
    match o with
    | .o0 y y_1 y_2 => some (.o0 y y_1 y_2)
    | .o1 y y_1 y_2 y_3 => f33_r_s1_g0 k n y y_1 y_2 y_3
theorem f33_r_s1_g0_ok (k : Nat) (n : Nat) : ∀ (x0 : List Int) (x5 : Int) (x6 : Int) (x37 : Bool) (r : R33_r_s1) (hF : f33_r_s1_g0 k n x0 x5 x6 x37 = some r), JK 33 k (nav B33 [1, 2]) n (some (.goto 0, ({ n := 40, F := [(0, V.sl 1 (rowsOf (encI .u8) x0)), (5, V.p (Value.int .u64 x5)), (6, V.p (Value.int .i64 x6)), (37, V.p (Value.bool x37))], M := [] } : St))) = some r.st := by
  induction n with
  | zero => intro x0 x5 x6 x37 r hF; cases hF
  | succ n ih =>
    intro x0 x5 x6 x37 r hF
    rw [f33_r_s1_g0] at hF
    obtain ⟨o, h, hF⟩ := Option.bind_eq_some_iff.1 hF
    unfold JK at ih ⊢
    rw [jumpsK_goto, (show exec _ _ _ _ _ _ _ _ = _ from f33_r_s1_g0_b_ok k x0 x5 x6 x37 o h)]
    cases o with
    | o0 y y_1 y_2 => cases hF; simp only [R33_r_s1.st, jumpsK_norm, jumpsK_ret, jumpsK_exit]
    | o1 y y_1 y_2 y_3 => exact ih y y_1 y_2 y_3 r hF
noncomputable def f33_r_s1 (k : Nat) (x0 : List Int) : Option R33_r_s1 := Option.bind (f33_r_s1_b k x0) fun o =>
  match o with
  | .o0 y y_1 y_2 => some (.o0 y y_1 y_2)
  | .o1 y y_1 y_2 y_3 => f33_r_s1_g0 k k y y_1 y_2 y_3
theorem f33_r_s1_ok (k : Nat) (x0 : List Int) (r : R33_r_s1) (hF : f33_r_s1 k x0 = some r) : EX 33 k (nav B33 [2]) ({ n := 40, F := [(0, V.sl 1 (rowsOf (encI .u8) x0))], M := [] } : St) = some r.st := by
  unfold f33_r_s1 at hF
  obtain ⟨o, h, hF⟩ := Option.bind_eq_some_iff.1 hF
  unfold EX
  rw [show (nav B33 [2]) = Code.scope (nav B33 [1, 2]) from rfl, ev_scope, (show exec _ _ _ _ _ _ _ _ = _ from f33_r_s1_b_ok k x0 o h)]
  cases o with
  | o0 y y_1 y_2 => cases hF; simp only [R33_r_s1.st, jumpsK_norm, jumpsK_ret, jumpsK_exit]
  | o1 y y_1 y_2 y_3 => exact f33_r_s1_g0_ok k k y y_1 y_2 y_3 r hF
noncomputable def f33_r_e (k : Nat) (a0 : List Int) : Option R33_r :=
  Option.bind (f33_r_s1 k a0) fun o1 =>
    match o1 with
    | .o0 v4 v5 v6 =>
      some (R33_r.o0 v4 v5 v6)
    | .o1 _ _ _ _ =>
      none  -- no way out
theorem f33_r_e_ok (k : Nat) (a0 : List Int) (r : R33_r) (hF : f33_r_e k a0 = some r) : finK Try.prog Try.f33 0 (EX 33 k (nav B33 []) ({ n := 40, F := [(0, V.sl 1 (rowsOf (encI .u8) a0))], M := [] } : St)) = some r.st := by
  unfold f33_r_e at hF
  simp (maxSteps := 999999) (disch := first | exact D (by decide) | exact K (by kernel_rfl)) only [EA, EE, EG, EF, ED, ofVal, ofVal1, ofCell, lenV, aggEqV, cellEq, intBin, isShift, V.ids, lendV, frz, flatV, cellsOf, addOff, firstReg, oneOf, cellsAt, isAggD, isPure, ↓reduceIte, reduceCtorEq, Nat.reduceAdd, Nat.reduceSub, Nat.reduceMul, Nat.reduceLeDiff, Nat.reduceEqDiff, Nat.reduceBEq, Int.reduceToNat, Int.reduceLE, Int.reduceLT, Nat.reduceLT, Int.reduceBEq, Int.reduceBNe, Int.reduceEq, String.reduceEq, xk B33 [] .sq rfl, show (nav B33 [1]) = Code.region 0 _ false from rfl, hk_33_0, hz_33_0, hs_33_0]
  replace hF := Option.bind_eq_some_iff.1 hF
  obtain ⟨o1, h2, hF⟩ := hF
  have hc3 := f33_r_s1_ok k a0 _ h2
  cases o1 with
  | o0 v4 v5 v6 =>
    (try dsimp only at hF)
    (try simp only [NM, EE, R33_r_s1.st] at hc3)
    cases hF
    simp (maxSteps := 999999) (disch := first | exact D (by decide) | exact K (by kernel_rfl)) only [EA, EE, EG, EF, ED, ofVal, ofVal1, ofCell, lenV, aggEqV, cellEq, intBin, isShift, V.ids, lendV, frz, flatV, cellsOf, addOff, firstReg, oneOf, cellsAt, isAggD, isPure, ↓reduceIte, reduceCtorEq, Nat.reduceAdd, Nat.reduceSub, Nat.reduceMul, Nat.reduceLeDiff, Nat.reduceEqDiff, Nat.reduceBEq, Int.reduceToNat, Int.reduceLE, Int.reduceLT, Nat.reduceLT, Int.reduceBEq, Int.reduceBNe, Int.reduceEq, String.reduceEq, R33_r_s1.st, finK_norm, finK_ret, fin33, R33_r.st, hc3]
  | o1 _ _ _ _ =>
    (try dsimp only at hF)
    (try simp only [NM, EE, R33_r_s1.st] at hc3)
    cases hF
noncomputable def f33_r (k : Nat) (a0 : List Int) : Option R33_r := match k with | 0 => none | k + 1 => f33_r_e k a0
theorem f33_r_ok (k : Nat) (a0 : List Int) (r : R33_r) (hF : f33_r k a0 = some r) : CV k 33 [V.sl 1 (rowsOf (encI .u8) a0)] [] = some r.st := by
  cases k with
  | zero => cases hF
  | succ k =>
    unfold CV
    rw [ev_call (F := Try.f33) (c := (nav B33 [])) rfl Try.func33 rfl rfl rfl]
    exact f33_r_e_ok k a0 r hF
-- f25_p_brb: f25 (*heliograph/segment.reader).get
inductive R25_p_brb where
  | o0 (y : Int) (y_1 : List Int) (y_2 : Bool)
noncomputable def R25_p_brb.st : R25_p_brb → V × List O × List O
  | .o0 y y_1 y_2 => (V.p (Value.int .i64 y), [O.box 57 [V.sl 1 (rowsOf (encI .u8) y_1), V.p (Value.bool y_2)]], [])
noncomputable def f25_p_brb_j1 (k : Nat) (x3 : Int) (x4 : Int) (x33 : Bool) (e0 : List Int) (e0_1 : Bool) : Option R25_p_brb :=
  ifE ((0 : Int) ≤ x4) (
    ifE ((Int.toNat x4) ≤ (List.length e0)) (
      some (R25_p_brb.o0 (IntKind.i64.wrap x3) ((List.drop (Int.toNat x4) (List.take (List.length e0) e0))) e0_1)))
theorem f25_p_brb_j1_ok (k : Nat) (x3 : Int) (x4 : Int) (x33 : Bool) (e0 : List Int) (e0_1 : Bool) (r : R25_p_brb) (hF : f25_p_brb_j1 k x3 x4 x33 e0 e0_1 = some r) : finK Try.prog Try.f25 1 (EX 25 k (nav B25 [2, 2, 2]) ({ n := 45, F := [(0, V.ptr 1000000 0), (3, V.p (Value.int .u64 x3)), (4, V.p (Value.int .i64 x4)), (33, V.p (Value.bool x33))], M := [(1000000, O.box 57 [V.sl 1 (rowsOf (encI .u8) e0), V.p (Value.bool e0_1)])] } : St)) = some r.st := by
  unfold f25_p_brb_j1 at hF
  replace hF := ifE_some.1 hF
  obtain ⟨h1, hF⟩ := hF
  replace hF := ifE_some.1 hF
  obtain ⟨h2, hF⟩ := hF
  cases hF
  simp (maxSteps := 999999) (disch := first | exact D (by decide) | exact K (by kernel_rfl)) only [EA, EE, EG, EF, ED, ofVal, ofVal1, ofCell, lenV, aggEqV, cellEq, intBin, isShift, V.ids, lendV, frz, flatV, cellsOf, addOff, firstReg, oneOf, cellsAt, isAggD, isPure, ↓reduceIte, reduceCtorEq, Nat.reduceAdd, Nat.reduceSub, Nat.reduceMul, Nat.reduceLeDiff, Nat.reduceEqDiff, Nat.reduceBEq, Int.reduceToNat, Int.reduceLE, Int.reduceLT, Nat.reduceLT, Int.reduceBEq, Int.reduceBNe, Int.reduceEq, String.reduceEq, xk B25 [2, 2, 2] .sq rfl, show (nav B25 [1, 2, 2, 2]) = Code.region 5 _ false from rfl, hk_25_5, hz_25_5, hs_25_5, fieldAddrV, u_57, i_57, is_57, ib_57, iz_57, u_23, i_23, is_23, ib_23, iz_23, sliceV, bound, u_5, i_5, is_5, ib_5, iz_5, xk B25 [2, 2, 2, 2] .sq rfl, show (nav B25 [1, 2, 2, 2, 2]) = Code.region 6 _ false from rfl, hk_25_6, hz_25_6, hs_25_6, u_65, i_65, is_65, ib_65, iz_65, u_3, i_3, is_3, ib_3, iz_3, convV, xk B25 [2, 2, 2, 2, 2] .rt rfl, finK_norm, finK_ret, fin25, R25_p_brb.st, h1, h2]
noncomputable def f25_p_brb_e (k : Nat) (e0 : List Int) (e0_1 : Bool) : Option R25_p_brb :=
  Option.bind (f33_r k e0) fun o1 =>
    match o1 with
    | .o0 v4 v5 v6 =>
      cond (e0_1)
        (some (R25_p_brb.o0 0 e0 true))
        (
          cond ((v6 != 0))
            (some (R25_p_brb.o0 0 e0 true))
            (
              cond ((decide (v4 ≥ 4294967296)))
                (some (R25_p_brb.o0 0 e0 true))
                (f25_p_brb_j1 k v4 v5 false e0 false)))
theorem f25_p_brb_e_ok (k : Nat) (e0 : List Int) (e0_1 : Bool) (r : R25_p_brb) (hF : f25_p_brb_e k e0 e0_1 = some r) : finK Try.prog Try.f25 1 (EX 25 k (nav B25 []) ({ n := 45, F := [(0, V.ptr 1000000 0)], M := [(1000000, O.box 57 [V.sl 1 (rowsOf (encI .u8) e0), V.p (Value.bool e0_1)])] } : St)) = some r.st := by
  unfold f25_p_brb_e at hF
  replace hF := Option.bind_eq_some_iff.1 hF
  obtain ⟨o1, h2, hF⟩ := hF
  have hc3 := f33_r_ok k e0 _ h2
  cases o1 with
  | o0 v4 v5 v6 =>
    (try dsimp only at hF)
    (try simp only [NM, EE, R33_r.st] at hc3)
    simp (maxSteps := 999999) (disch := first | exact D (by decide) | exact K (by kernel_rfl)) only [EA, EE, EG, EF, ED, ofVal, ofVal1, ofCell, lenV, aggEqV, cellEq, intBin, isShift, V.ids, lendV, frz, flatV, cellsOf, addOff, firstReg, oneOf, cellsAt, isAggD, isPure, ↓reduceIte, reduceCtorEq, Nat.reduceAdd, Nat.reduceSub, Nat.reduceMul, Nat.reduceLeDiff, Nat.reduceEqDiff, Nat.reduceBEq, Int.reduceToNat, Int.reduceLE, Int.reduceLT, Nat.reduceLT, Int.reduceBEq, Int.reduceBNe, Int.reduceEq, String.reduceEq, xk B25 [] .sq rfl, show (nav B25 [1]) = Code.region 0 _ false from rfl, hk_25_0, hz_25_0, hs_25_0, xk B25 [2] .sq rfl, show (nav B25 [1, 2]) = Code.region 1 _ false from rfl, hk_25_1, hz_25_1, hs_25_1, fieldAddrV, u_57, i_57, is_57, ib_57, iz_57, u_23, i_23, is_23, ib_23, iz_23, callStep, calleeOf, gv, List.contains, xk B25 [2, 2] .sq rfl, xk B25 [1, 2, 2] .sq rfl, show (nav B25 [1, 1, 2, 2]) = Code.region 2 _ false from rfl, hk_25_2, hz_25_2, hs_25_2, u_4, i_4, is_4, ib_4, iz_4, hc3]
    replace hF := cond_some hF
    rcases hF with ⟨h7, hF⟩ | ⟨h7, hF⟩
    · cases hF
      simp (maxSteps := 999999) (disch := first | exact D (by decide) | exact K (by kernel_rfl)) only [EA, EE, EG, EF, ED, ofVal, ofVal1, ofCell, lenV, aggEqV, cellEq, intBin, isShift, V.ids, lendV, frz, flatV, cellsOf, addOff, firstReg, oneOf, cellsAt, isAggD, isPure, ↓reduceIte, reduceCtorEq, Nat.reduceAdd, Nat.reduceSub, Nat.reduceMul, Nat.reduceLeDiff, Nat.reduceEqDiff, Nat.reduceBEq, Int.reduceToNat, Int.reduceLE, Int.reduceLT, Nat.reduceLT, Int.reduceBEq, Int.reduceBNe, Int.reduceEq, String.reduceEq, fieldAddrV, u_57, i_57, is_57, ib_57, iz_57, u_4, i_4, is_4, ib_4, iz_4, xk B25 [2, 1, 2, 2] .sq rfl, show (nav B25 [1, 2, 1, 2, 2]) = Code.region 3 _ false from rfl, hk_25_3, hz_25_3, hs_25_3, xk B25 [2, 2, 1, 2, 2] (.cd 33) rfl, xk B25 [2, 2, 2, 1, 2, 2] .sq rfl, show (nav B25 [1, 2, 2, 2, 1, 2, 2]) = Code.region 4 _ false from rfl, hk_25_4, hz_25_4, hs_25_4, xk B25 [2, 2, 2, 2, 1, 2, 2] .rt rfl, finK_norm, finK_ret, fin25, R25_p_brb.st, hc3, h7]
    · replace hF := cond_some hF
      rcases hF with ⟨h8, hF⟩ | ⟨h8, hF⟩
      · cases hF
        simp (maxSteps := 999999) (disch := first | exact D (by decide) | exact K (by kernel_rfl)) only [EA, EE, EG, EF, ED, ofVal, ofVal1, ofCell, lenV, aggEqV, cellEq, intBin, isShift, V.ids, lendV, frz, flatV, cellsOf, addOff, firstReg, oneOf, cellsAt, isAggD, isPure, ↓reduceIte, reduceCtorEq, Nat.reduceAdd, Nat.reduceSub, Nat.reduceMul, Nat.reduceLeDiff, Nat.reduceEqDiff, Nat.reduceBEq, Int.reduceToNat, Int.reduceLE, Int.reduceLT, Nat.reduceLT, Int.reduceBEq, Int.reduceBNe, Int.reduceEq, String.reduceEq, fieldAddrV, u_57, i_57, is_57, ib_57, iz_57, u_4, i_4, is_4, ib_4, iz_4, xk B25 [2, 1, 2, 2] .sq rfl, show (nav B25 [1, 2, 1, 2, 2]) = Code.region 3 _ false from rfl, hk_25_3, hz_25_3, hs_25_3, xk B25 [2, 2, 1, 2, 2] (.cd 33) rfl, xk B25 [2, 2, 2, 1, 2, 2] .sq rfl, show (nav B25 [1, 2, 2, 2, 1, 2, 2]) = Code.region 4 _ false from rfl, hk_25_4, hz_25_4, hs_25_4, xk B25 [2, 2, 2, 2, 1, 2, 2] .rt rfl, finK_norm, finK_ret, fin25, R25_p_brb.st, hc3, h7, h8]
      · simp (maxSteps := 999999) (disch := first | exact D (by decide) | exact K (by kernel_rfl)) only [EA, EE, EG, EF, ED, ofVal, ofVal1, ofCell, lenV, aggEqV, cellEq, intBin, isShift, V.ids, lendV, frz, flatV, cellsOf, addOff, firstReg, oneOf, cellsAt, isAggD, isPure, ↓reduceIte, reduceCtorEq, Nat.reduceAdd, Nat.reduceSub, Nat.reduceMul, Nat.reduceLeDiff, Nat.reduceEqDiff, Nat.reduceBEq, Int.reduceToNat, Int.reduceLE, Int.reduceLT, Nat.reduceLT, Int.reduceBEq, Int.reduceBNe, Int.reduceEq, String.reduceEq, fieldAddrV, u_57, i_57, is_57, ib_57, iz_57, u_4, i_4, is_4, ib_4, iz_4, xk B25 [2, 1, 2, 2] .sq rfl, show (nav B25 [1, 2, 1, 2, 2]) = Code.region 3 _ false from rfl, hk_25_3, hz_25_3, hs_25_3, xk B25 [2, 2, 1, 2, 2] (.cd 33) rfl, hc3, h7, h8]
        replace hF := cond_some hF
        rcases hF with ⟨h9, hF⟩ | ⟨h9, hF⟩
        · cases hF
          simp (maxSteps := 999999) (disch := first | exact D (by decide) | exact K (by kernel_rfl)) only [EA, EE, EG, EF, ED, ofVal, ofVal1, ofCell, lenV, aggEqV, cellEq, intBin, isShift, V.ids, lendV, frz, flatV, cellsOf, addOff, firstReg, oneOf, cellsAt, isAggD, isPure, ↓reduceIte, reduceCtorEq, Nat.reduceAdd, Nat.reduceSub, Nat.reduceMul, Nat.reduceLeDiff, Nat.reduceEqDiff, Nat.reduceBEq, Int.reduceToNat, Int.reduceLE, Int.reduceLT, Nat.reduceLT, Int.reduceBEq, Int.reduceBNe, Int.reduceEq, String.reduceEq, xk B25 [2, 2, 2, 1, 2, 2] .sq rfl, show (nav B25 [1, 2, 2, 2, 1, 2, 2]) = Code.region 4 _ false from rfl, hk_25_4, hz_25_4, hs_25_4, xk B25 [2, 2, 2, 2, 1, 2, 2] .rt rfl, finK_norm, finK_ret, fin25, R25_p_brb.st, hc3, h7, h8, h9]
        · have hJ := f25_p_brb_j1_ok k v4 v5 false e0 false _ hF
          simp (maxSteps := 999999) (disch := first | exact D (by decide) | exact K (by kernel_rfl)) only [EA, EE, EG, EF, ED, ofVal, ofVal1, ofCell, lenV, aggEqV, cellEq, intBin, isShift, V.ids, lendV, frz, flatV, cellsOf, addOff, firstReg, oneOf, cellsAt, isAggD, isPure, ↓reduceIte, reduceCtorEq, Nat.reduceAdd, Nat.reduceSub, Nat.reduceMul, Nat.reduceLeDiff, Nat.reduceEqDiff, Nat.reduceBEq, Int.reduceToNat, Int.reduceLE, Int.reduceLT, Nat.reduceLT, Int.reduceBEq, Int.reduceBNe, Int.reduceEq, String.reduceEq, xk B25 [3, 2, 2, 1, 2, 2] .sk rfl, hc3, h7, h8, h9]
          try simp only [NM, EE] at hJ
          exact hJ
noncomputable def f25_p_brb (k : Nat) (e0 : List Int) (e0_1 : Bool) : Option R25_p_brb := match k with | 0 => none | k + 1 => f25_p_brb_e k e0 e0_1
theorem f25_p_brb_ok (k : Nat) (e0 : List Int) (e0_1 : Bool) (r : R25_p_brb) (hF : f25_p_brb k e0 e0_1 = some r) : CV k 25 [V.ptr 1000000 0] [O.box 57 [V.sl 1 (rowsOf (encI .u8) e0), V.p (Value.bool e0_1)]] = some r.st := by
  cases k with
  | zero => cases hF
  | succ k =>
    unfold CV
    rw [ev_call (F := Try.f25) (c := (nav B25 [])) rfl Try.func25 rfl rfl rfl]
    exact f25_p_brb_e_ok k e0 e0_1 r hF
end Go.Proofs.YthjefcamonmjpaaV
