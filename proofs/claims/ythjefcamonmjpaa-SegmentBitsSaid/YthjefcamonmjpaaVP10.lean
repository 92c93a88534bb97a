/- What the program's functions answer: plain functions, and that the interpreter answers what they do. Written by a program of this session, out of the translation. -/
import Derived.Test.YthjefcamonmjpaaVP9
namespace Go.Proofs.YthjefcamonmjpaaV
open Go
set_option linter.unusedVariables false
set_option linter.unusedSimpArgs false
set_option maxRecDepth 8000
set_option maxHeartbeats 4000000
-- f4_ai10brrzi: f4 heliograph/heliographlaw10.SegmentBits
inductive R4_ai10brrzi where
  | o0 (y : Bool)
noncomputable def R4_ai10brrzi.st : R4_ai10brrzi → V × List O × List O
  | .o0 y => (V.p (Value.bool y), [], [])
noncomputable def f4_ai10brrzi_j2 (k : Nat) (x1 : Int) (x19 : Bool) (m15 : List Int) : Option R4_ai10brrzi :=
  ifE (¬ (IntKind.u64.wrap (IntKind.i64.wrap ((8 : Int) * ((List.length m15) : Int)))) = 0) (
    ifE ((0 : Int) ≤ (IntKind.i64.wrap (Int.tdiv (IntKind.i64.wrap (Int.tmod (IntKind.u64.wrap x1) (IntKind.u64.wrap (IntKind.i64.wrap ((8 : Int) * ((List.length m15) : Int)))))) (8 : Int)))) (
      ifE ((IntKind.i64.wrap (Int.tdiv (IntKind.i64.wrap (Int.tmod (IntKind.u64.wrap x1) (IntKind.u64.wrap (IntKind.i64.wrap ((8 : Int) * ((List.length m15) : Int)))))) (8 : Int))) < ((List.length m15) : Int)) (
        Option.bind (m15[(Int.toNat ((IntKind.i64.wrap (Int.tdiv (IntKind.i64.wrap (Int.tmod (IntKind.u64.wrap x1) (IntKind.u64.wrap (IntKind.i64.wrap ((8 : Int) * ((List.length m15) : Int)))))) (8 : Int)))))]?) fun v4 =>
          ifE (¬ (Int.tmod (IntKind.i64.wrap (Int.tmod (IntKind.u64.wrap x1) (IntKind.u64.wrap (IntKind.i64.wrap ((8 : Int) * ((List.length m15) : Int)))))) (8 : Int)) < 0) (
            Option.bind (f13_r k ((List.set m15 ((Int.toNat ((IntKind.i64.wrap (Int.tdiv (IntKind.i64.wrap (Int.tmod (IntKind.u64.wrap x1) (IntKind.u64.wrap (IntKind.i64.wrap ((8 : Int) * ((List.length m15) : Int)))))) (8 : Int)))))) ((IntKind.u8.wrap ((BitVec.ofInt (IntKind.bits .u8) v4 ^^^ BitVec.ofInt (IntKind.bits .u8) (Int.fdiv (128 : Int) (2 ^ (min (Int.toNat ((Int.tmod (IntKind.i64.wrap (Int.tmod (IntKind.u64.wrap x1) (IntKind.u64.wrap (IntKind.i64.wrap ((8 : Int) * ((List.length m15) : Int)))))) (8 : Int)))) (IntKind.bits .u8))))).toNat : Nat)))))) fun o9 =>
              match o9 with
              | .o0 v12 v13 v14 v15 v16 v17 v18 v19 v20 v21 v22 v23 v24 v25 =>
                cond ((v24 == 130))
                  (
                    Option.bind (f9_ai10brrzai10bnnz k v12 v13 v14 v15 v16 v17 v18 v19 v20 v21 v22 v23 v25 0 0 0 0 0 0 0 0 0 0 false) fun o27 =>
                      match o27 with
                      | .o0 v30 =>
                        some (R4_ai10brrzi.o0 v30))
                  (some (R4_ai10brrzi.o0 false))
              | .o1 v31 v32 v33 v34 v35 v36 v37 v38 v39 v40 v41 v42 v43 v44 =>
                cond ((v42 == 130))
                  (
                    Option.bind (f9_ai10brrzai10bnnz k v31 v32 v33 v34 v35 v36 v37 v38 v39 v40 v41 v43 v44 0 0 0 0 0 0 0 0 0 0 false) fun o46 =>
                      match o46 with
                      | .o0 v49 =>
                        some (R4_ai10brrzi.o0 v49))
                  (some (R4_ai10brrzi.o0 false))))))
theorem f4_ai10brrzi_j2_ok (k : Nat) (x1 : Int) (x19 : Bool) (m15 : List Int) (r : R4_ai10brrzi) (hF : f4_ai10brrzi_j2 k x1 x19 m15 = some r) : finK Try.prog Try.f4 0 (EX 4 k (nav B4 [2, 2, 2, 2]) ({ n := 53, F := [(1, V.p (Value.int .i64 x1)), (5, V.own 15), (19, V.p (Value.bool x19))], M := [(15, O.row true 1 5 (rowsOf (encI .u8) m15))] } : St)) = some r.st := by
  unfold f4_ai10brrzi_j2 at hF
  replace hF := ifE_some.1 hF
  obtain ⟨h1, hF⟩ := hF
  replace hF := ifE_some.1 hF
  obtain ⟨h2, hF⟩ := hF
  replace hF := ifE_some.1 hF
  obtain ⟨h3, hF⟩ := hF
  replace hF := Option.bind_eq_some_iff.1 hF
  obtain ⟨v4, h5, hF⟩ := hF
  replace hF := ifE_some.1 hF
  obtain ⟨h7, hF⟩ := hF
  have q8 : List.set (rowsOf (encI .u8) m15) ((Int.toNat ((IntKind.i64.wrap (Int.tdiv (IntKind.i64.wrap (Int.tmod (IntKind.u64.wrap x1) (IntKind.u64.wrap (IntKind.i64.wrap ((8 : Int) * ((List.length m15) : Int)))))) (8 : Int)))))) [V.p (Value.int .u8 (IntKind.u8.wrap ((BitVec.ofInt (IntKind.bits .u8) v4 ^^^ BitVec.ofInt (IntKind.bits .u8) (Int.fdiv (128 : Int) (2 ^ (min (Int.toNat ((Int.tmod (IntKind.i64.wrap (Int.tmod (IntKind.u64.wrap x1) (IntKind.u64.wrap (IntKind.i64.wrap ((8 : Int) * ((List.length m15) : Int)))))) (8 : Int)))) (IntKind.bits .u8))))).toNat : Nat)))] = rowsOf (encI .u8) (List.set m15 ((Int.toNat ((IntKind.i64.wrap (Int.tdiv (IntKind.i64.wrap (Int.tmod (IntKind.u64.wrap x1) (IntKind.u64.wrap (IntKind.i64.wrap ((8 : Int) * ((List.length m15) : Int)))))) (8 : Int)))))) ((IntKind.u8.wrap ((BitVec.ofInt (IntKind.bits .u8) v4 ^^^ BitVec.ofInt (IntKind.bits .u8) (Int.fdiv (128 : Int) (2 ^ (min (Int.toNat ((Int.tmod (IntKind.i64.wrap (Int.tmod (IntKind.u64.wrap x1) (IntKind.u64.wrap (IntKind.i64.wrap ((8 : Int) * ((List.length m15) : Int)))))) (8 : Int)))) (IntKind.bits .u8))))).toNat : Nat)))) := (rowsOf_set (enc := (encI .u8)) (l := m15) (i := ((Int.toNat ((IntKind.i64.wrap (Int.tdiv (IntKind.i64.wrap (Int.tmod (IntKind.u64.wrap x1) (IntKind.u64.wrap (IntKind.i64.wrap ((8 : Int) * ((List.length m15) : Int)))))) (8 : Int))))))) (x := (IntKind.u8.wrap ((BitVec.ofInt (IntKind.bits .u8) v4 ^^^ BitVec.ofInt (IntKind.bits .u8) (Int.fdiv (128 : Int) (2 ^ (min (Int.toNat ((Int.tmod (IntKind.i64.wrap (Int.tmod (IntKind.u64.wrap x1) (IntKind.u64.wrap (IntKind.i64.wrap ((8 : Int) * ((List.length m15) : Int)))))) (8 : Int)))) (IntKind.bits .u8))))).toNat : Nat)))).symm
  simp (maxSteps := 999999) (disch := first | exact D (by decide) | exact K (by kernel_rfl)) only [EA, EE, EG, EF, ED, ofVal, ofVal1, ofCell, lenV, aggEqV, cellEq, intBin, isShift, V.ids, lendV, frz, flatV, cellsOf, addOff, firstReg, oneOf, cellsAt, isAggD, isPure, ↓reduceIte, reduceCtorEq, Nat.reduceAdd, Nat.reduceSub, Nat.reduceMul, Nat.reduceLeDiff, Nat.reduceEqDiff, Nat.reduceBEq, Int.reduceToNat, Int.reduceLE, Int.reduceLT, Nat.reduceLT, Int.reduceBEq, Int.reduceBNe, Int.reduceEq, String.reduceEq, xk B4 [2, 2, 2, 2] .sq rfl, show (nav B4 [1, 2, 2, 2, 2]) = Code.region 6 _ false from rfl, hk_4_6, hz_4_6, hs_4_6, u_3, i_3, is_3, ib_3, iz_3, u_33, i_33, is_33, ib_33, iz_33, convV, u_23, i_23, is_23, ib_23, iz_23, xk B4 [2, 2, 2, 2, 2] .sq rfl, show (nav B4 [1, 2, 2, 2, 2, 2]) = Code.region 7 _ true from rfl, hk_4_7, hz_4_7, hs_4_7, indexAddrV, u_5, i_5, is_5, ib_5, iz_5, encI_eq, shiftV, sm_5, xk B4 [2, 2, 2, 2, 2, 2] .sq rfl, show (nav B4 [1, 2, 2, 2, 2, 2, 2]) = Code.region 8 _ false from rfl, hk_4_8, hz_4_8, hs_4_8, callStep, calleeOf, gv, List.contains, h1, h2, h3, h5, h7, q8]
  replace hF := Option.bind_eq_some_iff.1 hF
  obtain ⟨o9, h10, hF⟩ := hF
  have hc11 := f13_r_ok k ((List.set m15 ((Int.toNat ((IntKind.i64.wrap (Int.tdiv (IntKind.i64.wrap (Int.tmod (IntKind.u64.wrap x1) (IntKind.u64.wrap (IntKind.i64.wrap ((8 : Int) * ((List.length m15) : Int)))))) (8 : Int)))))) ((IntKind.u8.wrap ((BitVec.ofInt (IntKind.bits .u8) v4 ^^^ BitVec.ofInt (IntKind.bits .u8) (Int.fdiv (128 : Int) (2 ^ (min (Int.toNat ((Int.tmod (IntKind.i64.wrap (Int.tmod (IntKind.u64.wrap x1) (IntKind.u64.wrap (IntKind.i64.wrap ((8 : Int) * ((List.length m15) : Int)))))) (8 : Int)))) (IntKind.bits .u8))))).toNat : Nat))))) _ h10
  cases o9 with
  | o0 v12 v13 v14 v15 v16 v17 v18 v19 v20 v21 v22 v23 v24 v25 =>
    (try dsimp only at hF)
    (try simp only [NM, EE, R13_r.st] at hc11)
    simp (maxSteps := 999999) (disch := first | exact D (by decide) | exact K (by kernel_rfl)) only [EA, EE, EG, EF, ED, ofVal, ofVal1, ofCell, lenV, aggEqV, cellEq, intBin, isShift, V.ids, lendV, frz, flatV, cellsOf, addOff, firstReg, oneOf, cellsAt, isAggD, isPure, ↓reduceIte, reduceCtorEq, Nat.reduceAdd, Nat.reduceSub, Nat.reduceMul, Nat.reduceLeDiff, Nat.reduceEqDiff, Nat.reduceBEq, Int.reduceToNat, Int.reduceLE, Int.reduceLT, Nat.reduceLT, Int.reduceBEq, Int.reduceBNe, Int.reduceEq, String.reduceEq, u_26, i_26, is_26, ib_26, iz_26, xk B4 [2, 2, 2, 2, 2, 2, 2] .sq rfl, show (nav B4 [1, 2, 2, 2, 2, 2, 2, 2]) = Code.region 9 _ false from rfl, hk_4_9, hz_4_9, hs_4_9, h1, h2, h3, h5, h7, q8, hc11]
    replace hF := cond_some hF
    rcases hF with ⟨h26, hF⟩ | ⟨h26, hF⟩
    · replace hF := Option.bind_eq_some_iff.1 hF
      obtain ⟨o27, h28, hF⟩ := hF
      have hc29 := f9_ai10brrzai10bnnz_ok k v12 v13 v14 v15 v16 v17 v18 v19 v20 v21 v22 v23 v25 0 0 0 0 0 0 0 0 0 0 false _ h28
      cases o27 with
      | o0 v30 =>
        (try dsimp only at hF)
        (try simp only [NM, EE, R9_ai10brrzai10bnnz.st] at hc29)
        cases hF
        simp (maxSteps := 999999) (disch := first | exact D (by decide) | exact K (by kernel_rfl)) only [EA, EE, EG, EF, ED, ofVal, ofVal1, ofCell, lenV, aggEqV, cellEq, intBin, isShift, V.ids, lendV, frz, flatV, cellsOf, addOff, firstReg, oneOf, cellsAt, isAggD, isPure, ↓reduceIte, reduceCtorEq, Nat.reduceAdd, Nat.reduceSub, Nat.reduceMul, Nat.reduceLeDiff, Nat.reduceEqDiff, Nat.reduceBEq, Int.reduceToNat, Int.reduceLE, Int.reduceLT, Nat.reduceLT, Int.reduceBEq, Int.reduceBNe, Int.reduceEq, String.reduceEq, u_26, i_26, is_26, ib_26, iz_26, bl_26, callStep, calleeOf, gv, List.contains, xk B4 [2, 2, 2, 2, 2, 2, 2, 2] .rt rfl, finK_norm, finK_ret, fin4, R4_ai10brrzi.st, h1, h2, h3, h5, h7, q8, hc11, h26, hc29]
    · cases hF
      simp (maxSteps := 999999) (disch := first | exact D (by decide) | exact K (by kernel_rfl)) only [EA, EE, EG, EF, ED, ofVal, ofVal1, ofCell, lenV, aggEqV, cellEq, intBin, isShift, V.ids, lendV, frz, flatV, cellsOf, addOff, firstReg, oneOf, cellsAt, isAggD, isPure, ↓reduceIte, reduceCtorEq, Nat.reduceAdd, Nat.reduceSub, Nat.reduceMul, Nat.reduceLeDiff, Nat.reduceEqDiff, Nat.reduceBEq, Int.reduceToNat, Int.reduceLE, Int.reduceLT, Nat.reduceLT, Int.reduceBEq, Int.reduceBNe, Int.reduceEq, String.reduceEq, xk B4 [2, 2, 2, 2, 2, 2, 2, 2] .rt rfl, finK_norm, finK_ret, fin4, R4_ai10brrzi.st, h1, h2, h3, h5, h7, q8, hc11, h26]
  | o1 v31 v32 v33 v34 v35 v36 v37 v38 v39 v40 v41 v42 v43 v44 =>
    (try dsimp only at hF)
    (try simp only [NM, EE, R13_r.st] at hc11)
    simp (maxSteps := 999999) (disch := first | exact D (by decide) | exact K (by kernel_rfl)) only [EA, EE, EG, EF, ED, ofVal, ofVal1, ofCell, lenV, aggEqV, cellEq, intBin, isShift, V.ids, lendV, frz, flatV, cellsOf, addOff, firstReg, oneOf, cellsAt, isAggD, isPure, ↓reduceIte, reduceCtorEq, Nat.reduceAdd, Nat.reduceSub, Nat.reduceMul, Nat.reduceLeDiff, Nat.reduceEqDiff, Nat.reduceBEq, Int.reduceToNat, Int.reduceLE, Int.reduceLT, Nat.reduceLT, Int.reduceBEq, Int.reduceBNe, Int.reduceEq, String.reduceEq, u_26, i_26, is_26, ib_26, iz_26, xk B4 [2, 2, 2, 2, 2, 2, 2] .sq rfl, show (nav B4 [1, 2, 2, 2, 2, 2, 2, 2]) = Code.region 9 _ false from rfl, hk_4_9, hz_4_9, hs_4_9, h1, h2, h3, h5, h7, q8, hc11]
    replace hF := cond_some hF
    rcases hF with ⟨h45, hF⟩ | ⟨h45, hF⟩
    · replace hF := Option.bind_eq_some_iff.1 hF
      obtain ⟨o46, h47, hF⟩ := hF
      have hc48 := f9_ai10brrzai10bnnz_ok k v31 v32 v33 v34 v35 v36 v37 v38 v39 v40 v41 v43 v44 0 0 0 0 0 0 0 0 0 0 false _ h47
      cases o46 with
      | o0 v49 =>
        (try dsimp only at hF)
        (try simp only [NM, EE, R9_ai10brrzai10bnnz.st] at hc48)
        cases hF
        simp (maxSteps := 999999) (disch := first | exact D (by decide) | exact K (by kernel_rfl)) only [EA, EE, EG, EF, ED, ofVal, ofVal1, ofCell, lenV, aggEqV, cellEq, intBin, isShift, V.ids, lendV, frz, flatV, cellsOf, addOff, firstReg, oneOf, cellsAt, isAggD, isPure, ↓reduceIte, reduceCtorEq, Nat.reduceAdd, Nat.reduceSub, Nat.reduceMul, Nat.reduceLeDiff, Nat.reduceEqDiff, Nat.reduceBEq, Int.reduceToNat, Int.reduceLE, Int.reduceLT, Nat.reduceLT, Int.reduceBEq, Int.reduceBNe, Int.reduceEq, String.reduceEq, u_26, i_26, is_26, ib_26, iz_26, bl_26, callStep, calleeOf, gv, List.contains, xk B4 [2, 2, 2, 2, 2, 2, 2, 2] .rt rfl, finK_norm, finK_ret, fin4, R4_ai10brrzi.st, h1, h2, h3, h5, h7, q8, hc11, h45, hc48]
    · cases hF
      simp (maxSteps := 999999) (disch := first | exact D (by decide) | exact K (by kernel_rfl)) only [EA, EE, EG, EF, ED, ofVal, ofVal1, ofCell, lenV, aggEqV, cellEq, intBin, isShift, V.ids, lendV, frz, flatV, cellsOf, addOff, firstReg, oneOf, cellsAt, isAggD, isPure, ↓reduceIte, reduceCtorEq, Nat.reduceAdd, Nat.reduceSub, Nat.reduceMul, Nat.reduceLeDiff, Nat.reduceEqDiff, Nat.reduceBEq, Int.reduceToNat, Int.reduceLE, Int.reduceLT, Nat.reduceLT, Int.reduceBEq, Int.reduceBNe, Int.reduceEq, String.reduceEq, xk B4 [2, 2, 2, 2, 2, 2, 2, 2] .rt rfl, finK_norm, finK_ret, fin4, R4_ai10brrzi.st, h1, h2, h3, h5, h7, q8, hc11, h45]
noncomputable def f4_ai10brrzi_j1 (k : Nat) (x1 : Int) (x11 : Bool) (m2 : Int) (m2_1 : Int) (m2_2 : Int) (m2_3 : Int) (m2_4 : Int) (m2_5 : Int) (m2_6 : Int) (m2_7 : Int) (m2_8 : Int) (m2_9 : Int) (m2_10 : Bool) (m2_11 : List Int) (m2_12 : List T45) : Option R4_ai10brrzi :=
  Option.bind (f8_ai10brrz k m2 m2_1 m2_2 m2_3 m2_4 m2_5 m2_6 m2_7 m2_8 m2_9 m2_10 m2_11 m2_12) fun o1 =>
    match o1 with
    | .o0 v4 v5 v6 v7 v8 v9 v10 v11 v12 v13 v14 v15 v16 v17 v18 v19 v20 =>
      ifE ((v15 + v16) ≤ (List.length v19)) (
        ifE ((v17 + v18) ≤ (List.length v20)) (
          Option.bind (f12_ai10brrz k v4 v5 v6 v7 v8 v9 v10 v11 v12 v13 v14 (List.take v16 (List.drop v15 v19)) (List.take v18 (List.drop v17 v20))) fun o23 =>
            match o23 with
            | .o0 v26 v27 =>
              cond ((v26 != 0))
                (some (R4_ai10brrzi.o0 (((List.length v27) : Int) == 0)))
                (f4_ai10brrzi_j2 k x1 false v27)))
theorem f4_ai10brrzi_j1_ok (k : Nat) (x1 : Int) (x11 : Bool) (m2 : Int) (m2_1 : Int) (m2_2 : Int) (m2_3 : Int) (m2_4 : Int) (m2_5 : Int) (m2_6 : Int) (m2_7 : Int) (m2_8 : Int) (m2_9 : Int) (m2_10 : Bool) (m2_11 : List Int) (m2_12 : List T45) (r : R4_ai10brrzi) (hF : f4_ai10brrzi_j1 k x1 x11 m2 m2_1 m2_2 m2_3 m2_4 m2_5 m2_6 m2_7 m2_8 m2_9 m2_10 m2_11 m2_12 = some r) : finK Try.prog Try.f4 0 (EX 4 k (nav B4 [2, 2]) ({ n := 53, F := [(1, V.p (Value.int .i64 x1)), (2, V.ptr 2 0), (11, V.p (Value.bool x11))], M := [(2, O.box 26 [V.p (Value.int .i64 m2), V.p (Value.int .i64 m2_1), V.p (Value.int .u32 m2_2), V.p (Value.int .u32 m2_3), V.p (Value.int .u32 m2_4), V.p (Value.int .i64 m2_5), V.p (Value.int .i64 m2_6), V.p (Value.int .i64 m2_7), V.p (Value.int .i64 m2_8), V.p (Value.int .i64 m2_9), V.p (Value.bool m2_10), V.sl 1 (rowsOf (encI .u8) m2_11), V.sl 2 (rowsOf encT45 m2_12)])] } : St)) = some r.st := by
  unfold f4_ai10brrzi_j1 at hF
  replace hF := Option.bind_eq_some_iff.1 hF
  obtain ⟨o1, h2, hF⟩ := hF
  have hc3 := f8_ai10brrz_ok k m2 m2_1 m2_2 m2_3 m2_4 m2_5 m2_6 m2_7 m2_8 m2_9 m2_10 m2_11 m2_12 _ h2
  cases o1 with
  | o0 v4 v5 v6 v7 v8 v9 v10 v11 v12 v13 v14 v15 v16 v17 v18 v19 v20 =>
    (try dsimp only at hF)
    (try simp only [NM, EE, R8_ai10brrz.st] at hc3)
    replace hF := ifE_some.1 hF
    obtain ⟨h21, hF⟩ := hF
    replace hF := ifE_some.1 hF
    obtain ⟨h22, hF⟩ := hF
    replace hF := Option.bind_eq_some_iff.1 hF
    obtain ⟨o23, h24, hF⟩ := hF
    have hc25 := f12_ai10brrz_ok k v4 v5 v6 v7 v8 v9 v10 v11 v12 v13 v14 (List.take v16 (List.drop v15 v19)) (List.take v18 (List.drop v17 v20)) _ h24
    cases o23 with
    | o0 v26 v27 =>
      (try dsimp only at hF)
      (try simp only [NM, EE, R12_ai10brrz.st] at hc25)
      simp (maxSteps := 999999) (disch := first | exact D (by decide) | exact K (by kernel_rfl)) only [EA, EE, EG, EF, ED, ofVal, ofVal1, ofCell, lenV, aggEqV, cellEq, intBin, isShift, V.ids, lendV, frz, flatV, cellsOf, addOff, firstReg, oneOf, cellsAt, isAggD, isPure, ↓reduceIte, reduceCtorEq, Nat.reduceAdd, Nat.reduceSub, Nat.reduceMul, Nat.reduceLeDiff, Nat.reduceEqDiff, Nat.reduceBEq, Int.reduceToNat, Int.reduceLE, Int.reduceLT, Nat.reduceLT, Int.reduceBEq, Int.reduceBNe, Int.reduceEq, String.reduceEq, xk B4 [2, 2] .sq rfl, show (nav B4 [1, 2, 2]) = Code.region 3 _ false from rfl, hk_4_3, hz_4_3, hs_4_3, u_26, i_26, is_26, ib_26, iz_26, callStep, calleeOf, gv, List.contains, xk B4 [2, 2, 2] .sq rfl, xk B4 [1, 2, 2, 2] .sq rfl, show (nav B4 [1, 1, 2, 2, 2]) = Code.region 4 _ false from rfl, hk_4_4, hz_4_4, hs_4_4, xk B4 [2, 1, 2, 2, 2] (.cd 19) rfl, hc3, h21, h22, hc25]
      replace hF := cond_some hF
      rcases hF with ⟨h28, hF⟩ | ⟨h28, hF⟩
      · cases hF
        simp (maxSteps := 999999) (disch := first | exact D (by decide) | exact K (by kernel_rfl)) only [EA, EE, EG, EF, ED, ofVal, ofVal1, ofCell, lenV, aggEqV, cellEq, intBin, isShift, V.ids, lendV, frz, flatV, cellsOf, addOff, firstReg, oneOf, cellsAt, isAggD, isPure, ↓reduceIte, reduceCtorEq, Nat.reduceAdd, Nat.reduceSub, Nat.reduceMul, Nat.reduceLeDiff, Nat.reduceEqDiff, Nat.reduceBEq, Int.reduceToNat, Int.reduceLE, Int.reduceLT, Nat.reduceLT, Int.reduceBEq, Int.reduceBNe, Int.reduceEq, String.reduceEq, xk B4 [2, 2, 1, 2, 2, 2] .sq rfl, show (nav B4 [1, 2, 2, 1, 2, 2, 2]) = Code.region 5 _ false from rfl, hk_4_5, hz_4_5, hs_4_5, u_23, i_23, is_23, ib_23, iz_23, xk B4 [2, 2, 2, 1, 2, 2, 2] .rt rfl, finK_norm, finK_ret, fin4, R4_ai10brrzi.st, hc3, h21, h22, hc25, h28]
      · have hJ := f4_ai10brrzi_j2_ok k x1 false v27 _ hF
        simp (maxSteps := 999999) (disch := first | exact D (by decide) | exact K (by kernel_rfl)) only [EA, EE, EG, EF, ED, ofVal, ofVal1, ofCell, lenV, aggEqV, cellEq, intBin, isShift, V.ids, lendV, frz, flatV, cellsOf, addOff, firstReg, oneOf, cellsAt, isAggD, isPure, ↓reduceIte, reduceCtorEq, Nat.reduceAdd, Nat.reduceSub, Nat.reduceMul, Nat.reduceLeDiff, Nat.reduceEqDiff, Nat.reduceBEq, Int.reduceToNat, Int.reduceLE, Int.reduceLT, Nat.reduceLT, Int.reduceBEq, Int.reduceBNe, Int.reduceEq, String.reduceEq, xk B4 [3, 2, 1, 2, 2, 2] .sk rfl, hc3, h21, h22, hc25, h28]
        try simp only [NM, EE] at hJ
        exact hJ
noncomputable def f4_ai10brrzi_e (k : Nat) (a0 : Int) (a0_1 : Int) (a0_2 : Int) (a0_3 : Int) (a0_4 : Int) (a0_5 : Int) (a0_6 : Int) (a0_7 : Int) (a0_8 : Int) (a0_9 : Int) (a0_10 : Bool) (a0_11 : List Int) (a0_12 : List T45) (a1 : Int) : Option R4_ai10brrzi :=
  Option.bind (f7_ k) fun o1 =>
    match o1 with
    | .o0 v4 =>
      cond ((!v4))
        (some (R4_ai10brrzi.o0 false))
        (f4_ai10brrzi_j1 k a1 false a0 a0_1 a0_2 a0_3 a0_4 a0_5 a0_6 a0_7 a0_8 a0_9 a0_10 a0_11 a0_12)
theorem f4_ai10brrzi_e_ok (k : Nat) (a0 : Int) (a0_1 : Int) (a0_2 : Int) (a0_3 : Int) (a0_4 : Int) (a0_5 : Int) (a0_6 : Int) (a0_7 : Int) (a0_8 : Int) (a0_9 : Int) (a0_10 : Bool) (a0_11 : List Int) (a0_12 : List T45) (a1 : Int) (r : R4_ai10brrzi) (hF : f4_ai10brrzi_e k a0 a0_1 a0_2 a0_3 a0_4 a0_5 a0_6 a0_7 a0_8 a0_9 a0_10 a0_11 a0_12 a1 = some r) : finK Try.prog Try.f4 0 (EX 4 k (nav B4 []) ({ n := 53, F := [(0, V.agg [V.p (Value.int .i64 a0), V.p (Value.int .i64 a0_1), V.p (Value.int .u32 a0_2), V.p (Value.int .u32 a0_3), V.p (Value.int .u32 a0_4), V.p (Value.int .i64 a0_5), V.p (Value.int .i64 a0_6), V.p (Value.int .i64 a0_7), V.p (Value.int .i64 a0_8), V.p (Value.int .i64 a0_9), V.p (Value.bool a0_10), V.sl 1 (rowsOf (encI .u8) a0_11), V.sl 2 (rowsOf encT45 a0_12)]), (1, V.p (Value.int .i64 a1))], M := [] } : St)) = some r.st := by
  unfold f4_ai10brrzi_e at hF
  replace hF := Option.bind_eq_some_iff.1 hF
  obtain ⟨o1, h2, hF⟩ := hF
  have hc3 := f7__ok k _ h2
  cases o1 with
  | o0 v4 =>
    (try dsimp only at hF)
    (try simp only [NM, EE, R7_.st] at hc3)
    simp (maxSteps := 999999) (disch := first | exact D (by decide) | exact K (by kernel_rfl)) only [EA, EE, EG, EF, ED, ofVal, ofVal1, ofCell, lenV, aggEqV, cellEq, intBin, isShift, V.ids, lendV, frz, flatV, cellsOf, addOff, firstReg, oneOf, cellsAt, isAggD, isPure, ↓reduceIte, reduceCtorEq, Nat.reduceAdd, Nat.reduceSub, Nat.reduceMul, Nat.reduceLeDiff, Nat.reduceEqDiff, Nat.reduceBEq, Int.reduceToNat, Int.reduceLE, Int.reduceLT, Nat.reduceLT, Int.reduceBEq, Int.reduceBNe, Int.reduceEq, String.reduceEq, xk B4 [] .sq rfl, show (nav B4 [1]) = Code.region 0 _ false from rfl, hk_4_0, hz_4_0, hs_4_0, xk B4 [2] .sq rfl, xk B4 [1, 2] .sq rfl, show (nav B4 [1, 1, 2]) = Code.region 1 _ false from rfl, hk_4_1, hz_4_1, hs_4_1, callStep, calleeOf, gv, List.contains, xk B4 [2, 1, 2] (.cd 11) rfl, hc3]
    replace hF := cond_some hF
    rcases hF with ⟨h5, hF⟩ | ⟨h5, hF⟩
    · cases hF
      simp (maxSteps := 999999) (disch := first | exact D (by decide) | exact K (by kernel_rfl)) only [EA, EE, EG, EF, ED, ofVal, ofVal1, ofCell, lenV, aggEqV, cellEq, intBin, isShift, V.ids, lendV, frz, flatV, cellsOf, addOff, firstReg, oneOf, cellsAt, isAggD, isPure, ↓reduceIte, reduceCtorEq, Nat.reduceAdd, Nat.reduceSub, Nat.reduceMul, Nat.reduceLeDiff, Nat.reduceEqDiff, Nat.reduceBEq, Int.reduceToNat, Int.reduceLE, Int.reduceLT, Nat.reduceLT, Int.reduceBEq, Int.reduceBNe, Int.reduceEq, String.reduceEq, xk B4 [2, 2, 1, 2] .sq rfl, show (nav B4 [1, 2, 2, 1, 2]) = Code.region 2 _ false from rfl, hk_4_2, hz_4_2, hs_4_2, xk B4 [2, 2, 2, 1, 2] .rt rfl, finK_norm, finK_ret, fin4, R4_ai10brrzi.st, hc3, h5]
    · have hJ := f4_ai10brrzi_j1_ok k a1 false a0 a0_1 a0_2 a0_3 a0_4 a0_5 a0_6 a0_7 a0_8 a0_9 a0_10 a0_11 a0_12 _ hF
      simp (maxSteps := 999999) (disch := first | exact D (by decide) | exact K (by kernel_rfl)) only [EA, EE, EG, EF, ED, ofVal, ofVal1, ofCell, lenV, aggEqV, cellEq, intBin, isShift, V.ids, lendV, frz, flatV, cellsOf, addOff, firstReg, oneOf, cellsAt, isAggD, isPure, ↓reduceIte, reduceCtorEq, Nat.reduceAdd, Nat.reduceSub, Nat.reduceMul, Nat.reduceLeDiff, Nat.reduceEqDiff, Nat.reduceBEq, Int.reduceToNat, Int.reduceLE, Int.reduceLT, Nat.reduceLT, Int.reduceBEq, Int.reduceBNe, Int.reduceEq, String.reduceEq, xk B4 [3, 2, 1, 2] .sk rfl, hc3, h5]
      try simp only [NM, EE] at hJ
      exact hJ
noncomputable def f4_ai10brrzi (k : Nat) (a0 : Int) (a0_1 : Int) (a0_2 : Int) (a0_3 : Int) (a0_4 : Int) (a0_5 : Int) (a0_6 : Int) (a0_7 : Int) (a0_8 : Int) (a0_9 : Int) (a0_10 : Bool) (a0_11 : List Int) (a0_12 : List T45) (a1 : Int) : Option R4_ai10brrzi := match k with | 0 => none | k + 1 => f4_ai10brrzi_e k a0 a0_1 a0_2 a0_3 a0_4 a0_5 a0_6 a0_7 a0_8 a0_9 a0_10 a0_11 a0_12 a1
theorem f4_ai10brrzi_ok (k : Nat) (a0 : Int) (a0_1 : Int) (a0_2 : Int) (a0_3 : Int) (a0_4 : Int) (a0_5 : Int) (a0_6 : Int) (a0_7 : Int) (a0_8 : Int) (a0_9 : Int) (a0_10 : Bool) (a0_11 : List Int) (a0_12 : List T45) (a1 : Int) (r : R4_ai10brrzi) (hF : f4_ai10brrzi k a0 a0_1 a0_2 a0_3 a0_4 a0_5 a0_6 a0_7 a0_8 a0_9 a0_10 a0_11 a0_12 a1 = some r) : CV k 4 [V.agg [V.p (Value.int .i64 a0), V.p (Value.int .i64 a0_1), V.p (Value.int .u32 a0_2), V.p (Value.int .u32 a0_3), V.p (Value.int .u32 a0_4), V.p (Value.int .i64 a0_5), V.p (Value.int .i64 a0_6), V.p (Value.int .i64 a0_7), V.p (Value.int .i64 a0_8), V.p (Value.int .i64 a0_9), V.p (Value.bool a0_10), V.sl 1 (rowsOf (encI .u8) a0_11), V.sl 2 (rowsOf encT45 a0_12)], V.p (Value.int .i64 a1)] [] = some r.st := by
  cases k with
  | zero => cases hF
  | succ k =>
    unfold CV
    rw [ev_call (F := Try.f4) (c := (nav B4 [])) rfl Try.func4 rfl rfl rfl]
    exact f4_ai10brrzi_e_ok k a0 a0_1 a0_2 a0_3 a0_4 a0_5 a0_6 a0_7 a0_8 a0_9 a0_10 a0_11 a0_12 a1 r hF
end Go.Proofs.YthjefcamonmjpaaV
