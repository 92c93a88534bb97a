/- What the program's functions answer: plain functions, and that the interpreter answers what they do. Written by a program of this session, out of the translation. -/
import Derived.Test.YthjefcamonmjpaaVP9
namespace Go.Proofs.YthjefcamonmjpaaV
open Go
set_option linter.unusedVariables false
set_option linter.unusedSimpArgs false
set_option maxRecDepth 8000
set_option maxHeartbeats 4000000
-- f6_ai10brrzii: f6 heliograph/heliographlaw10.SegmentCut
inductive R6_ai10brrzii where
  | o0 (y : Bool)
noncomputable def R6_ai10brrzii.st : R6_ai10brrzii → V × List O × List O
  | .o0 y => (V.p (Value.bool y), [], [])
inductive R6_ai10brrzii_l3 where
  | o0 (y : Int) (y_1 : Int) (y_2 : Int) (y_3 : List Int) (y_4 : List Int)
  | o1 (y : Int) (y_1 : Int) (y_2 : Int) (y_3 : Bool) (y_4 : List Int) (y_5 : List Int)
noncomputable def R6_ai10brrzii_l3.st : R6_ai10brrzii_l3 → Out × St
  | .o0 y y_1 y_2 y_3 y_4 => (.norm, ({ n := 72, F := [(2, V.p (Value.int .u8 y)), (7, V.own 30000), (9, V.p (Value.int .i64 y_1)), (10, V.own 30001), (11, V.p (Value.int .i64 y_2))], M := [(30000, O.row false 1 5 (rowsOf (encI .u8) y_3)), (30001, O.row true 1 5 (rowsOf (encI .u8) y_4))] } : St))
  | .o1 y y_1 y_2 y_3 y_4 y_5 => (.exit 0, ({ n := 72, F := [(2, V.p (Value.int .u8 y)), (7, V.own 30000), (9, V.p (Value.int .i64 y_1)), (10, V.own 30001), (11, V.p (Value.int .i64 y_2)), (43, V.p (Value.bool y_3))], M := [(30000, O.row false 1 5 (rowsOf (encI .u8) y_4)), (30001, O.row true 1 5 (rowsOf (encI .u8) y_5))] } : St))
noncomputable def f6_ai10brrzii_l3_j2 (k : Nat) (x2 : Int) (x9 : Int) (x11 : Int) (h0_ : List Int) (h1_ : List Int) : Option R6_ai10brrzii_l3 :=
  some (R6_ai10brrzii_l3.o0 x2 x9 (IntKind.i64.wrap (x11 + (1 : Int))) h0_ h1_)
theorem f6_ai10brrzii_l3_j2_ok (k : Nat) (x2 : Int) (x9 : Int) (x11 : Int) (h0_ : List Int) (h1_ : List Int) (r : R6_ai10brrzii_l3) (hF : f6_ai10brrzii_l3_j2 k x2 x9 x11 h0_ h1_ = some r) : EX 6 k (nav B6 [2, 2, 1, 2, 2, 1, 2, 2, 2, 2, 2, 2]) ({ n := 72, F := [(2, V.p (Value.int .u8 x2)), (7, V.own 30000), (9, V.p (Value.int .i64 x9)), (10, V.own 30001), (11, V.p (Value.int .i64 x11))], M := [(30000, O.row false 1 5 (rowsOf (encI .u8) h0_)), (30001, O.row true 1 5 (rowsOf (encI .u8) h1_))] } : St) = some r.st := by
  unfold f6_ai10brrzii_l3_j2 at hF
  cases hF
  simp (maxSteps := 999999) (disch := first | exact D (by decide) | exact K (by kernel_rfl)) only [EA, EE, EG, EF, ED, ofVal, ofVal1, ofCell, lenV, aggEqV, cellEq, intBin, isShift, V.ids, lendV, frz, flatV, cellsOf, addOff, firstReg, oneOf, cellsAt, isAggD, isPure, ↓reduceIte, reduceCtorEq, Nat.reduceAdd, Nat.reduceSub, Nat.reduceMul, Nat.reduceLeDiff, Nat.reduceEqDiff, Nat.reduceBEq, Int.reduceToNat, Int.reduceLE, Int.reduceLT, Nat.reduceLT, Int.reduceBEq, Int.reduceBNe, Int.reduceEq, String.reduceEq, show (nav B6 [2, 2, 1, 2, 2, 1, 2, 2, 2, 2, 2, 2]) = Code.region 10 _ false from rfl, hk_6_10, hz_6_10, hs_6_10, R6_ai10brrzii_l3.st]
noncomputable def f6_ai10brrzii_l3_j1 (k : Nat) (x2 : Int) (x9 : Int) (x11 : Int) (x43 : Bool) (h0_ : List Int) (h1_ : List Int) : Option R6_ai10brrzii_l3 :=
  ifE ((0 : Int) ≤ x11) (
    ifE (x11 < ((List.length h1_) : Int)) (
      Option.bind (h1_[(Int.toNat x11)]?) fun v3 =>
        f6_ai10brrzii_l3_j2 k x2 x9 x11 h0_ ((List.set h1_ (Int.toNat x11) ((IntKind.u8.wrap ((BitVec.ofInt (IntKind.bits .u8) v3 ^^^ BitVec.ofInt (IntKind.bits .u8) (IntKind.u8.wrap (x2 + (IntKind.u8.wrap x11)))).toNat : Nat)))))))
theorem f6_ai10brrzii_l3_j1_ok (k : Nat) (x2 : Int) (x9 : Int) (x11 : Int) (x43 : Bool) (h0_ : List Int) (h1_ : List Int) (r : R6_ai10brrzii_l3) (hF : f6_ai10brrzii_l3_j1 k x2 x9 x11 x43 h0_ h1_ = some r) : EX 6 k (nav B6 [2, 1, 2, 2, 1, 2, 2, 2, 2, 2, 2]) ({ n := 72, F := [(2, V.p (Value.int .u8 x2)), (7, V.own 30000), (9, V.p (Value.int .i64 x9)), (10, V.own 30001), (11, V.p (Value.int .i64 x11)), (43, V.p (Value.bool x43))], M := [(30000, O.row false 1 5 (rowsOf (encI .u8) h0_)), (30001, O.row true 1 5 (rowsOf (encI .u8) h1_))] } : St) = some r.st := by
  unfold f6_ai10brrzii_l3_j1 at hF
  replace hF := ifE_some.1 hF
  obtain ⟨h1, hF⟩ := hF
  replace hF := ifE_some.1 hF
  obtain ⟨h2, hF⟩ := hF
  replace hF := Option.bind_eq_some_iff.1 hF
  obtain ⟨v3, h4, hF⟩ := hF
  have q5 : List.set (rowsOf (encI .u8) h1_) (Int.toNat x11) [V.p (Value.int .u8 (IntKind.u8.wrap ((BitVec.ofInt (IntKind.bits .u8) v3 ^^^ BitVec.ofInt (IntKind.bits .u8) (IntKind.u8.wrap (x2 + (IntKind.u8.wrap x11)))).toNat : Nat)))] = rowsOf (encI .u8) (List.set h1_ (Int.toNat x11) ((IntKind.u8.wrap ((BitVec.ofInt (IntKind.bits .u8) v3 ^^^ BitVec.ofInt (IntKind.bits .u8) (IntKind.u8.wrap (x2 + (IntKind.u8.wrap x11)))).toNat : Nat)))) := (rowsOf_set (enc := (encI .u8)) (l := h1_) (i := (Int.toNat x11)) (x := (IntKind.u8.wrap ((BitVec.ofInt (IntKind.bits .u8) v3 ^^^ BitVec.ofInt (IntKind.bits .u8) (IntKind.u8.wrap (x2 + (IntKind.u8.wrap x11)))).toNat : Nat)))).symm
  have hJ := f6_ai10brrzii_l3_j2_ok k x2 x9 x11 h0_ ((List.set h1_ (Int.toNat x11) ((IntKind.u8.wrap ((BitVec.ofInt (IntKind.bits .u8) v3 ^^^ BitVec.ofInt (IntKind.bits .u8) (IntKind.u8.wrap (x2 + (IntKind.u8.wrap x11)))).toNat : Nat))))) _ hF
  simp (maxSteps := 999999) (disch := first | exact D (by decide) | exact K (by kernel_rfl)) only [EA, EE, EG, EF, ED, ofVal, ofVal1, ofCell, lenV, aggEqV, cellEq, intBin, isShift, V.ids, lendV, frz, flatV, cellsOf, addOff, firstReg, oneOf, cellsAt, isAggD, isPure, ↓reduceIte, reduceCtorEq, Nat.reduceAdd, Nat.reduceSub, Nat.reduceMul, Nat.reduceLeDiff, Nat.reduceEqDiff, Nat.reduceBEq, Int.reduceToNat, Int.reduceLE, Int.reduceLT, Nat.reduceLT, Int.reduceBEq, Int.reduceBNe, Int.reduceEq, String.reduceEq, xk B6 [2, 1, 2, 2, 1, 2, 2, 2, 2, 2, 2] .sq rfl, xk B6 [1, 2, 1, 2, 2, 1, 2, 2, 2, 2, 2, 2] (.bk 1) rfl, show (nav B6 [2, 1, 2, 1, 2, 2, 1, 2, 2, 2, 2, 2, 2]) = Code.region 11 _ false from rfl, hk_6_11, hz_6_11, hs_6_11, indexAddrV, u_23, i_23, is_23, ib_23, iz_23, u_5, i_5, is_5, ib_5, iz_5, encI_eq, u_3, i_3, is_3, ib_3, iz_3, convV, sm_5, h1, h2, h4, q5]
  try simp only [NM, EE] at hJ
  exact hJ
noncomputable def f6_ai10brrzii_l3_b (k : Nat) (x2 : Int) (x9 : Int) (x11 : Int) (h0_ : List Int) (h1_ : List Int) : Option R6_ai10brrzii_l3 :=
  cond ((decide (x11 < (if ((List.length h1_) : Int) < (IntKind.i64.wrap (x9 + (4 : Int))) then ((List.length h1_) : Int) else (IntKind.i64.wrap (x9 + (4 : Int)))))))
    (f6_ai10brrzii_l3_j1 k x2 x9 x11 true h0_ h1_)
    (some (R6_ai10brrzii_l3.o1 x2 x9 x11 false h0_ h1_))
theorem f6_ai10brrzii_l3_b_ok (k : Nat) (x2 : Int) (x9 : Int) (x11 : Int) (h0_ : List Int) (h1_ : List Int) (r : R6_ai10brrzii_l3) (hF : f6_ai10brrzii_l3_b k x2 x9 x11 h0_ h1_ = some r) : EX 6 k (nav B6 [1, 2, 2, 1, 2, 2, 2, 2, 2, 2]) ({ n := 72, F := [(2, V.p (Value.int .u8 x2)), (7, V.own 30000), (9, V.p (Value.int .i64 x9)), (10, V.own 30001), (11, V.p (Value.int .i64 x11))], M := [(30000, O.row false 1 5 (rowsOf (encI .u8) h0_)), (30001, O.row true 1 5 (rowsOf (encI .u8) h1_))] } : St) = some r.st := by
  unfold f6_ai10brrzii_l3_b at hF
  simp (maxSteps := 999999) (disch := first | exact D (by decide) | exact K (by kernel_rfl)) only [EA, EE, EG, EF, ED, ofVal, ofVal1, ofCell, lenV, aggEqV, cellEq, intBin, isShift, V.ids, lendV, frz, flatV, cellsOf, addOff, firstReg, oneOf, cellsAt, isAggD, isPure, ↓reduceIte, reduceCtorEq, Nat.reduceAdd, Nat.reduceSub, Nat.reduceMul, Nat.reduceLeDiff, Nat.reduceEqDiff, Nat.reduceBEq, Int.reduceToNat, Int.reduceLE, Int.reduceLT, Nat.reduceLT, Int.reduceBEq, Int.reduceBNe, Int.reduceEq, String.reduceEq, xk B6 [1, 2, 2, 1, 2, 2, 2, 2, 2, 2] .sq rfl, xk B6 [1, 1, 2, 2, 1, 2, 2, 2, 2, 2, 2] .sq rfl, show (nav B6 [1, 1, 1, 2, 2, 1, 2, 2, 2, 2, 2, 2]) = Code.region 9 _ false from rfl, hk_6_9, hz_6_9, hs_6_9, u_23, i_23, is_23, ib_23, iz_23, minmaxV, minmaxGo, xk B6 [2, 1, 1, 2, 2, 1, 2, 2, 2, 2, 2, 2] (.cd 43) rfl]
  replace hF := cond_some hF
  rcases hF with ⟨h1, hF⟩ | ⟨h1, hF⟩
  · have hJ := f6_ai10brrzii_l3_j1_ok k x2 x9 x11 true h0_ h1_ _ hF
    simp (maxSteps := 999999) (disch := first | exact D (by decide) | exact K (by kernel_rfl)) only [EA, EE, EG, EF, ED, ofVal, ofVal1, ofCell, lenV, aggEqV, cellEq, intBin, isShift, V.ids, lendV, frz, flatV, cellsOf, addOff, firstReg, oneOf, cellsAt, isAggD, isPure, ↓reduceIte, reduceCtorEq, Nat.reduceAdd, Nat.reduceSub, Nat.reduceMul, Nat.reduceLeDiff, Nat.reduceEqDiff, Nat.reduceBEq, Int.reduceToNat, Int.reduceLE, Int.reduceLT, Nat.reduceLT, Int.reduceBEq, Int.reduceBNe, Int.reduceEq, String.reduceEq, xk B6 [2, 2, 1, 1, 2, 2, 1, 2, 2, 2, 2, 2, 2] .sk rfl, h1]
    try simp only [NM, EE] at hJ
    exact hJ
  · cases hF
    simp (maxSteps := 999999) (disch := first | exact D (by decide) | exact K (by kernel_rfl)) only [EA, EE, EG, EF, ED, ofVal, ofVal1, ofCell, lenV, aggEqV, cellEq, intBin, isShift, V.ids, lendV, frz, flatV, cellsOf, addOff, firstReg, oneOf, cellsAt, isAggD, isPure, ↓reduceIte, reduceCtorEq, Nat.reduceAdd, Nat.reduceSub, Nat.reduceMul, Nat.reduceLeDiff, Nat.reduceEqDiff, Nat.reduceBEq, Int.reduceToNat, Int.reduceLE, Int.reduceLT, Nat.reduceLT, Int.reduceBEq, Int.reduceBNe, Int.reduceEq, String.reduceEq, xk B6 [3, 2, 1, 1, 2, 2, 1, 2, 2, 2, 2, 2, 2] (.ex 0) rfl, R6_ai10brrzii_l3.st, h1]
noncomputable def f6_ai10brrzii_l3 (k : Nat) : Nat → Int → Int → Int → (List Int) → (List Int) → Option R6_ai10brrzii_l3
  | 0, _, _, _, _, _ => none
  | n + 1, x2, x9, x11, h0_, h1_ => Option.bind (f6_ai10brrzii_l3_b k x2 x9 x11 h0_ h1_) fun o =>
    match o with
    | .o0 y y_1 y_2 y_3 y_4 => f6_ai10brrzii_l3 k n y y_1 y_2 y_3 y_4
    | .o1 y y_1 y_2 y_3 y_4 y_5 => some (.o1 y y_1 y_2 y_3 y_4 y_5)
theorem f6_ai10brrzii_l3_ok (k : Nat) (n : Nat) : ∀ (x2 : Int) (x9 : Int) (x11 : Int) (h0_ : List Int) (h1_ : List Int) (r : R6_ai10brrzii_l3) (hF : f6_ai10brrzii_l3 k n x2 x9 x11 h0_ h1_ = some r) (σ : St) (hσ : headR (hints.head 6 9) (hints.canon 6 9) σ = some ({ n := 72, F := [(2, V.p (Value.int .u8 x2)), (7, V.own 30000), (9, V.p (Value.int .i64 x9)), (10, V.own 30001), (11, V.p (Value.int .i64 x11))], M := [(30000, O.row false 1 5 (rowsOf (encI .u8) h0_)), (30001, O.row true 1 5 (rowsOf (encI .u8) h1_))] } : St)), LP 6 k (nav B6 [1, 2, 2, 1, 2, 2, 2, 2, 2, 2]) n σ = some r.st := by
  induction n with
  | zero => intro x2 x9 x11 h0_ h1_ r hF; cases hF
  | succ n ih =>
    intro x2 x9 x11 h0_ h1_ r hF σ hσ
    rw [f6_ai10brrzii_l3] at hF
    obtain ⟨o, h, hF⟩ := Option.bind_eq_some_iff.1 hF
    have hB := f6_ai10brrzii_l3_b_ok k x2 x9 x11 h0_ h1_ o h
    unfold LP at ih ⊢
    unfold EX at hB
    rw [loopK_succ, show firstReg (nav B6 [1, 2, 2, 1, 2, 2, 2, 2, 2, 2]) = 9 from rfl, hσ, headK_some, hB]
    cases o with
    | o0 y y_1 y_2 y_3 y_4 =>
      refine ih y y_1 y_2 y_3 y_4 r hF _ ?_
      simp (maxSteps := 999999) (disch := first | exact D (by decide) | exact K (by kernel_rfl)) only [EA, EE, EG, EF, ED, ofVal, ofVal1, ofCell, lenV, aggEqV, cellEq, intBin, isShift, V.ids, lendV, frz, flatV, cellsOf, addOff, firstReg, oneOf, cellsAt, isAggD, isPure, ↓reduceIte, reduceCtorEq, Nat.reduceAdd, Nat.reduceSub, Nat.reduceMul, Nat.reduceLeDiff, Nat.reduceEqDiff, Nat.reduceBEq, Int.reduceToNat, Int.reduceLE, Int.reduceLT, Nat.reduceLT, Int.reduceBEq, Int.reduceBNe, Int.reduceEq, String.reduceEq, hh_6_9, hc_6_9]
    | o1 y y_1 y_2 y_3 y_4 y_5 => cases hF; rfl
noncomputable def f6_ai10brrzii_j4 (k : Nat) (x2 : Int) (x9 : Int) (x11 : Int) (x43 : Bool) (h0_ : List Int) (h1_ : List Int) : Option R6_ai10brrzii :=
  Option.bind (f13_r k h1_) fun o1 =>
    match o1 with
    | .o0 v4 v5 v6 v7 v8 v9 v10 v11 v12 v13 v14 v15 v16 v17 =>
      Option.bind (f16_rr k h0_ h1_) fun o18 =>
        match o18 with
        | .o0 v21 =>
          cond (v21)
            (
              cond ((v16 == 0))
                (some (R6_ai10brrzii.o0 true))
                (some (R6_ai10brrzii.o0 (v16 == 130))))
            (some (R6_ai10brrzii.o0 (v16 == 130)))
    | .o1 v24 v25 v26 v27 v28 v29 v30 v31 v32 v33 v34 v35 v36 v37 =>
      Option.bind (f16_rr k h0_ h1_) fun o38 =>
        match o38 with
        | .o0 v41 =>
          cond (v41)
            (
              cond ((v35 == 0))
                (some (R6_ai10brrzii.o0 true))
                (some (R6_ai10brrzii.o0 (v35 == 130))))
            (some (R6_ai10brrzii.o0 (v35 == 130)))
theorem f6_ai10brrzii_j4_ok (k : Nat) (x2 : Int) (x9 : Int) (x11 : Int) (x43 : Bool) (h0_ : List Int) (h1_ : List Int) (r : R6_ai10brrzii) (hF : f6_ai10brrzii_j4 k x2 x9 x11 x43 h0_ h1_ = some r) : finK Try.prog Try.f6 0 (EX 6 k (nav B6 [2, 2, 2, 2, 2, 2, 2]) ({ n := 72, F := [(2, V.p (Value.int .u8 x2)), (7, V.own 30000), (9, V.p (Value.int .i64 x9)), (10, V.own 30001), (11, V.p (Value.int .i64 x11)), (43, V.p (Value.bool x43))], M := [(30000, O.row false 1 5 (rowsOf (encI .u8) h0_)), (30001, O.row true 1 5 (rowsOf (encI .u8) h1_))] } : St)) = some r.st := by
  unfold f6_ai10brrzii_j4 at hF
  simp (maxSteps := 999999) (disch := first | exact D (by decide) | exact K (by kernel_rfl)) only [EA, EE, EG, EF, ED, ofVal, ofVal1, ofCell, lenV, aggEqV, cellEq, intBin, isShift, V.ids, lendV, frz, flatV, cellsOf, addOff, firstReg, oneOf, cellsAt, isAggD, isPure, ↓reduceIte, reduceCtorEq, Nat.reduceAdd, Nat.reduceSub, Nat.reduceMul, Nat.reduceLeDiff, Nat.reduceEqDiff, Nat.reduceBEq, Int.reduceToNat, Int.reduceLE, Int.reduceLT, Nat.reduceLT, Int.reduceBEq, Int.reduceBNe, Int.reduceEq, String.reduceEq, xk B6 [2, 2, 2, 2, 2, 2, 2] .sq rfl, show (nav B6 [1, 2, 2, 2, 2, 2, 2, 2]) = Code.region 12 _ false from rfl, hk_6_12, hz_6_12, hs_6_12, callStep, calleeOf, gv, List.contains]
  replace hF := Option.bind_eq_some_iff.1 hF
  obtain ⟨o1, h2, hF⟩ := hF
  have hc3 := f13_r_ok k h1_ _ h2
  cases o1 with
  | o0 v4 v5 v6 v7 v8 v9 v10 v11 v12 v13 v14 v15 v16 v17 =>
    (try dsimp only at hF)
    (try simp only [NM, EE, R13_r.st] at hc3)
    replace hF := Option.bind_eq_some_iff.1 hF
    obtain ⟨o18, h19, hF⟩ := hF
    have hc20 := f16_rr_ok k h0_ h1_ _ h19
    cases o18 with
    | o0 v21 =>
      (try dsimp only at hF)
      (try simp only [NM, EE, R16_rr.st] at hc20)
      simp (maxSteps := 999999) (disch := first | exact D (by decide) | exact K (by kernel_rfl)) only [EA, EE, EG, EF, ED, ofVal, ofVal1, ofCell, lenV, aggEqV, cellEq, intBin, isShift, V.ids, lendV, frz, flatV, cellsOf, addOff, firstReg, oneOf, cellsAt, isAggD, isPure, ↓reduceIte, reduceCtorEq, Nat.reduceAdd, Nat.reduceSub, Nat.reduceMul, Nat.reduceLeDiff, Nat.reduceEqDiff, Nat.reduceBEq, Int.reduceToNat, Int.reduceLE, Int.reduceLT, Nat.reduceLT, Int.reduceBEq, Int.reduceBNe, Int.reduceEq, String.reduceEq, u_26, i_26, is_26, ib_26, iz_26, xk B6 [2, 2, 2, 2, 2, 2, 2, 2] .sq rfl, show (nav B6 [1, 2, 2, 2, 2, 2, 2, 2, 2]) = Code.region 13 _ false from rfl, hk_6_13, hz_6_13, hs_6_13, callStep, calleeOf, gv, List.contains, hc3, hc20]
      replace hF := cond_some hF
      rcases hF with ⟨h22, hF⟩ | ⟨h22, hF⟩
      · replace hF := cond_some hF
        rcases hF with ⟨h23, hF⟩ | ⟨h23, hF⟩
        · cases hF
          simp (maxSteps := 999999) (disch := first | exact D (by decide) | exact K (by kernel_rfl)) only [EA, EE, EG, EF, ED, ofVal, ofVal1, ofCell, lenV, aggEqV, cellEq, intBin, isShift, V.ids, lendV, frz, flatV, cellsOf, addOff, firstReg, oneOf, cellsAt, isAggD, isPure, ↓reduceIte, reduceCtorEq, Nat.reduceAdd, Nat.reduceSub, Nat.reduceMul, Nat.reduceLeDiff, Nat.reduceEqDiff, Nat.reduceBEq, Int.reduceToNat, Int.reduceLE, Int.reduceLT, Nat.reduceLT, Int.reduceBEq, Int.reduceBNe, Int.reduceEq, String.reduceEq, xk B6 [2, 2, 2, 2, 2, 2, 2, 2, 2] .rt rfl, finK_norm, finK_ret, fin6, R6_ai10brrzii.st, hc3, hc20, h22, h23]
        · cases hF
          simp (maxSteps := 999999) (disch := first | exact D (by decide) | exact K (by kernel_rfl)) only [EA, EE, EG, EF, ED, ofVal, ofVal1, ofCell, lenV, aggEqV, cellEq, intBin, isShift, V.ids, lendV, frz, flatV, cellsOf, addOff, firstReg, oneOf, cellsAt, isAggD, isPure, ↓reduceIte, reduceCtorEq, Nat.reduceAdd, Nat.reduceSub, Nat.reduceMul, Nat.reduceLeDiff, Nat.reduceEqDiff, Nat.reduceBEq, Int.reduceToNat, Int.reduceLE, Int.reduceLT, Nat.reduceLT, Int.reduceBEq, Int.reduceBNe, Int.reduceEq, String.reduceEq, xk B6 [2, 2, 2, 2, 2, 2, 2, 2, 2] .rt rfl, finK_norm, finK_ret, fin6, R6_ai10brrzii.st, hc3, hc20, h22, h23]
      · cases hF
        simp (maxSteps := 999999) (disch := first | exact D (by decide) | exact K (by kernel_rfl)) only [EA, EE, EG, EF, ED, ofVal, ofVal1, ofCell, lenV, aggEqV, cellEq, intBin, isShift, V.ids, lendV, frz, flatV, cellsOf, addOff, firstReg, oneOf, cellsAt, isAggD, isPure, ↓reduceIte, reduceCtorEq, Nat.reduceAdd, Nat.reduceSub, Nat.reduceMul, Nat.reduceLeDiff, Nat.reduceEqDiff, Nat.reduceBEq, Int.reduceToNat, Int.reduceLE, Int.reduceLT, Nat.reduceLT, Int.reduceBEq, Int.reduceBNe, Int.reduceEq, String.reduceEq, xk B6 [2, 2, 2, 2, 2, 2, 2, 2, 2] .rt rfl, finK_norm, finK_ret, fin6, R6_ai10brrzii.st, hc3, hc20, h22]
  | o1 v24 v25 v26 v27 v28 v29 v30 v31 v32 v33 v34 v35 v36 v37 =>
    (try dsimp only at hF)
    (try simp only [NM, EE, R13_r.st] at hc3)
    replace hF := Option.bind_eq_some_iff.1 hF
    obtain ⟨o38, h39, hF⟩ := hF
    have hc40 := f16_rr_ok k h0_ h1_ _ h39
    cases o38 with
    | o0 v41 =>
      (try dsimp only at hF)
      (try simp only [NM, EE, R16_rr.st] at hc40)
      simp (maxSteps := 999999) (disch := first | exact D (by decide) | exact K (by kernel_rfl)) only [EA, EE, EG, EF, ED, ofVal, ofVal1, ofCell, lenV, aggEqV, cellEq, intBin, isShift, V.ids, lendV, frz, flatV, cellsOf, addOff, firstReg, oneOf, cellsAt, isAggD, isPure, ↓reduceIte, reduceCtorEq, Nat.reduceAdd, Nat.reduceSub, Nat.reduceMul, Nat.reduceLeDiff, Nat.reduceEqDiff, Nat.reduceBEq, Int.reduceToNat, Int.reduceLE, Int.reduceLT, Nat.reduceLT, Int.reduceBEq, Int.reduceBNe, Int.reduceEq, String.reduceEq, u_26, i_26, is_26, ib_26, iz_26, xk B6 [2, 2, 2, 2, 2, 2, 2, 2] .sq rfl, show (nav B6 [1, 2, 2, 2, 2, 2, 2, 2, 2]) = Code.region 13 _ false from rfl, hk_6_13, hz_6_13, hs_6_13, callStep, calleeOf, gv, List.contains, hc3, hc40]
      replace hF := cond_some hF
      rcases hF with ⟨h42, hF⟩ | ⟨h42, hF⟩
      · replace hF := cond_some hF
        rcases hF with ⟨h43, hF⟩ | ⟨h43, hF⟩
        · cases hF
          simp (maxSteps := 999999) (disch := first | exact D (by decide) | exact K (by kernel_rfl)) only [EA, EE, EG, EF, ED, ofVal, ofVal1, ofCell, lenV, aggEqV, cellEq, intBin, isShift, V.ids, lendV, frz, flatV, cellsOf, addOff, firstReg, oneOf, cellsAt, isAggD, isPure, ↓reduceIte, reduceCtorEq, Nat.reduceAdd, Nat.reduceSub, Nat.reduceMul, Nat.reduceLeDiff, Nat.reduceEqDiff, Nat.reduceBEq, Int.reduceToNat, Int.reduceLE, Int.reduceLT, Nat.reduceLT, Int.reduceBEq, Int.reduceBNe, Int.reduceEq, String.reduceEq, xk B6 [2, 2, 2, 2, 2, 2, 2, 2, 2] .rt rfl, finK_norm, finK_ret, fin6, R6_ai10brrzii.st, hc3, hc40, h42, h43]
        · cases hF
          simp (maxSteps := 999999) (disch := first | exact D (by decide) | exact K (by kernel_rfl)) only [EA, EE, EG, EF, ED, ofVal, ofVal1, ofCell, lenV, aggEqV, cellEq, intBin, isShift, V.ids, lendV, frz, flatV, cellsOf, addOff, firstReg, oneOf, cellsAt, isAggD, isPure, ↓reduceIte, reduceCtorEq, Nat.reduceAdd, Nat.reduceSub, Nat.reduceMul, Nat.reduceLeDiff, Nat.reduceEqDiff, Nat.reduceBEq, Int.reduceToNat, Int.reduceLE, Int.reduceLT, Nat.reduceLT, Int.reduceBEq, Int.reduceBNe, Int.reduceEq, String.reduceEq, xk B6 [2, 2, 2, 2, 2, 2, 2, 2, 2] .rt rfl, finK_norm, finK_ret, fin6, R6_ai10brrzii.st, hc3, hc40, h42, h43]
      · cases hF
        simp (maxSteps := 999999) (disch := first | exact D (by decide) | exact K (by kernel_rfl)) only [EA, EE, EG, EF, ED, ofVal, ofVal1, ofCell, lenV, aggEqV, cellEq, intBin, isShift, V.ids, lendV, frz, flatV, cellsOf, addOff, firstReg, oneOf, cellsAt, isAggD, isPure, ↓reduceIte, reduceCtorEq, Nat.reduceAdd, Nat.reduceSub, Nat.reduceMul, Nat.reduceLeDiff, Nat.reduceEqDiff, Nat.reduceBEq, Int.reduceToNat, Int.reduceLE, Int.reduceLT, Nat.reduceLT, Int.reduceBEq, Int.reduceBNe, Int.reduceEq, String.reduceEq, xk B6 [2, 2, 2, 2, 2, 2, 2, 2, 2] .rt rfl, finK_norm, finK_ret, fin6, R6_ai10brrzii.st, hc3, hc40, h42]
noncomputable def f6_ai10brrzii_j2 (k : Nat) (x1 : Int) (x2 : Int) (x23 : Bool) (m19 : List Int) : Option R6_ai10brrzii :=
  ifE (¬ (IntKind.u64.wrap ((List.length m19) : Int)) = 0) (
    Option.bind (f17_r k m19) fun o2 =>
      match o2 with
      | .o0 v5 =>
        Option.bind (f6_ai10brrzii_l3 k k x2 ((IntKind.i64.wrap (Int.tmod (IntKind.u64.wrap x1) (IntKind.u64.wrap ((List.length m19) : Int))))) ((IntKind.i64.wrap (Int.tmod (IntKind.u64.wrap x1) (IntKind.u64.wrap ((List.length m19) : Int))))) m19 v5) fun o6 =>
          match o6 with
          | .o0 _ _ _ _ _ =>
            none  -- no way out
          | .o1 v9 v10 v11 v12 v13 v14 =>
            f6_ai10brrzii_j4 k v9 v10 v11 v12 v13 v14)
theorem f6_ai10brrzii_j2_ok (k : Nat) (x1 : Int) (x2 : Int) (x23 : Bool) (m19 : List Int) (r : R6_ai10brrzii) (hF : f6_ai10brrzii_j2 k x1 x2 x23 m19 = some r) : finK Try.prog Try.f6 0 (EX 6 k (nav B6 [2, 2, 2, 2]) ({ n := 72, F := [(1, V.p (Value.int .i64 x1)), (2, V.p (Value.int .u8 x2)), (7, V.own 19), (23, V.p (Value.bool x23))], M := [(19, O.row true 1 5 (rowsOf (encI .u8) m19))] } : St)) = some r.st := by
  unfold f6_ai10brrzii_j2 at hF
  replace hF := ifE_some.1 hF
  obtain ⟨h1, hF⟩ := hF
  replace hF := Option.bind_eq_some_iff.1 hF
  obtain ⟨o2, h3, hF⟩ := hF
  have hc4 := f17_r_ok k m19 _ h3
  cases o2 with
  | o0 v5 =>
    (try dsimp only at hF)
    (try simp only [NM, EE, R17_r.st] at hc4)
    replace hF := Option.bind_eq_some_iff.1 hF
    obtain ⟨o6, h7, hF⟩ := hF
    have hc8 := f6_ai10brrzii_l3_ok k k x2 ((IntKind.i64.wrap (Int.tmod (IntKind.u64.wrap x1) (IntKind.u64.wrap ((List.length m19) : Int))))) ((IntKind.i64.wrap (Int.tmod (IntKind.u64.wrap x1) (IntKind.u64.wrap ((List.length m19) : Int))))) m19 v5 _ h7
    simp (maxSteps := 999999) (disch := first | exact D (by decide) | exact K (by kernel_rfl)) only [EA, EE, EG, EF, ED, ofVal, ofVal1, ofCell, lenV, aggEqV, cellEq, intBin, isShift, V.ids, lendV, frz, flatV, cellsOf, addOff, firstReg, oneOf, cellsAt, isAggD, isPure, ↓reduceIte, reduceCtorEq, Nat.reduceAdd, Nat.reduceSub, Nat.reduceMul, Nat.reduceLeDiff, Nat.reduceEqDiff, Nat.reduceBEq, Int.reduceToNat, Int.reduceLE, Int.reduceLT, Nat.reduceLT, Int.reduceBEq, Int.reduceBNe, Int.reduceEq, String.reduceEq, xk B6 [2, 2, 2, 2] .sq rfl, show (nav B6 [1, 2, 2, 2, 2]) = Code.region 6 _ false from rfl, hk_6_6, hz_6_6, hs_6_6, u_3, i_3, is_3, ib_3, iz_3, u_33, i_33, is_33, ib_33, iz_33, convV, u_23, i_23, is_23, ib_23, iz_23, xk B6 [2, 2, 2, 2, 2] .sq rfl, show (nav B6 [1, 2, 2, 2, 2, 2]) = Code.region 7 _ false from rfl, hk_6_7, hz_6_7, hs_6_7, callStep, calleeOf, gv, List.contains, xk B6 [2, 2, 2, 2, 2, 2] .sq rfl, xk B6 [1, 2, 2, 2, 2, 2, 2] .sq rfl, show (nav B6 [1, 1, 2, 2, 2, 2, 2, 2]) = Code.region 8 _ false from rfl, hk_6_8, hz_6_8, hs_6_8, xk B6 [2, 1, 2, 2, 2, 2, 2, 2] (.bk 0) rfl, xk B6 [2, 2, 1, 2, 2, 2, 2, 2, 2] .lp rfl, hh_6_9, hc_6_9, h1, hc4]
    (try simp only [NM, EE] at hc8)
    rw [hc8 _ (by simp (maxSteps := 999999) (disch := first | exact D (by decide) | exact K (by kernel_rfl)) only [EA, EE, EG, EF, ED, ofVal, ofVal1, ofCell, lenV, aggEqV, cellEq, intBin, isShift, V.ids, lendV, frz, flatV, cellsOf, addOff, firstReg, oneOf, cellsAt, isAggD, isPure, ↓reduceIte, reduceCtorEq, Nat.reduceAdd, Nat.reduceSub, Nat.reduceMul, Nat.reduceLeDiff, Nat.reduceEqDiff, Nat.reduceBEq, Int.reduceToNat, Int.reduceLE, Int.reduceLT, Nat.reduceLT, Int.reduceBEq, Int.reduceBNe, Int.reduceEq, String.reduceEq, hh_6_9, hc_6_9, h1, hc4])]
    clear hc8
    cases o6 with
    | o0 _ _ _ _ _ =>
      (try dsimp only at hF)
      cases hF
    | o1 v9 v10 v11 v12 v13 v14 =>
      (try dsimp only at hF)
      have hJ := f6_ai10brrzii_j4_ok k v9 v10 v11 v12 v13 v14 _ hF
      simp (maxSteps := 999999) (disch := first | exact D (by decide) | exact K (by kernel_rfl)) only [EA, EE, EG, EF, ED, ofVal, ofVal1, ofCell, lenV, aggEqV, cellEq, intBin, isShift, V.ids, lendV, frz, flatV, cellsOf, addOff, firstReg, oneOf, cellsAt, isAggD, isPure, ↓reduceIte, reduceCtorEq, Nat.reduceAdd, Nat.reduceSub, Nat.reduceMul, Nat.reduceLeDiff, Nat.reduceEqDiff, Nat.reduceBEq, Int.reduceToNat, Int.reduceLE, Int.reduceLT, Nat.reduceLT, Int.reduceBEq, Int.reduceBNe, Int.reduceEq, String.reduceEq, R6_ai10brrzii_l3.st, h1, hc4]
      try simp only [NM, EE] at hJ
      exact hJ
noncomputable def f6_ai10brrzii_j1 (k : Nat) (x1 : Int) (x2 : Int) (x15 : Bool) (m3 : Int) (m3_1 : Int) (m3_2 : Int) (m3_3 : Int) (m3_4 : Int) (m3_5 : Int) (m3_6 : Int) (m3_7 : Int) (m3_8 : Int) (m3_9 : Int) (m3_10 : Bool) (m3_11 : List Int) (m3_12 : List T45) : Option R6_ai10brrzii :=
  Option.bind (f8_ai10brrz k m3 m3_1 m3_2 m3_3 m3_4 m3_5 m3_6 m3_7 m3_8 m3_9 m3_10 m3_11 m3_12) fun o1 =>
    match o1 with
    | .o0 v4 v5 v6 v7 v8 v9 v10 v11 v12 v13 v14 v15 v16 v17 v18 v19 v20 =>
      ifE ((v15 + v16) ≤ (List.length v19)) (
        ifE ((v17 + v18) ≤ (List.length v20)) (
          Option.bind (f12_ai10brrz k v4 v5 v6 v7 v8 v9 v10 v11 v12 v13 v14 (List.take v16 (List.drop v15 v19)) (List.take v18 (List.drop v17 v20))) fun o23 =>
            match o23 with
            | .o0 v26 v27 =>
              cond ((v26 != 0))
                (some (R6_ai10brrzii.o0 (((List.length v27) : Int) == 0)))
                (f6_ai10brrzii_j2 k x1 x2 false v27)))
theorem f6_ai10brrzii_j1_ok (k : Nat) (x1 : Int) (x2 : Int) (x15 : Bool) (m3 : Int) (m3_1 : Int) (m3_2 : Int) (m3_3 : Int) (m3_4 : Int) (m3_5 : Int) (m3_6 : Int) (m3_7 : Int) (m3_8 : Int) (m3_9 : Int) (m3_10 : Bool) (m3_11 : List Int) (m3_12 : List T45) (r : R6_ai10brrzii) (hF : f6_ai10brrzii_j1 k x1 x2 x15 m3 m3_1 m3_2 m3_3 m3_4 m3_5 m3_6 m3_7 m3_8 m3_9 m3_10 m3_11 m3_12 = some r) : finK Try.prog Try.f6 0 (EX 6 k (nav B6 [2, 2]) ({ n := 72, F := [(1, V.p (Value.int .i64 x1)), (2, V.p (Value.int .u8 x2)), (3, V.ptr 3 0), (15, V.p (Value.bool x15))], M := [(3, O.box 26 [V.p (Value.int .i64 m3), V.p (Value.int .i64 m3_1), V.p (Value.int .u32 m3_2), V.p (Value.int .u32 m3_3), V.p (Value.int .u32 m3_4), V.p (Value.int .i64 m3_5), V.p (Value.int .i64 m3_6), V.p (Value.int .i64 m3_7), V.p (Value.int .i64 m3_8), V.p (Value.int .i64 m3_9), V.p (Value.bool m3_10), V.sl 1 (rowsOf (encI .u8) m3_11), V.sl 2 (rowsOf encT45 m3_12)])] } : St)) = some r.st := by
  unfold f6_ai10brrzii_j1 at hF
  replace hF := Option.bind_eq_some_iff.1 hF
  obtain ⟨o1, h2, hF⟩ := hF
  have hc3 := f8_ai10brrz_ok k m3 m3_1 m3_2 m3_3 m3_4 m3_5 m3_6 m3_7 m3_8 m3_9 m3_10 m3_11 m3_12 _ h2
  cases o1 with
  | o0 v4 v5 v6 v7 v8 v9 v10 v11 v12 v13 v14 v15 v16 v17 v18 v19 v20 =>
    (try dsimp only at hF)
    (try simp only [NM, EE, R8_ai10brrz.st] at hc3)
    replace hF := ifE_some.1 hF
    obtain ⟨h21, hF⟩ := hF
    replace hF := ifE_some.1 hF
    obtain ⟨h22, hF⟩ := hF
    replace hF := Option.bind_eq_some_iff.1 hF
    obtain ⟨o23, h24, hF⟩ := hF
    have hc25 := f12_ai10brrz_ok k v4 v5 v6 v7 v8 v9 v10 v11 v12 v13 v14 (List.take v16 (List.drop v15 v19)) (List.take v18 (List.drop v17 v20)) _ h24
    cases o23 with
    | o0 v26 v27 =>
      (try dsimp only at hF)
      (try simp only [NM, EE, R12_ai10brrz.st] at hc25)
      simp (maxSteps := 999999) (disch := first | exact D (by decide) | exact K (by kernel_rfl)) only [EA, EE, EG, EF, ED, ofVal, ofVal1, ofCell, lenV, aggEqV, cellEq, intBin, isShift, V.ids, lendV, frz, flatV, cellsOf, addOff, firstReg, oneOf, cellsAt, isAggD, isPure, ↓reduceIte, reduceCtorEq, Nat.reduceAdd, Nat.reduceSub, Nat.reduceMul, Nat.reduceLeDiff, Nat.reduceEqDiff, Nat.reduceBEq, Int.reduceToNat, Int.reduceLE, Int.reduceLT, Nat.reduceLT, Int.reduceBEq, Int.reduceBNe, Int.reduceEq, String.reduceEq, xk B6 [2, 2] .sq rfl, show (nav B6 [1, 2, 2]) = Code.region 3 _ false from rfl, hk_6_3, hz_6_3, hs_6_3, u_26, i_26, is_26, ib_26, iz_26, callStep, calleeOf, gv, List.contains, xk B6 [2, 2, 2] .sq rfl, xk B6 [1, 2, 2, 2] .sq rfl, show (nav B6 [1, 1, 2, 2, 2]) = Code.region 4 _ false from rfl, hk_6_4, hz_6_4, hs_6_4, xk B6 [2, 1, 2, 2, 2] (.cd 23) rfl, hc3, h21, h22, hc25]
      replace hF := cond_some hF
      rcases hF with ⟨h28, hF⟩ | ⟨h28, hF⟩
      · cases hF
        simp (maxSteps := 999999) (disch := first | exact D (by decide) | exact K (by kernel_rfl)) only [EA, EE, EG, EF, ED, ofVal, ofVal1, ofCell, lenV, aggEqV, cellEq, intBin, isShift, V.ids, lendV, frz, flatV, cellsOf, addOff, firstReg, oneOf, cellsAt, isAggD, isPure, ↓reduceIte, reduceCtorEq, Nat.reduceAdd, Nat.reduceSub, Nat.reduceMul, Nat.reduceLeDiff, Nat.reduceEqDiff, Nat.reduceBEq, Int.reduceToNat, Int.reduceLE, Int.reduceLT, Nat.reduceLT, Int.reduceBEq, Int.reduceBNe, Int.reduceEq, String.reduceEq, xk B6 [2, 2, 1, 2, 2, 2] .sq rfl, show (nav B6 [1, 2, 2, 1, 2, 2, 2]) = Code.region 5 _ false from rfl, hk_6_5, hz_6_5, hs_6_5, u_23, i_23, is_23, ib_23, iz_23, xk B6 [2, 2, 2, 1, 2, 2, 2] .rt rfl, finK_norm, finK_ret, fin6, R6_ai10brrzii.st, hc3, h21, h22, hc25, h28]
      · have hJ := f6_ai10brrzii_j2_ok k x1 x2 false v27 _ hF
        simp (maxSteps := 999999) (disch := first | exact D (by decide) | exact K (by kernel_rfl)) only [EA, EE, EG, EF, ED, ofVal, ofVal1, ofCell, lenV, aggEqV, cellEq, intBin, isShift, V.ids, lendV, frz, flatV, cellsOf, addOff, firstReg, oneOf, cellsAt, isAggD, isPure, ↓reduceIte, reduceCtorEq, Nat.reduceAdd, Nat.reduceSub, Nat.reduceMul, Nat.reduceLeDiff, Nat.reduceEqDiff, Nat.reduceBEq, Int.reduceToNat, Int.reduceLE, Int.reduceLT, Nat.reduceLT, Int.reduceBEq, Int.reduceBNe, Int.reduceEq, String.reduceEq, xk B6 [3, 2, 1, 2, 2, 2] .sk rfl, hc3, h21, h22, hc25, h28]
        try simp only [NM, EE] at hJ
        exact hJ
noncomputable def f6_ai10brrzii_e (k : Nat) (a0 : Int) (a0_1 : Int) (a0_2 : Int) (a0_3 : Int) (a0_4 : Int) (a0_5 : Int) (a0_6 : Int) (a0_7 : Int) (a0_8 : Int) (a0_9 : Int) (a0_10 : Bool) (a0_11 : List Int) (a0_12 : List T45) (a1 : Int) (a2 : Int) : Option R6_ai10brrzii :=
  Option.bind (f7_ k) fun o1 =>
    match o1 with
    | .o0 v4 =>
      cond ((!v4))
        (some (R6_ai10brrzii.o0 false))
        (f6_ai10brrzii_j1 k a1 a2 false a0 a0_1 a0_2 a0_3 a0_4 a0_5 a0_6 a0_7 a0_8 a0_9 a0_10 a0_11 a0_12)
theorem f6_ai10brrzii_e_ok (k : Nat) (a0 : Int) (a0_1 : Int) (a0_2 : Int) (a0_3 : Int) (a0_4 : Int) (a0_5 : Int) (a0_6 : Int) (a0_7 : Int) (a0_8 : Int) (a0_9 : Int) (a0_10 : Bool) (a0_11 : List Int) (a0_12 : List T45) (a1 : Int) (a2 : Int) (r : R6_ai10brrzii) (hF : f6_ai10brrzii_e k a0 a0_1 a0_2 a0_3 a0_4 a0_5 a0_6 a0_7 a0_8 a0_9 a0_10 a0_11 a0_12 a1 a2 = some r) : finK Try.prog Try.f6 0 (EX 6 k (nav B6 []) ({ n := 72, F := [(0, V.agg [V.p (Value.int .i64 a0), V.p (Value.int .i64 a0_1), V.p (Value.int .u32 a0_2), V.p (Value.int .u32 a0_3), V.p (Value.int .u32 a0_4), V.p (Value.int .i64 a0_5), V.p (Value.int .i64 a0_6), V.p (Value.int .i64 a0_7), V.p (Value.int .i64 a0_8), V.p (Value.int .i64 a0_9), V.p (Value.bool a0_10), V.sl 1 (rowsOf (encI .u8) a0_11), V.sl 2 (rowsOf encT45 a0_12)]), (1, V.p (Value.int .i64 a1)), (2, V.p (Value.int .u8 a2))], M := [] } : St)) = some r.st := by
  unfold f6_ai10brrzii_e at hF
  replace hF := Option.bind_eq_some_iff.1 hF
  obtain ⟨o1, h2, hF⟩ := hF
  have hc3 := f7__ok k _ h2
  cases o1 with
  | o0 v4 =>
    (try dsimp only at hF)
    (try simp only [NM, EE, R7_.st] at hc3)
    simp (maxSteps := 999999) (disch := first | exact D (by decide) | exact K (by kernel_rfl)) only [EA, EE, EG, EF, ED, ofVal, ofVal1, ofCell, lenV, aggEqV, cellEq, intBin, isShift, V.ids, lendV, frz, flatV, cellsOf, addOff, firstReg, oneOf, cellsAt, isAggD, isPure, ↓reduceIte, reduceCtorEq, Nat.reduceAdd, Nat.reduceSub, Nat.reduceMul, Nat.reduceLeDiff, Nat.reduceEqDiff, Nat.reduceBEq, Int.reduceToNat, Int.reduceLE, Int.reduceLT, Nat.reduceLT, Int.reduceBEq, Int.reduceBNe, Int.reduceEq, String.reduceEq, xk B6 [] .sq rfl, show (nav B6 [1]) = Code.region 0 _ false from rfl, hk_6_0, hz_6_0, hs_6_0, xk B6 [2] .sq rfl, xk B6 [1, 2] .sq rfl, show (nav B6 [1, 1, 2]) = Code.region 1 _ false from rfl, hk_6_1, hz_6_1, hs_6_1, callStep, calleeOf, gv, List.contains, xk B6 [2, 1, 2] (.cd 15) rfl, hc3]
    replace hF := cond_some hF
    rcases hF with ⟨h5, hF⟩ | ⟨h5, hF⟩
    · cases hF
      simp (maxSteps := 999999) (disch := first | exact D (by decide) | exact K (by kernel_rfl)) only [EA, EE, EG, EF, ED, ofVal, ofVal1, ofCell, lenV, aggEqV, cellEq, intBin, isShift, V.ids, lendV, frz, flatV, cellsOf, addOff, firstReg, oneOf, cellsAt, isAggD, isPure, ↓reduceIte, reduceCtorEq, Nat.reduceAdd, Nat.reduceSub, Nat.reduceMul, Nat.reduceLeDiff, Nat.reduceEqDiff, Nat.reduceBEq, Int.reduceToNat, Int.reduceLE, Int.reduceLT, Nat.reduceLT, Int.reduceBEq, Int.reduceBNe, Int.reduceEq, String.reduceEq, xk B6 [2, 2, 1, 2] .sq rfl, show (nav B6 [1, 2, 2, 1, 2]) = Code.region 2 _ false from rfl, hk_6_2, hz_6_2, hs_6_2, xk B6 [2, 2, 2, 1, 2] .rt rfl, finK_norm, finK_ret, fin6, R6_ai10brrzii.st, hc3, h5]
    · have hJ := f6_ai10brrzii_j1_ok k a1 a2 false a0 a0_1 a0_2 a0_3 a0_4 a0_5 a0_6 a0_7 a0_8 a0_9 a0_10 a0_11 a0_12 _ hF
      simp (maxSteps := 999999) (disch := first | exact D (by decide) | exact K (by kernel_rfl)) only [EA, EE, EG, EF, ED, ofVal, ofVal1, ofCell, lenV, aggEqV, cellEq, intBin, isShift, V.ids, lendV, frz, flatV, cellsOf, addOff, firstReg, oneOf, cellsAt, isAggD, isPure, ↓reduceIte, reduceCtorEq, Nat.reduceAdd, Nat.reduceSub, Nat.reduceMul, Nat.reduceLeDiff, Nat.reduceEqDiff, Nat.reduceBEq, Int.reduceToNat, Int.reduceLE, Int.reduceLT, Nat.reduceLT, Int.reduceBEq, Int.reduceBNe, Int.reduceEq, String.reduceEq, xk B6 [3, 2, 1, 2] .sk rfl, hc3, h5]
      try simp only [NM, EE] at hJ
      exact hJ
noncomputable def f6_ai10brrzii (k : Nat) (a0 : Int) (a0_1 : Int) (a0_2 : Int) (a0_3 : Int) (a0_4 : Int) (a0_5 : Int) (a0_6 : Int) (a0_7 : Int) (a0_8 : Int) (a0_9 : Int) (a0_10 : Bool) (a0_11 : List Int) (a0_12 : List T45) (a1 : Int) (a2 : Int) : Option R6_ai10brrzii := match k with | 0 => none | k + 1 => f6_ai10brrzii_e k a0 a0_1 a0_2 a0_3 a0_4 a0_5 a0_6 a0_7 a0_8 a0_9 a0_10 a0_11 a0_12 a1 a2
theorem f6_ai10brrzii_ok (k : Nat) (a0 : Int) (a0_1 : Int) (a0_2 : Int) (a0_3 : Int) (a0_4 : Int) (a0_5 : Int) (a0_6 : Int) (a0_7 : Int) (a0_8 : Int) (a0_9 : Int) (a0_10 : Bool) (a0_11 : List Int) (a0_12 : List T45) (a1 : Int) (a2 : Int) (r : R6_ai10brrzii) (hF : f6_ai10brrzii k a0 a0_1 a0_2 a0_3 a0_4 a0_5 a0_6 a0_7 a0_8 a0_9 a0_10 a0_11 a0_12 a1 a2 = some r) : CV k 6 [V.agg [V.p (Value.int .i64 a0), V.p (Value.int .i64 a0_1), V.p (Value.int .u32 a0_2), V.p (Value.int .u32 a0_3), V.p (Value.int .u32 a0_4), V.p (Value.int .i64 a0_5), V.p (Value.int .i64 a0_6), V.p (Value.int .i64 a0_7), V.p (Value.int .i64 a0_8), V.p (Value.int .i64 a0_9), V.p (Value.bool a0_10), V.sl 1 (rowsOf (encI .u8) a0_11), V.sl 2 (rowsOf encT45 a0_12)], V.p (Value.int .i64 a1), V.p (Value.int .u8 a2)] [] = some r.st := by
  cases k with
  | zero => cases hF
  | succ k =>
    unfold CV
    rw [ev_call (F := Try.f6) (c := (nav B6 [])) rfl Try.func6 rfl rfl rfl]
    exact f6_ai10brrzii_e_ok k a0 a0_1 a0_2 a0_3 a0_4 a0_5 a0_6 a0_7 a0_8 a0_9 a0_10 a0_11 a0_12 a1 a2 r hF
end Go.Proofs.YthjefcamonmjpaaV
