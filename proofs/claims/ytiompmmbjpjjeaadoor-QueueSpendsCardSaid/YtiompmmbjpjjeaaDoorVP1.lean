/- What the program's functions answer: plain functions, and that the interpreter answers what they do. Written by a program of this session, out of the translation. -/
import Derived.Test.YtiompmmbjpjjeaaDoorVPC
namespace Go.Proofs.YtiompmmbjpjjeaaDoorV
open Go
set_option linter.unusedVariables false
set_option linter.unusedSimpArgs false
set_option maxRecDepth 8000
set_option maxHeartbeats 4000000
-- f8_: f8 heliograph/heliographlaw20.wakes
inductive R8_ where
  | o0 (y : Bool)
noncomputable def R8_.st : R8_ → V × List O × List O
  | .o0 y => (V.p (Value.bool y), [], [])
noncomputable def f8_ (k : Nat) : Option R8_ := ifE (200 ≤ k) (some (.o0 true))
theorem f8__ok (k : Nat) (r : R8_) (hF : f8_ k = some r) : CV k 8 [] [] = some r.st := by
  obtain ⟨h, hF⟩ := ifE_some.1 hF
  cases hF
  exact callV_le h wakes
-- f9_aiirriniz: f9 heliograph/heliographlaw20.short
inductive R9_aiirriniz where
  | o0 (y y_1 y_2 y_3 : Int) (y_4 : List T54) (y_5 : List Int) (y_6 : List T44)
noncomputable def R9_aiirriniz.st : R9_aiirriniz → V × List O × List O
  | .o0 y y_1 y_2 y_3 y_4 y_5 y_6 => (V.agg [V.p (Value.int .i64 y), V.p (Value.int .i64 y_1), V.own 2000000, V.own 2000001, V.p (Value.int .i64 y_2), V.own 2000002, V.p (Value.int .i64 y_3)], [], [O.row true 6 54 (rowsOf encT54 y_4), O.row true 1 3 (rowsOf (encI .i64) y_5), O.row true 3 44 (rowsOf encT44 y_6)])
noncomputable def f9_aiirriniz_e (k : Nat) (a0 a0_1 : Int) (a0_2 : List T54) (a0_3 : List Int) (a0_4 a0_5 : Int) : Option R9_aiirriniz :=
  ifE ((0 : Int) ≤ (if (30 : Int) < ((List.length a0_2) : Int) then 30 else ((List.length a0_2) : Int))) (
    ifE ((Int.toNat ((if (30 : Int) < ((List.length a0_2) : Int) then 30 else ((List.length a0_2) : Int)))) ≤ (List.length a0_2)) (
      ifE ((List.length ((List.take ((Int.toNat ((if (30 : Int) < ((List.length a0_2) : Int) then 30 else ((List.length a0_2) : Int))))) a0_2))) * 48 ≤ roomy) (
        ifE ((0 : Int) ≤ (if (30 : Int) < ((List.length a0_3) : Int) then 30 else ((List.length a0_3) : Int))) (
          ifE ((Int.toNat ((if (30 : Int) < ((List.length a0_3) : Int) then 30 else ((List.length a0_3) : Int)))) ≤ (List.length a0_3)) (
            ifE ((List.length ((List.take ((Int.toNat ((if (30 : Int) < ((List.length a0_3) : Int) then 30 else ((List.length a0_3) : Int))))) a0_3))) * 8 ≤ roomy) (
              some (R9_aiirriniz.o0 a0 a0_1 a0_4 a0_5 ((List.take ((Int.toNat ((if (30 : Int) < ((List.length a0_2) : Int) then 30 else ((List.length a0_2) : Int))))) a0_2)) ((List.take ((Int.toNat ((if (30 : Int) < ((List.length a0_3) : Int) then 30 else ((List.length a0_3) : Int))))) a0_3)) [])))))))
theorem f9_aiirriniz_e_ok (k : Nat) (a0 a0_1 : Int) (a0_2 : List T54) (a0_3 : List Int) (a0_4 a0_5 : Int) (r : R9_aiirriniz) (hF : f9_aiirriniz_e k a0 a0_1 a0_2 a0_3 a0_4 a0_5 = some r) : finK Tryd.prog Tryd.f9 0 (EX 9 k (nav B9 []) ({ n := 37, F := [(0, V.agg [V.p (Value.int .i64 a0), V.p (Value.int .i64 a0_1), V.sl 6 (rowsOf encT54 a0_2), V.sl 1 (rowsOf (encI .i64) a0_3), V.p (Value.int .i64 a0_4), V.nil, V.p (Value.int .i64 a0_5)])], M := [] } : St)) = some r.st := by
  unfold f9_aiirriniz_e at hF
  replace hF := ifE_some.1 hF
  obtain ⟨h1, hF⟩ := hF
  replace hF := ifE_some.1 hF
  obtain ⟨h2, hF⟩ := hF
  replace hF := ifE_some.1 hF
  obtain ⟨h3, hF⟩ := hF
  replace hF := ifE_some.1 hF
  obtain ⟨h4, hF⟩ := hF
  replace hF := ifE_some.1 hF
  obtain ⟨h5, hF⟩ := hF
  replace hF := ifE_some.1 hF
  obtain ⟨h6, hF⟩ := hF
  cases hF
  simp (maxSteps := 999999) (disch := first | exact D (by decide) | exact K (by kernel_rfl)) only [E, EE, ↓reduceIte, simprocAttr, xk B9 [] .sq rfl, show (nav B9 [1]) = Code.region 0 _ false from rfl, hk_9_0, hz_9_0, hs_9_0, u_28, i_28, is_28, ib_28, iz_28, xk B9 [2] .sq rfl, show (nav B9 [1, 2]) = Code.region 1 _ false from rfl, hk_9_1, hz_9_1, hs_9_1, buildSliceV, fillRows, sm_54, u_22, i_22, is_22, ib_22, iz_22, u_54, i_54, is_54, ib_54, iz_54, fieldAddrV, u_24, i_24, is_24, ib_24, iz_24, minmaxV, minmaxGo, sliceV, bound, appendV, content, xk B9 [2, 2] .sq rfl, show (nav B9 [1, 2, 2]) = Code.region 2 _ false from rfl, hk_9_2, hz_9_2, hs_9_2, sm_3, u_25, i_25, is_25, ib_25, iz_25, u_3, i_3, is_3, ib_3, iz_3, xk B9 [2, 2, 2] .sq rfl, show (nav B9 [1, 2, 2, 2]) = Code.region 3 _ false from rfl, hk_9_3, hz_9_3, hs_9_3, sm_44, u_26, i_26, is_26, ib_26, iz_26, u_44, i_44, is_44, ib_44, iz_44, xk B9 [2, 2, 2, 2] .sq rfl, show (nav B9 [1, 2, 2, 2, 2]) = Code.region 4 _ false from rfl, hk_9_4, hz_9_4, hs_9_4, xk B9 [2, 2, 2, 2, 2] .rt rfl, finK_norm, finK_ret, fin9, R9_aiirriniz.st, h1, h2, h3, h4, h5, h6]
noncomputable def f9_aiirriniz (k : Nat) (a0 a0_1 : Int) (a0_2 : List T54) (a0_3 : List Int) (a0_4 a0_5 : Int) : Option R9_aiirriniz := match k with | 0 => none | k + 1 => f9_aiirriniz_e k a0 a0_1 a0_2 a0_3 a0_4 a0_5
theorem f9_aiirriniz_ok (k : Nat) (a0 a0_1 : Int) (a0_2 : List T54) (a0_3 : List Int) (a0_4 a0_5 : Int) (r : R9_aiirriniz) (hF : f9_aiirriniz k a0 a0_1 a0_2 a0_3 a0_4 a0_5 = some r) : CV k 9 [V.agg [V.p (Value.int .i64 a0), V.p (Value.int .i64 a0_1), V.sl 6 (rowsOf encT54 a0_2), V.sl 1 (rowsOf (encI .i64) a0_3), V.p (Value.int .i64 a0_4), V.nil, V.p (Value.int .i64 a0_5)]] [] = some r.st := by
  cases k with
  | zero => cases hF
  | succ k =>
    unfold CV
    rw [ev_call (F := Tryd.f9) (c := (nav B9 [])) rfl Tryd.func9 rfl rfl rfl rfl]
    exact f9_aiirriniz_e_ok k a0 a0_1 a0_2 a0_3 a0_4 a0_5 r hF
-- f9_aiirririz: f9 heliograph/heliographlaw20.short
inductive R9_aiirririz where
  | o0 (y y_1 y_2 y_3 : Int) (y_4 : List T54) (y_5 : List Int) (y_6 : List T44)
noncomputable def R9_aiirririz.st : R9_aiirririz → V × List O × List O
  | .o0 y y_1 y_2 y_3 y_4 y_5 y_6 => (V.agg [V.p (Value.int .i64 y), V.p (Value.int .i64 y_1), V.own 2000000, V.own 2000001, V.p (Value.int .i64 y_2), V.own 2000002, V.p (Value.int .i64 y_3)], [], [O.row true 6 54 (rowsOf encT54 y_4), O.row true 1 3 (rowsOf (encI .i64) y_5), O.row true 3 44 (rowsOf encT44 y_6)])
noncomputable def f9_aiirririz_e (k : Nat) (a0 a0_1 : Int) (a0_2 : List T54) (a0_3 : List Int) (a0_4 : Int) (a0_5 : List T44) (a0_6 : Int) : Option R9_aiirririz :=
  ifE ((0 : Int) ≤ (if (30 : Int) < ((List.length a0_2) : Int) then 30 else ((List.length a0_2) : Int))) (
    ifE ((Int.toNat ((if (30 : Int) < ((List.length a0_2) : Int) then 30 else ((List.length a0_2) : Int)))) ≤ (List.length a0_2)) (
      ifE ((List.length ((List.take ((Int.toNat ((if (30 : Int) < ((List.length a0_2) : Int) then 30 else ((List.length a0_2) : Int))))) a0_2))) * 48 ≤ roomy) (
        ifE ((0 : Int) ≤ (if (30 : Int) < ((List.length a0_3) : Int) then 30 else ((List.length a0_3) : Int))) (
          ifE ((Int.toNat ((if (30 : Int) < ((List.length a0_3) : Int) then 30 else ((List.length a0_3) : Int)))) ≤ (List.length a0_3)) (
            ifE ((List.length ((List.take ((Int.toNat ((if (30 : Int) < ((List.length a0_3) : Int) then 30 else ((List.length a0_3) : Int))))) a0_3))) * 8 ≤ roomy) (
              ifE ((0 : Int) ≤ (if (40 : Int) < ((List.length a0_5) : Int) then 40 else ((List.length a0_5) : Int))) (
                ifE ((Int.toNat ((if (40 : Int) < ((List.length a0_5) : Int) then 40 else ((List.length a0_5) : Int)))) ≤ (List.length a0_5)) (
                  ifE ((List.length ((List.take ((Int.toNat ((if (40 : Int) < ((List.length a0_5) : Int) then 40 else ((List.length a0_5) : Int))))) a0_5))) * 24 ≤ roomy) (
                    some (R9_aiirririz.o0 a0 a0_1 a0_4 a0_6 ((List.take ((Int.toNat ((if (30 : Int) < ((List.length a0_2) : Int) then 30 else ((List.length a0_2) : Int))))) a0_2)) ((List.take ((Int.toNat ((if (30 : Int) < ((List.length a0_3) : Int) then 30 else ((List.length a0_3) : Int))))) a0_3)) ((List.take ((Int.toNat ((if (40 : Int) < ((List.length a0_5) : Int) then 40 else ((List.length a0_5) : Int))))) a0_5))))))))))))
theorem f9_aiirririz_e_ok (k : Nat) (a0 a0_1 : Int) (a0_2 : List T54) (a0_3 : List Int) (a0_4 : Int) (a0_5 : List T44) (a0_6 : Int) (r : R9_aiirririz) (hF : f9_aiirririz_e k a0 a0_1 a0_2 a0_3 a0_4 a0_5 a0_6 = some r) : finK Tryd.prog Tryd.f9 0 (EX 9 k (nav B9 []) ({ n := 37, F := [(0, V.agg [V.p (Value.int .i64 a0), V.p (Value.int .i64 a0_1), V.sl 6 (rowsOf encT54 a0_2), V.sl 1 (rowsOf (encI .i64) a0_3), V.p (Value.int .i64 a0_4), V.sl 3 (rowsOf encT44 a0_5), V.p (Value.int .i64 a0_6)])], M := [] } : St)) = some r.st := by
  unfold f9_aiirririz_e at hF
  replace hF := ifE_some.1 hF
  obtain ⟨h1, hF⟩ := hF
  replace hF := ifE_some.1 hF
  obtain ⟨h2, hF⟩ := hF
  replace hF := ifE_some.1 hF
  obtain ⟨h3, hF⟩ := hF
  replace hF := ifE_some.1 hF
  obtain ⟨h4, hF⟩ := hF
  replace hF := ifE_some.1 hF
  obtain ⟨h5, hF⟩ := hF
  replace hF := ifE_some.1 hF
  obtain ⟨h6, hF⟩ := hF
  replace hF := ifE_some.1 hF
  obtain ⟨h7, hF⟩ := hF
  replace hF := ifE_some.1 hF
  obtain ⟨h8, hF⟩ := hF
  replace hF := ifE_some.1 hF
  obtain ⟨h9, hF⟩ := hF
  cases hF
  simp (maxSteps := 999999) (disch := first | exact D (by decide) | exact K (by kernel_rfl)) only [E, EE, ↓reduceIte, simprocAttr, xk B9 [] .sq rfl, show (nav B9 [1]) = Code.region 0 _ false from rfl, hk_9_0, hz_9_0, hs_9_0, u_28, i_28, is_28, ib_28, iz_28, xk B9 [2] .sq rfl, show (nav B9 [1, 2]) = Code.region 1 _ false from rfl, hk_9_1, hz_9_1, hs_9_1, buildSliceV, fillRows, sm_54, u_22, i_22, is_22, ib_22, iz_22, u_54, i_54, is_54, ib_54, iz_54, fieldAddrV, u_24, i_24, is_24, ib_24, iz_24, minmaxV, minmaxGo, sliceV, bound, appendV, content, xk B9 [2, 2] .sq rfl, show (nav B9 [1, 2, 2]) = Code.region 2 _ false from rfl, hk_9_2, hz_9_2, hs_9_2, sm_3, u_25, i_25, is_25, ib_25, iz_25, u_3, i_3, is_3, ib_3, iz_3, xk B9 [2, 2, 2] .sq rfl, show (nav B9 [1, 2, 2, 2]) = Code.region 3 _ false from rfl, hk_9_3, hz_9_3, hs_9_3, sm_44, u_26, i_26, is_26, ib_26, iz_26, u_44, i_44, is_44, ib_44, iz_44, xk B9 [2, 2, 2, 2] .sq rfl, show (nav B9 [1, 2, 2, 2, 2]) = Code.region 4 _ false from rfl, hk_9_4, hz_9_4, hs_9_4, xk B9 [2, 2, 2, 2, 2] .rt rfl, finK_norm, finK_ret, fin9, R9_aiirririz.st, h1, h2, h3, h4, h5, h6, h7, h8, h9]
noncomputable def f9_aiirririz (k : Nat) (a0 a0_1 : Int) (a0_2 : List T54) (a0_3 : List Int) (a0_4 : Int) (a0_5 : List T44) (a0_6 : Int) : Option R9_aiirririz := match k with | 0 => none | k + 1 => f9_aiirririz_e k a0 a0_1 a0_2 a0_3 a0_4 a0_5 a0_6
theorem f9_aiirririz_ok (k : Nat) (a0 a0_1 : Int) (a0_2 : List T54) (a0_3 : List Int) (a0_4 : Int) (a0_5 : List T44) (a0_6 : Int) (r : R9_aiirririz) (hF : f9_aiirririz k a0 a0_1 a0_2 a0_3 a0_4 a0_5 a0_6 = some r) : CV k 9 [V.agg [V.p (Value.int .i64 a0), V.p (Value.int .i64 a0_1), V.sl 6 (rowsOf encT54 a0_2), V.sl 1 (rowsOf (encI .i64) a0_3), V.p (Value.int .i64 a0_4), V.sl 3 (rowsOf encT44 a0_5), V.p (Value.int .i64 a0_6)]] [] = some r.st := by
  cases k with
  | zero => cases hF
  | succ k =>
    unfold CV
    rw [ev_call (F := Tryd.f9) (c := (nav B9 [])) rfl Tryd.func9 rfl rfl rfl rfl]
    exact f9_aiirririz_e_ok k a0 a0_1 a0_2 a0_3 a0_4 a0_5 a0_6 r hF
-- f36_iii: f36 heliograph/plan.within
inductive R36_iii where
  | o0 (y : Bool)
noncomputable def R36_iii.st : R36_iii → V × List O × List O
  | .o0 y => (V.p (Value.bool y), [], [])
noncomputable def f36_iii_e (k : Nat) (a0 a1 a2 : Int) : Option R36_iii :=
  cond ((decide (a0 ≥ a1)))
    (some (R36_iii.o0 (decide (a0 ≤ a2))))
    (some (R36_iii.o0 false))
theorem f36_iii_e_ok (k : Nat) (a0 a1 a2 : Int) (r : R36_iii) (hF : f36_iii_e k a0 a1 a2 = some r) : finK Tryd.prog Tryd.f36 0 (EX 36 k (nav B36 []) ({ n := 15, F := [(0, V.p (Value.int .i64 a0)), (1, V.p (Value.int .i64 a1)), (2, V.p (Value.int .i64 a2))], M := [] } : St)) = some r.st := by
  unfold f36_iii_e at hF
  simp (maxSteps := 999999) (disch := first | exact D (by decide) | exact K (by kernel_rfl)) only [E, EE, ↓reduceIte, simprocAttr, xk B36 [] .sq rfl, show (nav B36 [1]) = Code.region 0 _ false from rfl, hk_36_0, hz_36_0, hs_36_0, xk B36 [2] .sq rfl, show (nav B36 [1, 2]) = Code.region 1 _ false from rfl, hk_36_1, hz_36_1, hs_36_1]
  replace hF := cond_some hF
  rcases hF with ⟨h1, hF⟩ | ⟨h1, hF⟩
  · cases hF
    simp (maxSteps := 999999) (disch := first | exact D (by decide) | exact K (by kernel_rfl)) only [E, EE, ↓reduceIte, simprocAttr, xk B36 [2, 2] .rt rfl, finK_norm, finK_ret, fin36, R36_iii.st, h1]
  · cases hF
    simp (maxSteps := 999999) (disch := first | exact D (by decide) | exact K (by kernel_rfl)) only [E, EE, ↓reduceIte, simprocAttr, xk B36 [2, 2] .rt rfl, finK_norm, finK_ret, fin36, R36_iii.st, h1]
noncomputable def f36_iii (k : Nat) (a0 a1 a2 : Int) : Option R36_iii := match k with | 0 => none | k + 1 => f36_iii_e k a0 a1 a2
theorem f36_iii_ok (k : Nat) (a0 a1 a2 : Int) (r : R36_iii) (hF : f36_iii k a0 a1 a2 = some r) : CV k 36 [V.p (Value.int .i64 a0), V.p (Value.int .i64 a1), V.p (Value.int .i64 a2)] [] = some r.st := by
  cases k with
  | zero => cases hF
  | succ k =>
    unfold CV
    rw [ev_call (F := Tryd.f36) (c := (nav B36 [])) rfl Tryd.func36 rfl rfl rfl rfl]
    exact f36_iii_e_ok k a0 a1 a2 r hF
-- f33_airz: f33 heliograph/plan.Check
inductive R33_airz where
  | o0 (y : Int)
noncomputable def R33_airz.st : R33_airz → V × List O × List O
  | .o0 y => (V.p (Value.int .i64 y), [], [])
inductive R33_airz_l2_l3 where
  | o0 (y : Int)
  | o1 (y : List T54) (y_1 y_2 : Int) (y_3 : List T54) (y_4 y_5 y_6 : Int) (y_7 : List T54) (y_8 y_9 y_10 y_11 y_12 y_13 : Int)
  | o2 (y : List T54) (y_1 y_2 : Int) (y_3 : List T54) (y_4 y_5 : Int) (y_6 : Bool) (y_7 : Int) (y_8 : List T54) (y_9 y_10 y_11 y_12 y_13 y_14 : Int)
noncomputable def R33_airz_l2_l3.st : R33_airz_l2_l3 → Out × St
  | .o0 y => (.ret, ({ n := 112, F := [(2, V.p (Value.int .i64 y))], M := [] } : St))
  | .o1 y y_1 y_2 y_3 y_4 y_5 y_6 y_7 y_8 y_9 y_10 y_11 y_12 y_13 => (.norm, ({ n := 112, F := [(1, V.ptr 30000 0), (4, V.ptr 30001 0), (18, V.sl 6 (rowsOf encT54 y)), (19, V.p (Value.int .i64 y_1)), (20, V.p (Value.int .i64 y_2)), (78, V.sl 6 (rowsOf encT54 y_3)), (79, V.p (Value.int .i64 y_4)), (80, V.p (Value.int .i64 y_5))], M := [(30000, O.box 24 [V.p (Value.int .i64 y_6), V.sl 6 (rowsOf encT54 y_7)]), (30001, O.box 54 [V.p (Value.int .i64 y_8), V.p (Value.int .i64 y_9), V.p (Value.int .i64 y_10), V.p (Value.int .i64 y_11), V.p (Value.int .i64 y_12), V.p (Value.int .i64 y_13)])] } : St))
  | .o2 y y_1 y_2 y_3 y_4 y_5 y_6 y_7 y_8 y_9 y_10 y_11 y_12 y_13 y_14 => (.exit 2, ({ n := 112, F := [(1, V.ptr 30000 0), (4, V.ptr 30001 0), (18, V.sl 6 (rowsOf encT54 y)), (19, V.p (Value.int .i64 y_1)), (20, V.p (Value.int .i64 y_2)), (78, V.sl 6 (rowsOf encT54 y_3)), (79, V.p (Value.int .i64 y_4)), (80, V.p (Value.int .i64 y_5)), (81, V.p (Value.bool y_6))], M := [(30000, O.box 24 [V.p (Value.int .i64 y_7), V.sl 6 (rowsOf encT54 y_8)]), (30001, O.box 54 [V.p (Value.int .i64 y_9), V.p (Value.int .i64 y_10), V.p (Value.int .i64 y_11), V.p (Value.int .i64 y_12), V.p (Value.int .i64 y_13), V.p (Value.int .i64 y_14)])] } : St))
noncomputable def f33_airz_l2_l3_j2 (k : Nat) (x18 : List T54) (x19 x20 : Int) (x78 : List T54) (x79 x80 : Int) (x109 : Bool) (h0_ : Int) (h0__1 : List T54) (h1_ h1__1 h1__2 h1__3 h1__4 h1__5 : Int) : Option R33_airz_l2_l3 :=
  some (R33_airz_l2_l3.o1 x18 x19 x20 x78 x79 (IntKind.i64.wrap (x80 + (1 : Int))) h0_ h0__1 h1_ h1__1 h1__2 h1__3 h1__4 h1__5)
theorem f33_airz_l2_l3_j2_ok (k : Nat) (x18 : List T54) (x19 x20 : Int) (x78 : List T54) (x79 x80 : Int) (x109 : Bool) (h0_ : Int) (h0__1 : List T54) (h1_ h1__1 h1__2 h1__3 h1__4 h1__5 : Int) (r : R33_airz_l2_l3) (hF : f33_airz_l2_l3_j2 k x18 x19 x20 x78 x79 x80 x109 h0_ h0__1 h1_ h1__1 h1__2 h1__3 h1__4 h1__5 = some r) : EX 33 k (nav B33 [2, 2, 2, 1, 2, 2, 2, 2, 2, 1, 2, 2, 1, 2, 2, 1, 2, 2]) ({ n := 112, F := [(1, V.ptr 30000 0), (4, V.ptr 30001 0), (18, V.sl 6 (rowsOf encT54 x18)), (19, V.p (Value.int .i64 x19)), (20, V.p (Value.int .i64 x20)), (78, V.sl 6 (rowsOf encT54 x78)), (79, V.p (Value.int .i64 x79)), (80, V.p (Value.int .i64 x80)), (109, V.p (Value.bool x109))], M := [(30000, O.box 24 [V.p (Value.int .i64 h0_), V.sl 6 (rowsOf encT54 h0__1)]), (30001, O.box 54 [V.p (Value.int .i64 h1_), V.p (Value.int .i64 h1__1), V.p (Value.int .i64 h1__2), V.p (Value.int .i64 h1__3), V.p (Value.int .i64 h1__4), V.p (Value.int .i64 h1__5)])] } : St) = some r.st := by
  unfold f33_airz_l2_l3_j2 at hF
  cases hF
  simp (maxSteps := 999999) (disch := first | exact D (by decide) | exact K (by kernel_rfl)) only [E, EE, ↓reduceIte, simprocAttr, show (nav B33 [2, 2, 2, 1, 2, 2, 2, 2, 2, 1, 2, 2, 1, 2, 2, 1, 2, 2]) = Code.region 13 _ false from rfl, hk_33_13, hz_33_13, hs_33_13, R33_airz_l2_l3.st]
noncomputable def f33_airz_l2_l3_j1 (k : Nat) (x18 : List T54) (x19 x20 : Int) (x78 : List T54) (x79 x80 : Int) (x81 : Bool) (h0_ : Int) (h0__1 : List T54) (h1_ h1__1 h1__2 h1__3 h1__4 h1__5 : Int) : Option R33_airz_l2_l3 :=
  ifE ((0 : Int) ≤ x80) (
    Option.bind (x78[(Int.toNat x80)]?) fun v2 =>
      cond ((v2.From == h1_))
        (
          cond ((v2.To == h1__1))
            (
              cond ((decide (v2.Start < h1__3)))
                (
                  cond ((decide (h1__2 < v2.End)))
                    (some (R33_airz_l2_l3.o0 230))
                    (f33_airz_l2_l3_j2 k x18 x19 x20 x78 x79 x80 false h0_ h0__1 h1_ h1__1 h1__2 h1__3 h1__4 h1__5))
                (f33_airz_l2_l3_j2 k x18 x19 x20 x78 x79 x80 false h0_ h0__1 h1_ h1__1 h1__2 h1__3 h1__4 h1__5))
            (f33_airz_l2_l3_j2 k x18 x19 x20 x78 x79 x80 false h0_ h0__1 h1_ h1__1 h1__2 h1__3 h1__4 h1__5))
        (f33_airz_l2_l3_j2 k x18 x19 x20 x78 x79 x80 false h0_ h0__1 h1_ h1__1 h1__2 h1__3 h1__4 h1__5))
theorem f33_airz_l2_l3_j1_ok (k : Nat) (x18 : List T54) (x19 x20 : Int) (x78 : List T54) (x79 x80 : Int) (x81 : Bool) (h0_ : Int) (h0__1 : List T54) (h1_ h1__1 h1__2 h1__3 h1__4 h1__5 : Int) (r : R33_airz_l2_l3) (hF : f33_airz_l2_l3_j1 k x18 x19 x20 x78 x79 x80 x81 h0_ h0__1 h1_ h1__1 h1__2 h1__3 h1__4 h1__5 = some r) : EX 33 k (nav B33 [2, 2, 1, 2, 2, 2, 2, 2, 1, 2, 2, 1, 2, 2, 1, 2, 2]) ({ n := 112, F := [(1, V.ptr 30000 0), (4, V.ptr 30001 0), (18, V.sl 6 (rowsOf encT54 x18)), (19, V.p (Value.int .i64 x19)), (20, V.p (Value.int .i64 x20)), (78, V.sl 6 (rowsOf encT54 x78)), (79, V.p (Value.int .i64 x79)), (80, V.p (Value.int .i64 x80)), (81, V.p (Value.bool x81))], M := [(30000, O.box 24 [V.p (Value.int .i64 h0_), V.sl 6 (rowsOf encT54 h0__1)]), (30001, O.box 54 [V.p (Value.int .i64 h1_), V.p (Value.int .i64 h1__1), V.p (Value.int .i64 h1__2), V.p (Value.int .i64 h1__3), V.p (Value.int .i64 h1__4), V.p (Value.int .i64 h1__5)])] } : St) = some r.st := by
  unfold f33_airz_l2_l3_j1 at hF
  replace hF := ifE_some.1 hF
  obtain ⟨h1, hF⟩ := hF
  replace hF := Option.bind_eq_some_iff.1 hF
  obtain ⟨v2, h3, hF⟩ := hF
  simp (maxSteps := 999999) (disch := first | exact D (by decide) | exact K (by kernel_rfl)) only [E, EE, ↓reduceIte, simprocAttr, xk B33 [2, 2, 1, 2, 2, 2, 2, 2, 1, 2, 2, 1, 2, 2, 1, 2, 2] .sq rfl, xk B33 [1, 2, 2, 1, 2, 2, 2, 2, 2, 1, 2, 2, 1, 2, 2, 1, 2, 2] (.bk 3) rfl, xk B33 [2, 1, 2, 2, 1, 2, 2, 2, 2, 2, 1, 2, 2, 1, 2, 2, 1, 2, 2] .sq rfl, show (nav B33 [1, 2, 1, 2, 2, 1, 2, 2, 2, 2, 2, 1, 2, 2, 1, 2, 2, 1, 2, 2]) = Code.region 10 _ false from rfl, hk_33_10, hz_33_10, hs_33_10, indexAddrV, u_22, i_22, is_22, ib_22, iz_22, u_54, i_54, is_54, ib_54, iz_54, encT54_eq, xk B33 [2, 2, 1, 2, 2, 1, 2, 2, 2, 2, 2, 1, 2, 2, 1, 2, 2, 1, 2, 2] .sq rfl, show (nav B33 [1, 2, 2, 1, 2, 2, 1, 2, 2, 2, 2, 2, 1, 2, 2, 1, 2, 2, 1, 2, 2]) = Code.region 11 _ false from rfl, hk_33_11, hz_33_11, hs_33_11, fieldAddrV, u_3, i_3, is_3, ib_3, iz_3, h1, h3]
  replace hF := cond_some hF
  rcases hF with ⟨h4, hF⟩ | ⟨h4, hF⟩
  · simp (maxSteps := 999999) (disch := first | exact D (by decide) | exact K (by kernel_rfl)) only [E, EE, ↓reduceIte, simprocAttr, fieldAddrV, u_54, i_54, is_54, ib_54, iz_54, u_3, i_3, is_3, ib_3, iz_3, h1, h3, h4]
    replace hF := cond_some hF
    rcases hF with ⟨h5, hF⟩ | ⟨h5, hF⟩
    · simp (maxSteps := 999999) (disch := first | exact D (by decide) | exact K (by kernel_rfl)) only [E, EE, ↓reduceIte, simprocAttr, fieldAddrV, u_54, i_54, is_54, ib_54, iz_54, u_3, i_3, is_3, ib_3, iz_3, h1, h3, h4, h5]
      replace hF := cond_some hF
      rcases hF with ⟨h6, hF⟩ | ⟨h6, hF⟩
      · simp (maxSteps := 999999) (disch := first | exact D (by decide) | exact K (by kernel_rfl)) only [E, EE, ↓reduceIte, simprocAttr, fieldAddrV, u_54, i_54, is_54, ib_54, iz_54, u_3, i_3, is_3, ib_3, iz_3, xk B33 [2, 2, 2, 1, 2, 2, 1, 2, 2, 2, 2, 2, 1, 2, 2, 1, 2, 2, 1, 2, 2] (.cd 109) rfl, h1, h3, h4, h5, h6]
        replace hF := cond_some hF
        rcases hF with ⟨h7, hF⟩ | ⟨h7, hF⟩
        · cases hF
          simp (maxSteps := 999999) (disch := first | exact D (by decide) | exact K (by kernel_rfl)) only [E, EE, ↓reduceIte, simprocAttr, xk B33 [2, 2, 2, 2, 1, 2, 2, 1, 2, 2, 2, 2, 2, 1, 2, 2, 1, 2, 2, 1, 2, 2] .sq rfl, show (nav B33 [1, 2, 2, 2, 2, 1, 2, 2, 1, 2, 2, 2, 2, 2, 1, 2, 2, 1, 2, 2, 1, 2, 2]) = Code.region 12 _ false from rfl, hk_33_12, hz_33_12, hs_33_12, xk B33 [2, 2, 2, 2, 2, 1, 2, 2, 1, 2, 2, 2, 2, 2, 1, 2, 2, 1, 2, 2, 1, 2, 2] .rt rfl, R33_airz_l2_l3.st, h1, h3, h4, h5, h6, h7]
        · have hJ := f33_airz_l2_l3_j2_ok k x18 x19 x20 x78 x79 x80 false h0_ h0__1 h1_ h1__1 h1__2 h1__3 h1__4 h1__5 _ hF
          simp (maxSteps := 999999) (disch := first | exact D (by decide) | exact K (by kernel_rfl)) only [E, EE, ↓reduceIte, simprocAttr, xk B33 [3, 2, 2, 2, 1, 2, 2, 1, 2, 2, 2, 2, 2, 1, 2, 2, 1, 2, 2, 1, 2, 2] .sk rfl, h1, h3, h4, h5, h6, h7]
          try simp only [NM, EE] at hJ
          exact hJ
      · have hJ := f33_airz_l2_l3_j2_ok k x18 x19 x20 x78 x79 x80 false h0_ h0__1 h1_ h1__1 h1__2 h1__3 h1__4 h1__5 _ hF
        simp (maxSteps := 999999) (disch := first | exact D (by decide) | exact K (by kernel_rfl)) only [E, EE, ↓reduceIte, simprocAttr, xk B33 [2, 2, 2, 1, 2, 2, 1, 2, 2, 2, 2, 2, 1, 2, 2, 1, 2, 2, 1, 2, 2] (.cd 109) rfl, xk B33 [3, 2, 2, 2, 1, 2, 2, 1, 2, 2, 2, 2, 2, 1, 2, 2, 1, 2, 2, 1, 2, 2] .sk rfl, h1, h3, h4, h5, h6]
        try simp only [NM, EE] at hJ
        exact hJ
    · have hJ := f33_airz_l2_l3_j2_ok k x18 x19 x20 x78 x79 x80 false h0_ h0__1 h1_ h1__1 h1__2 h1__3 h1__4 h1__5 _ hF
      simp (maxSteps := 999999) (disch := first | exact D (by decide) | exact K (by kernel_rfl)) only [E, EE, ↓reduceIte, simprocAttr, xk B33 [2, 2, 2, 1, 2, 2, 1, 2, 2, 2, 2, 2, 1, 2, 2, 1, 2, 2, 1, 2, 2] (.cd 109) rfl, xk B33 [3, 2, 2, 2, 1, 2, 2, 1, 2, 2, 2, 2, 2, 1, 2, 2, 1, 2, 2, 1, 2, 2] .sk rfl, h1, h3, h4, h5]
      try simp only [NM, EE] at hJ
      exact hJ
  · have hJ := f33_airz_l2_l3_j2_ok k x18 x19 x20 x78 x79 x80 false h0_ h0__1 h1_ h1__1 h1__2 h1__3 h1__4 h1__5 _ hF
    simp (maxSteps := 999999) (disch := first | exact D (by decide) | exact K (by kernel_rfl)) only [E, EE, ↓reduceIte, simprocAttr, xk B33 [2, 2, 2, 1, 2, 2, 1, 2, 2, 2, 2, 2, 1, 2, 2, 1, 2, 2, 1, 2, 2] (.cd 109) rfl, xk B33 [3, 2, 2, 2, 1, 2, 2, 1, 2, 2, 2, 2, 2, 1, 2, 2, 1, 2, 2, 1, 2, 2] .sk rfl, h1, h3, h4]
    try simp only [NM, EE] at hJ
    exact hJ
noncomputable def f33_airz_l2_l3_b (k : Nat) (x18 : List T54) (x19 x20 : Int) (x78 : List T54) (x79 x80 h0_ : Int) (h0__1 : List T54) (h1_ h1__1 h1__2 h1__3 h1__4 h1__5 : Int) : Option R33_airz_l2_l3 :=
  cond ((decide (x80 < x79)))
    (f33_airz_l2_l3_j1 k x18 x19 x20 x78 x79 x80 true h0_ h0__1 h1_ h1__1 h1__2 h1__3 h1__4 h1__5)
    (some (R33_airz_l2_l3.o2 x18 x19 x20 x78 x79 x80 false h0_ h0__1 h1_ h1__1 h1__2 h1__3 h1__4 h1__5))
theorem f33_airz_l2_l3_b_ok (k : Nat) (x18 : List T54) (x19 x20 : Int) (x78 : List T54) (x79 x80 h0_ : Int) (h0__1 : List T54) (h1_ h1__1 h1__2 h1__3 h1__4 h1__5 : Int) (r : R33_airz_l2_l3) (hF : f33_airz_l2_l3_b k x18 x19 x20 x78 x79 x80 h0_ h0__1 h1_ h1__1 h1__2 h1__3 h1__4 h1__5 = some r) : EX 33 k (nav B33 [1, 2, 2, 2, 2, 2, 1, 2, 2, 1, 2, 2, 1, 2, 2]) ({ n := 112, F := [(1, V.ptr 30000 0), (4, V.ptr 30001 0), (18, V.sl 6 (rowsOf encT54 x18)), (19, V.p (Value.int .i64 x19)), (20, V.p (Value.int .i64 x20)), (78, V.sl 6 (rowsOf encT54 x78)), (79, V.p (Value.int .i64 x79)), (80, V.p (Value.int .i64 x80))], M := [(30000, O.box 24 [V.p (Value.int .i64 h0_), V.sl 6 (rowsOf encT54 h0__1)]), (30001, O.box 54 [V.p (Value.int .i64 h1_), V.p (Value.int .i64 h1__1), V.p (Value.int .i64 h1__2), V.p (Value.int .i64 h1__3), V.p (Value.int .i64 h1__4), V.p (Value.int .i64 h1__5)])] } : St) = some r.st := by
  unfold f33_airz_l2_l3_b at hF
  simp (maxSteps := 999999) (disch := first | exact D (by decide) | exact K (by kernel_rfl)) only [E, EE, ↓reduceIte, simprocAttr, xk B33 [1, 2, 2, 2, 2, 2, 1, 2, 2, 1, 2, 2, 1, 2, 2] .sq rfl, show (nav B33 [1, 1, 2, 2, 2, 2, 2, 1, 2, 2, 1, 2, 2, 1, 2, 2]) = Code.region 9 _ false from rfl, hk_33_9, hz_33_9, hs_33_9, xk B33 [2, 1, 2, 2, 2, 2, 2, 1, 2, 2, 1, 2, 2, 1, 2, 2] .sq rfl, xk B33 [1, 2, 1, 2, 2, 2, 2, 2, 1, 2, 2, 1, 2, 2, 1, 2, 2] (.cd 81) rfl]
  replace hF := cond_some hF
  rcases hF with ⟨h1, hF⟩ | ⟨h1, hF⟩
  · have hJ := f33_airz_l2_l3_j1_ok k x18 x19 x20 x78 x79 x80 true h0_ h0__1 h1_ h1__1 h1__2 h1__3 h1__4 h1__5 _ hF
    simp (maxSteps := 999999) (disch := first | exact D (by decide) | exact K (by kernel_rfl)) only [E, EE, ↓reduceIte, simprocAttr, xk B33 [2, 1, 2, 1, 2, 2, 2, 2, 2, 1, 2, 2, 1, 2, 2, 1, 2, 2] .sk rfl, h1]
    try simp only [NM, EE] at hJ
    exact hJ
  · cases hF
    simp (maxSteps := 999999) (disch := first | exact D (by decide) | exact K (by kernel_rfl)) only [E, EE, ↓reduceIte, simprocAttr, xk B33 [3, 1, 2, 1, 2, 2, 2, 2, 2, 1, 2, 2, 1, 2, 2, 1, 2, 2] (.ex 2) rfl, R33_airz_l2_l3.st, h1]
noncomputable def f33_airz_l2_l3 (k : Nat) : Nat → (List T54) → Int → Int → (List T54) → Int → Int → Int → (List T54) → Int → Int → Int → Int → Int → Int → Option R33_airz_l2_l3
  | 0, _, _, _, _, _, _, _, _, _, _, _, _, _, _ => none
  | n + 1, x18, x19, x20, x78, x79, x80, h0_, h0__1, h1_, h1__1, h1__2, h1__3, h1__4, h1__5 => Option.bind (f33_airz_l2_l3_b k x18 x19 x20 x78 x79 x80 h0_ h0__1 h1_ h1__1 h1__2 h1__3 h1__4 h1__5) fun o =>
    match o with
    | .o0 y => some (.o0 y)
    | .o1 y y_1 y_2 y_3 y_4 y_5 y_6 y_7 y_8 y_9 y_10 y_11 y_12 y_13 => f33_airz_l2_l3 k n y y_1 y_2 y_3 y_4 y_5 y_6 y_7 y_8 y_9 y_10 y_11 y_12 y_13
    | .o2 y y_1 y_2 y_3 y_4 y_5 y_6 y_7 y_8 y_9 y_10 y_11 y_12 y_13 y_14 => some (.o2 y y_1 y_2 y_3 y_4 y_5 y_6 y_7 y_8 y_9 y_10 y_11 y_12 y_13 y_14)
theorem f33_airz_l2_l3_ok (k n : Nat) : ∀ (x18 : List T54) (x19 x20 : Int) (x78 : List T54) (x79 x80 h0_ : Int) (h0__1 : List T54) (h1_ h1__1 h1__2 h1__3 h1__4 h1__5 : Int) (r : R33_airz_l2_l3) (hF : f33_airz_l2_l3 k n x18 x19 x20 x78 x79 x80 h0_ h0__1 h1_ h1__1 h1__2 h1__3 h1__4 h1__5 = some r) (σ : St) (hσ : headR (hints.head 33 9) (hints.canon 33 9) σ = some ({ n := 112, F := [(1, V.ptr 30000 0), (4, V.ptr 30001 0), (18, V.sl 6 (rowsOf encT54 x18)), (19, V.p (Value.int .i64 x19)), (20, V.p (Value.int .i64 x20)), (78, V.sl 6 (rowsOf encT54 x78)), (79, V.p (Value.int .i64 x79)), (80, V.p (Value.int .i64 x80))], M := [(30000, O.box 24 [V.p (Value.int .i64 h0_), V.sl 6 (rowsOf encT54 h0__1)]), (30001, O.box 54 [V.p (Value.int .i64 h1_), V.p (Value.int .i64 h1__1), V.p (Value.int .i64 h1__2), V.p (Value.int .i64 h1__3), V.p (Value.int .i64 h1__4), V.p (Value.int .i64 h1__5)])] } : St)), LP 33 k (nav B33 [1, 2, 2, 2, 2, 2, 1, 2, 2, 1, 2, 2, 1, 2, 2]) n σ = some r.st := by
  induction n with
  | zero => intro x18 x19 x20 x78 x79 x80 h0_ h0__1 h1_ h1__1 h1__2 h1__3 h1__4 h1__5 r hF; cases hF
  | succ n ih =>
    intro x18 x19 x20 x78 x79 x80 h0_ h0__1 h1_ h1__1 h1__2 h1__3 h1__4 h1__5 r hF σ hσ
    rw [f33_airz_l2_l3] at hF
    obtain ⟨o, h, hF⟩ := Option.bind_eq_some_iff.1 hF
    have hB := f33_airz_l2_l3_b_ok k x18 x19 x20 x78 x79 x80 h0_ h0__1 h1_ h1__1 h1__2 h1__3 h1__4 h1__5 o h
    unfold LP at ih ⊢
    unfold EX at hB
    rw [loopK_succ, show firstReg (nav B33 [1, 2, 2, 2, 2, 2, 1, 2, 2, 1, 2, 2, 1, 2, 2]) = 9 from rfl, hσ, headK_some, hB]
    cases o with
    | o0 y => cases hF; rfl
    | o1 y y_1 y_2 y_3 y_4 y_5 y_6 y_7 y_8 y_9 y_10 y_11 y_12 y_13 =>
      refine ih y y_1 y_2 y_3 y_4 y_5 y_6 y_7 y_8 y_9 y_10 y_11 y_12 y_13 r hF _ ?_
      simp (maxSteps := 999999) (disch := first | exact D (by decide) | exact K (by kernel_rfl)) only [E, EE, ↓reduceIte, simprocAttr, hh_33_9, hc_33_9]
    | o2 y y_1 y_2 y_3 y_4 y_5 y_6 y_7 y_8 y_9 y_10 y_11 y_12 y_13 y_14 => cases hF; rfl
inductive R33_airz_l2 where
  | o0 (y : Int)
  | o1 (y : List T54) (y_1 y_2 y_3 : Int) (y_4 : List T54)
  | o2 (y : List T54) (y_1 y_2 : Int) (y_3 : Bool) (y_4 : Int) (y_5 : List T54)
noncomputable def R33_airz_l2.st : R33_airz_l2 → Out × St
  | .o0 y => (.ret, ({ n := 112, F := [(2, V.p (Value.int .i64 y))], M := [] } : St))
  | .o1 y y_1 y_2 y_3 y_4 => (.norm, ({ n := 112, F := [(1, V.ptr 30000 0), (18, V.sl 6 (rowsOf encT54 y)), (19, V.p (Value.int .i64 y_1)), (20, V.p (Value.int .i64 y_2))], M := [(30000, O.box 24 [V.p (Value.int .i64 y_3), V.sl 6 (rowsOf encT54 y_4)])] } : St))
  | .o2 y y_1 y_2 y_3 y_4 y_5 => (.exit 0, ({ n := 112, F := [(1, V.ptr 30000 0), (18, V.sl 6 (rowsOf encT54 y)), (19, V.p (Value.int .i64 y_1)), (20, V.p (Value.int .i64 y_2)), (21, V.p (Value.bool y_3))], M := [(30000, O.box 24 [V.p (Value.int .i64 y_4), V.sl 6 (rowsOf encT54 y_5)])] } : St))
noncomputable def f33_airz_l2_j4 (k : Nat) (x18 : List T54) (x19 x20 : Int) (x78 : List T54) (x79 x80 : Int) (x81 : Bool) (h0_ : Int) (h0__1 : List T54) (h1_ h1__1 h1__2 h1__3 h1__4 h1__5 : Int) : Option R33_airz_l2 :=
  some (R33_airz_l2.o1 x18 x19 (IntKind.i64.wrap (x20 + (1 : Int))) h0_ h0__1)
theorem f33_airz_l2_j4_ok (k : Nat) (x18 : List T54) (x19 x20 : Int) (x78 : List T54) (x79 x80 : Int) (x81 : Bool) (h0_ : Int) (h0__1 : List T54) (h1_ h1__1 h1__2 h1__3 h1__4 h1__5 : Int) (r : R33_airz_l2) (hF : f33_airz_l2_j4 k x18 x19 x20 x78 x79 x80 x81 h0_ h0__1 h1_ h1__1 h1__2 h1__3 h1__4 h1__5 = some r) : EX 33 k (nav B33 [2, 2, 2, 1, 2, 2, 1, 2, 2]) ({ n := 112, F := [(1, V.ptr 30000 0), (4, V.ptr 30001 0), (18, V.sl 6 (rowsOf encT54 x18)), (19, V.p (Value.int .i64 x19)), (20, V.p (Value.int .i64 x20)), (78, V.sl 6 (rowsOf encT54 x78)), (79, V.p (Value.int .i64 x79)), (80, V.p (Value.int .i64 x80)), (81, V.p (Value.bool x81))], M := [(30000, O.box 24 [V.p (Value.int .i64 h0_), V.sl 6 (rowsOf encT54 h0__1)]), (30001, O.box 54 [V.p (Value.int .i64 h1_), V.p (Value.int .i64 h1__1), V.p (Value.int .i64 h1__2), V.p (Value.int .i64 h1__3), V.p (Value.int .i64 h1__4), V.p (Value.int .i64 h1__5)])] } : St) = some r.st := by
  unfold f33_airz_l2_j4 at hF
  cases hF
  simp (maxSteps := 999999) (disch := first | exact D (by decide) | exact K (by kernel_rfl)) only [E, EE, ↓reduceIte, simprocAttr, show (nav B33 [2, 2, 2, 1, 2, 2, 1, 2, 2]) = Code.region 14 _ false from rfl, hk_33_14, hz_33_14, hs_33_14, R33_airz_l2.st]
noncomputable def f33_airz_l2_j2 (k : Nat) (x3 : Int) (x18 : List T54) (x19 x20 : Int) (x74 : Bool) (h0_ : Int) (h0__1 : List T54) (m4 m4_1 m4_2 m4_3 m4_4 m4_5 : Int) : Option R33_airz_l2 :=
  ifE ((0 : Int) ≤ x3) (
    ifE ((Int.toNat x3) ≤ (List.length h0__1)) (
      Option.bind (f33_airz_l2_l3 k k x18 x19 x20 (List.take (Int.toNat x3) h0__1) ((List.length (List.take (Int.toNat x3) h0__1)) : Int) 0 h0_ h0__1 m4 m4_1 m4_2 m4_3 m4_4 m4_5) fun o3 =>
        match o3 with
        | .o0 v6 =>
          some (R33_airz_l2.o0 v6)
        | .o1 _ _ _ _ _ _ _ _ _ _ _ _ _ _ =>
          none
        | .o2 v7 v8 v9 v10 v11 v12 v13 v14 v15 v16 v17 v18 v19 v20 v21 =>
          f33_airz_l2_j4 k v7 v8 v9 v10 v11 v12 v13 v14 v15 v16 v17 v18 v19 v20 v21))
theorem f33_airz_l2_j2_ok (k : Nat) (x3 : Int) (x18 : List T54) (x19 x20 : Int) (x74 : Bool) (h0_ : Int) (h0__1 : List T54) (m4 m4_1 m4_2 m4_3 m4_4 m4_5 : Int) (r : R33_airz_l2) (hF : f33_airz_l2_j2 k x3 x18 x19 x20 x74 h0_ h0__1 m4 m4_1 m4_2 m4_3 m4_4 m4_5 = some r) : SQ 33 k (nav B33 [2, 2, 2, 1, 2, 2, 1, 2, 2]) (blockK 1 (EX 33 k (nav B33 [2, 2, 2, 1, 2, 2, 1, 2, 2, 1, 2, 2]) ({ n := 112, F := [(1, V.ptr 30000 0), (3, V.p (Value.int .i64 x3)), (4, V.ptr 4 0), (18, V.sl 6 (rowsOf encT54 x18)), (19, V.p (Value.int .i64 x19)), (20, V.p (Value.int .i64 x20)), (74, V.p (Value.bool x74))], M := [(30000, O.box 24 [V.p (Value.int .i64 h0_), V.sl 6 (rowsOf encT54 h0__1)]), (4, O.box 54 [V.p (Value.int .i64 m4), V.p (Value.int .i64 m4_1), V.p (Value.int .i64 m4_2), V.p (Value.int .i64 m4_3), V.p (Value.int .i64 m4_4), V.p (Value.int .i64 m4_5)])] } : St))) = some r.st := by
  unfold f33_airz_l2_j2 at hF
  replace hF := ifE_some.1 hF
  obtain ⟨h1, hF⟩ := hF
  replace hF := ifE_some.1 hF
  obtain ⟨h2, hF⟩ := hF
  replace hF := Option.bind_eq_some_iff.1 hF
  obtain ⟨o3, h4, hF⟩ := hF
  have hc5 := f33_airz_l2_l3_ok k k x18 x19 x20 (List.take (Int.toNat x3) h0__1) ((List.length (List.take (Int.toNat x3) h0__1)) : Int) 0 h0_ h0__1 m4 m4_1 m4_2 m4_3 m4_4 m4_5 _ h4
  simp (maxSteps := 999999) (disch := first | exact D (by decide) | exact K (by kernel_rfl)) only [E, EE, ↓reduceIte, simprocAttr, xk B33 [2, 2, 2, 1, 2, 2, 1, 2, 2, 1, 2, 2] .sq rfl, show (nav B33 [1, 2, 2, 2, 1, 2, 2, 1, 2, 2, 1, 2, 2]) = Code.region 8 _ false from rfl, hk_33_8, hz_33_8, hs_33_8, fieldAddrV, u_24, i_24, is_24, ib_24, iz_24, u_22, i_22, is_22, ib_22, iz_22, sliceV, bound, u_54, i_54, is_54, ib_54, iz_54, xk B33 [2, 2, 2, 2, 1, 2, 2, 1, 2, 2, 1, 2, 2] (.bk 2) rfl, xk B33 [2, 2, 2, 2, 2, 1, 2, 2, 1, 2, 2, 1, 2, 2] .lp rfl, hh_33_9, hc_33_9, h1, h2]
  (try simp only [NM, EE] at hc5)
  rw [hc5 _ (by simp (maxSteps := 999999) (disch := first | exact D (by decide) | exact K (by kernel_rfl)) only [E, EE, ↓reduceIte, simprocAttr, hh_33_9, hc_33_9, h1, h2])]
  clear hc5
  cases o3 with
  | o0 v6 =>
    (try dsimp only at hF)
    cases hF
    simp (maxSteps := 999999) (disch := first | exact D (by decide) | exact K (by kernel_rfl)) only [E, EE, ↓reduceIte, simprocAttr, R33_airz_l2_l3.st, R33_airz_l2.st, h1, h2]
  | o1 _ _ _ _ _ _ _ _ _ _ _ _ _ _ =>
    (try dsimp only at hF)
    cases hF
  | o2 v7 v8 v9 v10 v11 v12 v13 v14 v15 v16 v17 v18 v19 v20 v21 =>
    (try dsimp only at hF)
    have hJ := f33_airz_l2_j4_ok k v7 v8 v9 v10 v11 v12 v13 v14 v15 v16 v17 v18 v19 v20 v21 _ hF
    simp (maxSteps := 999999) (disch := first | exact D (by decide) | exact K (by kernel_rfl)) only [E, EE, ↓reduceIte, simprocAttr, R33_airz_l2_l3.st, h1, h2]
    try simp only [NM, EE] at hJ
    exact hJ
noncomputable def f33_airz_l2_j1 (k : Nat) (x18 : List T54) (x19 x20 : Int) (x21 : Bool) (h0_ : Int) (h0__1 : List T54) : Option R33_airz_l2 :=
  ifE ((0 : Int) ≤ x20) (
    Option.bind (x18[(Int.toNat x20)]?) fun v2 =>
      Option.bind (f36_iii k v2.From 1 h0_) fun o4 =>
        match o4 with
        | .o0 v7 =>
          cond ((!v7))
            (some (R33_airz_l2.o0 230))
            (
              Option.bind (f36_iii k v2.To 1 h0_) fun o9 =>
                match o9 with
                | .o0 v12 =>
                  cond ((!v12))
                    (some (R33_airz_l2.o0 230))
                    (
                      cond ((v2.From == v2.To))
                        (some (R33_airz_l2.o0 230))
                        (
                          cond ((decide (v2.Start < 0)))
                            (some (R33_airz_l2.o0 230))
                            (
                              cond ((decide (v2.Start ≥ v2.End)))
                                (some (R33_airz_l2.o0 230))
                                (
                                  cond ((decide (v2.End > 1048576)))
                                    (some (R33_airz_l2.o0 230))
                                    (
                                      Option.bind (f36_iii k v2.Rate 1 4096) fun o18 =>
                                        match o18 with
                                        | .o0 v21 =>
                                          cond ((!v21))
                                            (some (R33_airz_l2.o0 230))
                                            (
                                              Option.bind (f36_iii k v2.Delay 0 4096) fun o23 =>
                                                match o23 with
                                                | .o0 v26 =>
                                                  cond ((!v26))
                                                    (some (R33_airz_l2.o0 230))
                                                    (f33_airz_l2_j2 k x20 x18 x19 x20 false h0_ h0__1 v2.From v2.To v2.Start v2.End v2.Rate v2.Delay)))))))))
theorem f33_airz_l2_j1_ok (k : Nat) (x18 : List T54) (x19 x20 : Int) (x21 : Bool) (h0_ : Int) (h0__1 : List T54) (r : R33_airz_l2) (hF : f33_airz_l2_j1 k x18 x19 x20 x21 h0_ h0__1 = some r) : EX 33 k (nav B33 [2, 2, 1, 2, 2, 1, 2, 2]) ({ n := 112, F := [(1, V.ptr 30000 0), (18, V.sl 6 (rowsOf encT54 x18)), (19, V.p (Value.int .i64 x19)), (20, V.p (Value.int .i64 x20)), (21, V.p (Value.bool x21))], M := [(30000, O.box 24 [V.p (Value.int .i64 h0_), V.sl 6 (rowsOf encT54 h0__1)])] } : St) = some r.st := by
  unfold f33_airz_l2_j1 at hF
  replace hF := ifE_some.1 hF
  obtain ⟨h1, hF⟩ := hF
  replace hF := Option.bind_eq_some_iff.1 hF
  obtain ⟨v2, h3, hF⟩ := hF
  replace hF := Option.bind_eq_some_iff.1 hF
  obtain ⟨o4, h5, hF⟩ := hF
  have hc6 := f36_iii_ok k v2.From 1 h0_ _ h5
  cases o4 with
  | o0 v7 =>
    (try dsimp only at hF)
    (try simp only [NM, EE, R36_iii.st] at hc6)
    simp (maxSteps := 999999) (disch := first | exact D (by decide) | exact K (by kernel_rfl)) only [E, EE, ↓reduceIte, simprocAttr, xk B33 [2, 2, 1, 2, 2, 1, 2, 2] .sq rfl, xk B33 [1, 2, 2, 1, 2, 2, 1, 2, 2] (.bk 1) rfl, xk B33 [2, 1, 2, 2, 1, 2, 2, 1, 2, 2] .sq rfl, show (nav B33 [1, 2, 1, 2, 2, 1, 2, 2, 1, 2, 2]) = Code.region 5 _ false from rfl, hk_33_5, hz_33_5, hs_33_5, indexAddrV, u_22, i_22, is_22, ib_22, iz_22, u_54, i_54, is_54, ib_54, iz_54, encT54_eq, xk B33 [2, 2, 1, 2, 2, 1, 2, 2, 1, 2, 2] .sq rfl, xk B33 [1, 2, 2, 1, 2, 2, 1, 2, 2, 1, 2, 2] .sq rfl, show (nav B33 [1, 1, 2, 2, 1, 2, 2, 1, 2, 2, 1, 2, 2]) = Code.region 6 _ false from rfl, hk_33_6, hz_33_6, hs_33_6, fieldAddrV, u_3, i_3, is_3, ib_3, iz_3, u_24, i_24, is_24, ib_24, iz_24, callStep, CL, gv, List.contains, h1, h3, hc6]
    replace hF := cond_some hF
    rcases hF with ⟨h8, hF⟩ | ⟨h8, hF⟩
    · cases hF
      simp (maxSteps := 999999) (disch := first | exact D (by decide) | exact K (by kernel_rfl)) only [E, EE, ↓reduceIte, simprocAttr, xk B33 [2, 1, 2, 2, 1, 2, 2, 1, 2, 2, 1, 2, 2] (.cd 74) rfl, xk B33 [2, 2, 1, 2, 2, 1, 2, 2, 1, 2, 2, 1, 2, 2] .sq rfl, show (nav B33 [1, 2, 2, 1, 2, 2, 1, 2, 2, 1, 2, 2, 1, 2, 2]) = Code.region 7 _ false from rfl, hk_33_7, hz_33_7, hs_33_7, xk B33 [2, 2, 2, 1, 2, 2, 1, 2, 2, 1, 2, 2, 1, 2, 2] .rt rfl, R33_airz_l2.st, h1, h3, hc6, h8]
    · replace hF := Option.bind_eq_some_iff.1 hF
      obtain ⟨o9, h10, hF⟩ := hF
      have hc11 := f36_iii_ok k v2.To 1 h0_ _ h10
      cases o9 with
      | o0 v12 =>
        (try dsimp only at hF)
        (try simp only [NM, EE, R36_iii.st] at hc11)
        simp (maxSteps := 999999) (disch := first | exact D (by decide) | exact K (by kernel_rfl)) only [E, EE, ↓reduceIte, simprocAttr, fieldAddrV, u_54, i_54, is_54, ib_54, iz_54, u_3, i_3, is_3, ib_3, iz_3, u_24, i_24, is_24, ib_24, iz_24, callStep, CL, gv, List.contains, h1, h3, hc6, h8, hc11]
        replace hF := cond_some hF
        rcases hF with ⟨h13, hF⟩ | ⟨h13, hF⟩
        · cases hF
          simp (maxSteps := 999999) (disch := first | exact D (by decide) | exact K (by kernel_rfl)) only [E, EE, ↓reduceIte, simprocAttr, xk B33 [2, 1, 2, 2, 1, 2, 2, 1, 2, 2, 1, 2, 2] (.cd 74) rfl, xk B33 [2, 2, 1, 2, 2, 1, 2, 2, 1, 2, 2, 1, 2, 2] .sq rfl, show (nav B33 [1, 2, 2, 1, 2, 2, 1, 2, 2, 1, 2, 2, 1, 2, 2]) = Code.region 7 _ false from rfl, hk_33_7, hz_33_7, hs_33_7, xk B33 [2, 2, 2, 1, 2, 2, 1, 2, 2, 1, 2, 2, 1, 2, 2] .rt rfl, R33_airz_l2.st, h1, h3, hc6, h8, hc11, h13]
        · simp (maxSteps := 999999) (disch := first | exact D (by decide) | exact K (by kernel_rfl)) only [E, EE, ↓reduceIte, simprocAttr, fieldAddrV, u_54, i_54, is_54, ib_54, iz_54, u_3, i_3, is_3, ib_3, iz_3, h1, h3, hc6, h8, hc11, h13]
          replace hF := cond_some hF
          rcases hF with ⟨h14, hF⟩ | ⟨h14, hF⟩
          · cases hF
            simp (maxSteps := 999999) (disch := first | exact D (by decide) | exact K (by kernel_rfl)) only [E, EE, ↓reduceIte, simprocAttr, xk B33 [2, 1, 2, 2, 1, 2, 2, 1, 2, 2, 1, 2, 2] (.cd 74) rfl, xk B33 [2, 2, 1, 2, 2, 1, 2, 2, 1, 2, 2, 1, 2, 2] .sq rfl, show (nav B33 [1, 2, 2, 1, 2, 2, 1, 2, 2, 1, 2, 2, 1, 2, 2]) = Code.region 7 _ false from rfl, hk_33_7, hz_33_7, hs_33_7, xk B33 [2, 2, 2, 1, 2, 2, 1, 2, 2, 1, 2, 2, 1, 2, 2] .rt rfl, R33_airz_l2.st, h1, h3, hc6, h8, hc11, h13, h14]
          · simp (maxSteps := 999999) (disch := first | exact D (by decide) | exact K (by kernel_rfl)) only [E, EE, ↓reduceIte, simprocAttr, fieldAddrV, u_54, i_54, is_54, ib_54, iz_54, u_3, i_3, is_3, ib_3, iz_3, h1, h3, hc6, h8, hc11, h13, h14]
            replace hF := cond_some hF
            rcases hF with ⟨h15, hF⟩ | ⟨h15, hF⟩
            · cases hF
              simp (maxSteps := 999999) (disch := first | exact D (by decide) | exact K (by kernel_rfl)) only [E, EE, ↓reduceIte, simprocAttr, xk B33 [2, 1, 2, 2, 1, 2, 2, 1, 2, 2, 1, 2, 2] (.cd 74) rfl, xk B33 [2, 2, 1, 2, 2, 1, 2, 2, 1, 2, 2, 1, 2, 2] .sq rfl, show (nav B33 [1, 2, 2, 1, 2, 2, 1, 2, 2, 1, 2, 2, 1, 2, 2]) = Code.region 7 _ false from rfl, hk_33_7, hz_33_7, hs_33_7, xk B33 [2, 2, 2, 1, 2, 2, 1, 2, 2, 1, 2, 2, 1, 2, 2] .rt rfl, R33_airz_l2.st, h1, h3, hc6, h8, hc11, h13, h14, h15]
            · simp (maxSteps := 999999) (disch := first | exact D (by decide) | exact K (by kernel_rfl)) only [E, EE, ↓reduceIte, simprocAttr, fieldAddrV, u_54, i_54, is_54, ib_54, iz_54, u_3, i_3, is_3, ib_3, iz_3, h1, h3, hc6, h8, hc11, h13, h14, h15]
              replace hF := cond_some hF
              rcases hF with ⟨h16, hF⟩ | ⟨h16, hF⟩
              · cases hF
                simp (maxSteps := 999999) (disch := first | exact D (by decide) | exact K (by kernel_rfl)) only [E, EE, ↓reduceIte, simprocAttr, xk B33 [2, 1, 2, 2, 1, 2, 2, 1, 2, 2, 1, 2, 2] (.cd 74) rfl, xk B33 [2, 2, 1, 2, 2, 1, 2, 2, 1, 2, 2, 1, 2, 2] .sq rfl, show (nav B33 [1, 2, 2, 1, 2, 2, 1, 2, 2, 1, 2, 2, 1, 2, 2]) = Code.region 7 _ false from rfl, hk_33_7, hz_33_7, hs_33_7, xk B33 [2, 2, 2, 1, 2, 2, 1, 2, 2, 1, 2, 2, 1, 2, 2] .rt rfl, R33_airz_l2.st, h1, h3, hc6, h8, hc11, h13, h14, h15, h16]
              · simp (maxSteps := 999999) (disch := first | exact D (by decide) | exact K (by kernel_rfl)) only [E, EE, ↓reduceIte, simprocAttr, fieldAddrV, u_54, i_54, is_54, ib_54, iz_54, u_3, i_3, is_3, ib_3, iz_3, h1, h3, hc6, h8, hc11, h13, h14, h15, h16]
                replace hF := cond_some hF
                rcases hF with ⟨h17, hF⟩ | ⟨h17, hF⟩
                · cases hF
                  simp (maxSteps := 999999) (disch := first | exact D (by decide) | exact K (by kernel_rfl)) only [E, EE, ↓reduceIte, simprocAttr, xk B33 [2, 1, 2, 2, 1, 2, 2, 1, 2, 2, 1, 2, 2] (.cd 74) rfl, xk B33 [2, 2, 1, 2, 2, 1, 2, 2, 1, 2, 2, 1, 2, 2] .sq rfl, show (nav B33 [1, 2, 2, 1, 2, 2, 1, 2, 2, 1, 2, 2, 1, 2, 2]) = Code.region 7 _ false from rfl, hk_33_7, hz_33_7, hs_33_7, xk B33 [2, 2, 2, 1, 2, 2, 1, 2, 2, 1, 2, 2, 1, 2, 2] .rt rfl, R33_airz_l2.st, h1, h3, hc6, h8, hc11, h13, h14, h15, h16, h17]
                · replace hF := Option.bind_eq_some_iff.1 hF
                  obtain ⟨o18, h19, hF⟩ := hF
                  have hc20 := f36_iii_ok k v2.Rate 1 4096 _ h19
                  cases o18 with
                  | o0 v21 =>
                    (try dsimp only at hF)
                    (try simp only [NM, EE, R36_iii.st] at hc20)
                    simp (maxSteps := 999999) (disch := first | exact D (by decide) | exact K (by kernel_rfl)) only [E, EE, ↓reduceIte, simprocAttr, fieldAddrV, u_54, i_54, is_54, ib_54, iz_54, u_3, i_3, is_3, ib_3, iz_3, callStep, CL, gv, List.contains, h1, h3, hc6, h8, hc11, h13, h14, h15, h16, h17, hc20]
                    replace hF := cond_some hF
                    rcases hF with ⟨h22, hF⟩ | ⟨h22, hF⟩
                    · cases hF
                      simp (maxSteps := 999999) (disch := first | exact D (by decide) | exact K (by kernel_rfl)) only [E, EE, ↓reduceIte, simprocAttr, xk B33 [2, 1, 2, 2, 1, 2, 2, 1, 2, 2, 1, 2, 2] (.cd 74) rfl, xk B33 [2, 2, 1, 2, 2, 1, 2, 2, 1, 2, 2, 1, 2, 2] .sq rfl, show (nav B33 [1, 2, 2, 1, 2, 2, 1, 2, 2, 1, 2, 2, 1, 2, 2]) = Code.region 7 _ false from rfl, hk_33_7, hz_33_7, hs_33_7, xk B33 [2, 2, 2, 1, 2, 2, 1, 2, 2, 1, 2, 2, 1, 2, 2] .rt rfl, R33_airz_l2.st, h1, h3, hc6, h8, hc11, h13, h14, h15, h16, h17, hc20, h22]
                    · replace hF := Option.bind_eq_some_iff.1 hF
                      obtain ⟨o23, h24, hF⟩ := hF
                      have hc25 := f36_iii_ok k v2.Delay 0 4096 _ h24
                      cases o23 with
                      | o0 v26 =>
                        (try dsimp only at hF)
                        (try simp only [NM, EE, R36_iii.st] at hc25)
                        simp (maxSteps := 999999) (disch := first | exact D (by decide) | exact K (by kernel_rfl)) only [E, EE, ↓reduceIte, simprocAttr, fieldAddrV, u_54, i_54, is_54, ib_54, iz_54, u_3, i_3, is_3, ib_3, iz_3, callStep, CL, gv, List.contains, xk B33 [2, 1, 2, 2, 1, 2, 2, 1, 2, 2, 1, 2, 2] (.cd 74) rfl, h1, h3, hc6, h8, hc11, h13, h14, h15, h16, h17, hc20, h22, hc25]
                        replace hF := cond_some hF
                        rcases hF with ⟨h27, hF⟩ | ⟨h27, hF⟩
                        · cases hF
                          simp (maxSteps := 999999) (disch := first | exact D (by decide) | exact K (by kernel_rfl)) only [E, EE, ↓reduceIte, simprocAttr, xk B33 [2, 2, 1, 2, 2, 1, 2, 2, 1, 2, 2, 1, 2, 2] .sq rfl, show (nav B33 [1, 2, 2, 1, 2, 2, 1, 2, 2, 1, 2, 2, 1, 2, 2]) = Code.region 7 _ false from rfl, hk_33_7, hz_33_7, hs_33_7, xk B33 [2, 2, 2, 1, 2, 2, 1, 2, 2, 1, 2, 2, 1, 2, 2] .rt rfl, R33_airz_l2.st, h1, h3, hc6, h8, hc11, h13, h14, h15, h16, h17, hc20, h22, hc25, h27]
                        · have hJ := f33_airz_l2_j2_ok k x20 x18 x19 x20 false h0_ h0__1 v2.From v2.To v2.Start v2.End v2.Rate v2.Delay _ hF
                          simp (maxSteps := 999999) (disch := first | exact D (by decide) | exact K (by kernel_rfl)) only [E, EE, ↓reduceIte, simprocAttr, xk B33 [3, 2, 1, 2, 2, 1, 2, 2, 1, 2, 2, 1, 2, 2] .sk rfl, h1, h3, hc6, h8, hc11, h13, h14, h15, h16, h17, hc20, h22, hc25, h27]
                          try simp only [NM, EE] at hJ
                          exact hJ
noncomputable def f33_airz_l2_b (k : Nat) (x18 : List T54) (x19 x20 h0_ : Int) (h0__1 : List T54) : Option R33_airz_l2 :=
  cond ((decide (x20 < x19)))
    (f33_airz_l2_j1 k x18 x19 x20 true h0_ h0__1)
    (some (R33_airz_l2.o2 x18 x19 x20 false h0_ h0__1))
theorem f33_airz_l2_b_ok (k : Nat) (x18 : List T54) (x19 x20 h0_ : Int) (h0__1 : List T54) (r : R33_airz_l2) (hF : f33_airz_l2_b k x18 x19 x20 h0_ h0__1 = some r) : EX 33 k (nav B33 [1, 2, 2, 1, 2, 2]) ({ n := 112, F := [(1, V.ptr 30000 0), (18, V.sl 6 (rowsOf encT54 x18)), (19, V.p (Value.int .i64 x19)), (20, V.p (Value.int .i64 x20))], M := [(30000, O.box 24 [V.p (Value.int .i64 h0_), V.sl 6 (rowsOf encT54 h0__1)])] } : St) = some r.st := by
  unfold f33_airz_l2_b at hF
  simp (maxSteps := 999999) (disch := first | exact D (by decide) | exact K (by kernel_rfl)) only [E, EE, ↓reduceIte, simprocAttr, xk B33 [1, 2, 2, 1, 2, 2] .sq rfl, show (nav B33 [1, 1, 2, 2, 1, 2, 2]) = Code.region 4 _ false from rfl, hk_33_4, hz_33_4, hs_33_4, xk B33 [2, 1, 2, 2, 1, 2, 2] .sq rfl, xk B33 [1, 2, 1, 2, 2, 1, 2, 2] (.cd 21) rfl]
  replace hF := cond_some hF
  rcases hF with ⟨h1, hF⟩ | ⟨h1, hF⟩
  · have hJ := f33_airz_l2_j1_ok k x18 x19 x20 true h0_ h0__1 _ hF
    simp (maxSteps := 999999) (disch := first | exact D (by decide) | exact K (by kernel_rfl)) only [E, EE, ↓reduceIte, simprocAttr, xk B33 [2, 1, 2, 1, 2, 2, 1, 2, 2] .sk rfl, h1]
    try simp only [NM, EE] at hJ
    exact hJ
  · cases hF
    simp (maxSteps := 999999) (disch := first | exact D (by decide) | exact K (by kernel_rfl)) only [E, EE, ↓reduceIte, simprocAttr, xk B33 [3, 1, 2, 1, 2, 2, 1, 2, 2] (.ex 0) rfl, R33_airz_l2.st, h1]
noncomputable def f33_airz_l2 (k : Nat) : Nat → (List T54) → Int → Int → Int → (List T54) → Option R33_airz_l2
  | 0, _, _, _, _, _ => none
  | n + 1, x18, x19, x20, h0_, h0__1 => Option.bind (f33_airz_l2_b k x18 x19 x20 h0_ h0__1) fun o =>
    match o with
    | .o0 y => some (.o0 y)
    | .o1 y y_1 y_2 y_3 y_4 => f33_airz_l2 k n y y_1 y_2 y_3 y_4
    | .o2 y y_1 y_2 y_3 y_4 y_5 => some (.o2 y y_1 y_2 y_3 y_4 y_5)
theorem f33_airz_l2_ok (k n : Nat) : ∀ (x18 : List T54) (x19 x20 h0_ : Int) (h0__1 : List T54) (r : R33_airz_l2) (hF : f33_airz_l2 k n x18 x19 x20 h0_ h0__1 = some r) (σ : St) (hσ : headR (hints.head 33 4) (hints.canon 33 4) σ = some ({ n := 112, F := [(1, V.ptr 30000 0), (18, V.sl 6 (rowsOf encT54 x18)), (19, V.p (Value.int .i64 x19)), (20, V.p (Value.int .i64 x20))], M := [(30000, O.box 24 [V.p (Value.int .i64 h0_), V.sl 6 (rowsOf encT54 h0__1)])] } : St)), LP 33 k (nav B33 [1, 2, 2, 1, 2, 2]) n σ = some r.st := by
  induction n with
  | zero => intro x18 x19 x20 h0_ h0__1 r hF; cases hF
  | succ n ih =>
    intro x18 x19 x20 h0_ h0__1 r hF σ hσ
    rw [f33_airz_l2] at hF
    obtain ⟨o, h, hF⟩ := Option.bind_eq_some_iff.1 hF
    have hB := f33_airz_l2_b_ok k x18 x19 x20 h0_ h0__1 o h
    unfold LP at ih ⊢
    unfold EX at hB
    rw [loopK_succ, show firstReg (nav B33 [1, 2, 2, 1, 2, 2]) = 4 from rfl, hσ, headK_some, hB]
    cases o with
    | o0 y => cases hF; rfl
    | o1 y y_1 y_2 y_3 y_4 =>
      refine ih y y_1 y_2 y_3 y_4 r hF _ ?_
      simp (maxSteps := 999999) (disch := first | exact D (by decide) | exact K (by kernel_rfl)) only [E, EE, ↓reduceIte, simprocAttr, hh_33_4, hc_33_4]
    | o2 y y_1 y_2 y_3 y_4 y_5 => cases hF; rfl
noncomputable def f33_airz_j3 (k : Nat) (x18 : List T54) (x19 x20 : Int) (x21 : Bool) (h0_ : Int) (h0__1 : List T54) : Option R33_airz :=
  some (R33_airz.o0 0)
theorem f33_airz_j3_ok (k : Nat) (x18 : List T54) (x19 x20 : Int) (x21 : Bool) (h0_ : Int) (h0__1 : List T54) (r : R33_airz) (hF : f33_airz_j3 k x18 x19 x20 x21 h0_ h0__1 = some r) : finK Tryd.prog Tryd.f33 0 (EX 33 k (nav B33 [2, 2, 2]) ({ n := 112, F := [(1, V.ptr 30000 0), (18, V.sl 6 (rowsOf encT54 x18)), (19, V.p (Value.int .i64 x19)), (20, V.p (Value.int .i64 x20)), (21, V.p (Value.bool x21))], M := [(30000, O.box 24 [V.p (Value.int .i64 h0_), V.sl 6 (rowsOf encT54 h0__1)])] } : St)) = some r.st := by
  unfold f33_airz_j3 at hF
  cases hF
  simp (maxSteps := 999999) (disch := first | exact D (by decide) | exact K (by kernel_rfl)) only [E, EE, ↓reduceIte, simprocAttr, xk B33 [2, 2, 2] .sq rfl, show (nav B33 [1, 2, 2, 2]) = Code.region 15 _ false from rfl, hk_33_15, hz_33_15, hs_33_15, xk B33 [2, 2, 2, 2] .rt rfl, finK_norm, finK_ret, fin33, R33_airz.st]
noncomputable def f33_airz_j1 (k : Nat) (x16 : Bool) (m1 : Int) (m1_1 : List T54) : Option R33_airz :=
  Option.bind (f33_airz_l2 k k m1_1 ((List.length m1_1) : Int) 0 m1 m1_1) fun o1 =>
    match o1 with
    | .o0 v4 =>
      some (R33_airz.o0 v4)
    | .o1 _ _ _ _ _ =>
      none
    | .o2 v5 v6 v7 v8 v9 v10 =>
      f33_airz_j3 k v5 v6 v7 v8 v9 v10
theorem f33_airz_j1_ok (k : Nat) (x16 : Bool) (m1 : Int) (m1_1 : List T54) (r : R33_airz) (hF : f33_airz_j1 k x16 m1 m1_1 = some r) : finK Tryd.prog Tryd.f33 0 (EX 33 k (nav B33 [2, 2]) ({ n := 112, F := [(1, V.ptr 1 0), (16, V.p (Value.bool x16))], M := [(1, O.box 24 [V.p (Value.int .i64 m1), V.sl 6 (rowsOf encT54 m1_1)])] } : St)) = some r.st := by
  unfold f33_airz_j1 at hF
  replace hF := Option.bind_eq_some_iff.1 hF
  obtain ⟨o1, h2, hF⟩ := hF
  have hc3 := f33_airz_l2_ok k k m1_1 ((List.length m1_1) : Int) 0 m1 m1_1 _ h2
  simp (maxSteps := 999999) (disch := first | exact D (by decide) | exact K (by kernel_rfl)) only [E, EE, ↓reduceIte, simprocAttr, xk B33 [2, 2] .sq rfl, xk B33 [1, 2, 2] .sq rfl, show (nav B33 [1, 1, 2, 2]) = Code.region 3 _ false from rfl, hk_33_3, hz_33_3, hs_33_3, fieldAddrV, u_24, i_24, is_24, ib_24, iz_24, u_22, i_22, is_22, ib_22, iz_22, xk B33 [2, 1, 2, 2] (.bk 0) rfl, xk B33 [2, 2, 1, 2, 2] .lp rfl, hh_33_4, hc_33_4]
  (try simp only [NM, EE] at hc3)
  rw [hc3 _ (by simp (maxSteps := 999999) (disch := first | exact D (by decide) | exact K (by kernel_rfl)) only [E, EE, ↓reduceIte, simprocAttr, hh_33_4, hc_33_4])]
  clear hc3
  cases o1 with
  | o0 v4 =>
    (try dsimp only at hF)
    cases hF
    simp (maxSteps := 999999) (disch := first | exact D (by decide) | exact K (by kernel_rfl)) only [E, EE, ↓reduceIte, simprocAttr, R33_airz_l2.st, finK_norm, finK_ret, fin33, R33_airz.st]
  | o1 _ _ _ _ _ =>
    (try dsimp only at hF)
    cases hF
  | o2 v5 v6 v7 v8 v9 v10 =>
    (try dsimp only at hF)
    have hJ := f33_airz_j3_ok k v5 v6 v7 v8 v9 v10 _ hF
    simp (maxSteps := 999999) (disch := first | exact D (by decide) | exact K (by kernel_rfl)) only [E, EE, ↓reduceIte, simprocAttr, R33_airz_l2.st]
    try simp only [NM, EE] at hJ
    exact hJ
noncomputable def f33_airz_e (k : Nat) (a0 : Int) (a0_1 : List T54) : Option R33_airz :=
  Option.bind (f36_iii k a0 2 6) fun o1 =>
    match o1 with
    | .o0 v4 =>
      cond ((!v4))
        (some (R33_airz.o0 230))
        (
          cond ((decide (((List.length a0_1) : Int) > 24)))
            (some (R33_airz.o0 230))
            (f33_airz_j1 k false a0 a0_1))
theorem f33_airz_e_ok (k : Nat) (a0 : Int) (a0_1 : List T54) (r : R33_airz) (hF : f33_airz_e k a0 a0_1 = some r) : finK Tryd.prog Tryd.f33 0 (EX 33 k (nav B33 []) ({ n := 112, F := [(0, V.agg [V.p (Value.int .i64 a0), V.sl 6 (rowsOf encT54 a0_1)])], M := [] } : St)) = some r.st := by
  unfold f33_airz_e at hF
  replace hF := Option.bind_eq_some_iff.1 hF
  obtain ⟨o1, h2, hF⟩ := hF
  have hc3 := f36_iii_ok k a0 2 6 _ h2
  cases o1 with
  | o0 v4 =>
    (try dsimp only at hF)
    (try simp only [NM, EE, R36_iii.st] at hc3)
    simp (maxSteps := 999999) (disch := first | exact D (by decide) | exact K (by kernel_rfl)) only [E, EE, ↓reduceIte, simprocAttr, xk B33 [] .sq rfl, show (nav B33 [1]) = Code.region 0 _ false from rfl, hk_33_0, hz_33_0, hs_33_0, xk B33 [2] .sq rfl, xk B33 [1, 2] .sq rfl, show (nav B33 [1, 1, 2]) = Code.region 1 _ false from rfl, hk_33_1, hz_33_1, hs_33_1, fieldAddrV, u_24, i_24, is_24, ib_24, iz_24, u_3, i_3, is_3, ib_3, iz_3, callStep, CL, gv, List.contains, hc3]
    replace hF := cond_some hF
    rcases hF with ⟨h5, hF⟩ | ⟨h5, hF⟩
    · cases hF
      simp (maxSteps := 999999) (disch := first | exact D (by decide) | exact K (by kernel_rfl)) only [E, EE, ↓reduceIte, simprocAttr, xk B33 [2, 1, 2] (.cd 16) rfl, xk B33 [2, 2, 1, 2] .sq rfl, show (nav B33 [1, 2, 2, 1, 2]) = Code.region 2 _ false from rfl, hk_33_2, hz_33_2, hs_33_2, xk B33 [2, 2, 2, 1, 2] .rt rfl, finK_norm, finK_ret, fin33, R33_airz.st, hc3, h5]
    · simp (maxSteps := 999999) (disch := first | exact D (by decide) | exact K (by kernel_rfl)) only [E, EE, ↓reduceIte, simprocAttr, fieldAddrV, u_24, i_24, is_24, ib_24, iz_24, u_22, i_22, is_22, ib_22, iz_22, xk B33 [2, 1, 2] (.cd 16) rfl, hc3, h5]
      replace hF := cond_some hF
      rcases hF with ⟨h6, hF⟩ | ⟨h6, hF⟩
      · cases hF
        simp (maxSteps := 999999) (disch := first | exact D (by decide) | exact K (by kernel_rfl)) only [E, EE, ↓reduceIte, simprocAttr, xk B33 [2, 2, 1, 2] .sq rfl, show (nav B33 [1, 2, 2, 1, 2]) = Code.region 2 _ false from rfl, hk_33_2, hz_33_2, hs_33_2, xk B33 [2, 2, 2, 1, 2] .rt rfl, finK_norm, finK_ret, fin33, R33_airz.st, hc3, h5, h6]
      · have hJ := f33_airz_j1_ok k false a0 a0_1 _ hF
        simp (maxSteps := 999999) (disch := first | exact D (by decide) | exact K (by kernel_rfl)) only [E, EE, ↓reduceIte, simprocAttr, xk B33 [3, 2, 1, 2] .sk rfl, hc3, h5, h6]
        try simp only [NM, EE] at hJ
        exact hJ
noncomputable def f33_airz (k : Nat) (a0 : Int) (a0_1 : List T54) : Option R33_airz := match k with | 0 => none | k + 1 => f33_airz_e k a0 a0_1
theorem f33_airz_ok (k : Nat) (a0 : Int) (a0_1 : List T54) (r : R33_airz) (hF : f33_airz k a0 a0_1 = some r) : CV k 33 [V.agg [V.p (Value.int .i64 a0), V.sl 6 (rowsOf encT54 a0_1)]] [] = some r.st := by
  cases k with
  | zero => cases hF
  | succ k =>
    unfold CV
    rw [ev_call (F := Tryd.f33) (c := (nav B33 [])) rfl Tryd.func33 rfl rfl rfl rfl]
    exact f33_airz_e_ok k a0 a0_1 r hF
-- f63_i: f63 heliograph/queue.fits$1
inductive R63_i where
  | o0 (y : Bool)
noncomputable def R63_i.st : R63_i → V × List O × List O
  | .o0 y => (V.p (Value.bool y), [], [])
noncomputable def f63_i_e (k : Nat) (a0 : Int) : Option R63_i :=
  some (R63_i.o0 (decide (a0 < 0)))
theorem f63_i_e_ok (k : Nat) (a0 : Int) (r : R63_i) (hF : f63_i_e k a0 = some r) : finK Tryd.prog Tryd.f63 0 (EX 63 k (nav B63 []) ({ n := 5, F := [(0, V.p (Value.int .i64 a0))], M := [] } : St)) = some r.st := by
  unfold f63_i_e at hF
  cases hF
  simp (maxSteps := 999999) (disch := first | exact D (by decide) | exact K (by kernel_rfl)) only [E, EE, ↓reduceIte, simprocAttr, xk B63 [] .sq rfl, show (nav B63 [1]) = Code.region 0 _ false from rfl, hk_63_0, hz_63_0, hs_63_0, xk B63 [2] .sq rfl, show (nav B63 [1, 2]) = Code.region 1 _ false from rfl, hk_63_1, hz_63_1, hs_63_1, xk B63 [2, 2] .rt rfl, finK_norm, finK_ret, fin63, R63_i.st]
noncomputable def f63_i (k : Nat) (a0 : Int) : Option R63_i := match k with | 0 => none | k + 1 => f63_i_e k a0
theorem f63_i_ok (k : Nat) (a0 : Int) (r : R63_i) (hF : f63_i k a0 = some r) : CV k 63 [V.p (Value.int .i64 a0)] [] = some r.st := by
  cases k with
  | zero => cases hF
  | succ k =>
    unfold CV
    rw [ev_call (F := Tryd.f63) (c := (nav B63 [])) rfl Tryd.func63 rfl rfl rfl rfl]
    exact f63_i_e_ok k a0 r hF
-- f54_rf63: f54 slices.IndexFunc[[]int,int]
inductive R54_rf63 where
  | o0 (y : Int)
noncomputable def R54_rf63.st : R54_rf63 → V × List O × List O
  | .o0 y => (V.p (Value.int .i64 y), [], [])
inductive R54_rf63_l1 where
  | o0 (y : Int)
  | o1 (y : List Int) (y_1 y_2 : Int)
  | o2 (y : List Int) (y_1 y_2 : Int) (y_3 : Bool)
noncomputable def R54_rf63_l1.st : R54_rf63_l1 → Out × St
  | .o0 y => (.ret, ({ n := 19, F := [(4, V.p (Value.int .i64 y))], M := [] } : St))
  | .o1 y y_1 y_2 => (.norm, ({ n := 19, F := [(0, V.sl 1 (rowsOf (encI .i64) y)), (1, V.p (Value.func (Fn.func 63) #[] #[])), (7, V.p (Value.int .i64 y_1)), (8, V.p (Value.int .i64 y_2))], M := [] } : St))
  | .o2 y y_1 y_2 y_3 => (.exit 0, ({ n := 19, F := [(0, V.sl 1 (rowsOf (encI .i64) y)), (1, V.p (Value.func (Fn.func 63) #[] #[])), (7, V.p (Value.int .i64 y_1)), (8, V.p (Value.int .i64 y_2)), (9, V.p (Value.bool y_3))], M := [] } : St))
noncomputable def f54_rf63_l1_j2 (k : Nat) (x0 : List Int) (x5 x7 x8 : Int) (x16 : Bool) : Option R54_rf63_l1 :=
  some (R54_rf63_l1.o1 x0 x7 (IntKind.i64.wrap (x8 + (1 : Int))))
theorem f54_rf63_l1_j2_ok (k : Nat) (x0 : List Int) (x5 x7 x8 : Int) (x16 : Bool) (r : R54_rf63_l1) (hF : f54_rf63_l1_j2 k x0 x5 x7 x8 x16 = some r) : EX 54 k (nav B54 [2, 2, 2, 1, 2, 2, 1, 2]) ({ n := 19, F := [(0, V.sl 1 (rowsOf (encI .i64) x0)), (1, V.p (Value.func (Fn.func 63) #[] #[])), (5, V.p (Value.int .i64 x5)), (7, V.p (Value.int .i64 x7)), (8, V.p (Value.int .i64 x8)), (16, V.p (Value.bool x16))], M := [] } : St) = some r.st := by
  unfold f54_rf63_l1_j2 at hF
  cases hF
  simp (maxSteps := 999999) (disch := first | exact D (by decide) | exact K (by kernel_rfl)) only [E, EE, ↓reduceIte, simprocAttr, show (nav B54 [2, 2, 2, 1, 2, 2, 1, 2]) = Code.region 6 _ false from rfl, hk_54_6, hz_54_6, hs_54_6, R54_rf63_l1.st]
noncomputable def f54_rf63_l1_j1 (k : Nat) (x0 : List Int) (x7 x8 : Int) (x9 : Bool) : Option R54_rf63_l1 :=
  ifE ((0 : Int) ≤ x8) (
    Option.bind (x0[(Int.toNat x8)]?) fun v2 =>
      Option.bind (f63_i k v2) fun o4 =>
        match o4 with
        | .o0 v7 =>
          cond (v7)
            (some (R54_rf63_l1.o0 x8))
            (f54_rf63_l1_j2 k x0 x8 x7 x8 false))
theorem f54_rf63_l1_j1_ok (k : Nat) (x0 : List Int) (x7 x8 : Int) (x9 : Bool) (r : R54_rf63_l1) (hF : f54_rf63_l1_j1 k x0 x7 x8 x9 = some r) : EX 54 k (nav B54 [2, 2, 1, 2, 2, 1, 2]) ({ n := 19, F := [(0, V.sl 1 (rowsOf (encI .i64) x0)), (1, V.p (Value.func (Fn.func 63) #[] #[])), (7, V.p (Value.int .i64 x7)), (8, V.p (Value.int .i64 x8)), (9, V.p (Value.bool x9))], M := [] } : St) = some r.st := by
  unfold f54_rf63_l1_j1 at hF
  replace hF := ifE_some.1 hF
  obtain ⟨h1, hF⟩ := hF
  replace hF := Option.bind_eq_some_iff.1 hF
  obtain ⟨v2, h3, hF⟩ := hF
  replace hF := Option.bind_eq_some_iff.1 hF
  obtain ⟨o4, h5, hF⟩ := hF
  have hc6 := f63_i_ok k v2 _ h5
  cases o4 with
  | o0 v7 =>
    (try dsimp only at hF)
    (try simp only [NM, EE, R63_i.st] at hc6)
    simp (maxSteps := 999999) (disch := first | exact D (by decide) | exact K (by kernel_rfl)) only [E, EE, ↓reduceIte, simprocAttr, xk B54 [2, 2, 1, 2, 2, 1, 2] .sq rfl, xk B54 [1, 2, 2, 1, 2, 2, 1, 2] (.bk 1) rfl, xk B54 [2, 1, 2, 2, 1, 2, 2, 1, 2] .sq rfl, show (nav B54 [1, 2, 1, 2, 2, 1, 2, 2, 1, 2]) = Code.region 3 _ false from rfl, hk_54_3, hz_54_3, hs_54_3, xk B54 [2, 2, 1, 2, 2, 1, 2, 2, 1, 2] .sq rfl, show (nav B54 [1, 2, 2, 1, 2, 2, 1, 2, 2, 1, 2]) = Code.region 4 _ false from rfl, hk_54_4, hz_54_4, hs_54_4, indexAddrV, u_25, i_25, is_25, ib_25, iz_25, u_3, i_3, is_3, ib_3, iz_3, encI_eq, callStep, CL, gv, List.contains, xk B54 [2, 2, 2, 1, 2, 2, 1, 2, 2, 1, 2] (.cd 16) rfl, h1, h3, hc6]
    replace hF := cond_some hF
    rcases hF with ⟨h8, hF⟩ | ⟨h8, hF⟩
    · cases hF
      simp (maxSteps := 999999) (disch := first | exact D (by decide) | exact K (by kernel_rfl)) only [E, EE, ↓reduceIte, simprocAttr, xk B54 [2, 2, 2, 2, 1, 2, 2, 1, 2, 2, 1, 2] .sq rfl, show (nav B54 [1, 2, 2, 2, 2, 1, 2, 2, 1, 2, 2, 1, 2]) = Code.region 5 _ false from rfl, hk_54_5, hz_54_5, hs_54_5, xk B54 [2, 2, 2, 2, 2, 1, 2, 2, 1, 2, 2, 1, 2] .rt rfl, R54_rf63_l1.st, h1, h3, hc6, h8]
    · have hJ := f54_rf63_l1_j2_ok k x0 x8 x7 x8 false _ hF
      simp (maxSteps := 999999) (disch := first | exact D (by decide) | exact K (by kernel_rfl)) only [E, EE, ↓reduceIte, simprocAttr, xk B54 [3, 2, 2, 2, 1, 2, 2, 1, 2, 2, 1, 2] .sk rfl, h1, h3, hc6, h8]
      try simp only [NM, EE] at hJ
      exact hJ
noncomputable def f54_rf63_l1_b (k : Nat) (x0 : List Int) (x7 x8 : Int) : Option R54_rf63_l1 :=
  cond ((decide (x8 < x7)))
    (f54_rf63_l1_j1 k x0 x7 x8 true)
    (some (R54_rf63_l1.o2 x0 x7 x8 false))
theorem f54_rf63_l1_b_ok (k : Nat) (x0 : List Int) (x7 x8 : Int) (r : R54_rf63_l1) (hF : f54_rf63_l1_b k x0 x7 x8 = some r) : EX 54 k (nav B54 [1, 2, 2, 1, 2]) ({ n := 19, F := [(0, V.sl 1 (rowsOf (encI .i64) x0)), (1, V.p (Value.func (Fn.func 63) #[] #[])), (7, V.p (Value.int .i64 x7)), (8, V.p (Value.int .i64 x8))], M := [] } : St) = some r.st := by
  unfold f54_rf63_l1_b at hF
  simp (maxSteps := 999999) (disch := first | exact D (by decide) | exact K (by kernel_rfl)) only [E, EE, ↓reduceIte, simprocAttr, xk B54 [1, 2, 2, 1, 2] .sq rfl, show (nav B54 [1, 1, 2, 2, 1, 2]) = Code.region 2 _ false from rfl, hk_54_2, hz_54_2, hs_54_2, xk B54 [2, 1, 2, 2, 1, 2] .sq rfl, xk B54 [1, 2, 1, 2, 2, 1, 2] (.cd 9) rfl]
  replace hF := cond_some hF
  rcases hF with ⟨h1, hF⟩ | ⟨h1, hF⟩
  · have hJ := f54_rf63_l1_j1_ok k x0 x7 x8 true _ hF
    simp (maxSteps := 999999) (disch := first | exact D (by decide) | exact K (by kernel_rfl)) only [E, EE, ↓reduceIte, simprocAttr, xk B54 [2, 1, 2, 1, 2, 2, 1, 2] .sk rfl, h1]
    try simp only [NM, EE] at hJ
    exact hJ
  · cases hF
    simp (maxSteps := 999999) (disch := first | exact D (by decide) | exact K (by kernel_rfl)) only [E, EE, ↓reduceIte, simprocAttr, xk B54 [3, 1, 2, 1, 2, 2, 1, 2] (.ex 0) rfl, R54_rf63_l1.st, h1]
noncomputable def f54_rf63_l1 (k : Nat) : Nat → (List Int) → Int → Int → Option R54_rf63_l1
  | 0, _, _, _ => none
  | n + 1, x0, x7, x8 => Option.bind (f54_rf63_l1_b k x0 x7 x8) fun o =>
    match o with
    | .o0 y => some (.o0 y)
    | .o1 y y_1 y_2 => f54_rf63_l1 k n y y_1 y_2
    | .o2 y y_1 y_2 y_3 => some (.o2 y y_1 y_2 y_3)
theorem f54_rf63_l1_ok (k n : Nat) : ∀ (x0 : List Int) (x7 x8 : Int) (r : R54_rf63_l1) (hF : f54_rf63_l1 k n x0 x7 x8 = some r) (σ : St) (hσ : headR (hints.head 54 2) (hints.canon 54 2) σ = some ({ n := 19, F := [(0, V.sl 1 (rowsOf (encI .i64) x0)), (1, V.p (Value.func (Fn.func 63) #[] #[])), (7, V.p (Value.int .i64 x7)), (8, V.p (Value.int .i64 x8))], M := [] } : St)), LP 54 k (nav B54 [1, 2, 2, 1, 2]) n σ = some r.st := by
  induction n with
  | zero => intro x0 x7 x8 r hF; cases hF
  | succ n ih =>
    intro x0 x7 x8 r hF σ hσ
    rw [f54_rf63_l1] at hF
    obtain ⟨o, h, hF⟩ := Option.bind_eq_some_iff.1 hF
    have hB := f54_rf63_l1_b_ok k x0 x7 x8 o h
    unfold LP at ih ⊢
    unfold EX at hB
    rw [loopK_succ, show firstReg (nav B54 [1, 2, 2, 1, 2]) = 2 from rfl, hσ, headK_some, hB]
    cases o with
    | o0 y => cases hF; rfl
    | o1 y y_1 y_2 =>
      refine ih y y_1 y_2 r hF _ ?_
      simp (maxSteps := 999999) (disch := first | exact D (by decide) | exact K (by kernel_rfl)) only [E, EE, ↓reduceIte, simprocAttr, hh_54_2, hc_54_2]
    | o2 y y_1 y_2 y_3 => cases hF; rfl
noncomputable def f54_rf63_j2 (k : Nat) (x0 : List Int) (x7 x8 : Int) (x9 : Bool) : Option R54_rf63 :=
  some (R54_rf63.o0 (-1))
theorem f54_rf63_j2_ok (k : Nat) (x0 : List Int) (x7 x8 : Int) (x9 : Bool) (r : R54_rf63) (hF : f54_rf63_j2 k x0 x7 x8 x9 = some r) : finK Tryd.prog Tryd.f54 0 (EX 54 k (nav B54 [2, 2]) ({ n := 19, F := [(0, V.sl 1 (rowsOf (encI .i64) x0)), (1, V.p (Value.func (Fn.func 63) #[] #[])), (7, V.p (Value.int .i64 x7)), (8, V.p (Value.int .i64 x8)), (9, V.p (Value.bool x9))], M := [] } : St)) = some r.st := by
  unfold f54_rf63_j2 at hF
  cases hF
  simp (maxSteps := 999999) (disch := first | exact D (by decide) | exact K (by kernel_rfl)) only [E, EE, ↓reduceIte, simprocAttr, xk B54 [2, 2] .sq rfl, show (nav B54 [1, 2, 2]) = Code.region 7 _ false from rfl, hk_54_7, hz_54_7, hs_54_7, xk B54 [2, 2, 2] .rt rfl, finK_norm, finK_ret, fin54, R54_rf63.st]
noncomputable def f54_rf63_e (k : Nat) (a0 : List Int) : Option R54_rf63 :=
  Option.bind (f54_rf63_l1 k k a0 ((List.length a0) : Int) 0) fun o1 =>
    match o1 with
    | .o0 v4 =>
      some (R54_rf63.o0 v4)
    | .o1 _ _ _ =>
      none
    | .o2 v5 v6 v7 v8 =>
      f54_rf63_j2 k v5 v6 v7 v8
theorem f54_rf63_e_ok (k : Nat) (a0 : List Int) (r : R54_rf63) (hF : f54_rf63_e k a0 = some r) : finK Tryd.prog Tryd.f54 0 (EX 54 k (nav B54 []) ({ n := 19, F := [(0, V.sl 1 (rowsOf (encI .i64) a0)), (1, V.p (Value.func (Fn.func 63) #[] #[]))], M := [] } : St)) = some r.st := by
  unfold f54_rf63_e at hF
  replace hF := Option.bind_eq_some_iff.1 hF
  obtain ⟨o1, h2, hF⟩ := hF
  have hc3 := f54_rf63_l1_ok k k a0 ((List.length a0) : Int) 0 _ h2
  simp (maxSteps := 999999) (disch := first | exact D (by decide) | exact K (by kernel_rfl)) only [E, EE, ↓reduceIte, simprocAttr, xk B54 [] .sq rfl, show (nav B54 [1]) = Code.region 0 _ false from rfl, hk_54_0, hz_54_0, hs_54_0, xk B54 [2] .sq rfl, xk B54 [1, 2] .sq rfl, show (nav B54 [1, 1, 2]) = Code.region 1 _ false from rfl, hk_54_1, hz_54_1, hs_54_1, u_25, i_25, is_25, ib_25, iz_25, xk B54 [2, 1, 2] (.bk 0) rfl, xk B54 [2, 2, 1, 2] .lp rfl, hh_54_2, hc_54_2]
  (try simp only [NM, EE] at hc3)
  rw [hc3 _ (by simp (maxSteps := 999999) (disch := first | exact D (by decide) | exact K (by kernel_rfl)) only [E, EE, ↓reduceIte, simprocAttr, hh_54_2, hc_54_2])]
  clear hc3
  cases o1 with
  | o0 v4 =>
    (try dsimp only at hF)
    cases hF
    simp (maxSteps := 999999) (disch := first | exact D (by decide) | exact K (by kernel_rfl)) only [E, EE, ↓reduceIte, simprocAttr, R54_rf63_l1.st, finK_norm, finK_ret, fin54, R54_rf63.st]
  | o1 _ _ _ =>
    (try dsimp only at hF)
    cases hF
  | o2 v5 v6 v7 v8 =>
    (try dsimp only at hF)
    have hJ := f54_rf63_j2_ok k v5 v6 v7 v8 _ hF
    simp (maxSteps := 999999) (disch := first | exact D (by decide) | exact K (by kernel_rfl)) only [E, EE, ↓reduceIte, simprocAttr, R54_rf63_l1.st]
    try simp only [NM, EE] at hJ
    exact hJ
noncomputable def f54_rf63 (k : Nat) (a0 : List Int) : Option R54_rf63 := match k with | 0 => none | k + 1 => f54_rf63_e k a0
theorem f54_rf63_ok (k : Nat) (a0 : List Int) (r : R54_rf63) (hF : f54_rf63 k a0 = some r) : CV k 54 [V.sl 1 (rowsOf (encI .i64) a0), V.p (Value.func (Fn.func 63) #[] #[])] [] = some r.st := by
  cases k with
  | zero => cases hF
  | succ k =>
    unfold CV
    rw [ev_call (F := Tryd.f54) (c := (nav B54 [])) rfl Tryd.func54 rfl rfl rfl rfl]
    exact f54_rf63_e_ok k a0 r hF
end Go.Proofs.YtiompmmbjpjjeaaDoorV
