/- What the program's functions answer: plain functions, and that the interpreter answers what they do. Written by a program of this session, out of the translation. -/
import Derived.Test.YteggcokgkcfliaaVPC
namespace Go.Proofs.YteggcokgkcfliaaV
open Go
set_option linter.unusedVariables false
set_option linter.unusedSimpArgs false
set_option maxRecDepth 8000
set_option maxHeartbeats 4000000
-- f9_: f9 heliograph/heliographlaw18.wakes
inductive R9_ where
  | o0 (y : Bool)
noncomputable def R9_.st : R9_ → V × List O × List O
  | .o0 y => (V.p (Value.bool y), [], [])
noncomputable def f9_ (k : Nat) : Option R9_ := ifE (100 ≤ k) (some (.o0 true))
theorem f9__ok (k : Nat) (r : R9_) (hF : f9_ k = some r) : CV k 9 [] [] = some r.st := by
  obtain ⟨h, hF⟩ := ifE_some.1 hF
  cases hF
  exact callV_le h wakes
-- f10_ai10rz: f10 heliograph/heliographlaw18.one
inductive R10_ai10rz where
  | o0 (y y_1 y_2 y_3 y_4 y_5 y_6 y_7 y_8 y_9 : Int) (y_10 : List Int)
noncomputable def R10_ai10rz.st : R10_ai10rz → V × List O × List O
  | .o0 y y_1 y_2 y_3 y_4 y_5 y_6 y_7 y_8 y_9 y_10 => (V.agg [V.p (Value.int .i64 y), V.p (Value.int .i64 y_1), V.p (Value.int .u32 y_2), V.p (Value.int .i64 y_3), V.p (Value.int .i64 y_4), V.p (Value.int .i64 y_5), V.p (Value.int .i64 y_6), V.p (Value.int .i64 y_7), V.p (Value.int .i64 y_8), V.p (Value.int .i64 y_9), V.own 2000000], [], [O.row true 1 5 (rowsOf (encI .u8) y_10)])
noncomputable def f10_ai10rz_e (k : Nat) (a0 a0_1 a0_2 a0_3 a0_4 a0_5 a0_6 a0_7 a0_8 a0_9 : Int) (a0_10 : List Int) : Option R10_ai10rz :=
  ifE ((0 : Int) ≤ (if (500 : Int) < ((List.length a0_10) : Int) then 500 else ((List.length a0_10) : Int))) (
    ifE ((Int.toNat ((if (500 : Int) < ((List.length a0_10) : Int) then 500 else ((List.length a0_10) : Int)))) ≤ (List.length a0_10)) (
      ifE ((List.length ((List.take ((Int.toNat ((if (500 : Int) < ((List.length a0_10) : Int) then 500 else ((List.length a0_10) : Int))))) a0_10))) ≤ roomy) (
        some (R10_ai10rz.o0 a0 a0_1 a0_2 a0_3 a0_4 a0_5 a0_6 a0_7 a0_8 a0_9 ((List.take ((Int.toNat ((if (500 : Int) < ((List.length a0_10) : Int) then 500 else ((List.length a0_10) : Int))))) a0_10))))))
theorem f10_ai10rz_e_ok (k : Nat) (a0 a0_1 a0_2 a0_3 a0_4 a0_5 a0_6 a0_7 a0_8 a0_9 : Int) (a0_10 : List Int) (r : R10_ai10rz) (hF : f10_ai10rz_e k a0 a0_1 a0_2 a0_3 a0_4 a0_5 a0_6 a0_7 a0_8 a0_9 a0_10 = some r) : finK Try.prog Try.f10 0 (EX 10 k (nav B10 []) ({ n := 14, F := [(0, V.agg [V.p (Value.int .i64 a0), V.p (Value.int .i64 a0_1), V.p (Value.int .u32 a0_2), V.p (Value.int .i64 a0_3), V.p (Value.int .i64 a0_4), V.p (Value.int .i64 a0_5), V.p (Value.int .i64 a0_6), V.p (Value.int .i64 a0_7), V.p (Value.int .i64 a0_8), V.p (Value.int .i64 a0_9), V.sl 1 (rowsOf (encI .u8) a0_10)])], M := [] } : St)) = some r.st := by
  unfold f10_ai10rz_e at hF
  replace hF := ifE_some.1 hF
  obtain ⟨h1, hF⟩ := hF
  replace hF := ifE_some.1 hF
  obtain ⟨h2, hF⟩ := hF
  replace hF := ifE_some.1 hF
  obtain ⟨h3, hF⟩ := hF
  cases hF
  simp (maxSteps := 999999) (disch := first | exact D (by decide) | exact K (by kernel_rfl)) only [E, EE, ↓reduceIte, simprocAttr, xk B10 [] .sq rfl, show (nav B10 [1]) = Code.region 0 _ false from rfl, hk_10_0, hz_10_0, hs_10_0, u_25, i_25, is_25, ib_25, iz_25, xk B10 [2] .sq rfl, show (nav B10 [1, 2]) = Code.region 1 _ false from rfl, hk_10_1, hz_10_1, hs_10_1, buildSliceV, fillRows, sm_5, u_23, i_23, is_23, ib_23, iz_23, u_5, i_5, is_5, ib_5, iz_5, fieldAddrV, minmaxV, minmaxGo, sliceV, bound, appendV, content, xk B10 [2, 2] .sq rfl, show (nav B10 [1, 2, 2]) = Code.region 2 _ false from rfl, hk_10_2, hz_10_2, hs_10_2, xk B10 [2, 2, 2] .rt rfl, finK_norm, finK_ret, fin10, R10_ai10rz.st, h1, h2, h3]
noncomputable def f10_ai10rz (k : Nat) (a0 a0_1 a0_2 a0_3 a0_4 a0_5 a0_6 a0_7 a0_8 a0_9 : Int) (a0_10 : List Int) : Option R10_ai10rz := match k with | 0 => none | k + 1 => f10_ai10rz_e k a0 a0_1 a0_2 a0_3 a0_4 a0_5 a0_6 a0_7 a0_8 a0_9 a0_10
theorem f10_ai10rz_ok (k : Nat) (a0 a0_1 a0_2 a0_3 a0_4 a0_5 a0_6 a0_7 a0_8 a0_9 : Int) (a0_10 : List Int) (r : R10_ai10rz) (hF : f10_ai10rz k a0 a0_1 a0_2 a0_3 a0_4 a0_5 a0_6 a0_7 a0_8 a0_9 a0_10 = some r) : CV k 10 [V.agg [V.p (Value.int .i64 a0), V.p (Value.int .i64 a0_1), V.p (Value.int .u32 a0_2), V.p (Value.int .i64 a0_3), V.p (Value.int .i64 a0_4), V.p (Value.int .i64 a0_5), V.p (Value.int .i64 a0_6), V.p (Value.int .i64 a0_7), V.p (Value.int .i64 a0_8), V.p (Value.int .i64 a0_9), V.sl 1 (rowsOf (encI .u8) a0_10)]] [] = some r.st := by
  cases k with
  | zero => cases hF
  | succ k =>
    unfold CV
    rw [ev_call (F := Try.f10) (c := (nav B10 [])) rfl Try.func10 rfl rfl rfl rfl]
    exact f10_ai10rz_e_ok k a0 a0_1 a0_2 a0_3 a0_4 a0_5 a0_6 a0_7 a0_8 a0_9 a0_10 r hF
-- f21_r: f21 heliograph/heliographlaw18.few
inductive R21_r where
  | o0 (y : List T25)
noncomputable def R21_r.st : R21_r → V × List O × List O
  | .o0 y => (V.own 2000000, [], [O.row true 11 25 (rowsOf encT25 y)])
inductive R21_r_l1 where
  | o0 (y : List T25) (y_1 y_2 : Int) (y_3 : Bool) (y_4 : List T25) (y_5 y_6 y_7 y_8 y_9 y_10 y_11 y_12 y_13 y_14 : Int) (y_15 : List Int)
  | o1 (y : List T25) (y_1 y_2 : Int) (y_3 : List T25)
  | o2 (y : List T25) (y_1 y_2 : Int) (y_3 : Bool) (y_4 : List T25)
noncomputable def R21_r_l1.st : R21_r_l1 → Out × St
  | .o0 y y_1 y_2 y_3 y_4 y_5 y_6 y_7 y_8 y_9 y_10 y_11 y_12 y_13 y_14 y_15 => (.exit 0, ({ n := 22, F := [(3, V.own 30000), (5, V.ptr 5 0), (6, V.sl 11 (rowsOf encT25 y)), (7, V.p (Value.int .i64 y_1)), (8, V.p (Value.int .i64 y_2)), (14, V.p (Value.bool y_3))], M := [(30000, O.row true 11 25 (rowsOf encT25 y_4)), (5, O.box 25 [V.p (Value.int .i64 y_5), V.p (Value.int .i64 y_6), V.p (Value.int .u32 y_7), V.p (Value.int .i64 y_8), V.p (Value.int .i64 y_9), V.p (Value.int .i64 y_10), V.p (Value.int .i64 y_11), V.p (Value.int .i64 y_12), V.p (Value.int .i64 y_13), V.p (Value.int .i64 y_14), V.sl 1 (rowsOf (encI .u8) y_15)])] } : St))
  | .o1 y y_1 y_2 y_3 => (.norm, ({ n := 22, F := [(3, V.own 19), (6, V.sl 11 (rowsOf encT25 y)), (7, V.p (Value.int .i64 y_1)), (8, V.p (Value.int .i64 y_2))], M := [(19, O.row true 11 25 (rowsOf encT25 y_3))] } : St))
  | .o2 y y_1 y_2 y_3 y_4 => (.exit 0, ({ n := 22, F := [(3, V.own 30000), (6, V.sl 11 (rowsOf encT25 y)), (7, V.p (Value.int .i64 y_1)), (8, V.p (Value.int .i64 y_2)), (9, V.p (Value.bool y_3))], M := [(30000, O.row true 11 25 (rowsOf encT25 y_4))] } : St))
noncomputable def f21_r_l1_j3 (k : Nat) (x6 : List T25) (x7 x8 : Int) (m19 : List T25) : Option R21_r_l1 :=
  some (R21_r_l1.o1 x6 x7 (IntKind.i64.wrap (x8 + (1 : Int))) m19)
theorem f21_r_l1_j3_ok (k : Nat) (x6 : List T25) (x7 x8 : Int) (m19 : List T25) (r : R21_r_l1) (hF : f21_r_l1_j3 k x6 x7 x8 m19 = some r) : EX 21 k (nav B21 [2, 2, 2, 1, 2, 2, 1, 2, 2]) ({ n := 22, F := [(3, V.own 19), (6, V.sl 11 (rowsOf encT25 x6)), (7, V.p (Value.int .i64 x7)), (8, V.p (Value.int .i64 x8))], M := [(19, O.row true 11 25 (rowsOf encT25 m19))] } : St) = some r.st := by
  unfold f21_r_l1_j3 at hF
  cases hF
  simp (maxSteps := 999999) (disch := first | exact D (by decide) | exact K (by kernel_rfl)) only [E, EE, ↓reduceIte, simprocAttr, show (nav B21 [2, 2, 2, 1, 2, 2, 1, 2, 2]) = Code.region 7 _ false from rfl, hk_21_7, hz_21_7, hs_21_7, R21_r_l1.st]
noncomputable def f21_r_l1_j2 (k : Nat) (x6 : List T25) (x7 x8 : Int) (x14 : Bool) (h0_ : List T25) (m5 m5_1 m5_2 m5_3 m5_4 m5_5 m5_6 m5_7 m5_8 m5_9 : Int) (m5_10 : List Int) : Option R21_r_l1 :=
  Option.bind (f10_ai10rz k m5 m5_1 m5_2 m5_3 m5_4 m5_5 m5_6 m5_7 m5_8 m5_9 m5_10) fun o1 =>
    match o1 with
    | .o0 v4 v5 v6 v7 v8 v9 v10 v11 v12 v13 v14 =>
      ifE (((List.length h0_) + 1) * 104 ≤ roomy) (
        f21_r_l1_j3 k x6 x7 x8 (h0_ ++ ([(T25.mk v4 v5 v6 v7 v8 v9 v10 v11 v12 v13 v14)] : List T25)))
theorem f21_r_l1_j2_ok (k : Nat) (x6 : List T25) (x7 x8 : Int) (x14 : Bool) (h0_ : List T25) (m5 m5_1 m5_2 m5_3 m5_4 m5_5 m5_6 m5_7 m5_8 m5_9 : Int) (m5_10 : List Int) (r : R21_r_l1) (hF : f21_r_l1_j2 k x6 x7 x8 x14 h0_ m5 m5_1 m5_2 m5_3 m5_4 m5_5 m5_6 m5_7 m5_8 m5_9 m5_10 = some r) : SQ 21 k (nav B21 [2, 2, 2, 1, 2, 2, 1, 2, 2]) (blockK 1 (EX 21 k (nav B21 [2, 2, 2, 1, 2, 2, 1, 2, 2, 1, 2, 2]) ({ n := 22, F := [(3, V.own 30000), (5, V.ptr 5 0), (6, V.sl 11 (rowsOf encT25 x6)), (7, V.p (Value.int .i64 x7)), (8, V.p (Value.int .i64 x8)), (14, V.p (Value.bool x14))], M := [(30000, O.row true 11 25 (rowsOf encT25 h0_)), (5, O.box 25 [V.p (Value.int .i64 m5), V.p (Value.int .i64 m5_1), V.p (Value.int .u32 m5_2), V.p (Value.int .i64 m5_3), V.p (Value.int .i64 m5_4), V.p (Value.int .i64 m5_5), V.p (Value.int .i64 m5_6), V.p (Value.int .i64 m5_7), V.p (Value.int .i64 m5_8), V.p (Value.int .i64 m5_9), V.sl 1 (rowsOf (encI .u8) m5_10)])] } : St))) = some r.st := by
  unfold f21_r_l1_j2 at hF
  replace hF := Option.bind_eq_some_iff.1 hF
  obtain ⟨o1, h2, hF⟩ := hF
  have hc3 := f10_ai10rz_ok k m5 m5_1 m5_2 m5_3 m5_4 m5_5 m5_6 m5_7 m5_8 m5_9 m5_10 _ h2
  cases o1 with
  | o0 v4 v5 v6 v7 v8 v9 v10 v11 v12 v13 v14 =>
    (try dsimp only at hF)
    (try simp only [NM, EE, R10_ai10rz.st] at hc3)
    have q15 : [[V.p (Value.int .i64 v4), V.p (Value.int .i64 v5), V.p (Value.int .u32 v6), V.p (Value.int .i64 v7), V.p (Value.int .i64 v8), V.p (Value.int .i64 v9), V.p (Value.int .i64 v10), V.p (Value.int .i64 v11), V.p (Value.int .i64 v12), V.p (Value.int .i64 v13), V.sl 1 (rowsOf (encI .u8) v14)]] = rowsOf encT25 ([(T25.mk v4 v5 v6 v7 v8 v9 v10 v11 v12 v13 v14)] : List T25) := rfl
    have q16 : List.map (tell [0, 0, 0, 0, 0, 0, 0, 0, 0, 0, 1]) (rowsOf encT25 ([(T25.mk v4 v5 v6 v7 v8 v9 v10 v11 v12 v13 v14)] : List T25)) = rowsOf encT25 ([(T25.mk v4 v5 v6 v7 v8 v9 v10 v11 v12 v13 v14)] : List T25) := rfl
    replace hF := ifE_some.1 hF
    obtain ⟨h17, hF⟩ := hF
    have hJ := f21_r_l1_j3_ok k x6 x7 x8 (h0_ ++ ([(T25.mk v4 v5 v6 v7 v8 v9 v10 v11 v12 v13 v14)] : List T25)) _ hF
    simp (maxSteps := 999999) (disch := first | exact D (by decide) | exact K (by kernel_rfl)) only [E, EE, ↓reduceIte, simprocAttr, show (nav B21 [2, 2, 2, 1, 2, 2, 1, 2, 2, 1, 2, 2]) = Code.region 6 _ false from rfl, hk_21_6, hz_21_6, hs_21_6, u_25, i_25, is_25, ib_25, iz_25, callStep, CL, gv, List.contains, buildSliceV, fillRows, sm_25, u_28, i_28, is_28, ib_28, iz_28, appendV, content, hc3, q15, q16, h17]
    try simp only [NM, EE] at hJ
    exact hJ
noncomputable def f21_r_l1_j1 (k : Nat) (x6 : List T25) (x7 x8 : Int) (x9 : Bool) (h0_ : List T25) : Option R21_r_l1 :=
  ifE ((0 : Int) ≤ x8) (
    Option.bind (x6[(Int.toNat x8)]?) fun v2 =>
      cond ((x8 == 12))
        (some (R21_r_l1.o0 x6 x7 x8 true h0_ v2.Source v2.Dest v2.Seq v2.Created v2.Lifetime v2.HopLimit v2.Hops v2.Priority v2.Offset v2.Total v2.Payload))
        (f21_r_l1_j2 k x6 x7 x8 false h0_ v2.Source v2.Dest v2.Seq v2.Created v2.Lifetime v2.HopLimit v2.Hops v2.Priority v2.Offset v2.Total v2.Payload))
theorem f21_r_l1_j1_ok (k : Nat) (x6 : List T25) (x7 x8 : Int) (x9 : Bool) (h0_ : List T25) (r : R21_r_l1) (hF : f21_r_l1_j1 k x6 x7 x8 x9 h0_ = some r) : EX 21 k (nav B21 [2, 2, 1, 2, 2, 1, 2, 2]) ({ n := 22, F := [(3, V.own 30000), (6, V.sl 11 (rowsOf encT25 x6)), (7, V.p (Value.int .i64 x7)), (8, V.p (Value.int .i64 x8)), (9, V.p (Value.bool x9))], M := [(30000, O.row true 11 25 (rowsOf encT25 h0_))] } : St) = some r.st := by
  unfold f21_r_l1_j1 at hF
  replace hF := ifE_some.1 hF
  obtain ⟨h1, hF⟩ := hF
  replace hF := Option.bind_eq_some_iff.1 hF
  obtain ⟨v2, h3, hF⟩ := hF
  simp (maxSteps := 999999) (disch := first | exact D (by decide) | exact K (by kernel_rfl)) only [E, EE, ↓reduceIte, simprocAttr, xk B21 [2, 2, 1, 2, 2, 1, 2, 2] .sq rfl, xk B21 [1, 2, 2, 1, 2, 2, 1, 2, 2] (.bk 1) rfl, xk B21 [2, 1, 2, 2, 1, 2, 2, 1, 2, 2] .sq rfl, show (nav B21 [1, 2, 1, 2, 2, 1, 2, 2, 1, 2, 2]) = Code.region 4 _ false from rfl, hk_21_4, hz_21_4, hs_21_4, indexAddrV, u_28, i_28, is_28, ib_28, iz_28, u_25, i_25, is_25, ib_25, iz_25, encT25_eq, xk B21 [2, 2, 1, 2, 2, 1, 2, 2, 1, 2, 2] .sq rfl, xk B21 [1, 2, 2, 1, 2, 2, 1, 2, 2, 1, 2, 2] .sq rfl, show (nav B21 [1, 1, 2, 2, 1, 2, 2, 1, 2, 2, 1, 2, 2]) = Code.region 5 _ false from rfl, hk_21_5, hz_21_5, hs_21_5, xk B21 [2, 1, 2, 2, 1, 2, 2, 1, 2, 2, 1, 2, 2] (.cd 14) rfl, h1, h3]
  replace hF := cond_some hF
  rcases hF with ⟨h4, hF⟩ | ⟨h4, hF⟩
  · cases hF
    simp (maxSteps := 999999) (disch := first | exact D (by decide) | exact K (by kernel_rfl)) only [E, EE, ↓reduceIte, simprocAttr, xk B21 [2, 2, 1, 2, 2, 1, 2, 2, 1, 2, 2, 1, 2, 2] (.ex 0) rfl, R21_r_l1.st, h1, h3, h4]
  · have hJ := f21_r_l1_j2_ok k x6 x7 x8 false h0_ v2.Source v2.Dest v2.Seq v2.Created v2.Lifetime v2.HopLimit v2.Hops v2.Priority v2.Offset v2.Total v2.Payload _ hF
    simp (maxSteps := 999999) (disch := first | exact D (by decide) | exact K (by kernel_rfl)) only [E, EE, ↓reduceIte, simprocAttr, xk B21 [3, 2, 1, 2, 2, 1, 2, 2, 1, 2, 2, 1, 2, 2] .sk rfl, h1, h3, h4]
    try simp only [NM, EE] at hJ
    exact hJ
noncomputable def f21_r_l1_b (k : Nat) (x6 : List T25) (x7 x8 : Int) (h0_ : List T25) : Option R21_r_l1 :=
  cond ((decide (x8 < x7)))
    (f21_r_l1_j1 k x6 x7 x8 true h0_)
    (some (R21_r_l1.o2 x6 x7 x8 false h0_))
theorem f21_r_l1_b_ok (k : Nat) (x6 : List T25) (x7 x8 : Int) (h0_ : List T25) (r : R21_r_l1) (hF : f21_r_l1_b k x6 x7 x8 h0_ = some r) : EX 21 k (nav B21 [1, 2, 2, 1, 2, 2]) ({ n := 22, F := [(3, V.own 30000), (6, V.sl 11 (rowsOf encT25 x6)), (7, V.p (Value.int .i64 x7)), (8, V.p (Value.int .i64 x8))], M := [(30000, O.row true 11 25 (rowsOf encT25 h0_))] } : St) = some r.st := by
  unfold f21_r_l1_b at hF
  simp (maxSteps := 999999) (disch := first | exact D (by decide) | exact K (by kernel_rfl)) only [E, EE, ↓reduceIte, simprocAttr, xk B21 [1, 2, 2, 1, 2, 2] .sq rfl, show (nav B21 [1, 1, 2, 2, 1, 2, 2]) = Code.region 3 _ false from rfl, hk_21_3, hz_21_3, hs_21_3, xk B21 [2, 1, 2, 2, 1, 2, 2] .sq rfl, xk B21 [1, 2, 1, 2, 2, 1, 2, 2] (.cd 9) rfl]
  replace hF := cond_some hF
  rcases hF with ⟨h1, hF⟩ | ⟨h1, hF⟩
  · have hJ := f21_r_l1_j1_ok k x6 x7 x8 true h0_ _ hF
    simp (maxSteps := 999999) (disch := first | exact D (by decide) | exact K (by kernel_rfl)) only [E, EE, ↓reduceIte, simprocAttr, xk B21 [2, 1, 2, 1, 2, 2, 1, 2, 2] .sk rfl, h1]
    try simp only [NM, EE] at hJ
    exact hJ
  · cases hF
    simp (maxSteps := 999999) (disch := first | exact D (by decide) | exact K (by kernel_rfl)) only [E, EE, ↓reduceIte, simprocAttr, xk B21 [3, 1, 2, 1, 2, 2, 1, 2, 2] (.ex 0) rfl, R21_r_l1.st, h1]
noncomputable def f21_r_l1 (k : Nat) : Nat → (List T25) → Int → Int → (List T25) → Option R21_r_l1
  | 0, _, _, _, _ => none
  | n + 1, x6, x7, x8, h0_ => Option.bind (f21_r_l1_b k x6 x7 x8 h0_) fun o =>
    match o with
    | .o0 y y_1 y_2 y_3 y_4 y_5 y_6 y_7 y_8 y_9 y_10 y_11 y_12 y_13 y_14 y_15 => some (.o0 y y_1 y_2 y_3 y_4 y_5 y_6 y_7 y_8 y_9 y_10 y_11 y_12 y_13 y_14 y_15)
    | .o1 y y_1 y_2 y_3 => f21_r_l1 k n y y_1 y_2 y_3
    | .o2 y y_1 y_2 y_3 y_4 => some (.o2 y y_1 y_2 y_3 y_4)
theorem f21_r_l1_ok (k n : Nat) : ∀ (x6 : List T25) (x7 x8 : Int) (h0_ : List T25) (r : R21_r_l1) (hF : f21_r_l1 k n x6 x7 x8 h0_ = some r) (σ : St) (hσ : headR (hints.head 21 3) (hints.canon 21 3) σ = some ({ n := 22, F := [(3, V.own 30000), (6, V.sl 11 (rowsOf encT25 x6)), (7, V.p (Value.int .i64 x7)), (8, V.p (Value.int .i64 x8))], M := [(30000, O.row true 11 25 (rowsOf encT25 h0_))] } : St)), LP 21 k (nav B21 [1, 2, 2, 1, 2, 2]) n σ = some r.st := by
  induction n with
  | zero => intro x6 x7 x8 h0_ r hF; cases hF
  | succ n ih =>
    intro x6 x7 x8 h0_ r hF σ hσ
    rw [f21_r_l1] at hF
    obtain ⟨o, h, hF⟩ := Option.bind_eq_some_iff.1 hF
    have hB := f21_r_l1_b_ok k x6 x7 x8 h0_ o h
    unfold LP at ih ⊢
    unfold EX at hB
    rw [loopK_succ, show firstReg (nav B21 [1, 2, 2, 1, 2, 2]) = 3 from rfl, hσ, headK_some, hB]
    cases o with
    | o0 y y_1 y_2 y_3 y_4 y_5 y_6 y_7 y_8 y_9 y_10 y_11 y_12 y_13 y_14 y_15 => cases hF; rfl
    | o1 y y_1 y_2 y_3 =>
      refine ih y y_1 y_2 y_3 r hF _ ?_
      simp (maxSteps := 999999) (disch := first | exact D (by decide) | exact K (by kernel_rfl)) only [E, EE, ↓reduceIte, simprocAttr, hh_21_3, hc_21_3]
    | o2 y y_1 y_2 y_3 y_4 => cases hF; rfl
noncomputable def f21_r_j2 (k : Nat) (x6 : List T25) (x7 x8 : Int) (x14 : Bool) (h0_ : List T25) (m5 m5_1 m5_2 m5_3 m5_4 m5_5 m5_6 m5_7 m5_8 m5_9 : Int) (m5_10 : List Int) : Option R21_r :=
  some (R21_r.o0 h0_)
theorem f21_r_j2_ok (k : Nat) (x6 : List T25) (x7 x8 : Int) (x14 : Bool) (h0_ : List T25) (m5 m5_1 m5_2 m5_3 m5_4 m5_5 m5_6 m5_7 m5_8 m5_9 : Int) (m5_10 : List Int) (r : R21_r) (hF : f21_r_j2 k x6 x7 x8 x14 h0_ m5 m5_1 m5_2 m5_3 m5_4 m5_5 m5_6 m5_7 m5_8 m5_9 m5_10 = some r) : finK Try.prog Try.f21 0 (EX 21 k (nav B21 [2, 2, 2]) ({ n := 22, F := [(3, V.own 30000), (5, V.ptr 5 0), (6, V.sl 11 (rowsOf encT25 x6)), (7, V.p (Value.int .i64 x7)), (8, V.p (Value.int .i64 x8)), (14, V.p (Value.bool x14))], M := [(30000, O.row true 11 25 (rowsOf encT25 h0_)), (5, O.box 25 [V.p (Value.int .i64 m5), V.p (Value.int .i64 m5_1), V.p (Value.int .u32 m5_2), V.p (Value.int .i64 m5_3), V.p (Value.int .i64 m5_4), V.p (Value.int .i64 m5_5), V.p (Value.int .i64 m5_6), V.p (Value.int .i64 m5_7), V.p (Value.int .i64 m5_8), V.p (Value.int .i64 m5_9), V.sl 1 (rowsOf (encI .u8) m5_10)])] } : St)) = some r.st := by
  unfold f21_r_j2 at hF
  cases hF
  simp (maxSteps := 999999) (disch := first | exact D (by decide) | exact K (by kernel_rfl)) only [E, EE, ↓reduceIte, simprocAttr, xk B21 [2, 2, 2] .sq rfl, show (nav B21 [1, 2, 2, 2]) = Code.region 8 _ false from rfl, hk_21_8, hz_21_8, hs_21_8, xk B21 [2, 2, 2, 2] .rt rfl, finK_norm, finK_ret, fin21, R21_r.st]
noncomputable def f21_r_j3 (k : Nat) (x6 : List T25) (x7 x8 : Int) (x9 : Bool) (h0_ : List T25) : Option R21_r :=
  some (R21_r.o0 h0_)
theorem f21_r_j3_ok (k : Nat) (x6 : List T25) (x7 x8 : Int) (x9 : Bool) (h0_ : List T25) (r : R21_r) (hF : f21_r_j3 k x6 x7 x8 x9 h0_ = some r) : finK Try.prog Try.f21 0 (EX 21 k (nav B21 [2, 2, 2]) ({ n := 22, F := [(3, V.own 30000), (6, V.sl 11 (rowsOf encT25 x6)), (7, V.p (Value.int .i64 x7)), (8, V.p (Value.int .i64 x8)), (9, V.p (Value.bool x9))], M := [(30000, O.row true 11 25 (rowsOf encT25 h0_))] } : St)) = some r.st := by
  unfold f21_r_j3 at hF
  cases hF
  simp (maxSteps := 999999) (disch := first | exact D (by decide) | exact K (by kernel_rfl)) only [E, EE, ↓reduceIte, simprocAttr, xk B21 [2, 2, 2] .sq rfl, show (nav B21 [1, 2, 2, 2]) = Code.region 8 _ false from rfl, hk_21_8, hz_21_8, hs_21_8, xk B21 [2, 2, 2, 2] .rt rfl, finK_norm, finK_ret, fin21, R21_r.st]
noncomputable def f21_r_e (k : Nat) (a0 : List T25) : Option R21_r :=
  Option.bind (f21_r_l1 k k a0 ((List.length a0) : Int) 0 []) fun o1 =>
    match o1 with
    | .o0 v4 v5 v6 v7 v8 v9 v10 v11 v12 v13 v14 v15 v16 v17 v18 v19 =>
      f21_r_j2 k v4 v5 v6 v7 v8 v9 v10 v11 v12 v13 v14 v15 v16 v17 v18 v19
    | .o1 _ _ _ _ =>
      none
    | .o2 v20 v21 v22 v23 v24 =>
      f21_r_j3 k v20 v21 v22 v23 v24
theorem f21_r_e_ok (k : Nat) (a0 : List T25) (r : R21_r) (hF : f21_r_e k a0 = some r) : finK Try.prog Try.f21 0 (EX 21 k (nav B21 []) ({ n := 22, F := [(0, V.sl 11 (rowsOf encT25 a0))], M := [] } : St)) = some r.st := by
  unfold f21_r_e at hF
  replace hF := Option.bind_eq_some_iff.1 hF
  obtain ⟨o1, h2, hF⟩ := hF
  have hc3 := f21_r_l1_ok k k a0 ((List.length a0) : Int) 0 [] _ h2
  simp (maxSteps := 999999) (disch := first | exact D (by decide) | exact K (by kernel_rfl)) only [E, EE, ↓reduceIte, simprocAttr, xk B21 [] .sq rfl, show (nav B21 [1]) = Code.region 0 _ false from rfl, hk_21_0, hz_21_0, hs_21_0, xk B21 [2] .sq rfl, show (nav B21 [1, 2]) = Code.region 1 _ false from rfl, hk_21_1, hz_21_1, hs_21_1, xk B21 [2, 2] .sq rfl, xk B21 [1, 2, 2] .sq rfl, show (nav B21 [1, 1, 2, 2]) = Code.region 2 _ false from rfl, hk_21_2, hz_21_2, hs_21_2, u_28, i_28, is_28, ib_28, iz_28, xk B21 [2, 1, 2, 2] (.bk 0) rfl, xk B21 [2, 2, 1, 2, 2] .lp rfl, hh_21_3, hc_21_3]
  (try simp only [NM, EE] at hc3)
  rw [hc3 _ (by simp (maxSteps := 999999) (disch := first | exact D (by decide) | exact K (by kernel_rfl)) only [E, EE, ↓reduceIte, simprocAttr, hh_21_3, hc_21_3])]
  clear hc3
  cases o1 with
  | o0 v4 v5 v6 v7 v8 v9 v10 v11 v12 v13 v14 v15 v16 v17 v18 v19 =>
    (try dsimp only at hF)
    have hJ := f21_r_j2_ok k v4 v5 v6 v7 v8 v9 v10 v11 v12 v13 v14 v15 v16 v17 v18 v19 _ hF
    simp (maxSteps := 999999) (disch := first | exact D (by decide) | exact K (by kernel_rfl)) only [E, EE, ↓reduceIte, simprocAttr, R21_r_l1.st]
    try simp only [NM, EE] at hJ
    exact hJ
  | o1 _ _ _ _ =>
    (try dsimp only at hF)
    cases hF
  | o2 v20 v21 v22 v23 v24 =>
    (try dsimp only at hF)
    have hJ := f21_r_j3_ok k v20 v21 v22 v23 v24 _ hF
    simp (maxSteps := 999999) (disch := first | exact D (by decide) | exact K (by kernel_rfl)) only [E, EE, ↓reduceIte, simprocAttr, R21_r_l1.st]
    try simp only [NM, EE] at hJ
    exact hJ
noncomputable def f21_r (k : Nat) (a0 : List T25) : Option R21_r := match k with | 0 => none | k + 1 => f21_r_e k a0
theorem f21_r_ok (k : Nat) (a0 : List T25) (r : R21_r) (hF : f21_r k a0 = some r) : CV k 21 [V.sl 11 (rowsOf encT25 a0)] [] = some r.st := by
  cases k with
  | zero => cases hF
  | succ k =>
    unfold CV
    rw [ev_call (F := Try.f21) (c := (nav B21 [])) rfl Try.func21 rfl rfl rfl rfl]
    exact f21_r_e_ok k a0 r hF
-- f36_iii: f36 heliograph/bundle.within
inductive R36_iii where
  | o0 (y : Bool)
noncomputable def R36_iii.st : R36_iii → V × List O × List O
  | .o0 y => (V.p (Value.bool y), [], [])
noncomputable def f36_iii_e (k : Nat) (a0 a1 a2 : Int) : Option R36_iii :=
  cond ((decide (a0 ≥ a1)))
    (some (R36_iii.o0 (decide (a0 ≤ a2))))
    (some (R36_iii.o0 false))
theorem f36_iii_e_ok (k : Nat) (a0 a1 a2 : Int) (r : R36_iii) (hF : f36_iii_e k a0 a1 a2 = some r) : finK Try.prog Try.f36 0 (EX 36 k (nav B36 []) ({ n := 15, F := [(0, V.p (Value.int .i64 a0)), (1, V.p (Value.int .i64 a1)), (2, V.p (Value.int .i64 a2))], M := [] } : St)) = some r.st := by
  unfold f36_iii_e at hF
  simp (maxSteps := 999999) (disch := first | exact D (by decide) | exact K (by kernel_rfl)) only [E, EE, ↓reduceIte, simprocAttr, xk B36 [] .sq rfl, show (nav B36 [1]) = Code.region 0 _ false from rfl, hk_36_0, hz_36_0, hs_36_0, xk B36 [2] .sq rfl, show (nav B36 [1, 2]) = Code.region 1 _ false from rfl, hk_36_1, hz_36_1, hs_36_1]
  replace hF := cond_some hF
  rcases hF with ⟨h1, hF⟩ | ⟨h1, hF⟩
  · cases hF
    simp (maxSteps := 999999) (disch := first | exact D (by decide) | exact K (by kernel_rfl)) only [E, EE, ↓reduceIte, simprocAttr, xk B36 [2, 2] .rt rfl, finK_norm, finK_ret, fin36, R36_iii.st, h1]
  · cases hF
    simp (maxSteps := 999999) (disch := first | exact D (by decide) | exact K (by kernel_rfl)) only [E, EE, ↓reduceIte, simprocAttr, xk B36 [2, 2] .rt rfl, finK_norm, finK_ret, fin36, R36_iii.st, h1]
noncomputable def f36_iii (k : Nat) (a0 a1 a2 : Int) : Option R36_iii := match k with | 0 => none | k + 1 => f36_iii_e k a0 a1 a2
theorem f36_iii_ok (k : Nat) (a0 a1 a2 : Int) (r : R36_iii) (hF : f36_iii k a0 a1 a2 = some r) : CV k 36 [V.p (Value.int .i64 a0), V.p (Value.int .i64 a1), V.p (Value.int .i64 a2)] [] = some r.st := by
  cases k with
  | zero => cases hF
  | succ k =>
    unfold CV
    rw [ev_call (F := Try.f36) (c := (nav B36 [])) rfl Try.func36 rfl rfl rfl rfl]
    exact f36_iii_e_ok k a0 a1 a2 r hF
-- f26_ai10rz: f26 heliograph/bundle.Check
inductive R26_ai10rz where
  | o0 (y : Int)
noncomputable def R26_ai10rz.st : R26_ai10rz → V × List O × List O
  | .o0 y => (V.p (Value.int .i64 y), [], [])
noncomputable def f26_ai10rz_j1 (k : Nat) (x72 : Bool) : Option R26_ai10rz :=
  some (R26_ai10rz.o0 0)
theorem f26_ai10rz_j1_ok (k : Nat) (x72 : Bool) (r : R26_ai10rz) (hF : f26_ai10rz_j1 k x72 = some r) : finK Try.prog Try.f26 0 (EX 26 k (nav B26 [2, 2, 2, 2, 2, 2]) ({ n := 73, F := [(72, V.p (Value.bool x72))], M := [] } : St)) = some r.st := by
  unfold f26_ai10rz_j1 at hF
  cases hF
  simp (maxSteps := 999999) (disch := first | exact D (by decide) | exact K (by kernel_rfl)) only [E, EE, ↓reduceIte, simprocAttr, xk B26 [2, 2, 2, 2, 2, 2] .sq rfl, show (nav B26 [1, 2, 2, 2, 2, 2, 2]) = Code.region 7 _ false from rfl, hk_26_7, hz_26_7, hs_26_7, xk B26 [2, 2, 2, 2, 2, 2, 2] .rt rfl, finK_norm, finK_ret, fin26, R26_ai10rz.st]
noncomputable def f26_ai10rz_e (k : Nat) (a0 a0_1 a0_2 a0_3 a0_4 a0_5 a0_6 a0_7 a0_8 a0_9 : Int) (a0_10 : List Int) : Option R26_ai10rz :=
  Option.bind (f36_iii k a0 1 6) fun o1 =>
    match o1 with
    | .o0 v4 =>
      cond (v4)
        (
          Option.bind (f36_iii k a0_1 1 6) fun o6 =>
            match o6 with
            | .o0 v9 =>
              cond (v9)
                (
                  cond ((decide (a0_2 > 0)))
                    (
                      Option.bind (f36_iii k a0_3 0 1048576) fun o12 =>
                        match o12 with
                        | .o0 v15 =>
                          cond (v15)
                            (
                              Option.bind (f36_iii k a0_4 1 1048576) fun o17 =>
                                match o17 with
                                | .o0 v20 =>
                                  cond (v20)
                                    (
                                      Option.bind (f36_iii k a0_5 1 16) fun o22 =>
                                        match o22 with
                                        | .o0 v25 =>
                                          cond (v25)
                                            (
                                              Option.bind (f36_iii k a0_6 0 a0_5) fun o27 =>
                                                match o27 with
                                                | .o0 v30 =>
                                                  cond (v30)
                                                    (
                                                      Option.bind (f36_iii k a0_7 0 2) fun o32 =>
                                                        match o32 with
                                                        | .o0 v35 =>
                                                          cond (v35)
                                                            (
                                                              Option.bind (f36_iii k a0_9 1 400) fun o37 =>
                                                                match o37 with
                                                                | .o0 v40 =>
                                                                  cond (v40)
                                                                    (
                                                                      Option.bind (f36_iii k ((List.length a0_10) : Int) 1 a0_9) fun o42 =>
                                                                        match o42 with
                                                                        | .o0 v45 =>
                                                                          cond (v45)
                                                                            (
                                                                              Option.bind (f36_iii k a0_8 0 (IntKind.i64.wrap (a0_9 - ((List.length a0_10) : Int)))) fun o47 =>
                                                                                match o47 with
                                                                                | .o0 v50 =>
                                                                                  cond ((!v50))
                                                                                    (some (R26_ai10rz.o0 190))
                                                                                    (f26_ai10rz_j1 k false))
                                                                            (some (R26_ai10rz.o0 190)))
                                                                    (some (R26_ai10rz.o0 190)))
                                                            (some (R26_ai10rz.o0 190)))
                                                    (some (R26_ai10rz.o0 190)))
                                            (some (R26_ai10rz.o0 190)))
                                    (some (R26_ai10rz.o0 190)))
                            (some (R26_ai10rz.o0 190)))
                    (some (R26_ai10rz.o0 190)))
                (some (R26_ai10rz.o0 190)))
        (some (R26_ai10rz.o0 190))
theorem f26_ai10rz_e_ok (k : Nat) (a0 a0_1 a0_2 a0_3 a0_4 a0_5 a0_6 a0_7 a0_8 a0_9 : Int) (a0_10 : List Int) (r : R26_ai10rz) (hF : f26_ai10rz_e k a0 a0_1 a0_2 a0_3 a0_4 a0_5 a0_6 a0_7 a0_8 a0_9 a0_10 = some r) : finK Try.prog Try.f26 0 (EX 26 k (nav B26 []) ({ n := 73, F := [(0, V.agg [V.p (Value.int .i64 a0), V.p (Value.int .i64 a0_1), V.p (Value.int .u32 a0_2), V.p (Value.int .i64 a0_3), V.p (Value.int .i64 a0_4), V.p (Value.int .i64 a0_5), V.p (Value.int .i64 a0_6), V.p (Value.int .i64 a0_7), V.p (Value.int .i64 a0_8), V.p (Value.int .i64 a0_9), V.sl 1 (rowsOf (encI .u8) a0_10)])], M := [] } : St)) = some r.st := by
  unfold f26_ai10rz_e at hF
  replace hF := Option.bind_eq_some_iff.1 hF
  obtain ⟨o1, h2, hF⟩ := hF
  have hc3 := f36_iii_ok k a0 1 6 _ h2
  cases o1 with
  | o0 v4 =>
    (try dsimp only at hF)
    (try simp only [NM, EE, R36_iii.st] at hc3)
    simp (maxSteps := 999999) (disch := first | exact D (by decide) | exact K (by kernel_rfl)) only [E, EE, ↓reduceIte, simprocAttr, xk B26 [] .sq rfl, show (nav B26 [1]) = Code.region 0 _ false from rfl, hk_26_0, hz_26_0, hs_26_0, xk B26 [2] .sq rfl, show (nav B26 [1, 2]) = Code.region 1 _ false from rfl, hk_26_1, hz_26_1, hs_26_1, fieldAddrV, u_25, i_25, is_25, ib_25, iz_25, u_3, i_3, is_3, ib_3, iz_3, callStep, CL, gv, List.contains, hc3]
    replace hF := cond_some hF
    rcases hF with ⟨h5, hF⟩ | ⟨h5, hF⟩
    · replace hF := Option.bind_eq_some_iff.1 hF
      obtain ⟨o6, h7, hF⟩ := hF
      have hc8 := f36_iii_ok k a0_1 1 6 _ h7
      cases o6 with
      | o0 v9 =>
        (try dsimp only at hF)
        (try simp only [NM, EE, R36_iii.st] at hc8)
        simp (maxSteps := 999999) (disch := first | exact D (by decide) | exact K (by kernel_rfl)) only [E, EE, ↓reduceIte, simprocAttr, fieldAddrV, u_25, i_25, is_25, ib_25, iz_25, u_3, i_3, is_3, ib_3, iz_3, callStep, CL, gv, List.contains, hc3, h5, hc8]
        replace hF := cond_some hF
        rcases hF with ⟨h10, hF⟩ | ⟨h10, hF⟩
        · simp (maxSteps := 999999) (disch := first | exact D (by decide) | exact K (by kernel_rfl)) only [E, EE, ↓reduceIte, simprocAttr, fieldAddrV, u_25, i_25, is_25, ib_25, iz_25, u_22, i_22, is_22, ib_22, iz_22, xk B26 [2, 2] .sq rfl, show (nav B26 [1, 2, 2]) = Code.region 2 _ false from rfl, hk_26_2, hz_26_2, hs_26_2, hc3, h5, hc8, h10]
          replace hF := cond_some hF
          rcases hF with ⟨h11, hF⟩ | ⟨h11, hF⟩
          · replace hF := Option.bind_eq_some_iff.1 hF
            obtain ⟨o12, h13, hF⟩ := hF
            have hc14 := f36_iii_ok k a0_3 0 1048576 _ h13
            cases o12 with
            | o0 v15 =>
              (try dsimp only at hF)
              (try simp only [NM, EE, R36_iii.st] at hc14)
              simp (maxSteps := 999999) (disch := first | exact D (by decide) | exact K (by kernel_rfl)) only [E, EE, ↓reduceIte, simprocAttr, fieldAddrV, u_25, i_25, is_25, ib_25, iz_25, u_3, i_3, is_3, ib_3, iz_3, callStep, CL, gv, List.contains, hc3, h5, hc8, h10, h11, hc14]
              replace hF := cond_some hF
              rcases hF with ⟨h16, hF⟩ | ⟨h16, hF⟩
              · replace hF := Option.bind_eq_some_iff.1 hF
                obtain ⟨o17, h18, hF⟩ := hF
                have hc19 := f36_iii_ok k a0_4 1 1048576 _ h18
                cases o17 with
                | o0 v20 =>
                  (try dsimp only at hF)
                  (try simp only [NM, EE, R36_iii.st] at hc19)
                  simp (maxSteps := 999999) (disch := first | exact D (by decide) | exact K (by kernel_rfl)) only [E, EE, ↓reduceIte, simprocAttr, fieldAddrV, u_25, i_25, is_25, ib_25, iz_25, u_3, i_3, is_3, ib_3, iz_3, callStep, CL, gv, List.contains, xk B26 [2, 2, 2] .sq rfl, show (nav B26 [1, 2, 2, 2]) = Code.region 3 _ false from rfl, hk_26_3, hz_26_3, hs_26_3, hc3, h5, hc8, h10, h11, hc14, h16, hc19]
                  replace hF := cond_some hF
                  rcases hF with ⟨h21, hF⟩ | ⟨h21, hF⟩
                  · replace hF := Option.bind_eq_some_iff.1 hF
                    obtain ⟨o22, h23, hF⟩ := hF
                    have hc24 := f36_iii_ok k a0_5 1 16 _ h23
                    cases o22 with
                    | o0 v25 =>
                      (try dsimp only at hF)
                      (try simp only [NM, EE, R36_iii.st] at hc24)
                      simp (maxSteps := 999999) (disch := first | exact D (by decide) | exact K (by kernel_rfl)) only [E, EE, ↓reduceIte, simprocAttr, fieldAddrV, u_25, i_25, is_25, ib_25, iz_25, u_3, i_3, is_3, ib_3, iz_3, callStep, CL, gv, List.contains, hc3, h5, hc8, h10, h11, hc14, h16, hc19, h21, hc24]
                      replace hF := cond_some hF
                      rcases hF with ⟨h26, hF⟩ | ⟨h26, hF⟩
                      · replace hF := Option.bind_eq_some_iff.1 hF
                        obtain ⟨o27, h28, hF⟩ := hF
                        have hc29 := f36_iii_ok k a0_6 0 a0_5 _ h28
                        cases o27 with
                        | o0 v30 =>
                          (try dsimp only at hF)
                          (try simp only [NM, EE, R36_iii.st] at hc29)
                          simp (maxSteps := 999999) (disch := first | exact D (by decide) | exact K (by kernel_rfl)) only [E, EE, ↓reduceIte, simprocAttr, fieldAddrV, u_25, i_25, is_25, ib_25, iz_25, u_3, i_3, is_3, ib_3, iz_3, callStep, CL, gv, List.contains, hc3, h5, hc8, h10, h11, hc14, h16, hc19, h21, hc24, h26, hc29]
                          replace hF := cond_some hF
                          rcases hF with ⟨h31, hF⟩ | ⟨h31, hF⟩
                          · replace hF := Option.bind_eq_some_iff.1 hF
                            obtain ⟨o32, h33, hF⟩ := hF
                            have hc34 := f36_iii_ok k a0_7 0 2 _ h33
                            cases o32 with
                            | o0 v35 =>
                              (try dsimp only at hF)
                              (try simp only [NM, EE, R36_iii.st] at hc34)
                              simp (maxSteps := 999999) (disch := first | exact D (by decide) | exact K (by kernel_rfl)) only [E, EE, ↓reduceIte, simprocAttr, fieldAddrV, u_25, i_25, is_25, ib_25, iz_25, u_3, i_3, is_3, ib_3, iz_3, callStep, CL, gv, List.contains, xk B26 [2, 2, 2, 2] .sq rfl, show (nav B26 [1, 2, 2, 2, 2]) = Code.region 4 _ false from rfl, hk_26_4, hz_26_4, hs_26_4, hc3, h5, hc8, h10, h11, hc14, h16, hc19, h21, hc24, h26, hc29, h31, hc34]
                              replace hF := cond_some hF
                              rcases hF with ⟨h36, hF⟩ | ⟨h36, hF⟩
                              · replace hF := Option.bind_eq_some_iff.1 hF
                                obtain ⟨o37, h38, hF⟩ := hF
                                have hc39 := f36_iii_ok k a0_9 1 400 _ h38
                                cases o37 with
                                | o0 v40 =>
                                  (try dsimp only at hF)
                                  (try simp only [NM, EE, R36_iii.st] at hc39)
                                  simp (maxSteps := 999999) (disch := first | exact D (by decide) | exact K (by kernel_rfl)) only [E, EE, ↓reduceIte, simprocAttr, fieldAddrV, u_25, i_25, is_25, ib_25, iz_25, u_3, i_3, is_3, ib_3, iz_3, callStep, CL, gv, List.contains, hc3, h5, hc8, h10, h11, hc14, h16, hc19, h21, hc24, h26, hc29, h31, hc34, h36, hc39]
                                  replace hF := cond_some hF
                                  rcases hF with ⟨h41, hF⟩ | ⟨h41, hF⟩
                                  · replace hF := Option.bind_eq_some_iff.1 hF
                                    obtain ⟨o42, h43, hF⟩ := hF
                                    have hc44 := f36_iii_ok k ((List.length a0_10) : Int) 1 a0_9 _ h43
                                    cases o42 with
                                    | o0 v45 =>
                                      (try dsimp only at hF)
                                      (try simp only [NM, EE, R36_iii.st] at hc44)
                                      simp (maxSteps := 999999) (disch := first | exact D (by decide) | exact K (by kernel_rfl)) only [E, EE, ↓reduceIte, simprocAttr, fieldAddrV, u_25, i_25, is_25, ib_25, iz_25, u_23, i_23, is_23, ib_23, iz_23, u_3, i_3, is_3, ib_3, iz_3, callStep, CL, gv, List.contains, hc3, h5, hc8, h10, h11, hc14, h16, hc19, h21, hc24, h26, hc29, h31, hc34, h36, hc39, h41, hc44]
                                      replace hF := cond_some hF
                                      rcases hF with ⟨h46, hF⟩ | ⟨h46, hF⟩
                                      · replace hF := Option.bind_eq_some_iff.1 hF
                                        obtain ⟨o47, h48, hF⟩ := hF
                                        have hc49 := f36_iii_ok k a0_8 0 (IntKind.i64.wrap (a0_9 - ((List.length a0_10) : Int))) _ h48
                                        cases o47 with
                                        | o0 v50 =>
                                          (try dsimp only at hF)
                                          (try simp only [NM, EE, R36_iii.st] at hc49)
                                          simp (maxSteps := 999999) (disch := first | exact D (by decide) | exact K (by kernel_rfl)) only [E, EE, ↓reduceIte, simprocAttr, fieldAddrV, u_25, i_25, is_25, ib_25, iz_25, u_3, i_3, is_3, ib_3, iz_3, u_23, i_23, is_23, ib_23, iz_23, callStep, CL, gv, List.contains, xk B26 [2, 2, 2, 2, 2] .sq rfl, xk B26 [1, 2, 2, 2, 2, 2] .sq rfl, show (nav B26 [1, 1, 2, 2, 2, 2, 2]) = Code.region 5 _ false from rfl, hk_26_5, hz_26_5, hs_26_5, xk B26 [2, 1, 2, 2, 2, 2, 2] (.cd 72) rfl, hc3, h5, hc8, h10, h11, hc14, h16, hc19, h21, hc24, h26, hc29, h31, hc34, h36, hc39, h41, hc44, h46, hc49]
                                          replace hF := cond_some hF
                                          rcases hF with ⟨h51, hF⟩ | ⟨h51, hF⟩
                                          · cases hF
                                            simp (maxSteps := 999999) (disch := first | exact D (by decide) | exact K (by kernel_rfl)) only [E, EE, ↓reduceIte, simprocAttr, xk B26 [2, 2, 1, 2, 2, 2, 2, 2] .sq rfl, show (nav B26 [1, 2, 2, 1, 2, 2, 2, 2, 2]) = Code.region 6 _ false from rfl, hk_26_6, hz_26_6, hs_26_6, xk B26 [2, 2, 2, 1, 2, 2, 2, 2, 2] .rt rfl, finK_norm, finK_ret, fin26, R26_ai10rz.st, hc3, h5, hc8, h10, h11, hc14, h16, hc19, h21, hc24, h26, hc29, h31, hc34, h36, hc39, h41, hc44, h46, hc49, h51]
                                          · have hJ := f26_ai10rz_j1_ok k false _ hF
                                            simp (maxSteps := 999999) (disch := first | exact D (by decide) | exact K (by kernel_rfl)) only [E, EE, ↓reduceIte, simprocAttr, xk B26 [3, 2, 1, 2, 2, 2, 2, 2] .sk rfl, hc3, h5, hc8, h10, h11, hc14, h16, hc19, h21, hc24, h26, hc29, h31, hc34, h36, hc39, h41, hc44, h46, hc49, h51]
                                            try simp only [NM, EE] at hJ
                                            exact hJ
                                      · cases hF
                                        simp (maxSteps := 999999) (disch := first | exact D (by decide) | exact K (by kernel_rfl)) only [E, EE, ↓reduceIte, simprocAttr, xk B26 [2, 2, 2, 2, 2] .sq rfl, xk B26 [1, 2, 2, 2, 2, 2] .sq rfl, show (nav B26 [1, 1, 2, 2, 2, 2, 2]) = Code.region 5 _ false from rfl, hk_26_5, hz_26_5, hs_26_5, xk B26 [2, 1, 2, 2, 2, 2, 2] (.cd 72) rfl, xk B26 [2, 2, 1, 2, 2, 2, 2, 2] .sq rfl, show (nav B26 [1, 2, 2, 1, 2, 2, 2, 2, 2]) = Code.region 6 _ false from rfl, hk_26_6, hz_26_6, hs_26_6, xk B26 [2, 2, 2, 1, 2, 2, 2, 2, 2] .rt rfl, finK_norm, finK_ret, fin26, R26_ai10rz.st, hc3, h5, hc8, h10, h11, hc14, h16, hc19, h21, hc24, h26, hc29, h31, hc34, h36, hc39, h41, hc44, h46]
                                  · cases hF
                                    simp (maxSteps := 999999) (disch := first | exact D (by decide) | exact K (by kernel_rfl)) only [E, EE, ↓reduceIte, simprocAttr, xk B26 [2, 2, 2, 2, 2] .sq rfl, xk B26 [1, 2, 2, 2, 2, 2] .sq rfl, show (nav B26 [1, 1, 2, 2, 2, 2, 2]) = Code.region 5 _ false from rfl, hk_26_5, hz_26_5, hs_26_5, xk B26 [2, 1, 2, 2, 2, 2, 2] (.cd 72) rfl, xk B26 [2, 2, 1, 2, 2, 2, 2, 2] .sq rfl, show (nav B26 [1, 2, 2, 1, 2, 2, 2, 2, 2]) = Code.region 6 _ false from rfl, hk_26_6, hz_26_6, hs_26_6, xk B26 [2, 2, 2, 1, 2, 2, 2, 2, 2] .rt rfl, finK_norm, finK_ret, fin26, R26_ai10rz.st, hc3, h5, hc8, h10, h11, hc14, h16, hc19, h21, hc24, h26, hc29, h31, hc34, h36, hc39, h41]
                              · cases hF
                                simp (maxSteps := 999999) (disch := first | exact D (by decide) | exact K (by kernel_rfl)) only [E, EE, ↓reduceIte, simprocAttr, xk B26 [2, 2, 2, 2, 2] .sq rfl, xk B26 [1, 2, 2, 2, 2, 2] .sq rfl, show (nav B26 [1, 1, 2, 2, 2, 2, 2]) = Code.region 5 _ false from rfl, hk_26_5, hz_26_5, hs_26_5, xk B26 [2, 1, 2, 2, 2, 2, 2] (.cd 72) rfl, xk B26 [2, 2, 1, 2, 2, 2, 2, 2] .sq rfl, show (nav B26 [1, 2, 2, 1, 2, 2, 2, 2, 2]) = Code.region 6 _ false from rfl, hk_26_6, hz_26_6, hs_26_6, xk B26 [2, 2, 2, 1, 2, 2, 2, 2, 2] .rt rfl, finK_norm, finK_ret, fin26, R26_ai10rz.st, hc3, h5, hc8, h10, h11, hc14, h16, hc19, h21, hc24, h26, hc29, h31, hc34, h36]
                          · cases hF
                            simp (maxSteps := 999999) (disch := first | exact D (by decide) | exact K (by kernel_rfl)) only [E, EE, ↓reduceIte, simprocAttr, xk B26 [2, 2, 2, 2] .sq rfl, show (nav B26 [1, 2, 2, 2, 2]) = Code.region 4 _ false from rfl, hk_26_4, hz_26_4, hs_26_4, xk B26 [2, 2, 2, 2, 2] .sq rfl, xk B26 [1, 2, 2, 2, 2, 2] .sq rfl, show (nav B26 [1, 1, 2, 2, 2, 2, 2]) = Code.region 5 _ false from rfl, hk_26_5, hz_26_5, hs_26_5, xk B26 [2, 1, 2, 2, 2, 2, 2] (.cd 72) rfl, xk B26 [2, 2, 1, 2, 2, 2, 2, 2] .sq rfl, show (nav B26 [1, 2, 2, 1, 2, 2, 2, 2, 2]) = Code.region 6 _ false from rfl, hk_26_6, hz_26_6, hs_26_6, xk B26 [2, 2, 2, 1, 2, 2, 2, 2, 2] .rt rfl, finK_norm, finK_ret, fin26, R26_ai10rz.st, hc3, h5, hc8, h10, h11, hc14, h16, hc19, h21, hc24, h26, hc29, h31]
                      · cases hF
                        simp (maxSteps := 999999) (disch := first | exact D (by decide) | exact K (by kernel_rfl)) only [E, EE, ↓reduceIte, simprocAttr, xk B26 [2, 2, 2, 2] .sq rfl, show (nav B26 [1, 2, 2, 2, 2]) = Code.region 4 _ false from rfl, hk_26_4, hz_26_4, hs_26_4, xk B26 [2, 2, 2, 2, 2] .sq rfl, xk B26 [1, 2, 2, 2, 2, 2] .sq rfl, show (nav B26 [1, 1, 2, 2, 2, 2, 2]) = Code.region 5 _ false from rfl, hk_26_5, hz_26_5, hs_26_5, xk B26 [2, 1, 2, 2, 2, 2, 2] (.cd 72) rfl, xk B26 [2, 2, 1, 2, 2, 2, 2, 2] .sq rfl, show (nav B26 [1, 2, 2, 1, 2, 2, 2, 2, 2]) = Code.region 6 _ false from rfl, hk_26_6, hz_26_6, hs_26_6, xk B26 [2, 2, 2, 1, 2, 2, 2, 2, 2] .rt rfl, finK_norm, finK_ret, fin26, R26_ai10rz.st, hc3, h5, hc8, h10, h11, hc14, h16, hc19, h21, hc24, h26]
                  · cases hF
                    simp (maxSteps := 999999) (disch := first | exact D (by decide) | exact K (by kernel_rfl)) only [E, EE, ↓reduceIte, simprocAttr, xk B26 [2, 2, 2, 2] .sq rfl, show (nav B26 [1, 2, 2, 2, 2]) = Code.region 4 _ false from rfl, hk_26_4, hz_26_4, hs_26_4, xk B26 [2, 2, 2, 2, 2] .sq rfl, xk B26 [1, 2, 2, 2, 2, 2] .sq rfl, show (nav B26 [1, 1, 2, 2, 2, 2, 2]) = Code.region 5 _ false from rfl, hk_26_5, hz_26_5, hs_26_5, xk B26 [2, 1, 2, 2, 2, 2, 2] (.cd 72) rfl, xk B26 [2, 2, 1, 2, 2, 2, 2, 2] .sq rfl, show (nav B26 [1, 2, 2, 1, 2, 2, 2, 2, 2]) = Code.region 6 _ false from rfl, hk_26_6, hz_26_6, hs_26_6, xk B26 [2, 2, 2, 1, 2, 2, 2, 2, 2] .rt rfl, finK_norm, finK_ret, fin26, R26_ai10rz.st, hc3, h5, hc8, h10, h11, hc14, h16, hc19, h21]
              · cases hF
                simp (maxSteps := 999999) (disch := first | exact D (by decide) | exact K (by kernel_rfl)) only [E, EE, ↓reduceIte, simprocAttr, xk B26 [2, 2, 2] .sq rfl, show (nav B26 [1, 2, 2, 2]) = Code.region 3 _ false from rfl, hk_26_3, hz_26_3, hs_26_3, xk B26 [2, 2, 2, 2] .sq rfl, show (nav B26 [1, 2, 2, 2, 2]) = Code.region 4 _ false from rfl, hk_26_4, hz_26_4, hs_26_4, xk B26 [2, 2, 2, 2, 2] .sq rfl, xk B26 [1, 2, 2, 2, 2, 2] .sq rfl, show (nav B26 [1, 1, 2, 2, 2, 2, 2]) = Code.region 5 _ false from rfl, hk_26_5, hz_26_5, hs_26_5, xk B26 [2, 1, 2, 2, 2, 2, 2] (.cd 72) rfl, xk B26 [2, 2, 1, 2, 2, 2, 2, 2] .sq rfl, show (nav B26 [1, 2, 2, 1, 2, 2, 2, 2, 2]) = Code.region 6 _ false from rfl, hk_26_6, hz_26_6, hs_26_6, xk B26 [2, 2, 2, 1, 2, 2, 2, 2, 2] .rt rfl, finK_norm, finK_ret, fin26, R26_ai10rz.st, hc3, h5, hc8, h10, h11, hc14, h16]
          · cases hF
            simp (maxSteps := 999999) (disch := first | exact D (by decide) | exact K (by kernel_rfl)) only [E, EE, ↓reduceIte, simprocAttr, xk B26 [2, 2, 2] .sq rfl, show (nav B26 [1, 2, 2, 2]) = Code.region 3 _ false from rfl, hk_26_3, hz_26_3, hs_26_3, xk B26 [2, 2, 2, 2] .sq rfl, show (nav B26 [1, 2, 2, 2, 2]) = Code.region 4 _ false from rfl, hk_26_4, hz_26_4, hs_26_4, xk B26 [2, 2, 2, 2, 2] .sq rfl, xk B26 [1, 2, 2, 2, 2, 2] .sq rfl, show (nav B26 [1, 1, 2, 2, 2, 2, 2]) = Code.region 5 _ false from rfl, hk_26_5, hz_26_5, hs_26_5, xk B26 [2, 1, 2, 2, 2, 2, 2] (.cd 72) rfl, xk B26 [2, 2, 1, 2, 2, 2, 2, 2] .sq rfl, show (nav B26 [1, 2, 2, 1, 2, 2, 2, 2, 2]) = Code.region 6 _ false from rfl, hk_26_6, hz_26_6, hs_26_6, xk B26 [2, 2, 2, 1, 2, 2, 2, 2, 2] .rt rfl, finK_norm, finK_ret, fin26, R26_ai10rz.st, hc3, h5, hc8, h10, h11]
        · cases hF
          simp (maxSteps := 999999) (disch := first | exact D (by decide) | exact K (by kernel_rfl)) only [E, EE, ↓reduceIte, simprocAttr, xk B26 [2, 2] .sq rfl, show (nav B26 [1, 2, 2]) = Code.region 2 _ false from rfl, hk_26_2, hz_26_2, hs_26_2, xk B26 [2, 2, 2] .sq rfl, show (nav B26 [1, 2, 2, 2]) = Code.region 3 _ false from rfl, hk_26_3, hz_26_3, hs_26_3, xk B26 [2, 2, 2, 2] .sq rfl, show (nav B26 [1, 2, 2, 2, 2]) = Code.region 4 _ false from rfl, hk_26_4, hz_26_4, hs_26_4, xk B26 [2, 2, 2, 2, 2] .sq rfl, xk B26 [1, 2, 2, 2, 2, 2] .sq rfl, show (nav B26 [1, 1, 2, 2, 2, 2, 2]) = Code.region 5 _ false from rfl, hk_26_5, hz_26_5, hs_26_5, xk B26 [2, 1, 2, 2, 2, 2, 2] (.cd 72) rfl, xk B26 [2, 2, 1, 2, 2, 2, 2, 2] .sq rfl, show (nav B26 [1, 2, 2, 1, 2, 2, 2, 2, 2]) = Code.region 6 _ false from rfl, hk_26_6, hz_26_6, hs_26_6, xk B26 [2, 2, 2, 1, 2, 2, 2, 2, 2] .rt rfl, finK_norm, finK_ret, fin26, R26_ai10rz.st, hc3, h5, hc8, h10]
    · cases hF
      simp (maxSteps := 999999) (disch := first | exact D (by decide) | exact K (by kernel_rfl)) only [E, EE, ↓reduceIte, simprocAttr, xk B26 [2, 2] .sq rfl, show (nav B26 [1, 2, 2]) = Code.region 2 _ false from rfl, hk_26_2, hz_26_2, hs_26_2, xk B26 [2, 2, 2] .sq rfl, show (nav B26 [1, 2, 2, 2]) = Code.region 3 _ false from rfl, hk_26_3, hz_26_3, hs_26_3, xk B26 [2, 2, 2, 2] .sq rfl, show (nav B26 [1, 2, 2, 2, 2]) = Code.region 4 _ false from rfl, hk_26_4, hz_26_4, hs_26_4, xk B26 [2, 2, 2, 2, 2] .sq rfl, xk B26 [1, 2, 2, 2, 2, 2] .sq rfl, show (nav B26 [1, 1, 2, 2, 2, 2, 2]) = Code.region 5 _ false from rfl, hk_26_5, hz_26_5, hs_26_5, xk B26 [2, 1, 2, 2, 2, 2, 2] (.cd 72) rfl, xk B26 [2, 2, 1, 2, 2, 2, 2, 2] .sq rfl, show (nav B26 [1, 2, 2, 1, 2, 2, 2, 2, 2]) = Code.region 6 _ false from rfl, hk_26_6, hz_26_6, hs_26_6, xk B26 [2, 2, 2, 1, 2, 2, 2, 2, 2] .rt rfl, finK_norm, finK_ret, fin26, R26_ai10rz.st, hc3, h5]
noncomputable def f26_ai10rz (k : Nat) (a0 a0_1 a0_2 a0_3 a0_4 a0_5 a0_6 a0_7 a0_8 a0_9 : Int) (a0_10 : List Int) : Option R26_ai10rz := match k with | 0 => none | k + 1 => f26_ai10rz_e k a0 a0_1 a0_2 a0_3 a0_4 a0_5 a0_6 a0_7 a0_8 a0_9 a0_10
theorem f26_ai10rz_ok (k : Nat) (a0 a0_1 a0_2 a0_3 a0_4 a0_5 a0_6 a0_7 a0_8 a0_9 : Int) (a0_10 : List Int) (r : R26_ai10rz) (hF : f26_ai10rz k a0 a0_1 a0_2 a0_3 a0_4 a0_5 a0_6 a0_7 a0_8 a0_9 a0_10 = some r) : CV k 26 [V.agg [V.p (Value.int .i64 a0), V.p (Value.int .i64 a0_1), V.p (Value.int .u32 a0_2), V.p (Value.int .i64 a0_3), V.p (Value.int .i64 a0_4), V.p (Value.int .i64 a0_5), V.p (Value.int .i64 a0_6), V.p (Value.int .i64 a0_7), V.p (Value.int .i64 a0_8), V.p (Value.int .i64 a0_9), V.sl 1 (rowsOf (encI .u8) a0_10)]] [] = some r.st := by
  cases k with
  | zero => cases hF
  | succ k =>
    unfold CV
    rw [ev_call (F := Try.f26) (c := (nav B26 [])) rfl Try.func26 rfl rfl rfl rfl]
    exact f26_ai10rz_e_ok k a0 a0_1 a0_2 a0_3 a0_4 a0_5 a0_6 a0_7 a0_8 a0_9 a0_10 r hF
-- f38_rr: f38 slices.Equal[[]byte,byte]
inductive R38_rr where
  | o0 (y : Bool)
noncomputable def R38_rr.st : R38_rr → V × List O × List O
  | .o0 y => (V.p (Value.bool y), [], [])
inductive R38_rr_l2 where
  | o0 (y : Bool)
  | o1 (y y_1 : List Int) (y_2 y_3 : Int)
  | o2 (y y_1 : List Int) (y_2 y_3 : Int) (y_4 : Bool)
noncomputable def R38_rr_l2.st : R38_rr_l2 → Out × St
  | .o0 y => (.ret, ({ n := 26, F := [(4, V.p (Value.bool y))], M := [] } : St))
  | .o1 y y_1 y_2 y_3 => (.norm, ({ n := 26, F := [(0, V.sl 1 (rowsOf (encI .u8) y)), (1, V.sl 1 (rowsOf (encI .u8) y_1)), (12, V.p (Value.int .i64 y_2)), (13, V.p (Value.int .i64 y_3))], M := [] } : St))
  | .o2 y y_1 y_2 y_3 y_4 => (.exit 0, ({ n := 26, F := [(0, V.sl 1 (rowsOf (encI .u8) y)), (1, V.sl 1 (rowsOf (encI .u8) y_1)), (12, V.p (Value.int .i64 y_2)), (13, V.p (Value.int .i64 y_3)), (14, V.p (Value.bool y_4))], M := [] } : St))
noncomputable def f38_rr_l2_j2 (k : Nat) (x0 x1 : List Int) (x12 x13 : Int) (x24 : Bool) : Option R38_rr_l2 :=
  some (R38_rr_l2.o1 x0 x1 x12 (IntKind.i64.wrap (x13 + (1 : Int))))
theorem f38_rr_l2_j2_ok (k : Nat) (x0 x1 : List Int) (x12 x13 : Int) (x24 : Bool) (r : R38_rr_l2) (hF : f38_rr_l2_j2 k x0 x1 x12 x13 x24 = some r) : EX 38 k (nav B38 [2, 2, 2, 1, 2, 2, 1, 2, 2]) ({ n := 26, F := [(0, V.sl 1 (rowsOf (encI .u8) x0)), (1, V.sl 1 (rowsOf (encI .u8) x1)), (12, V.p (Value.int .i64 x12)), (13, V.p (Value.int .i64 x13)), (24, V.p (Value.bool x24))], M := [] } : St) = some r.st := by
  unfold f38_rr_l2_j2 at hF
  cases hF
  simp (maxSteps := 999999) (disch := first | exact D (by decide) | exact K (by kernel_rfl)) only [E, EE, ↓reduceIte, simprocAttr, show (nav B38 [2, 2, 2, 1, 2, 2, 1, 2, 2]) = Code.region 8 _ false from rfl, hk_38_8, hz_38_8, hs_38_8, R38_rr_l2.st]
noncomputable def f38_rr_l2_j1 (k : Nat) (x0 x1 : List Int) (x12 x13 : Int) (x14 : Bool) : Option R38_rr_l2 :=
  ifE ((0 : Int) ≤ x13) (
    Option.bind (x0[(Int.toNat x13)]?) fun v2 =>
      Option.bind (x1[(Int.toNat x13)]?) fun v4 =>
        cond ((v2 != v4))
          (some (R38_rr_l2.o0 false))
          (f38_rr_l2_j2 k x0 x1 x12 x13 false))
theorem f38_rr_l2_j1_ok (k : Nat) (x0 x1 : List Int) (x12 x13 : Int) (x14 : Bool) (r : R38_rr_l2) (hF : f38_rr_l2_j1 k x0 x1 x12 x13 x14 = some r) : EX 38 k (nav B38 [2, 2, 1, 2, 2, 1, 2, 2]) ({ n := 26, F := [(0, V.sl 1 (rowsOf (encI .u8) x0)), (1, V.sl 1 (rowsOf (encI .u8) x1)), (12, V.p (Value.int .i64 x12)), (13, V.p (Value.int .i64 x13)), (14, V.p (Value.bool x14))], M := [] } : St) = some r.st := by
  unfold f38_rr_l2_j1 at hF
  replace hF := ifE_some.1 hF
  obtain ⟨h1, hF⟩ := hF
  replace hF := Option.bind_eq_some_iff.1 hF
  obtain ⟨v2, h3, hF⟩ := hF
  replace hF := Option.bind_eq_some_iff.1 hF
  obtain ⟨v4, h5, hF⟩ := hF
  simp (maxSteps := 999999) (disch := first | exact D (by decide) | exact K (by kernel_rfl)) only [E, EE, ↓reduceIte, simprocAttr, xk B38 [2, 2, 1, 2, 2, 1, 2, 2] .sq rfl, xk B38 [1, 2, 2, 1, 2, 2, 1, 2, 2] (.bk 1) rfl, xk B38 [2, 1, 2, 2, 1, 2, 2, 1, 2, 2] .sq rfl, show (nav B38 [1, 2, 1, 2, 2, 1, 2, 2, 1, 2, 2]) = Code.region 5 _ false from rfl, hk_38_5, hz_38_5, hs_38_5, xk B38 [2, 2, 1, 2, 2, 1, 2, 2, 1, 2, 2] .sq rfl, show (nav B38 [1, 2, 2, 1, 2, 2, 1, 2, 2, 1, 2, 2]) = Code.region 6 _ true from rfl, hk_38_6, hz_38_6, hs_38_6, indexAddrV, u_23, i_23, is_23, ib_23, iz_23, u_5, i_5, is_5, ib_5, iz_5, encI_eq, xk B38 [2, 2, 2, 1, 2, 2, 1, 2, 2, 1, 2, 2] (.cd 24) rfl, h1, h3, h5]
  replace hF := cond_some hF
  rcases hF with ⟨h6, hF⟩ | ⟨h6, hF⟩
  · cases hF
    simp (maxSteps := 999999) (disch := first | exact D (by decide) | exact K (by kernel_rfl)) only [E, EE, ↓reduceIte, simprocAttr, xk B38 [2, 2, 2, 2, 1, 2, 2, 1, 2, 2, 1, 2, 2] .sq rfl, show (nav B38 [1, 2, 2, 2, 2, 1, 2, 2, 1, 2, 2, 1, 2, 2]) = Code.region 7 _ false from rfl, hk_38_7, hz_38_7, hs_38_7, xk B38 [2, 2, 2, 2, 2, 1, 2, 2, 1, 2, 2, 1, 2, 2] .rt rfl, R38_rr_l2.st, h1, h3, h5, h6]
  · have hJ := f38_rr_l2_j2_ok k x0 x1 x12 x13 false _ hF
    simp (maxSteps := 999999) (disch := first | exact D (by decide) | exact K (by kernel_rfl)) only [E, EE, ↓reduceIte, simprocAttr, xk B38 [3, 2, 2, 2, 1, 2, 2, 1, 2, 2, 1, 2, 2] .sk rfl, h1, h3, h5, h6]
    try simp only [NM, EE] at hJ
    exact hJ
noncomputable def f38_rr_l2_b (k : Nat) (x0 x1 : List Int) (x12 x13 : Int) : Option R38_rr_l2 :=
  cond ((decide (x13 < x12)))
    (f38_rr_l2_j1 k x0 x1 x12 x13 true)
    (some (R38_rr_l2.o2 x0 x1 x12 x13 false))
theorem f38_rr_l2_b_ok (k : Nat) (x0 x1 : List Int) (x12 x13 : Int) (r : R38_rr_l2) (hF : f38_rr_l2_b k x0 x1 x12 x13 = some r) : EX 38 k (nav B38 [1, 2, 2, 1, 2, 2]) ({ n := 26, F := [(0, V.sl 1 (rowsOf (encI .u8) x0)), (1, V.sl 1 (rowsOf (encI .u8) x1)), (12, V.p (Value.int .i64 x12)), (13, V.p (Value.int .i64 x13))], M := [] } : St) = some r.st := by
  unfold f38_rr_l2_b at hF
  simp (maxSteps := 999999) (disch := first | exact D (by decide) | exact K (by kernel_rfl)) only [E, EE, ↓reduceIte, simprocAttr, xk B38 [1, 2, 2, 1, 2, 2] .sq rfl, show (nav B38 [1, 1, 2, 2, 1, 2, 2]) = Code.region 4 _ false from rfl, hk_38_4, hz_38_4, hs_38_4, xk B38 [2, 1, 2, 2, 1, 2, 2] .sq rfl, xk B38 [1, 2, 1, 2, 2, 1, 2, 2] (.cd 14) rfl]
  replace hF := cond_some hF
  rcases hF with ⟨h1, hF⟩ | ⟨h1, hF⟩
  · have hJ := f38_rr_l2_j1_ok k x0 x1 x12 x13 true _ hF
    simp (maxSteps := 999999) (disch := first | exact D (by decide) | exact K (by kernel_rfl)) only [E, EE, ↓reduceIte, simprocAttr, xk B38 [2, 1, 2, 1, 2, 2, 1, 2, 2] .sk rfl, h1]
    try simp only [NM, EE] at hJ
    exact hJ
  · cases hF
    simp (maxSteps := 999999) (disch := first | exact D (by decide) | exact K (by kernel_rfl)) only [E, EE, ↓reduceIte, simprocAttr, xk B38 [3, 1, 2, 1, 2, 2, 1, 2, 2] (.ex 0) rfl, R38_rr_l2.st, h1]
noncomputable def f38_rr_l2 (k : Nat) : Nat → (List Int) → (List Int) → Int → Int → Option R38_rr_l2
  | 0, _, _, _, _ => none
  | n + 1, x0, x1, x12, x13 => Option.bind (f38_rr_l2_b k x0 x1 x12 x13) fun o =>
    match o with
    | .o0 y => some (.o0 y)
    | .o1 y y_1 y_2 y_3 => f38_rr_l2 k n y y_1 y_2 y_3
    | .o2 y y_1 y_2 y_3 y_4 => some (.o2 y y_1 y_2 y_3 y_4)
theorem f38_rr_l2_ok (k n : Nat) : ∀ (x0 x1 : List Int) (x12 x13 : Int) (r : R38_rr_l2) (hF : f38_rr_l2 k n x0 x1 x12 x13 = some r) (σ : St) (hσ : headR (hints.head 38 4) (hints.canon 38 4) σ = some ({ n := 26, F := [(0, V.sl 1 (rowsOf (encI .u8) x0)), (1, V.sl 1 (rowsOf (encI .u8) x1)), (12, V.p (Value.int .i64 x12)), (13, V.p (Value.int .i64 x13))], M := [] } : St)), LP 38 k (nav B38 [1, 2, 2, 1, 2, 2]) n σ = some r.st := by
  induction n with
  | zero => intro x0 x1 x12 x13 r hF; cases hF
  | succ n ih =>
    intro x0 x1 x12 x13 r hF σ hσ
    rw [f38_rr_l2] at hF
    obtain ⟨o, h, hF⟩ := Option.bind_eq_some_iff.1 hF
    have hB := f38_rr_l2_b_ok k x0 x1 x12 x13 o h
    unfold LP at ih ⊢
    unfold EX at hB
    rw [loopK_succ, show firstReg (nav B38 [1, 2, 2, 1, 2, 2]) = 4 from rfl, hσ, headK_some, hB]
    cases o with
    | o0 y => cases hF; rfl
    | o1 y y_1 y_2 y_3 =>
      refine ih y y_1 y_2 y_3 r hF _ ?_
      simp (maxSteps := 999999) (disch := first | exact D (by decide) | exact K (by kernel_rfl)) only [E, EE, ↓reduceIte, simprocAttr, hh_38_4, hc_38_4]
    | o2 y y_1 y_2 y_3 y_4 => cases hF; rfl
noncomputable def f38_rr_j3 (k : Nat) (x0 x1 : List Int) (x12 x13 : Int) (x14 : Bool) : Option R38_rr :=
  some (R38_rr.o0 true)
theorem f38_rr_j3_ok (k : Nat) (x0 x1 : List Int) (x12 x13 : Int) (x14 : Bool) (r : R38_rr) (hF : f38_rr_j3 k x0 x1 x12 x13 x14 = some r) : finK Try.prog Try.f38 0 (EX 38 k (nav B38 [2, 2, 2]) ({ n := 26, F := [(0, V.sl 1 (rowsOf (encI .u8) x0)), (1, V.sl 1 (rowsOf (encI .u8) x1)), (12, V.p (Value.int .i64 x12)), (13, V.p (Value.int .i64 x13)), (14, V.p (Value.bool x14))], M := [] } : St)) = some r.st := by
  unfold f38_rr_j3 at hF
  cases hF
  simp (maxSteps := 999999) (disch := first | exact D (by decide) | exact K (by kernel_rfl)) only [E, EE, ↓reduceIte, simprocAttr, xk B38 [2, 2, 2] .sq rfl, show (nav B38 [1, 2, 2, 2]) = Code.region 9 _ false from rfl, hk_38_9, hz_38_9, hs_38_9, xk B38 [2, 2, 2, 2] .rt rfl, finK_norm, finK_ret, fin38, R38_rr.st]
noncomputable def f38_rr_j1 (k : Nat) (x0 x1 : List Int) (x10 : Bool) : Option R38_rr :=
  Option.bind (f38_rr_l2 k k x0 x1 ((List.length x0) : Int) 0) fun o1 =>
    match o1 with
    | .o0 v4 =>
      some (R38_rr.o0 v4)
    | .o1 _ _ _ _ =>
      none
    | .o2 v5 v6 v7 v8 v9 =>
      f38_rr_j3 k v5 v6 v7 v8 v9
theorem f38_rr_j1_ok (k : Nat) (x0 x1 : List Int) (x10 : Bool) (r : R38_rr) (hF : f38_rr_j1 k x0 x1 x10 = some r) : finK Try.prog Try.f38 0 (EX 38 k (nav B38 [2, 2]) ({ n := 26, F := [(0, V.sl 1 (rowsOf (encI .u8) x0)), (1, V.sl 1 (rowsOf (encI .u8) x1)), (10, V.p (Value.bool x10))], M := [] } : St)) = some r.st := by
  unfold f38_rr_j1 at hF
  replace hF := Option.bind_eq_some_iff.1 hF
  obtain ⟨o1, h2, hF⟩ := hF
  have hc3 := f38_rr_l2_ok k k x0 x1 ((List.length x0) : Int) 0 _ h2
  simp (maxSteps := 999999) (disch := first | exact D (by decide) | exact K (by kernel_rfl)) only [E, EE, ↓reduceIte, simprocAttr, xk B38 [2, 2] .sq rfl, xk B38 [1, 2, 2] .sq rfl, show (nav B38 [1, 1, 2, 2]) = Code.region 3 _ false from rfl, hk_38_3, hz_38_3, hs_38_3, u_23, i_23, is_23, ib_23, iz_23, xk B38 [2, 1, 2, 2] (.bk 0) rfl, xk B38 [2, 2, 1, 2, 2] .lp rfl, hh_38_4, hc_38_4]
  (try simp only [NM, EE] at hc3)
  rw [hc3 _ (by simp (maxSteps := 999999) (disch := first | exact D (by decide) | exact K (by kernel_rfl)) only [E, EE, ↓reduceIte, simprocAttr, hh_38_4, hc_38_4])]
  clear hc3
  cases o1 with
  | o0 v4 =>
    (try dsimp only at hF)
    cases hF
    simp (maxSteps := 999999) (disch := first | exact D (by decide) | exact K (by kernel_rfl)) only [E, EE, ↓reduceIte, simprocAttr, R38_rr_l2.st, finK_norm, finK_ret, fin38, R38_rr.st]
  | o1 _ _ _ _ =>
    (try dsimp only at hF)
    cases hF
  | o2 v5 v6 v7 v8 v9 =>
    (try dsimp only at hF)
    have hJ := f38_rr_j3_ok k v5 v6 v7 v8 v9 _ hF
    simp (maxSteps := 999999) (disch := first | exact D (by decide) | exact K (by kernel_rfl)) only [E, EE, ↓reduceIte, simprocAttr, R38_rr_l2.st]
    try simp only [NM, EE] at hJ
    exact hJ
noncomputable def f38_rr_e (k : Nat) (a0 a1 : List Int) : Option R38_rr :=
  cond ((((List.length a0) : Int) != ((List.length a1) : Int)))
    (some (R38_rr.o0 false))
    (f38_rr_j1 k a0 a1 false)
theorem f38_rr_e_ok (k : Nat) (a0 a1 : List Int) (r : R38_rr) (hF : f38_rr_e k a0 a1 = some r) : finK Try.prog Try.f38 0 (EX 38 k (nav B38 []) ({ n := 26, F := [(0, V.sl 1 (rowsOf (encI .u8) a0)), (1, V.sl 1 (rowsOf (encI .u8) a1))], M := [] } : St)) = some r.st := by
  unfold f38_rr_e at hF
  simp (maxSteps := 999999) (disch := first | exact D (by decide) | exact K (by kernel_rfl)) only [E, EE, ↓reduceIte, simprocAttr, xk B38 [] .sq rfl, show (nav B38 [1]) = Code.region 0 _ false from rfl, hk_38_0, hz_38_0, hs_38_0, xk B38 [2] .sq rfl, xk B38 [1, 2] .sq rfl, show (nav B38 [1, 1, 2]) = Code.region 1 _ false from rfl, hk_38_1, hz_38_1, hs_38_1, u_23, i_23, is_23, ib_23, iz_23, xk B38 [2, 1, 2] (.cd 10) rfl]
  replace hF := cond_some hF
  rcases hF with ⟨h1, hF⟩ | ⟨h1, hF⟩
  · cases hF
    simp (maxSteps := 999999) (disch := first | exact D (by decide) | exact K (by kernel_rfl)) only [E, EE, ↓reduceIte, simprocAttr, xk B38 [2, 2, 1, 2] .sq rfl, show (nav B38 [1, 2, 2, 1, 2]) = Code.region 2 _ false from rfl, hk_38_2, hz_38_2, hs_38_2, xk B38 [2, 2, 2, 1, 2] .rt rfl, finK_norm, finK_ret, fin38, R38_rr.st, h1]
  · have hJ := f38_rr_j1_ok k a0 a1 false _ hF
    simp (maxSteps := 999999) (disch := first | exact D (by decide) | exact K (by kernel_rfl)) only [E, EE, ↓reduceIte, simprocAttr, xk B38 [3, 2, 1, 2] .sk rfl, h1]
    try simp only [NM, EE] at hJ
    exact hJ
noncomputable def f38_rr (k : Nat) (a0 a1 : List Int) : Option R38_rr := match k with | 0 => none | k + 1 => f38_rr_e k a0 a1
theorem f38_rr_ok (k : Nat) (a0 a1 : List Int) (r : R38_rr) (hF : f38_rr k a0 a1 = some r) : CV k 38 [V.sl 1 (rowsOf (encI .u8) a0), V.sl 1 (rowsOf (encI .u8) a1)] [] = some r.st := by
  cases k with
  | zero => cases hF
  | succ k =>
    unfold CV
    rw [ev_call (F := Try.f38) (c := (nav B38 [])) rfl Try.func38 rfl rfl rfl rfl]
    exact f38_rr_e_ok k a0 a1 r hF
-- f33_rr: f33 heliograph/octet.Equal
inductive R33_rr where
  | o0 (y : Bool)
noncomputable def R33_rr.st : R33_rr → V × List O × List O
  | .o0 y => (V.p (Value.bool y), [], [])
noncomputable def f33_rr_e (k : Nat) (a0 a1 : List Int) : Option R33_rr :=
  Option.bind (f38_rr k a0 a1) fun o1 =>
    match o1 with
    | .o0 v4 =>
      some (R33_rr.o0 v4)
theorem f33_rr_e_ok (k : Nat) (a0 a1 : List Int) (r : R33_rr) (hF : f33_rr_e k a0 a1 = some r) : finK Try.prog Try.f33 0 (EX 33 k (nav B33 []) ({ n := 8, F := [(0, V.sl 1 (rowsOf (encI .u8) a0)), (1, V.sl 1 (rowsOf (encI .u8) a1))], M := [] } : St)) = some r.st := by
  unfold f33_rr_e at hF
  replace hF := Option.bind_eq_some_iff.1 hF
  obtain ⟨o1, h2, hF⟩ := hF
  have hc3 := f38_rr_ok k a0 a1 _ h2
  cases o1 with
  | o0 v4 =>
    (try dsimp only at hF)
    (try simp only [NM, EE, R38_rr.st] at hc3)
    cases hF
    simp (maxSteps := 999999) (disch := first | exact D (by decide) | exact K (by kernel_rfl)) only [E, EE, ↓reduceIte, simprocAttr, xk B33 [] .sq rfl, show (nav B33 [1]) = Code.region 0 _ false from rfl, hk_33_0, hz_33_0, hs_33_0, xk B33 [2] .sq rfl, show (nav B33 [1, 2]) = Code.region 1 _ false from rfl, hk_33_1, hz_33_1, hs_33_1, callStep, CL, gv, List.contains, xk B33 [2, 2] .rt rfl, finK_norm, finK_ret, fin33, R33_rr.st, hc3]
noncomputable def f33_rr (k : Nat) (a0 a1 : List Int) : Option R33_rr := match k with | 0 => none | k + 1 => f33_rr_e k a0 a1
theorem f33_rr_ok (k : Nat) (a0 a1 : List Int) (r : R33_rr) (hF : f33_rr k a0 a1 = some r) : CV k 33 [V.sl 1 (rowsOf (encI .u8) a0), V.sl 1 (rowsOf (encI .u8) a1)] [] = some r.st := by
  cases k with
  | zero => cases hF
  | succ k =>
    unfold CV
    rw [ev_call (F := Try.f33) (c := (nav B33 [])) rfl Try.func33 rfl rfl rfl rfl]
    exact f33_rr_e_ok k a0 a1 r hF
-- f39_ai10rz: f39 heliograph/bundle.same$1
inductive R39_ai10rz where
  | o0 (y y_1 y_2 y_3 y_4 y_5 y_6 y_7 y_8 y_9 : Int)
noncomputable def R39_ai10rz.st : R39_ai10rz → V × List O × List O
  | .o0 y y_1 y_2 y_3 y_4 y_5 y_6 y_7 y_8 y_9 => (V.agg [V.p (Value.int .i64 y), V.p (Value.int .i64 y_1), V.p (Value.int .i64 y_2), V.p (Value.int .i64 y_3), V.p (Value.int .i64 y_4), V.p (Value.int .i64 y_5), V.p (Value.int .i64 y_6), V.p (Value.int .i64 y_7), V.p (Value.int .i64 y_8), V.p (Value.int .u32 y_9)], [], [])
noncomputable def f39_ai10rz_e (k : Nat) (a0 a0_1 a0_2 a0_3 a0_4 a0_5 a0_6 a0_7 a0_8 a0_9 : Int) (a0_10 : List Int) : Option R39_ai10rz :=
  some (R39_ai10rz.o0 a0 a0_1 a0_3 a0_4 a0_5 a0_6 a0_7 a0_8 a0_9 a0_2)
theorem f39_ai10rz_e_ok (k : Nat) (a0 a0_1 a0_2 a0_3 a0_4 a0_5 a0_6 a0_7 a0_8 a0_9 : Int) (a0_10 : List Int) (r : R39_ai10rz) (hF : f39_ai10rz_e k a0 a0_1 a0_2 a0_3 a0_4 a0_5 a0_6 a0_7 a0_8 a0_9 a0_10 = some r) : finK Try.prog Try.f39 0 (EX 39 k (nav B39 []) ({ n := 24, F := [(0, V.agg [V.p (Value.int .i64 a0), V.p (Value.int .i64 a0_1), V.p (Value.int .u32 a0_2), V.p (Value.int .i64 a0_3), V.p (Value.int .i64 a0_4), V.p (Value.int .i64 a0_5), V.p (Value.int .i64 a0_6), V.p (Value.int .i64 a0_7), V.p (Value.int .i64 a0_8), V.p (Value.int .i64 a0_9), V.sl 1 (rowsOf (encI .u8) a0_10)])], M := [] } : St)) = some r.st := by
  unfold f39_ai10rz_e at hF
  cases hF
  simp (maxSteps := 999999) (disch := first | exact D (by decide) | exact K (by kernel_rfl)) only [E, EE, ↓reduceIte, simprocAttr, xk B39 [] .sq rfl, show (nav B39 [1]) = Code.region 0 _ false from rfl, hk_39_0, hz_39_0, hs_39_0, u_69, i_69, is_69, ib_69, iz_69, xk B39 [2] .sq rfl, show (nav B39 [1, 2]) = Code.region 1 _ false from rfl, hk_39_1, hz_39_1, hs_39_1, fieldAddrV, u_25, i_25, is_25, ib_25, iz_25, u_3, i_3, is_3, ib_3, iz_3, u_22, i_22, is_22, ib_22, iz_22, bl_69, xk B39 [2, 2] .rt rfl, finK_norm, finK_ret, fin39, R39_ai10rz.st]
noncomputable def f39_ai10rz (k : Nat) (a0 a0_1 a0_2 a0_3 a0_4 a0_5 a0_6 a0_7 a0_8 a0_9 : Int) (a0_10 : List Int) : Option R39_ai10rz := match k with | 0 => none | k + 1 => f39_ai10rz_e k a0 a0_1 a0_2 a0_3 a0_4 a0_5 a0_6 a0_7 a0_8 a0_9 a0_10
theorem f39_ai10rz_ok (k : Nat) (a0 a0_1 a0_2 a0_3 a0_4 a0_5 a0_6 a0_7 a0_8 a0_9 : Int) (a0_10 : List Int) (r : R39_ai10rz) (hF : f39_ai10rz k a0 a0_1 a0_2 a0_3 a0_4 a0_5 a0_6 a0_7 a0_8 a0_9 a0_10 = some r) : CV k 39 [V.agg [V.p (Value.int .i64 a0), V.p (Value.int .i64 a0_1), V.p (Value.int .u32 a0_2), V.p (Value.int .i64 a0_3), V.p (Value.int .i64 a0_4), V.p (Value.int .i64 a0_5), V.p (Value.int .i64 a0_6), V.p (Value.int .i64 a0_7), V.p (Value.int .i64 a0_8), V.p (Value.int .i64 a0_9), V.sl 1 (rowsOf (encI .u8) a0_10)]] [] = some r.st := by
  cases k with
  | zero => cases hF
  | succ k =>
    unfold CV
    rw [ev_call (F := Try.f39) (c := (nav B39 [])) rfl Try.func39 rfl rfl rfl rfl]
    exact f39_ai10rz_e_ok k a0 a0_1 a0_2 a0_3 a0_4 a0_5 a0_6 a0_7 a0_8 a0_9 a0_10 r hF
end Go.Proofs.YteggcokgkcfliaaV
