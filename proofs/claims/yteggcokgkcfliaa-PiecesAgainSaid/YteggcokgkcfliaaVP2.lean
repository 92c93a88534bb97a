/- What the program's functions answer: plain functions, and that the interpreter answers what they do. Written by a program of this session, out of the translation. -/
import Derived.Test.YteggcokgkcfliaaVP1
namespace Go.Proofs.YteggcokgkcfliaaV
open Go
set_option linter.unusedVariables false
set_option linter.unusedSimpArgs false
set_option maxRecDepth 8000
set_option maxHeartbeats 4000000
-- f37_ypp_lppbiiiiiiiiiirbowbrbi: f37 heliograph/pieces.parts$1
inductive R37_ypp_lppbiiiiiiiiiirbowbrbi where
  | o0 (y y_1 y_2 y_3 y_4 y_5 y_6 y_7 y_8 y_9 : Int) (y_10 : List Int) (y_11 : List T25) (y_12 : List Int) (y_13 : Int)
  | o1 (y y_1 y_2 y_3 y_4 y_5 y_6 y_7 y_8 y_9 : Int) (y_10 y_11 : List Int) (y_12 : Int) (y_13 : List T25)
noncomputable def R37_ypp_lppbiiiiiiiiiirbowbrbi.st : R37_ypp_lppbiiiiiiiiiirbowbrbi → V × List O × List O
  | .o0 y y_1 y_2 y_3 y_4 y_5 y_6 y_7 y_8 y_9 y_10 y_11 y_12 y_13 => (V.tup [], [O.lp 11 37 [(2, V.ptr 1000001 0), (6, V.ptr 1000002 0)] [21, 22] (nav B11 [3, 2, 2, 1, 2, 2, 2]) (nav B11 [4, 2, 2, 1, 2, 2, 2]) 0 .norm, O.box 25 [V.p (Value.int .i64 y), V.p (Value.int .i64 y_1), V.p (Value.int .u32 y_2), V.p (Value.int .i64 y_3), V.p (Value.int .i64 y_4), V.p (Value.int .i64 y_5), V.p (Value.int .i64 y_6), V.p (Value.int .i64 y_7), V.p (Value.int .i64 y_8), V.p (Value.int .i64 y_9), V.sl 1 (rowsOf (encI .u8) y_10)], O.box 28 [V.own 1000003], O.row true 11 25 (rowsOf encT25 y_11), O.box 23 [V.sl 1 (rowsOf (encI .u8) y_12)], O.box 3 [V.p (Value.int .i64 y_13)]], [])
  | .o1 y y_1 y_2 y_3 y_4 y_5 y_6 y_7 y_8 y_9 y_10 y_11 y_12 y_13 => (V.tup [], [O.lp 11 37 [(2, V.ptr 1000001 0), (6, V.ptr 1000002 0)] [21, 22] (nav B11 [3, 2, 2, 1, 2, 2, 2]) (nav B11 [4, 2, 2, 1, 2, 2, 2]) 0 .norm, O.box 25 [V.p (Value.int .i64 y), V.p (Value.int .i64 y_1), V.p (Value.int .u32 y_2), V.p (Value.int .i64 y_3), V.p (Value.int .i64 y_4), V.p (Value.int .i64 y_5), V.p (Value.int .i64 y_6), V.p (Value.int .i64 y_7), V.p (Value.int .i64 y_8), V.p (Value.int .i64 y_9), V.sl 1 (rowsOf (encI .u8) y_10)], O.box 28 [V.own 2000000], O.dead, O.box 23 [V.sl 1 (rowsOf (encI .u8) y_11)], O.box 3 [V.p (Value.int .i64 y_12)]], [O.row true 11 25 (rowsOf encT25 y_13)])
inductive R37_ypp_lppbiiiiiiiiiirbowbrbi_l1 where
  | o0 (y y_1 y_2 y_3 y_4 y_5 y_6 y_7 y_8 y_9 y_10 : Int) (y_11 : List Int) (y_12 : List T25) (y_13 : List Int) (y_14 : Int)
  | o1 (y : Int) (y_1 : Bool) (y_2 y_3 y_4 y_5 y_6 y_7 y_8 y_9 y_10 y_11 : Int) (y_12 : List Int) (y_13 : List T25) (y_14 : List Int) (y_15 : Int)
  | o2 (y : Int) (y_1 : Bool) (y_2 y_3 y_4 y_5 y_6 y_7 y_8 y_9 y_10 y_11 : Int) (y_12 : List Int) (y_13 : List T25) (y_14 : List Int) (y_15 : Int)
noncomputable def R37_ypp_lppbiiiiiiiiiirbowbrbi_l1.st : R37_ypp_lppbiiiiiiiiiirbowbrbi_l1 → Out × St
  | .o0 y y_1 y_2 y_3 y_4 y_5 y_6 y_7 y_8 y_9 y_10 y_11 y_12 y_13 y_14 => (.norm, ({ n := 28, F := [(0, V.yld 1000000), (1, V.ptr 1000004 0), (2, V.ptr 1000005 0), (4, V.p (Value.int .i64 y))], M := [(1000000, O.lp 11 37 [(2, V.ptr 1000001 0), (6, V.ptr 1000002 0)] [21, 22] (nav B11 [3, 2, 2, 1, 2, 2, 2]) (nav B11 [4, 2, 2, 1, 2, 2, 2]) 0 .norm), (1000001, O.box 25 [V.p (Value.int .i64 y_1), V.p (Value.int .i64 y_2), V.p (Value.int .u32 y_3), V.p (Value.int .i64 y_4), V.p (Value.int .i64 y_5), V.p (Value.int .i64 y_6), V.p (Value.int .i64 y_7), V.p (Value.int .i64 y_8), V.p (Value.int .i64 y_9), V.p (Value.int .i64 y_10), V.sl 1 (rowsOf (encI .u8) y_11)]), (1000002, O.box 28 [V.own 25]), (25, O.row true 11 25 (rowsOf encT25 y_12)), (1000004, O.box 23 [V.sl 1 (rowsOf (encI .u8) y_13)]), (1000005, O.box 3 [V.p (Value.int .i64 y_14)]), (1000003, O.dead)] } : St))
  | .o1 y y_1 y_2 y_3 y_4 y_5 y_6 y_7 y_8 y_9 y_10 y_11 y_12 y_13 y_14 y_15 => (.exit 0, ({ n := 28, F := [(0, V.yld 1000000), (1, V.ptr 1000004 0), (2, V.ptr 1000005 0), (4, V.p (Value.int .i64 y)), (9, V.p (Value.bool y_1))], M := [(1000000, O.lp 11 37 [(2, V.ptr 1000001 0), (6, V.ptr 1000002 0)] [21, 22] (nav B11 [3, 2, 2, 1, 2, 2, 2]) (nav B11 [4, 2, 2, 1, 2, 2, 2]) 0 .norm), (1000001, O.box 25 [V.p (Value.int .i64 y_2), V.p (Value.int .i64 y_3), V.p (Value.int .u32 y_4), V.p (Value.int .i64 y_5), V.p (Value.int .i64 y_6), V.p (Value.int .i64 y_7), V.p (Value.int .i64 y_8), V.p (Value.int .i64 y_9), V.p (Value.int .i64 y_10), V.p (Value.int .i64 y_11), V.sl 1 (rowsOf (encI .u8) y_12)]), (1000002, O.box 28 [V.own 1000003]), (1000003, O.row true 11 25 (rowsOf encT25 y_13)), (1000004, O.box 23 [V.sl 1 (rowsOf (encI .u8) y_14)]), (1000005, O.box 3 [V.p (Value.int .i64 y_15)])] } : St))
  | .o2 y y_1 y_2 y_3 y_4 y_5 y_6 y_7 y_8 y_9 y_10 y_11 y_12 y_13 y_14 y_15 => (.exit 0, ({ n := 28, F := [(0, V.yld 1000000), (1, V.ptr 1000004 0), (2, V.ptr 1000005 0), (4, V.p (Value.int .i64 y)), (9, V.p (Value.bool y_1))], M := [(1000000, O.lp 11 37 [(2, V.ptr 1000001 0), (6, V.ptr 1000002 0)] [21, 22] (nav B11 [3, 2, 2, 1, 2, 2, 2]) (nav B11 [4, 2, 2, 1, 2, 2, 2]) 0 .norm), (1000001, O.box 25 [V.p (Value.int .i64 y_2), V.p (Value.int .i64 y_3), V.p (Value.int .u32 y_4), V.p (Value.int .i64 y_5), V.p (Value.int .i64 y_6), V.p (Value.int .i64 y_7), V.p (Value.int .i64 y_8), V.p (Value.int .i64 y_9), V.p (Value.int .i64 y_10), V.p (Value.int .i64 y_11), V.sl 1 (rowsOf (encI .u8) y_12)]), (1000002, O.box 28 [V.own 30003]), (30003, O.row true 11 25 (rowsOf encT25 y_13)), (1000004, O.box 23 [V.sl 1 (rowsOf (encI .u8) y_14)]), (1000005, O.box 3 [V.p (Value.int .i64 y_15)]), (1000003, O.dead)] } : St))
noncomputable def f37_ypp_lppbiiiiiiiiiirbowbrbi_l1_j2 (k : Nat) (x5 : Int) (x26 : Bool) (e1 e1_1 e1_2 e1_3 e1_4 e1_5 e1_6 e1_7 e1_8 e1_9 : Int) (e1_10 : List Int) (m25 : List T25) (e4 : List Int) (e5 : Int) : Option R37_ypp_lppbiiiiiiiiiirbowbrbi_l1 :=
  some (R37_ypp_lppbiiiiiiiiiirbowbrbi_l1.o0 x5 e1 e1_1 e1_2 e1_3 e1_4 e1_5 e1_6 e1_7 e1_8 e1_9 e1_10 m25 e4 e5)
theorem f37_ypp_lppbiiiiiiiiiirbowbrbi_l1_j2_ok (k : Nat) (x5 : Int) (x26 : Bool) (e1 e1_1 e1_2 e1_3 e1_4 e1_5 e1_6 e1_7 e1_8 e1_9 : Int) (e1_10 : List Int) (m25 : List T25) (e4 : List Int) (e5 : Int) (r : R37_ypp_lppbiiiiiiiiiirbowbrbi_l1) (hF : f37_ypp_lppbiiiiiiiiiirbowbrbi_l1_j2 k x5 x26 e1 e1_1 e1_2 e1_3 e1_4 e1_5 e1_6 e1_7 e1_8 e1_9 e1_10 m25 e4 e5 = some r) : blockK 1 (EX 37 k (nav B37 [2, 2, 2, 2, 1, 2, 2]) ({ n := 28, F := [(0, V.yld 1000000), (1, V.ptr 1000004 0), (2, V.ptr 1000005 0), (5, V.p (Value.int .i64 x5)), (26, V.p (Value.bool x26))], M := [(1000000, O.lp 11 37 [(2, V.ptr 1000001 0), (6, V.ptr 1000002 0)] [21, 22] (nav B11 [3, 2, 2, 1, 2, 2, 2]) (nav B11 [4, 2, 2, 1, 2, 2, 2]) 0 .norm), (1000001, O.box 25 [V.p (Value.int .i64 e1), V.p (Value.int .i64 e1_1), V.p (Value.int .u32 e1_2), V.p (Value.int .i64 e1_3), V.p (Value.int .i64 e1_4), V.p (Value.int .i64 e1_5), V.p (Value.int .i64 e1_6), V.p (Value.int .i64 e1_7), V.p (Value.int .i64 e1_8), V.p (Value.int .i64 e1_9), V.sl 1 (rowsOf (encI .u8) e1_10)]), (1000002, O.box 28 [V.own 25]), (25, O.row true 11 25 (rowsOf encT25 m25)), (1000004, O.box 23 [V.sl 1 (rowsOf (encI .u8) e4)]), (1000005, O.box 3 [V.p (Value.int .i64 e5)]), (1000003, O.dead)] } : St)) = some r.st := by
  unfold f37_ypp_lppbiiiiiiiiiirbowbrbi_l1_j2 at hF
  cases hF
  simp (maxSteps := 999999) (disch := first | exact D (by decide) | exact K (by kernel_rfl)) only [E, EE, ↓reduceIte, simprocAttr, show (nav B37 [2, 2, 2, 2, 1, 2, 2]) = Code.region 4 _ false from rfl, hk_37_4, hz_37_4, hs_37_4, R37_ypp_lppbiiiiiiiiiirbowbrbi_l1.st]
noncomputable def f37_ypp_lppbiiiiiiiiiirbowbrbi_l1_j1 (k : Nat) (x4 : Int) (x9 : Bool) (e1 e1_1 e1_2 e1_3 e1_4 e1_5 e1_6 e1_7 e1_8 e1_9 : Int) (e1_10 : List Int) (e3 : List T25) (e4 : List Int) (e5 : Int) : Option R37_ypp_lppbiiiiiiiiiirbowbrbi_l1 :=
  ifE ((0 : Int) ≤ x4) (
    ifE ((0 : Int) ≤ (IntKind.i64.wrap ((if (IntKind.i64.wrap (((List.length e4) : Int) - x4)) < e5 then (IntKind.i64.wrap (((List.length e4) : Int) - x4)) else e5) + x4))) (
      ifE ((Int.toNat x4) ≤ (Int.toNat ((IntKind.i64.wrap ((if (IntKind.i64.wrap (((List.length e4) : Int) - x4)) < e5 then (IntKind.i64.wrap (((List.length e4) : Int) - x4)) else e5) + x4))))) (
        ifE ((Int.toNat ((IntKind.i64.wrap ((if (IntKind.i64.wrap (((List.length e4) : Int) - x4)) < e5 then (IntKind.i64.wrap (((List.length e4) : Int) - x4)) else e5) + x4)))) ≤ (List.length e4)) (
          Option.bind (f999999999_iry_lppbiiiiiiiiiirbow k x4 ((List.drop (Int.toNat x4) ((List.take ((Int.toNat ((IntKind.i64.wrap ((if (IntKind.i64.wrap (((List.length e4) : Int) - x4)) < e5 then (IntKind.i64.wrap (((List.length e4) : Int) - x4)) else e5) + x4))))) e4)))) e1 e1_1 e1_2 e1_3 e1_4 e1_5 e1_6 e1_7 e1_8 e1_9 e1_10 e3) fun o5 =>
            match o5 with
            | .o0 v8 v9 v10 v11 v12 v13 v14 v15 v16 v17 v18 v19 =>
              f37_ypp_lppbiiiiiiiiiirbowbrbi_l1_j2 k ((IntKind.i64.wrap ((if (IntKind.i64.wrap (((List.length e4) : Int) - x4)) < e5 then (IntKind.i64.wrap (((List.length e4) : Int) - x4)) else e5) + x4))) false v8 v9 v10 v11 v12 v13 v14 v15 v16 v17 v18 v19 e4 e5))))
theorem f37_ypp_lppbiiiiiiiiiirbowbrbi_l1_j1_ok (k : Nat) (x4 : Int) (x9 : Bool) (e1 e1_1 e1_2 e1_3 e1_4 e1_5 e1_6 e1_7 e1_8 e1_9 : Int) (e1_10 : List Int) (e3 : List T25) (e4 : List Int) (e5 : Int) (r : R37_ypp_lppbiiiiiiiiiirbowbrbi_l1) (hF : f37_ypp_lppbiiiiiiiiiirbowbrbi_l1_j1 k x4 x9 e1 e1_1 e1_2 e1_3 e1_4 e1_5 e1_6 e1_7 e1_8 e1_9 e1_10 e3 e4 e5 = some r) : EX 37 k (nav B37 [2, 1, 2, 2]) ({ n := 28, F := [(0, V.yld 1000000), (1, V.ptr 1000004 0), (2, V.ptr 1000005 0), (4, V.p (Value.int .i64 x4)), (9, V.p (Value.bool x9))], M := [(1000000, O.lp 11 37 [(2, V.ptr 1000001 0), (6, V.ptr 1000002 0)] [21, 22] (nav B11 [3, 2, 2, 1, 2, 2, 2]) (nav B11 [4, 2, 2, 1, 2, 2, 2]) 0 .norm), (1000001, O.box 25 [V.p (Value.int .i64 e1), V.p (Value.int .i64 e1_1), V.p (Value.int .u32 e1_2), V.p (Value.int .i64 e1_3), V.p (Value.int .i64 e1_4), V.p (Value.int .i64 e1_5), V.p (Value.int .i64 e1_6), V.p (Value.int .i64 e1_7), V.p (Value.int .i64 e1_8), V.p (Value.int .i64 e1_9), V.sl 1 (rowsOf (encI .u8) e1_10)]), (1000002, O.box 28 [V.own 1000003]), (1000003, O.row true 11 25 (rowsOf encT25 e3)), (1000004, O.box 23 [V.sl 1 (rowsOf (encI .u8) e4)]), (1000005, O.box 3 [V.p (Value.int .i64 e5)])] } : St) = some r.st := by
  unfold f37_ypp_lppbiiiiiiiiiirbowbrbi_l1_j1 at hF
  replace hF := ifE_some.1 hF
  obtain ⟨h1, hF⟩ := hF
  replace hF := ifE_some.1 hF
  obtain ⟨h2, hF⟩ := hF
  replace hF := ifE_some.1 hF
  obtain ⟨h3, hF⟩ := hF
  replace hF := ifE_some.1 hF
  obtain ⟨h4, hF⟩ := hF
  replace hF := Option.bind_eq_some_iff.1 hF
  obtain ⟨o5, h6, hF⟩ := hF
  have hc7 := f999999999_iry_lppbiiiiiiiiiirbow_ok k x4 ((List.drop (Int.toNat x4) ((List.take ((Int.toNat ((IntKind.i64.wrap ((if (IntKind.i64.wrap (((List.length e4) : Int) - x4)) < e5 then (IntKind.i64.wrap (((List.length e4) : Int) - x4)) else e5) + x4))))) e4)))) e1 e1_1 e1_2 e1_3 e1_4 e1_5 e1_6 e1_7 e1_8 e1_9 e1_10 e3 _ h6
  cases o5 with
  | o0 v8 v9 v10 v11 v12 v13 v14 v15 v16 v17 v18 v19 =>
    (try dsimp only at hF)
    (try simp only [NM, EE, R999999999_iry_lppbiiiiiiiiiirbow.st] at hc7)
    have hJ := f37_ypp_lppbiiiiiiiiiirbowbrbi_l1_j2_ok k ((IntKind.i64.wrap ((if (IntKind.i64.wrap (((List.length e4) : Int) - x4)) < e5 then (IntKind.i64.wrap (((List.length e4) : Int) - x4)) else e5) + x4))) false v8 v9 v10 v11 v12 v13 v14 v15 v16 v17 v18 v19 e4 e5 _ hF
    simp (maxSteps := 999999) (disch := first | exact D (by decide) | exact K (by kernel_rfl)) only [E, EE, ↓reduceIte, simprocAttr, xk B37 [2, 1, 2, 2] (.bk 1) rfl, xk B37 [2, 2, 1, 2, 2] .sq rfl, show (nav B37 [1, 2, 2, 1, 2, 2]) = Code.region 2 _ false from rfl, hk_37_2, hz_37_2, hs_37_2, u_3, i_3, is_3, ib_3, iz_3, u_23, i_23, is_23, ib_23, iz_23, minmaxV, minmaxGo, xk B37 [2, 2, 2, 1, 2, 2] .sq rfl, xk B37 [1, 2, 2, 2, 1, 2, 2] .sq rfl, show (nav B37 [1, 1, 2, 2, 2, 1, 2, 2]) = Code.region 3 _ false from rfl, hk_37_3, hz_37_3, hs_37_3, sliceV, bound, u_5, i_5, is_5, ib_5, iz_5, callStep, CL, gv, List.contains, xk B37 [2, 1, 2, 2, 2, 1, 2, 2] (.cd 26) rfl, xk B37 [3, 2, 1, 2, 2, 2, 1, 2, 2] .sk rfl, h1, h2, h3, h4, hc7]
    try simp only [NM, EE] at hJ
    exact hJ
noncomputable def f37_ypp_lppbiiiiiiiiiirbowbrbi_l1_b (k : Nat) (x4 e1 e1_1 e1_2 e1_3 e1_4 e1_5 e1_6 e1_7 e1_8 e1_9 : Int) (e1_10 : List Int) (e3 : List T25) (e4 : List Int) (e5 : Int) : Option R37_ypp_lppbiiiiiiiiiirbowbrbi_l1 :=
  cond ((decide (x4 < ((List.length e4) : Int))))
    (f37_ypp_lppbiiiiiiiiiirbowbrbi_l1_j1 k x4 true e1 e1_1 e1_2 e1_3 e1_4 e1_5 e1_6 e1_7 e1_8 e1_9 e1_10 e3 e4 e5)
    (some (R37_ypp_lppbiiiiiiiiiirbowbrbi_l1.o1 x4 false e1 e1_1 e1_2 e1_3 e1_4 e1_5 e1_6 e1_7 e1_8 e1_9 e1_10 e3 e4 e5))
theorem f37_ypp_lppbiiiiiiiiiirbowbrbi_l1_b_ok (k : Nat) (x4 e1 e1_1 e1_2 e1_3 e1_4 e1_5 e1_6 e1_7 e1_8 e1_9 : Int) (e1_10 : List Int) (e3 : List T25) (e4 : List Int) (e5 : Int) (r : R37_ypp_lppbiiiiiiiiiirbowbrbi_l1) (hF : f37_ypp_lppbiiiiiiiiiirbowbrbi_l1_b k x4 e1 e1_1 e1_2 e1_3 e1_4 e1_5 e1_6 e1_7 e1_8 e1_9 e1_10 e3 e4 e5 = some r) : EX 37 k (nav B37 [1, 2, 2]) ({ n := 28, F := [(0, V.yld 1000000), (1, V.ptr 1000004 0), (2, V.ptr 1000005 0), (4, V.p (Value.int .i64 x4))], M := [(1000000, O.lp 11 37 [(2, V.ptr 1000001 0), (6, V.ptr 1000002 0)] [21, 22] (nav B11 [3, 2, 2, 1, 2, 2, 2]) (nav B11 [4, 2, 2, 1, 2, 2, 2]) 0 .norm), (1000001, O.box 25 [V.p (Value.int .i64 e1), V.p (Value.int .i64 e1_1), V.p (Value.int .u32 e1_2), V.p (Value.int .i64 e1_3), V.p (Value.int .i64 e1_4), V.p (Value.int .i64 e1_5), V.p (Value.int .i64 e1_6), V.p (Value.int .i64 e1_7), V.p (Value.int .i64 e1_8), V.p (Value.int .i64 e1_9), V.sl 1 (rowsOf (encI .u8) e1_10)]), (1000002, O.box 28 [V.own 1000003]), (1000003, O.row true 11 25 (rowsOf encT25 e3)), (1000004, O.box 23 [V.sl 1 (rowsOf (encI .u8) e4)]), (1000005, O.box 3 [V.p (Value.int .i64 e5)])] } : St) = some r.st := by
  unfold f37_ypp_lppbiiiiiiiiiirbowbrbi_l1_b at hF
  simp (maxSteps := 999999) (disch := first | exact D (by decide) | exact K (by kernel_rfl)) only [E, EE, ↓reduceIte, simprocAttr, xk B37 [1, 2, 2] .sq rfl, xk B37 [1, 1, 2, 2] .sq rfl, show (nav B37 [1, 1, 1, 2, 2]) = Code.region 1 _ false from rfl, hk_37_1, hz_37_1, hs_37_1, u_23, i_23, is_23, ib_23, iz_23, xk B37 [2, 1, 1, 2, 2] (.cd 9) rfl]
  replace hF := cond_some hF
  rcases hF with ⟨h1, hF⟩ | ⟨h1, hF⟩
  · have hJ := f37_ypp_lppbiiiiiiiiiirbowbrbi_l1_j1_ok k x4 true e1 e1_1 e1_2 e1_3 e1_4 e1_5 e1_6 e1_7 e1_8 e1_9 e1_10 e3 e4 e5 _ hF
    simp (maxSteps := 999999) (disch := first | exact D (by decide) | exact K (by kernel_rfl)) only [E, EE, ↓reduceIte, simprocAttr, xk B37 [2, 2, 1, 1, 2, 2] .sk rfl, h1]
    try simp only [NM, EE] at hJ
    exact hJ
  · cases hF
    simp (maxSteps := 999999) (disch := first | exact D (by decide) | exact K (by kernel_rfl)) only [E, EE, ↓reduceIte, simprocAttr, xk B37 [3, 2, 1, 1, 2, 2] (.ex 0) rfl, R37_ypp_lppbiiiiiiiiiirbowbrbi_l1.st, h1]
inductive R37_ypp_lppbiiiiiiiiiirbowbrbi_l2 where
  | o0 (y y_1 y_2 y_3 y_4 y_5 y_6 y_7 y_8 y_9 y_10 : Int) (y_11 : List Int) (y_12 : List T25) (y_13 : List Int) (y_14 : Int)
  | o1 (y : Int) (y_1 : Bool) (y_2 y_3 y_4 y_5 y_6 y_7 y_8 y_9 y_10 y_11 : Int) (y_12 : List Int) (y_13 : List T25) (y_14 : List Int) (y_15 : Int)
noncomputable def R37_ypp_lppbiiiiiiiiiirbowbrbi_l2.st : R37_ypp_lppbiiiiiiiiiirbowbrbi_l2 → Out × St
  | .o0 y y_1 y_2 y_3 y_4 y_5 y_6 y_7 y_8 y_9 y_10 y_11 y_12 y_13 y_14 => (.norm, ({ n := 28, F := [(0, V.yld 1000000), (1, V.ptr 1000004 0), (2, V.ptr 1000005 0), (4, V.p (Value.int .i64 y))], M := [(1000000, O.lp 11 37 [(2, V.ptr 1000001 0), (6, V.ptr 1000002 0)] [21, 22] (nav B11 [3, 2, 2, 1, 2, 2, 2]) (nav B11 [4, 2, 2, 1, 2, 2, 2]) 0 .norm), (1000001, O.box 25 [V.p (Value.int .i64 y_1), V.p (Value.int .i64 y_2), V.p (Value.int .u32 y_3), V.p (Value.int .i64 y_4), V.p (Value.int .i64 y_5), V.p (Value.int .i64 y_6), V.p (Value.int .i64 y_7), V.p (Value.int .i64 y_8), V.p (Value.int .i64 y_9), V.p (Value.int .i64 y_10), V.sl 1 (rowsOf (encI .u8) y_11)]), (1000002, O.box 28 [V.own 25]), (25, O.row true 11 25 (rowsOf encT25 y_12)), (1000004, O.box 23 [V.sl 1 (rowsOf (encI .u8) y_13)]), (1000005, O.box 3 [V.p (Value.int .i64 y_14)]), (1000003, O.dead)] } : St))
  | .o1 y y_1 y_2 y_3 y_4 y_5 y_6 y_7 y_8 y_9 y_10 y_11 y_12 y_13 y_14 y_15 => (.exit 0, ({ n := 28, F := [(0, V.yld 1000000), (1, V.ptr 1000004 0), (2, V.ptr 1000005 0), (4, V.p (Value.int .i64 y)), (9, V.p (Value.bool y_1))], M := [(1000000, O.lp 11 37 [(2, V.ptr 1000001 0), (6, V.ptr 1000002 0)] [21, 22] (nav B11 [3, 2, 2, 1, 2, 2, 2]) (nav B11 [4, 2, 2, 1, 2, 2, 2]) 0 .norm), (1000001, O.box 25 [V.p (Value.int .i64 y_2), V.p (Value.int .i64 y_3), V.p (Value.int .u32 y_4), V.p (Value.int .i64 y_5), V.p (Value.int .i64 y_6), V.p (Value.int .i64 y_7), V.p (Value.int .i64 y_8), V.p (Value.int .i64 y_9), V.p (Value.int .i64 y_10), V.p (Value.int .i64 y_11), V.sl 1 (rowsOf (encI .u8) y_12)]), (1000002, O.box 28 [V.own 30003]), (30003, O.row true 11 25 (rowsOf encT25 y_13)), (1000004, O.box 23 [V.sl 1 (rowsOf (encI .u8) y_14)]), (1000005, O.box 3 [V.p (Value.int .i64 y_15)]), (1000003, O.dead)] } : St))
noncomputable def f37_ypp_lppbiiiiiiiiiirbowbrbi_l2_j2 (k : Nat) (x5 : Int) (x26 : Bool) (e1 e1_1 e1_2 e1_3 e1_4 e1_5 e1_6 e1_7 e1_8 e1_9 : Int) (e1_10 : List Int) (m25 : List T25) (e4 : List Int) (e5 : Int) : Option R37_ypp_lppbiiiiiiiiiirbowbrbi_l2 :=
  some (R37_ypp_lppbiiiiiiiiiirbowbrbi_l2.o0 x5 e1 e1_1 e1_2 e1_3 e1_4 e1_5 e1_6 e1_7 e1_8 e1_9 e1_10 m25 e4 e5)
theorem f37_ypp_lppbiiiiiiiiiirbowbrbi_l2_j2_ok (k : Nat) (x5 : Int) (x26 : Bool) (e1 e1_1 e1_2 e1_3 e1_4 e1_5 e1_6 e1_7 e1_8 e1_9 : Int) (e1_10 : List Int) (m25 : List T25) (e4 : List Int) (e5 : Int) (r : R37_ypp_lppbiiiiiiiiiirbowbrbi_l2) (hF : f37_ypp_lppbiiiiiiiiiirbowbrbi_l2_j2 k x5 x26 e1 e1_1 e1_2 e1_3 e1_4 e1_5 e1_6 e1_7 e1_8 e1_9 e1_10 m25 e4 e5 = some r) : blockK 1 (EX 37 k (nav B37 [2, 2, 2, 2, 1, 2, 2]) ({ n := 28, F := [(0, V.yld 1000000), (1, V.ptr 1000004 0), (2, V.ptr 1000005 0), (5, V.p (Value.int .i64 x5)), (26, V.p (Value.bool x26))], M := [(1000000, O.lp 11 37 [(2, V.ptr 1000001 0), (6, V.ptr 1000002 0)] [21, 22] (nav B11 [3, 2, 2, 1, 2, 2, 2]) (nav B11 [4, 2, 2, 1, 2, 2, 2]) 0 .norm), (1000001, O.box 25 [V.p (Value.int .i64 e1), V.p (Value.int .i64 e1_1), V.p (Value.int .u32 e1_2), V.p (Value.int .i64 e1_3), V.p (Value.int .i64 e1_4), V.p (Value.int .i64 e1_5), V.p (Value.int .i64 e1_6), V.p (Value.int .i64 e1_7), V.p (Value.int .i64 e1_8), V.p (Value.int .i64 e1_9), V.sl 1 (rowsOf (encI .u8) e1_10)]), (1000002, O.box 28 [V.own 25]), (25, O.row true 11 25 (rowsOf encT25 m25)), (1000004, O.box 23 [V.sl 1 (rowsOf (encI .u8) e4)]), (1000005, O.box 3 [V.p (Value.int .i64 e5)]), (1000003, O.dead)] } : St)) = some r.st := by
  unfold f37_ypp_lppbiiiiiiiiiirbowbrbi_l2_j2 at hF
  cases hF
  simp (maxSteps := 999999) (disch := first | exact D (by decide) | exact K (by kernel_rfl)) only [E, EE, ↓reduceIte, simprocAttr, show (nav B37 [2, 2, 2, 2, 1, 2, 2]) = Code.region 4 _ false from rfl, hk_37_4, hz_37_4, hs_37_4, R37_ypp_lppbiiiiiiiiiirbowbrbi_l2.st]
noncomputable def f37_ypp_lppbiiiiiiiiiirbowbrbi_l2_j1 (k : Nat) (x4 : Int) (x9 : Bool) (e1 e1_1 e1_2 e1_3 e1_4 e1_5 e1_6 e1_7 e1_8 e1_9 : Int) (e1_10 : List Int) (h3_ : List T25) (e4 : List Int) (e5 : Int) : Option R37_ypp_lppbiiiiiiiiiirbowbrbi_l2 :=
  ifE ((0 : Int) ≤ x4) (
    ifE ((0 : Int) ≤ (IntKind.i64.wrap ((if (IntKind.i64.wrap (((List.length e4) : Int) - x4)) < e5 then (IntKind.i64.wrap (((List.length e4) : Int) - x4)) else e5) + x4))) (
      ifE ((Int.toNat x4) ≤ (Int.toNat ((IntKind.i64.wrap ((if (IntKind.i64.wrap (((List.length e4) : Int) - x4)) < e5 then (IntKind.i64.wrap (((List.length e4) : Int) - x4)) else e5) + x4))))) (
        ifE ((Int.toNat ((IntKind.i64.wrap ((if (IntKind.i64.wrap (((List.length e4) : Int) - x4)) < e5 then (IntKind.i64.wrap (((List.length e4) : Int) - x4)) else e5) + x4)))) ≤ (List.length e4)) (
          Option.bind (f999999999_iry_lppbiiiiiiiiiirbow k x4 ((List.drop (Int.toNat x4) ((List.take ((Int.toNat ((IntKind.i64.wrap ((if (IntKind.i64.wrap (((List.length e4) : Int) - x4)) < e5 then (IntKind.i64.wrap (((List.length e4) : Int) - x4)) else e5) + x4))))) e4)))) e1 e1_1 e1_2 e1_3 e1_4 e1_5 e1_6 e1_7 e1_8 e1_9 e1_10 h3_) fun o5 =>
            match o5 with
            | .o0 v8 v9 v10 v11 v12 v13 v14 v15 v16 v17 v18 v19 =>
              f37_ypp_lppbiiiiiiiiiirbowbrbi_l2_j2 k ((IntKind.i64.wrap ((if (IntKind.i64.wrap (((List.length e4) : Int) - x4)) < e5 then (IntKind.i64.wrap (((List.length e4) : Int) - x4)) else e5) + x4))) false v8 v9 v10 v11 v12 v13 v14 v15 v16 v17 v18 v19 e4 e5))))
theorem f37_ypp_lppbiiiiiiiiiirbowbrbi_l2_j1_ok (k : Nat) (x4 : Int) (x9 : Bool) (e1 e1_1 e1_2 e1_3 e1_4 e1_5 e1_6 e1_7 e1_8 e1_9 : Int) (e1_10 : List Int) (h3_ : List T25) (e4 : List Int) (e5 : Int) (r : R37_ypp_lppbiiiiiiiiiirbowbrbi_l2) (hF : f37_ypp_lppbiiiiiiiiiirbowbrbi_l2_j1 k x4 x9 e1 e1_1 e1_2 e1_3 e1_4 e1_5 e1_6 e1_7 e1_8 e1_9 e1_10 h3_ e4 e5 = some r) : EX 37 k (nav B37 [2, 1, 2, 2]) ({ n := 28, F := [(0, V.yld 1000000), (1, V.ptr 1000004 0), (2, V.ptr 1000005 0), (4, V.p (Value.int .i64 x4)), (9, V.p (Value.bool x9))], M := [(1000000, O.lp 11 37 [(2, V.ptr 1000001 0), (6, V.ptr 1000002 0)] [21, 22] (nav B11 [3, 2, 2, 1, 2, 2, 2]) (nav B11 [4, 2, 2, 1, 2, 2, 2]) 0 .norm), (1000001, O.box 25 [V.p (Value.int .i64 e1), V.p (Value.int .i64 e1_1), V.p (Value.int .u32 e1_2), V.p (Value.int .i64 e1_3), V.p (Value.int .i64 e1_4), V.p (Value.int .i64 e1_5), V.p (Value.int .i64 e1_6), V.p (Value.int .i64 e1_7), V.p (Value.int .i64 e1_8), V.p (Value.int .i64 e1_9), V.sl 1 (rowsOf (encI .u8) e1_10)]), (1000002, O.box 28 [V.own 30003]), (30003, O.row true 11 25 (rowsOf encT25 h3_)), (1000004, O.box 23 [V.sl 1 (rowsOf (encI .u8) e4)]), (1000005, O.box 3 [V.p (Value.int .i64 e5)]), (1000003, O.dead)] } : St) = some r.st := by
  unfold f37_ypp_lppbiiiiiiiiiirbowbrbi_l2_j1 at hF
  replace hF := ifE_some.1 hF
  obtain ⟨h1, hF⟩ := hF
  replace hF := ifE_some.1 hF
  obtain ⟨h2, hF⟩ := hF
  replace hF := ifE_some.1 hF
  obtain ⟨h3, hF⟩ := hF
  replace hF := ifE_some.1 hF
  obtain ⟨h4, hF⟩ := hF
  replace hF := Option.bind_eq_some_iff.1 hF
  obtain ⟨o5, h6, hF⟩ := hF
  have hc7 := f999999999_iry_lppbiiiiiiiiiirbow_ok k x4 ((List.drop (Int.toNat x4) ((List.take ((Int.toNat ((IntKind.i64.wrap ((if (IntKind.i64.wrap (((List.length e4) : Int) - x4)) < e5 then (IntKind.i64.wrap (((List.length e4) : Int) - x4)) else e5) + x4))))) e4)))) e1 e1_1 e1_2 e1_3 e1_4 e1_5 e1_6 e1_7 e1_8 e1_9 e1_10 h3_ _ h6
  cases o5 with
  | o0 v8 v9 v10 v11 v12 v13 v14 v15 v16 v17 v18 v19 =>
    (try dsimp only at hF)
    (try simp only [NM, EE, R999999999_iry_lppbiiiiiiiiiirbow.st] at hc7)
    have hJ := f37_ypp_lppbiiiiiiiiiirbowbrbi_l2_j2_ok k ((IntKind.i64.wrap ((if (IntKind.i64.wrap (((List.length e4) : Int) - x4)) < e5 then (IntKind.i64.wrap (((List.length e4) : Int) - x4)) else e5) + x4))) false v8 v9 v10 v11 v12 v13 v14 v15 v16 v17 v18 v19 e4 e5 _ hF
    simp (maxSteps := 999999) (disch := first | exact D (by decide) | exact K (by kernel_rfl)) only [E, EE, ↓reduceIte, simprocAttr, xk B37 [2, 1, 2, 2] (.bk 1) rfl, xk B37 [2, 2, 1, 2, 2] .sq rfl, show (nav B37 [1, 2, 2, 1, 2, 2]) = Code.region 2 _ false from rfl, hk_37_2, hz_37_2, hs_37_2, u_3, i_3, is_3, ib_3, iz_3, u_23, i_23, is_23, ib_23, iz_23, minmaxV, minmaxGo, xk B37 [2, 2, 2, 1, 2, 2] .sq rfl, xk B37 [1, 2, 2, 2, 1, 2, 2] .sq rfl, show (nav B37 [1, 1, 2, 2, 2, 1, 2, 2]) = Code.region 3 _ false from rfl, hk_37_3, hz_37_3, hs_37_3, sliceV, bound, u_5, i_5, is_5, ib_5, iz_5, callStep, CL, gv, List.contains, xk B37 [2, 1, 2, 2, 2, 1, 2, 2] (.cd 26) rfl, xk B37 [3, 2, 1, 2, 2, 2, 1, 2, 2] .sk rfl, h1, h2, h3, h4, hc7]
    try simp only [NM, EE] at hJ
    exact hJ
noncomputable def f37_ypp_lppbiiiiiiiiiirbowbrbi_l2_b (k : Nat) (x4 e1 e1_1 e1_2 e1_3 e1_4 e1_5 e1_6 e1_7 e1_8 e1_9 : Int) (e1_10 : List Int) (h3_ : List T25) (e4 : List Int) (e5 : Int) : Option R37_ypp_lppbiiiiiiiiiirbowbrbi_l2 :=
  cond ((decide (x4 < ((List.length e4) : Int))))
    (f37_ypp_lppbiiiiiiiiiirbowbrbi_l2_j1 k x4 true e1 e1_1 e1_2 e1_3 e1_4 e1_5 e1_6 e1_7 e1_8 e1_9 e1_10 h3_ e4 e5)
    (some (R37_ypp_lppbiiiiiiiiiirbowbrbi_l2.o1 x4 false e1 e1_1 e1_2 e1_3 e1_4 e1_5 e1_6 e1_7 e1_8 e1_9 e1_10 h3_ e4 e5))
theorem f37_ypp_lppbiiiiiiiiiirbowbrbi_l2_b_ok (k : Nat) (x4 e1 e1_1 e1_2 e1_3 e1_4 e1_5 e1_6 e1_7 e1_8 e1_9 : Int) (e1_10 : List Int) (h3_ : List T25) (e4 : List Int) (e5 : Int) (r : R37_ypp_lppbiiiiiiiiiirbowbrbi_l2) (hF : f37_ypp_lppbiiiiiiiiiirbowbrbi_l2_b k x4 e1 e1_1 e1_2 e1_3 e1_4 e1_5 e1_6 e1_7 e1_8 e1_9 e1_10 h3_ e4 e5 = some r) : EX 37 k (nav B37 [1, 2, 2]) ({ n := 28, F := [(0, V.yld 1000000), (1, V.ptr 1000004 0), (2, V.ptr 1000005 0), (4, V.p (Value.int .i64 x4))], M := [(1000000, O.lp 11 37 [(2, V.ptr 1000001 0), (6, V.ptr 1000002 0)] [21, 22] (nav B11 [3, 2, 2, 1, 2, 2, 2]) (nav B11 [4, 2, 2, 1, 2, 2, 2]) 0 .norm), (1000001, O.box 25 [V.p (Value.int .i64 e1), V.p (Value.int .i64 e1_1), V.p (Value.int .u32 e1_2), V.p (Value.int .i64 e1_3), V.p (Value.int .i64 e1_4), V.p (Value.int .i64 e1_5), V.p (Value.int .i64 e1_6), V.p (Value.int .i64 e1_7), V.p (Value.int .i64 e1_8), V.p (Value.int .i64 e1_9), V.sl 1 (rowsOf (encI .u8) e1_10)]), (1000002, O.box 28 [V.own 30003]), (30003, O.row true 11 25 (rowsOf encT25 h3_)), (1000004, O.box 23 [V.sl 1 (rowsOf (encI .u8) e4)]), (1000005, O.box 3 [V.p (Value.int .i64 e5)]), (1000003, O.dead)] } : St) = some r.st := by
  unfold f37_ypp_lppbiiiiiiiiiirbowbrbi_l2_b at hF
  simp (maxSteps := 999999) (disch := first | exact D (by decide) | exact K (by kernel_rfl)) only [E, EE, ↓reduceIte, simprocAttr, xk B37 [1, 2, 2] .sq rfl, xk B37 [1, 1, 2, 2] .sq rfl, show (nav B37 [1, 1, 1, 2, 2]) = Code.region 1 _ false from rfl, hk_37_1, hz_37_1, hs_37_1, u_23, i_23, is_23, ib_23, iz_23, xk B37 [2, 1, 1, 2, 2] (.cd 9) rfl]
  replace hF := cond_some hF
  rcases hF with ⟨h1, hF⟩ | ⟨h1, hF⟩
  · have hJ := f37_ypp_lppbiiiiiiiiiirbowbrbi_l2_j1_ok k x4 true e1 e1_1 e1_2 e1_3 e1_4 e1_5 e1_6 e1_7 e1_8 e1_9 e1_10 h3_ e4 e5 _ hF
    simp (maxSteps := 999999) (disch := first | exact D (by decide) | exact K (by kernel_rfl)) only [E, EE, ↓reduceIte, simprocAttr, xk B37 [2, 2, 1, 1, 2, 2] .sk rfl, h1]
    try simp only [NM, EE] at hJ
    exact hJ
  · cases hF
    simp (maxSteps := 999999) (disch := first | exact D (by decide) | exact K (by kernel_rfl)) only [E, EE, ↓reduceIte, simprocAttr, xk B37 [3, 2, 1, 1, 2, 2] (.ex 0) rfl, R37_ypp_lppbiiiiiiiiiirbowbrbi_l2.st, h1]
noncomputable def f37_ypp_lppbiiiiiiiiiirbowbrbi_l2 (k : Nat) : Nat → Int → Int → Int → Int → Int → Int → Int → Int → Int → Int → Int → (List Int) → (List T25) → (List Int) → Int → Option R37_ypp_lppbiiiiiiiiiirbowbrbi_l2
  | 0, _, _, _, _, _, _, _, _, _, _, _, _, _, _, _ => none
  | n + 1, x4, e1, e1_1, e1_2, e1_3, e1_4, e1_5, e1_6, e1_7, e1_8, e1_9, e1_10, h3_, e4, e5 => Option.bind (f37_ypp_lppbiiiiiiiiiirbowbrbi_l2_b k x4 e1 e1_1 e1_2 e1_3 e1_4 e1_5 e1_6 e1_7 e1_8 e1_9 e1_10 h3_ e4 e5) fun o =>
    match o with
    | .o0 y y_1 y_2 y_3 y_4 y_5 y_6 y_7 y_8 y_9 y_10 y_11 y_12 y_13 y_14 => f37_ypp_lppbiiiiiiiiiirbowbrbi_l2 k n y y_1 y_2 y_3 y_4 y_5 y_6 y_7 y_8 y_9 y_10 y_11 y_12 y_13 y_14
    | .o1 y y_1 y_2 y_3 y_4 y_5 y_6 y_7 y_8 y_9 y_10 y_11 y_12 y_13 y_14 y_15 => some (.o1 y y_1 y_2 y_3 y_4 y_5 y_6 y_7 y_8 y_9 y_10 y_11 y_12 y_13 y_14 y_15)
theorem f37_ypp_lppbiiiiiiiiiirbowbrbi_l2_ok (k n : Nat) : ∀ (x4 e1 e1_1 e1_2 e1_3 e1_4 e1_5 e1_6 e1_7 e1_8 e1_9 : Int) (e1_10 : List Int) (h3_ : List T25) (e4 : List Int) (e5 : Int) (r : R37_ypp_lppbiiiiiiiiiirbowbrbi_l2) (hF : f37_ypp_lppbiiiiiiiiiirbowbrbi_l2 k n x4 e1 e1_1 e1_2 e1_3 e1_4 e1_5 e1_6 e1_7 e1_8 e1_9 e1_10 h3_ e4 e5 = some r) (σ : St) (hσ : headR (hints.head 37 1) (hints.canon 37 1) σ = some ({ n := 28, F := [(0, V.yld 1000000), (1, V.ptr 1000004 0), (2, V.ptr 1000005 0), (4, V.p (Value.int .i64 x4))], M := [(1000000, O.lp 11 37 [(2, V.ptr 1000001 0), (6, V.ptr 1000002 0)] [21, 22] (nav B11 [3, 2, 2, 1, 2, 2, 2]) (nav B11 [4, 2, 2, 1, 2, 2, 2]) 0 .norm), (1000001, O.box 25 [V.p (Value.int .i64 e1), V.p (Value.int .i64 e1_1), V.p (Value.int .u32 e1_2), V.p (Value.int .i64 e1_3), V.p (Value.int .i64 e1_4), V.p (Value.int .i64 e1_5), V.p (Value.int .i64 e1_6), V.p (Value.int .i64 e1_7), V.p (Value.int .i64 e1_8), V.p (Value.int .i64 e1_9), V.sl 1 (rowsOf (encI .u8) e1_10)]), (1000002, O.box 28 [V.own 30003]), (30003, O.row true 11 25 (rowsOf encT25 h3_)), (1000004, O.box 23 [V.sl 1 (rowsOf (encI .u8) e4)]), (1000005, O.box 3 [V.p (Value.int .i64 e5)]), (1000003, O.dead)] } : St)), LP 37 k (nav B37 [1, 2, 2]) n σ = some r.st := by
  induction n with
  | zero => intro x4 e1 e1_1 e1_2 e1_3 e1_4 e1_5 e1_6 e1_7 e1_8 e1_9 e1_10 h3_ e4 e5 r hF; cases hF
  | succ n ih =>
    intro x4 e1 e1_1 e1_2 e1_3 e1_4 e1_5 e1_6 e1_7 e1_8 e1_9 e1_10 h3_ e4 e5 r hF σ hσ
    rw [f37_ypp_lppbiiiiiiiiiirbowbrbi_l2] at hF
    obtain ⟨o, h, hF⟩ := Option.bind_eq_some_iff.1 hF
    have hB := f37_ypp_lppbiiiiiiiiiirbowbrbi_l2_b_ok k x4 e1 e1_1 e1_2 e1_3 e1_4 e1_5 e1_6 e1_7 e1_8 e1_9 e1_10 h3_ e4 e5 o h
    unfold LP at ih ⊢
    unfold EX at hB
    rw [loopK_succ, show firstReg (nav B37 [1, 2, 2]) = 1 from rfl, hσ, headK_some, hB]
    cases o with
    | o0 y y_1 y_2 y_3 y_4 y_5 y_6 y_7 y_8 y_9 y_10 y_11 y_12 y_13 y_14 =>
      refine ih y y_1 y_2 y_3 y_4 y_5 y_6 y_7 y_8 y_9 y_10 y_11 y_12 y_13 y_14 r hF _ ?_
      simp (maxSteps := 999999) (disch := first | exact D (by decide) | exact K (by kernel_rfl)) only [E, EE, ↓reduceIte, simprocAttr, hh_37_1, hc_37_1]
    | o1 y y_1 y_2 y_3 y_4 y_5 y_6 y_7 y_8 y_9 y_10 y_11 y_12 y_13 y_14 y_15 => cases hF; rfl
noncomputable def f37_ypp_lppbiiiiiiiiiirbowbrbi_l1 (k : Nat) : Nat → Int → Int → Int → Int → Int → Int → Int → Int → Int → Int → Int → (List Int) → (List T25) → (List Int) → Int → Option R37_ypp_lppbiiiiiiiiiirbowbrbi_l1
  | 0, _, _, _, _, _, _, _, _, _, _, _, _, _, _, _ => none
  | n + 1, x4, e1, e1_1, e1_2, e1_3, e1_4, e1_5, e1_6, e1_7, e1_8, e1_9, e1_10, e3, e4, e5 => Option.bind (f37_ypp_lppbiiiiiiiiiirbowbrbi_l1_b k x4 e1 e1_1 e1_2 e1_3 e1_4 e1_5 e1_6 e1_7 e1_8 e1_9 e1_10 e3 e4 e5) fun o =>
    match o with
    | .o0 y y_1 y_2 y_3 y_4 y_5 y_6 y_7 y_8 y_9 y_10 y_11 y_12 y_13 y_14 => Option.bind (f37_ypp_lppbiiiiiiiiiirbowbrbi_l2 k n y y_1 y_2 y_3 y_4 y_5 y_6 y_7 y_8 y_9 y_10 y_11 y_12 y_13 y_14) fun o2 =>
      match o2 with
      | .o0 z0 z1 z2 z3 z4 z5 z6 z7 z8 z9 z10 z11 z12 z13 z14 => none
      | .o1 z0 z1 z2 z3 z4 z5 z6 z7 z8 z9 z10 z11 z12 z13 z14 z15 => some (.o2 z0 z1 z2 z3 z4 z5 z6 z7 z8 z9 z10 z11 z12 z13 z14 z15)
    | .o1 y y_1 y_2 y_3 y_4 y_5 y_6 y_7 y_8 y_9 y_10 y_11 y_12 y_13 y_14 y_15 => some (.o1 y y_1 y_2 y_3 y_4 y_5 y_6 y_7 y_8 y_9 y_10 y_11 y_12 y_13 y_14 y_15)
    | .o2 y y_1 y_2 y_3 y_4 y_5 y_6 y_7 y_8 y_9 y_10 y_11 y_12 y_13 y_14 y_15 => some (.o2 y y_1 y_2 y_3 y_4 y_5 y_6 y_7 y_8 y_9 y_10 y_11 y_12 y_13 y_14 y_15)
theorem f37_ypp_lppbiiiiiiiiiirbowbrbi_l1_ok (k n : Nat) : ∀ (x4 e1 e1_1 e1_2 e1_3 e1_4 e1_5 e1_6 e1_7 e1_8 e1_9 : Int) (e1_10 : List Int) (e3 : List T25) (e4 : List Int) (e5 : Int) (r : R37_ypp_lppbiiiiiiiiiirbowbrbi_l1) (hF : f37_ypp_lppbiiiiiiiiiirbowbrbi_l1 k n x4 e1 e1_1 e1_2 e1_3 e1_4 e1_5 e1_6 e1_7 e1_8 e1_9 e1_10 e3 e4 e5 = some r) (σ : St) (hσ : headR (hints.head 37 1) (hints.canon 37 1) σ = some ({ n := 28, F := [(0, V.yld 1000000), (1, V.ptr 1000004 0), (2, V.ptr 1000005 0), (4, V.p (Value.int .i64 x4))], M := [(1000000, O.lp 11 37 [(2, V.ptr 1000001 0), (6, V.ptr 1000002 0)] [21, 22] (nav B11 [3, 2, 2, 1, 2, 2, 2]) (nav B11 [4, 2, 2, 1, 2, 2, 2]) 0 .norm), (1000001, O.box 25 [V.p (Value.int .i64 e1), V.p (Value.int .i64 e1_1), V.p (Value.int .u32 e1_2), V.p (Value.int .i64 e1_3), V.p (Value.int .i64 e1_4), V.p (Value.int .i64 e1_5), V.p (Value.int .i64 e1_6), V.p (Value.int .i64 e1_7), V.p (Value.int .i64 e1_8), V.p (Value.int .i64 e1_9), V.sl 1 (rowsOf (encI .u8) e1_10)]), (1000002, O.box 28 [V.own 1000003]), (1000003, O.row true 11 25 (rowsOf encT25 e3)), (1000004, O.box 23 [V.sl 1 (rowsOf (encI .u8) e4)]), (1000005, O.box 3 [V.p (Value.int .i64 e5)])] } : St)), LP 37 k (nav B37 [1, 2, 2]) n σ = some r.st := by
  induction n with
  | zero => intro x4 e1 e1_1 e1_2 e1_3 e1_4 e1_5 e1_6 e1_7 e1_8 e1_9 e1_10 e3 e4 e5 r hF; cases hF
  | succ n ih =>
    intro x4 e1 e1_1 e1_2 e1_3 e1_4 e1_5 e1_6 e1_7 e1_8 e1_9 e1_10 e3 e4 e5 r hF σ hσ
    rw [f37_ypp_lppbiiiiiiiiiirbowbrbi_l1] at hF
    obtain ⟨o, h, hF⟩ := Option.bind_eq_some_iff.1 hF
    have hB := f37_ypp_lppbiiiiiiiiiirbowbrbi_l1_b_ok k x4 e1 e1_1 e1_2 e1_3 e1_4 e1_5 e1_6 e1_7 e1_8 e1_9 e1_10 e3 e4 e5 o h
    unfold LP at ih ⊢
    unfold EX at hB
    rw [loopK_succ, show firstReg (nav B37 [1, 2, 2]) = 1 from rfl, hσ, headK_some, hB]
    cases o with
    | o0 y y_1 y_2 y_3 y_4 y_5 y_6 y_7 y_8 y_9 y_10 y_11 y_12 y_13 y_14 =>
      replace hF := Option.bind_eq_some_iff.1 hF
      obtain ⟨o2, h2, hF⟩ := hF
      refine Eq.trans (f37_ypp_lppbiiiiiiiiiirbowbrbi_l2_ok k n y y_1 y_2 y_3 y_4 y_5 y_6 y_7 y_8 y_9 y_10 y_11 y_12 y_13 y_14 o2 h2 _ ?_) ?_
      · simp (maxSteps := 999999) (disch := first | exact D (by decide) | exact K (by kernel_rfl)) only [E, EE, ↓reduceIte, simprocAttr, hh_37_1, hc_37_1]
      · cases o2 <;> first | (cases hF; rfl) | cases hF
    | o1 y y_1 y_2 y_3 y_4 y_5 y_6 y_7 y_8 y_9 y_10 y_11 y_12 y_13 y_14 y_15 => cases hF; rfl
    | o2 y y_1 y_2 y_3 y_4 y_5 y_6 y_7 y_8 y_9 y_10 y_11 y_12 y_13 y_14 y_15 => cases hF; rfl
noncomputable def f37_ypp_lppbiiiiiiiiiirbowbrbi_e (k : Nat) (e1 e1_1 e1_2 e1_3 e1_4 e1_5 e1_6 e1_7 e1_8 e1_9 : Int) (e1_10 : List Int) (e3 : List T25) (e4 : List Int) (e5 : Int) : Option R37_ypp_lppbiiiiiiiiiirbowbrbi :=
  Option.bind (f37_ypp_lppbiiiiiiiiiirbowbrbi_l1 k k 0 e1 e1_1 e1_2 e1_3 e1_4 e1_5 e1_6 e1_7 e1_8 e1_9 e1_10 e3 e4 e5) fun o1 =>
    match o1 with
    | .o0 _ _ _ _ _ _ _ _ _ _ _ _ _ _ _ =>
      none
    | .o1 v4 v5 v6 v7 v8 v9 v10 v11 v12 v13 v14 v15 v16 v17 v18 v19 =>
      some (R37_ypp_lppbiiiiiiiiiirbowbrbi.o0 v6 v7 v8 v9 v10 v11 v12 v13 v14 v15 v16 v17 v18 v19)
    | .o2 v20 v21 v22 v23 v24 v25 v26 v27 v28 v29 v30 v31 v32 v33 v34 v35 =>
      some (R37_ypp_lppbiiiiiiiiiirbowbrbi.o1 v22 v23 v24 v25 v26 v27 v28 v29 v30 v31 v32 v34 v35 v33)
theorem f37_ypp_lppbiiiiiiiiiirbowbrbi_e_ok (k : Nat) (e1 e1_1 e1_2 e1_3 e1_4 e1_5 e1_6 e1_7 e1_8 e1_9 : Int) (e1_10 : List Int) (e3 : List T25) (e4 : List Int) (e5 : Int) (r : R37_ypp_lppbiiiiiiiiiirbowbrbi) (hF : f37_ypp_lppbiiiiiiiiiirbowbrbi_e k e1 e1_1 e1_2 e1_3 e1_4 e1_5 e1_6 e1_7 e1_8 e1_9 e1_10 e3 e4 e5 = some r) : finK Try.prog Try.f37 6 (EX 37 k (nav B37 []) ({ n := 28, F := [(0, V.yld 1000000), (1, V.ptr 1000004 0), (2, V.ptr 1000005 0)], M := [(1000000, O.lp 11 37 [(2, V.ptr 1000001 0), (6, V.ptr 1000002 0)] [21, 22] (nav B11 [3, 2, 2, 1, 2, 2, 2]) (nav B11 [4, 2, 2, 1, 2, 2, 2]) 0 .norm), (1000001, O.box 25 [V.p (Value.int .i64 e1), V.p (Value.int .i64 e1_1), V.p (Value.int .u32 e1_2), V.p (Value.int .i64 e1_3), V.p (Value.int .i64 e1_4), V.p (Value.int .i64 e1_5), V.p (Value.int .i64 e1_6), V.p (Value.int .i64 e1_7), V.p (Value.int .i64 e1_8), V.p (Value.int .i64 e1_9), V.sl 1 (rowsOf (encI .u8) e1_10)]), (1000002, O.box 28 [V.own 1000003]), (1000003, O.row true 11 25 (rowsOf encT25 e3)), (1000004, O.box 23 [V.sl 1 (rowsOf (encI .u8) e4)]), (1000005, O.box 3 [V.p (Value.int .i64 e5)])] } : St)) = some r.st := by
  unfold f37_ypp_lppbiiiiiiiiiirbowbrbi_e at hF
  replace hF := Option.bind_eq_some_iff.1 hF
  obtain ⟨o1, h2, hF⟩ := hF
  have hc3 := f37_ypp_lppbiiiiiiiiiirbowbrbi_l1_ok k k 0 e1 e1_1 e1_2 e1_3 e1_4 e1_5 e1_6 e1_7 e1_8 e1_9 e1_10 e3 e4 e5 _ h2
  simp (maxSteps := 999999) (disch := first | exact D (by decide) | exact K (by kernel_rfl)) only [E, EE, ↓reduceIte, simprocAttr, xk B37 [] .sq rfl, show (nav B37 [1]) = Code.region 0 _ false from rfl, hk_37_0, hz_37_0, hs_37_0, xk B37 [2] (.bk 0) rfl, xk B37 [2, 2] .lp rfl, hh_37_1, hc_37_1]
  (try simp only [NM, EE] at hc3)
  rw [hc3 _ (by simp (maxSteps := 999999) (disch := first | exact D (by decide) | exact K (by kernel_rfl)) only [E, EE, ↓reduceIte, simprocAttr, hh_37_1, hc_37_1])]
  clear hc3
  cases o1 with
  | o0 _ _ _ _ _ _ _ _ _ _ _ _ _ _ _ =>
    (try dsimp only at hF)
    cases hF
  | o1 v4 v5 v6 v7 v8 v9 v10 v11 v12 v13 v14 v15 v16 v17 v18 v19 =>
    (try dsimp only at hF)
    cases hF
    simp (maxSteps := 999999) (disch := first | exact D (by decide) | exact K (by kernel_rfl)) only [E, EE, ↓reduceIte, simprocAttr, R37_ypp_lppbiiiiiiiiiirbowbrbi_l1.st, finK_norm, finK_ret, fin37, R37_ypp_lppbiiiiiiiiiirbowbrbi.st]
  | o2 v20 v21 v22 v23 v24 v25 v26 v27 v28 v29 v30 v31 v32 v33 v34 v35 =>
    (try dsimp only at hF)
    cases hF
    simp (maxSteps := 999999) (disch := first | exact D (by decide) | exact K (by kernel_rfl)) only [E, EE, ↓reduceIte, simprocAttr, R37_ypp_lppbiiiiiiiiiirbowbrbi_l1.st, finK_norm, finK_ret, fin37, R37_ypp_lppbiiiiiiiiiirbowbrbi.st]
noncomputable def f37_ypp_lppbiiiiiiiiiirbowbrbi (k : Nat) (e1 e1_1 e1_2 e1_3 e1_4 e1_5 e1_6 e1_7 e1_8 e1_9 : Int) (e1_10 : List Int) (e3 : List T25) (e4 : List Int) (e5 : Int) : Option R37_ypp_lppbiiiiiiiiiirbowbrbi := match k with | 0 => none | k + 1 => f37_ypp_lppbiiiiiiiiiirbowbrbi_e k e1 e1_1 e1_2 e1_3 e1_4 e1_5 e1_6 e1_7 e1_8 e1_9 e1_10 e3 e4 e5
theorem f37_ypp_lppbiiiiiiiiiirbowbrbi_ok (k : Nat) (e1 e1_1 e1_2 e1_3 e1_4 e1_5 e1_6 e1_7 e1_8 e1_9 : Int) (e1_10 : List Int) (e3 : List T25) (e4 : List Int) (e5 : Int) (r : R37_ypp_lppbiiiiiiiiiirbowbrbi) (hF : f37_ypp_lppbiiiiiiiiiirbowbrbi k e1 e1_1 e1_2 e1_3 e1_4 e1_5 e1_6 e1_7 e1_8 e1_9 e1_10 e3 e4 e5 = some r) : CV k 37 [V.yld 1000000, V.ptr 1000004 0, V.ptr 1000005 0] [O.lp 11 37 [(2, V.ptr 1000001 0), (6, V.ptr 1000002 0)] [21, 22] (nav B11 [3, 2, 2, 1, 2, 2, 2]) (nav B11 [4, 2, 2, 1, 2, 2, 2]) 0 .norm, O.box 25 [V.p (Value.int .i64 e1), V.p (Value.int .i64 e1_1), V.p (Value.int .u32 e1_2), V.p (Value.int .i64 e1_3), V.p (Value.int .i64 e1_4), V.p (Value.int .i64 e1_5), V.p (Value.int .i64 e1_6), V.p (Value.int .i64 e1_7), V.p (Value.int .i64 e1_8), V.p (Value.int .i64 e1_9), V.sl 1 (rowsOf (encI .u8) e1_10)], O.box 28 [V.own 1000003], O.row true 11 25 (rowsOf encT25 e3), O.box 23 [V.sl 1 (rowsOf (encI .u8) e4)], O.box 3 [V.p (Value.int .i64 e5)]] = some r.st := by
  cases k with
  | zero => cases hF
  | succ k =>
    unfold CV
    rw [ev_call (F := Try.f37) (c := (nav B37 [])) rfl Try.func37 rfl rfl rfl rfl]
    exact f37_ypp_lppbiiiiiiiiiirbowbrbi_e_ok k e1 e1_1 e1_2 e1_3 e1_4 e1_5 e1_6 e1_7 e1_8 e1_9 e1_10 e3 e4 e5 r hF
-- f11_ai10rzi: f11 heliograph/pieces.Cut
inductive R11_ai10rzi where
  | o0 (y : Int) (y_1 : List T25)
noncomputable def R11_ai10rzi.st : R11_ai10rzi → V × List O × List O
  | .o0 y y_1 => (V.tup [V.own 2000000, V.p (Value.int .i64 y)], [], [O.row true 11 25 (rowsOf encT25 y_1)])
noncomputable def f11_ai10rzi_j2 (k : Nat) (s320 : List T25) : Option R11_ai10rzi :=
  some (R11_ai10rzi.o0 0 s320)
theorem f11_ai10rzi_j2_ok (k : Nat) (s320 : List T25) (r : R11_ai10rzi) (hF : f11_ai10rzi_j2 k s320 = some r) : finK Try.prog Try.f11 0 (EX 11 k (nav B11 [2, 2, 2, 2]) ({ n := 37, F := [(6, V.ptr 6 0)], M := [(6, O.box 28 [V.own 700320]), (700320, O.row true 11 25 (rowsOf encT25 s320))] } : St)) = some r.st := by
  unfold f11_ai10rzi_j2 at hF
  cases hF
  simp (maxSteps := 999999) (disch := first | exact D (by decide) | exact K (by kernel_rfl)) only [E, EE, ↓reduceIte, simprocAttr, xk B11 [2, 2, 2, 2] .sq rfl, show (nav B11 [1, 2, 2, 2, 2]) = Code.region 13 _ false from rfl, hk_11_13, hz_11_13, hs_11_13, u_28, i_28, is_28, ib_28, iz_28, xk B11 [2, 2, 2, 2, 2] .rt rfl, finK_norm, finK_ret, fin11, R11_ai10rzi.st]
noncomputable def f11_ai10rzi_j3 (k : Nat) (m9_50_ : List T25) : Option R11_ai10rzi :=
  some (R11_ai10rzi.o0 0 m9_50_)
theorem f11_ai10rzi_j3_ok (k : Nat) (m9_50_ : List T25) (r : R11_ai10rzi) (hF : f11_ai10rzi_j3 k m9_50_ = some r) : finK Try.prog Try.f11 0 (EX 11 k (nav B11 [2, 2, 2, 2]) ({ n := 37, F := [(6, V.ptr 6 0)], M := [(6, O.box 28 [V.own 500009]), (500009, O.row true 11 25 (rowsOf encT25 m9_50_))] } : St)) = some r.st := by
  unfold f11_ai10rzi_j3 at hF
  cases hF
  simp (maxSteps := 999999) (disch := first | exact D (by decide) | exact K (by kernel_rfl)) only [E, EE, ↓reduceIte, simprocAttr, xk B11 [2, 2, 2, 2] .sq rfl, show (nav B11 [1, 2, 2, 2, 2]) = Code.region 13 _ false from rfl, hk_11_13, hz_11_13, hs_11_13, u_28, i_28, is_28, ib_28, iz_28, xk B11 [2, 2, 2, 2, 2] .rt rfl, finK_norm, finK_ret, fin11, R11_ai10rzi.st]
noncomputable def f11_ai10rzi_j1 (k : Nat) (x1 : Int) (x14 : Bool) (m2 m2_1 m2_2 m2_3 m2_4 m2_5 m2_6 m2_7 m2_8 m2_9 : Int) (m2_10 : List Int) : Option R11_ai10rzi :=
  Option.bind (f27_ri k m2_10 x1) fun o1 =>
    match o1 with
    | .o0 v4 v5 =>
      Option.bind (f37_ypp_lppbiiiiiiiiiirbowbrbi k m2 m2_1 m2_2 m2_3 m2_4 m2_5 m2_6 m2_7 m2_8 m2_9 m2_10 [] v4 v5) fun o6 =>
        match o6 with
        | .o0 v9 v10 v11 v12 v13 v14 v15 v16 v17 v18 v19 v20 v21 v22 =>
          f11_ai10rzi_j2 k v20
        | .o1 v23 v24 v25 v26 v27 v28 v29 v30 v31 v32 v33 v34 v35 v36 =>
          f11_ai10rzi_j3 k v36
theorem f11_ai10rzi_j1_ok (k : Nat) (x1 : Int) (x14 : Bool) (m2 m2_1 m2_2 m2_3 m2_4 m2_5 m2_6 m2_7 m2_8 m2_9 : Int) (m2_10 : List Int) (r : R11_ai10rzi) (hF : f11_ai10rzi_j1 k x1 x14 m2 m2_1 m2_2 m2_3 m2_4 m2_5 m2_6 m2_7 m2_8 m2_9 m2_10 = some r) : finK Try.prog Try.f11 0 (EX 11 k (nav B11 [2, 2]) ({ n := 37, F := [(1, V.p (Value.int .i64 x1)), (2, V.ptr 2 0), (14, V.p (Value.bool x14))], M := [(2, O.box 25 [V.p (Value.int .i64 m2), V.p (Value.int .i64 m2_1), V.p (Value.int .u32 m2_2), V.p (Value.int .i64 m2_3), V.p (Value.int .i64 m2_4), V.p (Value.int .i64 m2_5), V.p (Value.int .i64 m2_6), V.p (Value.int .i64 m2_7), V.p (Value.int .i64 m2_8), V.p (Value.int .i64 m2_9), V.sl 1 (rowsOf (encI .u8) m2_10)])] } : St)) = some r.st := by
  unfold f11_ai10rzi_j1 at hF
  replace hF := Option.bind_eq_some_iff.1 hF
  obtain ⟨o1, h2, hF⟩ := hF
  have hc3 := f27_ri_ok k m2_10 x1 _ h2
  cases o1 with
  | o0 v4 v5 =>
    (try dsimp only at hF)
    (try simp only [NM, EE, R27_ri.st] at hc3)
    simp (maxSteps := 999999) (disch := first | exact D (by decide) | exact K (by kernel_rfl)) only [E, EE, ↓reduceIte, simprocAttr, xk B11 [2, 2] .sq rfl, show (nav B11 [1, 2, 2]) = Code.region 5 _ false from rfl, hk_11_5, hz_11_5, hs_11_5, u_28, i_28, is_28, ib_28, iz_28, xk B11 [2, 2, 2] .sq rfl, xk B11 [1, 2, 2, 2] .sq rfl, show (nav B11 [1, 1, 2, 2, 2]) = Code.region 6 _ false from rfl, hk_11_6, hz_11_6, hs_11_6, fieldAddrV, u_25, i_25, is_25, ib_25, iz_25, u_23, i_23, is_23, ib_23, iz_23, callStep, CL, gv, List.contains, xk B11 [2, 1, 2, 2, 2] (.bk 1) rfl, xk B11 [2, 2, 1, 2, 2, 2] (.rf (.tmp 20) [21, 22] 9) rfl, hh_11_1000009, hk_11_1000009, hc3]
    replace hF := Option.bind_eq_some_iff.1 hF
    obtain ⟨o6, h7, hF⟩ := hF
    have hc8 := f37_ypp_lppbiiiiiiiiiirbowbrbi_ok k m2 m2_1 m2_2 m2_3 m2_4 m2_5 m2_6 m2_7 m2_8 m2_9 m2_10 [] v4 v5 _ h7
    cases o6 with
    | o0 v9 v10 v11 v12 v13 v14 v15 v16 v17 v18 v19 v20 v21 v22 =>
      (try dsimp only at hF)
      (try simp only [NM, EE, R37_ypp_lppbiiiiiiiiiirbowbrbi.st] at hc8)
      have hJ := f11_ai10rzi_j2_ok k v20 _ hF
      simp (maxSteps := 999999) (disch := first | exact D (by decide) | exact K (by kernel_rfl)) only [E, EE, ↓reduceIte, simprocAttr, hc3, hc8]
      try simp only [NM, EE] at hJ
      exact hJ
    | o1 v23 v24 v25 v26 v27 v28 v29 v30 v31 v32 v33 v34 v35 v36 =>
      (try dsimp only at hF)
      (try simp only [NM, EE, R37_ypp_lppbiiiiiiiiiirbowbrbi.st] at hc8)
      have hJ := f11_ai10rzi_j3_ok k v36 _ hF
      simp (maxSteps := 999999) (disch := first | exact D (by decide) | exact K (by kernel_rfl)) only [E, EE, ↓reduceIte, simprocAttr, hc3, hc8]
      try simp only [NM, EE] at hJ
      exact hJ
noncomputable def f11_ai10rzi_e (k : Nat) (a0 a0_1 a0_2 a0_3 a0_4 a0_5 a0_6 a0_7 a0_8 a0_9 : Int) (a0_10 : List Int) (a1 : Int) : Option R11_ai10rzi :=
  Option.bind (f26_ai10rz k a0 a0_1 a0_2 a0_3 a0_4 a0_5 a0_6 a0_7 a0_8 a0_9 a0_10) fun o1 =>
    match o1 with
    | .o0 v4 =>
      cond ((v4 != 0))
        (some (R11_ai10rzi.o0 190 []))
        (
          cond ((decide (a1 < 1)))
            (some (R11_ai10rzi.o0 2 []))
            (f11_ai10rzi_j1 k a1 false a0 a0_1 a0_2 a0_3 a0_4 a0_5 a0_6 a0_7 a0_8 a0_9 a0_10))
theorem f11_ai10rzi_e_ok (k : Nat) (a0 a0_1 a0_2 a0_3 a0_4 a0_5 a0_6 a0_7 a0_8 a0_9 : Int) (a0_10 : List Int) (a1 : Int) (r : R11_ai10rzi) (hF : f11_ai10rzi_e k a0 a0_1 a0_2 a0_3 a0_4 a0_5 a0_6 a0_7 a0_8 a0_9 a0_10 a1 = some r) : finK Try.prog Try.f11 0 (EX 11 k (nav B11 []) ({ n := 37, F := [(0, V.agg [V.p (Value.int .i64 a0), V.p (Value.int .i64 a0_1), V.p (Value.int .u32 a0_2), V.p (Value.int .i64 a0_3), V.p (Value.int .i64 a0_4), V.p (Value.int .i64 a0_5), V.p (Value.int .i64 a0_6), V.p (Value.int .i64 a0_7), V.p (Value.int .i64 a0_8), V.p (Value.int .i64 a0_9), V.sl 1 (rowsOf (encI .u8) a0_10)]), (1, V.p (Value.int .i64 a1))], M := [] } : St)) = some r.st := by
  unfold f11_ai10rzi_e at hF
  replace hF := Option.bind_eq_some_iff.1 hF
  obtain ⟨o1, h2, hF⟩ := hF
  have hc3 := f26_ai10rz_ok k a0 a0_1 a0_2 a0_3 a0_4 a0_5 a0_6 a0_7 a0_8 a0_9 a0_10 _ h2
  cases o1 with
  | o0 v4 =>
    (try dsimp only at hF)
    (try simp only [NM, EE, R26_ai10rz.st] at hc3)
    simp (maxSteps := 999999) (disch := first | exact D (by decide) | exact K (by kernel_rfl)) only [E, EE, ↓reduceIte, simprocAttr, xk B11 [] .sq rfl, show (nav B11 [1]) = Code.region 0 _ false from rfl, hk_11_0, hz_11_0, hs_11_0, xk B11 [2] .sq rfl, xk B11 [1, 2] (.bk 0) rfl, xk B11 [2, 1, 2] .sq rfl, show (nav B11 [1, 2, 1, 2]) = Code.region 1 _ false from rfl, hk_11_1, hz_11_1, hs_11_1, u_25, i_25, is_25, ib_25, iz_25, callStep, CL, gv, List.contains, xk B11 [2, 2, 1, 2] (.cd 10) rfl, hc3]
    replace hF := cond_some hF
    rcases hF with ⟨h5, hF⟩ | ⟨h5, hF⟩
    · cases hF
      simp (maxSteps := 999999) (disch := first | exact D (by decide) | exact K (by kernel_rfl)) only [E, EE, ↓reduceIte, simprocAttr, xk B11 [2, 2, 2, 1, 2] .sq rfl, show (nav B11 [1, 2, 2, 2, 1, 2]) = Code.region 2 _ false from rfl, hk_11_2, hz_11_2, hs_11_2, xk B11 [2, 2, 2, 2, 1, 2] .rt rfl, finK_norm, finK_ret, fin11, R11_ai10rzi.st, hc3, h5]
    · simp (maxSteps := 999999) (disch := first | exact D (by decide) | exact K (by kernel_rfl)) only [E, EE, ↓reduceIte, simprocAttr, xk B11 [3, 2, 2, 1, 2] .sq rfl, show (nav B11 [1, 3, 2, 2, 1, 2]) = Code.region 3 _ false from rfl, hk_11_3, hz_11_3, hs_11_3, xk B11 [2, 3, 2, 2, 1, 2] (.cd 14) rfl, hc3, h5]
      replace hF := cond_some hF
      rcases hF with ⟨h6, hF⟩ | ⟨h6, hF⟩
      · cases hF
        simp (maxSteps := 999999) (disch := first | exact D (by decide) | exact K (by kernel_rfl)) only [E, EE, ↓reduceIte, simprocAttr, xk B11 [2, 2, 3, 2, 2, 1, 2] .sq rfl, show (nav B11 [1, 2, 2, 3, 2, 2, 1, 2]) = Code.region 4 _ false from rfl, hk_11_4, hz_11_4, hs_11_4, xk B11 [2, 2, 2, 3, 2, 2, 1, 2] .rt rfl, finK_norm, finK_ret, fin11, R11_ai10rzi.st, hc3, h5, h6]
      · have hJ := f11_ai10rzi_j1_ok k a1 false a0 a0_1 a0_2 a0_3 a0_4 a0_5 a0_6 a0_7 a0_8 a0_9 a0_10 _ hF
        simp (maxSteps := 999999) (disch := first | exact D (by decide) | exact K (by kernel_rfl)) only [E, EE, ↓reduceIte, simprocAttr, xk B11 [3, 2, 3, 2, 2, 1, 2] .sk rfl, hc3, h5, h6]
        try simp only [NM, EE] at hJ
        exact hJ
noncomputable def f11_ai10rzi (k : Nat) (a0 a0_1 a0_2 a0_3 a0_4 a0_5 a0_6 a0_7 a0_8 a0_9 : Int) (a0_10 : List Int) (a1 : Int) : Option R11_ai10rzi := match k with | 0 => none | k + 1 => f11_ai10rzi_e k a0 a0_1 a0_2 a0_3 a0_4 a0_5 a0_6 a0_7 a0_8 a0_9 a0_10 a1
theorem f11_ai10rzi_ok (k : Nat) (a0 a0_1 a0_2 a0_3 a0_4 a0_5 a0_6 a0_7 a0_8 a0_9 : Int) (a0_10 : List Int) (a1 : Int) (r : R11_ai10rzi) (hF : f11_ai10rzi k a0 a0_1 a0_2 a0_3 a0_4 a0_5 a0_6 a0_7 a0_8 a0_9 a0_10 a1 = some r) : CV k 11 [V.agg [V.p (Value.int .i64 a0), V.p (Value.int .i64 a0_1), V.p (Value.int .u32 a0_2), V.p (Value.int .i64 a0_3), V.p (Value.int .i64 a0_4), V.p (Value.int .i64 a0_5), V.p (Value.int .i64 a0_6), V.p (Value.int .i64 a0_7), V.p (Value.int .i64 a0_8), V.p (Value.int .i64 a0_9), V.sl 1 (rowsOf (encI .u8) a0_10)], V.p (Value.int .i64 a1)] [] = some r.st := by
  cases k with
  | zero => cases hF
  | succ k =>
    unfold CV
    rw [ev_call (F := Try.f11) (c := (nav B11 [])) rfl Try.func11 rfl rfl rfl rfl]
    exact f11_ai10rzi_e_ok k a0 a0_1 a0_2 a0_3 a0_4 a0_5 a0_6 a0_7 a0_8 a0_9 a0_10 a1 r hF
-- f38_rr: f38 slices.Equal[[]byte,byte]
inductive R38_rr where
  | o0 (y : Bool)
noncomputable def R38_rr.st : R38_rr → V × List O × List O
  | .o0 y => (V.p (Value.bool y), [], [])
inductive R38_rr_l2 where
  | o0 (y : Bool)
  | o1 (y y_1 : List Int) (y_2 y_3 : Int)
  | o2 (y y_1 : List Int) (y_2 y_3 : Int) (y_4 : Bool)
noncomputable def R38_rr_l2.st : R38_rr_l2 → Out × St
  | .o0 y => (.ret, ({ n := 26, F := [(4, V.p (Value.bool y))], M := [] } : St))
  | .o1 y y_1 y_2 y_3 => (.norm, ({ n := 26, F := [(0, V.sl 1 (rowsOf (encI .u8) y)), (1, V.sl 1 (rowsOf (encI .u8) y_1)), (12, V.p (Value.int .i64 y_2)), (13, V.p (Value.int .i64 y_3))], M := [] } : St))
  | .o2 y y_1 y_2 y_3 y_4 => (.exit 0, ({ n := 26, F := [(0, V.sl 1 (rowsOf (encI .u8) y)), (1, V.sl 1 (rowsOf (encI .u8) y_1)), (12, V.p (Value.int .i64 y_2)), (13, V.p (Value.int .i64 y_3)), (14, V.p (Value.bool y_4))], M := [] } : St))
noncomputable def f38_rr_l2_j2 (k : Nat) (x0 x1 : List Int) (x12 x13 : Int) (x24 : Bool) : Option R38_rr_l2 :=
  some (R38_rr_l2.o1 x0 x1 x12 (IntKind.i64.wrap (x13 + (1 : Int))))
theorem f38_rr_l2_j2_ok (k : Nat) (x0 x1 : List Int) (x12 x13 : Int) (x24 : Bool) (r : R38_rr_l2) (hF : f38_rr_l2_j2 k x0 x1 x12 x13 x24 = some r) : EX 38 k (nav B38 [2, 2, 2, 1, 2, 2, 1, 2, 2]) ({ n := 26, F := [(0, V.sl 1 (rowsOf (encI .u8) x0)), (1, V.sl 1 (rowsOf (encI .u8) x1)), (12, V.p (Value.int .i64 x12)), (13, V.p (Value.int .i64 x13)), (24, V.p (Value.bool x24))], M := [] } : St) = some r.st := by
  unfold f38_rr_l2_j2 at hF
  cases hF
  simp (maxSteps := 999999) (disch := first | exact D (by decide) | exact K (by kernel_rfl)) only [E, EE, ↓reduceIte, simprocAttr, show (nav B38 [2, 2, 2, 1, 2, 2, 1, 2, 2]) = Code.region 8 _ false from rfl, hk_38_8, hz_38_8, hs_38_8, R38_rr_l2.st]
noncomputable def f38_rr_l2_j1 (k : Nat) (x0 x1 : List Int) (x12 x13 : Int) (x14 : Bool) : Option R38_rr_l2 :=
  ifE ((0 : Int) ≤ x13) (
    Option.bind (x0[(Int.toNat x13)]?) fun v2 =>
      Option.bind (x1[(Int.toNat x13)]?) fun v4 =>
        cond ((v2 != v4))
          (some (R38_rr_l2.o0 false))
          (f38_rr_l2_j2 k x0 x1 x12 x13 false))
theorem f38_rr_l2_j1_ok (k : Nat) (x0 x1 : List Int) (x12 x13 : Int) (x14 : Bool) (r : R38_rr_l2) (hF : f38_rr_l2_j1 k x0 x1 x12 x13 x14 = some r) : EX 38 k (nav B38 [2, 2, 1, 2, 2, 1, 2, 2]) ({ n := 26, F := [(0, V.sl 1 (rowsOf (encI .u8) x0)), (1, V.sl 1 (rowsOf (encI .u8) x1)), (12, V.p (Value.int .i64 x12)), (13, V.p (Value.int .i64 x13)), (14, V.p (Value.bool x14))], M := [] } : St) = some r.st := by
  unfold f38_rr_l2_j1 at hF
  replace hF := ifE_some.1 hF
  obtain ⟨h1, hF⟩ := hF
  replace hF := Option.bind_eq_some_iff.1 hF
  obtain ⟨v2, h3, hF⟩ := hF
  replace hF := Option.bind_eq_some_iff.1 hF
  obtain ⟨v4, h5, hF⟩ := hF
  simp (maxSteps := 999999) (disch := first | exact D (by decide) | exact K (by kernel_rfl)) only [E, EE, ↓reduceIte, simprocAttr, xk B38 [2, 2, 1, 2, 2, 1, 2, 2] .sq rfl, xk B38 [1, 2, 2, 1, 2, 2, 1, 2, 2] (.bk 1) rfl, xk B38 [2, 1, 2, 2, 1, 2, 2, 1, 2, 2] .sq rfl, show (nav B38 [1, 2, 1, 2, 2, 1, 2, 2, 1, 2, 2]) = Code.region 5 _ false from rfl, hk_38_5, hz_38_5, hs_38_5, xk B38 [2, 2, 1, 2, 2, 1, 2, 2, 1, 2, 2] .sq rfl, show (nav B38 [1, 2, 2, 1, 2, 2, 1, 2, 2, 1, 2, 2]) = Code.region 6 _ true from rfl, hk_38_6, hz_38_6, hs_38_6, indexAddrV, u_23, i_23, is_23, ib_23, iz_23, u_5, i_5, is_5, ib_5, iz_5, encI_eq, xk B38 [2, 2, 2, 1, 2, 2, 1, 2, 2, 1, 2, 2] (.cd 24) rfl, h1, h3, h5]
  replace hF := cond_some hF
  rcases hF with ⟨h6, hF⟩ | ⟨h6, hF⟩
  · cases hF
    simp (maxSteps := 999999) (disch := first | exact D (by decide) | exact K (by kernel_rfl)) only [E, EE, ↓reduceIte, simprocAttr, xk B38 [2, 2, 2, 2, 1, 2, 2, 1, 2, 2, 1, 2, 2] .sq rfl, show (nav B38 [1, 2, 2, 2, 2, 1, 2, 2, 1, 2, 2, 1, 2, 2]) = Code.region 7 _ false from rfl, hk_38_7, hz_38_7, hs_38_7, xk B38 [2, 2, 2, 2, 2, 1, 2, 2, 1, 2, 2, 1, 2, 2] .rt rfl, R38_rr_l2.st, h1, h3, h5, h6]
  · have hJ := f38_rr_l2_j2_ok k x0 x1 x12 x13 false _ hF
    simp (maxSteps := 999999) (disch := first | exact D (by decide) | exact K (by kernel_rfl)) only [E, EE, ↓reduceIte, simprocAttr, xk B38 [3, 2, 2, 2, 1, 2, 2, 1, 2, 2, 1, 2, 2] .sk rfl, h1, h3, h5, h6]
    try simp only [NM, EE] at hJ
    exact hJ
noncomputable def f38_rr_l2_b (k : Nat) (x0 x1 : List Int) (x12 x13 : Int) : Option R38_rr_l2 :=
  cond ((decide (x13 < x12)))
    (f38_rr_l2_j1 k x0 x1 x12 x13 true)
    (some (R38_rr_l2.o2 x0 x1 x12 x13 false))
theorem f38_rr_l2_b_ok (k : Nat) (x0 x1 : List Int) (x12 x13 : Int) (r : R38_rr_l2) (hF : f38_rr_l2_b k x0 x1 x12 x13 = some r) : EX 38 k (nav B38 [1, 2, 2, 1, 2, 2]) ({ n := 26, F := [(0, V.sl 1 (rowsOf (encI .u8) x0)), (1, V.sl 1 (rowsOf (encI .u8) x1)), (12, V.p (Value.int .i64 x12)), (13, V.p (Value.int .i64 x13))], M := [] } : St) = some r.st := by
  unfold f38_rr_l2_b at hF
  simp (maxSteps := 999999) (disch := first | exact D (by decide) | exact K (by kernel_rfl)) only [E, EE, ↓reduceIte, simprocAttr, xk B38 [1, 2, 2, 1, 2, 2] .sq rfl, show (nav B38 [1, 1, 2, 2, 1, 2, 2]) = Code.region 4 _ false from rfl, hk_38_4, hz_38_4, hs_38_4, xk B38 [2, 1, 2, 2, 1, 2, 2] .sq rfl, xk B38 [1, 2, 1, 2, 2, 1, 2, 2] (.cd 14) rfl]
  replace hF := cond_some hF
  rcases hF with ⟨h1, hF⟩ | ⟨h1, hF⟩
  · have hJ := f38_rr_l2_j1_ok k x0 x1 x12 x13 true _ hF
    simp (maxSteps := 999999) (disch := first | exact D (by decide) | exact K (by kernel_rfl)) only [E, EE, ↓reduceIte, simprocAttr, xk B38 [2, 1, 2, 1, 2, 2, 1, 2, 2] .sk rfl, h1]
    try simp only [NM, EE] at hJ
    exact hJ
  · cases hF
    simp (maxSteps := 999999) (disch := first | exact D (by decide) | exact K (by kernel_rfl)) only [E, EE, ↓reduceIte, simprocAttr, xk B38 [3, 1, 2, 1, 2, 2, 1, 2, 2] (.ex 0) rfl, R38_rr_l2.st, h1]
noncomputable def f38_rr_l2 (k : Nat) : Nat → (List Int) → (List Int) → Int → Int → Option R38_rr_l2
  | 0, _, _, _, _ => none
  | n + 1, x0, x1, x12, x13 => Option.bind (f38_rr_l2_b k x0 x1 x12 x13) fun o =>
    match o with
    | .o0 y => some (.o0 y)
    | .o1 y y_1 y_2 y_3 => f38_rr_l2 k n y y_1 y_2 y_3
    | .o2 y y_1 y_2 y_3 y_4 => some (.o2 y y_1 y_2 y_3 y_4)
theorem f38_rr_l2_ok (k n : Nat) : ∀ (x0 x1 : List Int) (x12 x13 : Int) (r : R38_rr_l2) (hF : f38_rr_l2 k n x0 x1 x12 x13 = some r) (σ : St) (hσ : headR (hints.head 38 4) (hints.canon 38 4) σ = some ({ n := 26, F := [(0, V.sl 1 (rowsOf (encI .u8) x0)), (1, V.sl 1 (rowsOf (encI .u8) x1)), (12, V.p (Value.int .i64 x12)), (13, V.p (Value.int .i64 x13))], M := [] } : St)), LP 38 k (nav B38 [1, 2, 2, 1, 2, 2]) n σ = some r.st := by
  induction n with
  | zero => intro x0 x1 x12 x13 r hF; cases hF
  | succ n ih =>
    intro x0 x1 x12 x13 r hF σ hσ
    rw [f38_rr_l2] at hF
    obtain ⟨o, h, hF⟩ := Option.bind_eq_some_iff.1 hF
    have hB := f38_rr_l2_b_ok k x0 x1 x12 x13 o h
    unfold LP at ih ⊢
    unfold EX at hB
    rw [loopK_succ, show firstReg (nav B38 [1, 2, 2, 1, 2, 2]) = 4 from rfl, hσ, headK_some, hB]
    cases o with
    | o0 y => cases hF; rfl
    | o1 y y_1 y_2 y_3 =>
      refine ih y y_1 y_2 y_3 r hF _ ?_
      simp (maxSteps := 999999) (disch := first | exact D (by decide) | exact K (by kernel_rfl)) only [E, EE, ↓reduceIte, simprocAttr, hh_38_4, hc_38_4]
    | o2 y y_1 y_2 y_3 y_4 => cases hF; rfl
noncomputable def f38_rr_j3 (k : Nat) (x0 x1 : List Int) (x12 x13 : Int) (x14 : Bool) : Option R38_rr :=
  some (R38_rr.o0 true)
theorem f38_rr_j3_ok (k : Nat) (x0 x1 : List Int) (x12 x13 : Int) (x14 : Bool) (r : R38_rr) (hF : f38_rr_j3 k x0 x1 x12 x13 x14 = some r) : finK Try.prog Try.f38 0 (EX 38 k (nav B38 [2, 2, 2]) ({ n := 26, F := [(0, V.sl 1 (rowsOf (encI .u8) x0)), (1, V.sl 1 (rowsOf (encI .u8) x1)), (12, V.p (Value.int .i64 x12)), (13, V.p (Value.int .i64 x13)), (14, V.p (Value.bool x14))], M := [] } : St)) = some r.st := by
  unfold f38_rr_j3 at hF
  cases hF
  simp (maxSteps := 999999) (disch := first | exact D (by decide) | exact K (by kernel_rfl)) only [E, EE, ↓reduceIte, simprocAttr, xk B38 [2, 2, 2] .sq rfl, show (nav B38 [1, 2, 2, 2]) = Code.region 9 _ false from rfl, hk_38_9, hz_38_9, hs_38_9, xk B38 [2, 2, 2, 2] .rt rfl, finK_norm, finK_ret, fin38, R38_rr.st]
noncomputable def f38_rr_j1 (k : Nat) (x0 x1 : List Int) (x10 : Bool) : Option R38_rr :=
  Option.bind (f38_rr_l2 k k x0 x1 ((List.length x0) : Int) 0) fun o1 =>
    match o1 with
    | .o0 v4 =>
      some (R38_rr.o0 v4)
    | .o1 _ _ _ _ =>
      none
    | .o2 v5 v6 v7 v8 v9 =>
      f38_rr_j3 k v5 v6 v7 v8 v9
theorem f38_rr_j1_ok (k : Nat) (x0 x1 : List Int) (x10 : Bool) (r : R38_rr) (hF : f38_rr_j1 k x0 x1 x10 = some r) : finK Try.prog Try.f38 0 (EX 38 k (nav B38 [2, 2]) ({ n := 26, F := [(0, V.sl 1 (rowsOf (encI .u8) x0)), (1, V.sl 1 (rowsOf (encI .u8) x1)), (10, V.p (Value.bool x10))], M := [] } : St)) = some r.st := by
  unfold f38_rr_j1 at hF
  replace hF := Option.bind_eq_some_iff.1 hF
  obtain ⟨o1, h2, hF⟩ := hF
  have hc3 := f38_rr_l2_ok k k x0 x1 ((List.length x0) : Int) 0 _ h2
  simp (maxSteps := 999999) (disch := first | exact D (by decide) | exact K (by kernel_rfl)) only [E, EE, ↓reduceIte, simprocAttr, xk B38 [2, 2] .sq rfl, xk B38 [1, 2, 2] .sq rfl, show (nav B38 [1, 1, 2, 2]) = Code.region 3 _ false from rfl, hk_38_3, hz_38_3, hs_38_3, u_23, i_23, is_23, ib_23, iz_23, xk B38 [2, 1, 2, 2] (.bk 0) rfl, xk B38 [2, 2, 1, 2, 2] .lp rfl, hh_38_4, hc_38_4]
  (try simp only [NM, EE] at hc3)
  rw [hc3 _ (by simp (maxSteps := 999999) (disch := first | exact D (by decide) | exact K (by kernel_rfl)) only [E, EE, ↓reduceIte, simprocAttr, hh_38_4, hc_38_4])]
  clear hc3
  cases o1 with
  | o0 v4 =>
    (try dsimp only at hF)
    cases hF
    simp (maxSteps := 999999) (disch := first | exact D (by decide) | exact K (by kernel_rfl)) only [E, EE, ↓reduceIte, simprocAttr, R38_rr_l2.st, finK_norm, finK_ret, fin38, R38_rr.st]
  | o1 _ _ _ _ =>
    (try dsimp only at hF)
    cases hF
  | o2 v5 v6 v7 v8 v9 =>
    (try dsimp only at hF)
    have hJ := f38_rr_j3_ok k v5 v6 v7 v8 v9 _ hF
    simp (maxSteps := 999999) (disch := first | exact D (by decide) | exact K (by kernel_rfl)) only [E, EE, ↓reduceIte, simprocAttr, R38_rr_l2.st]
    try simp only [NM, EE] at hJ
    exact hJ
noncomputable def f38_rr_e (k : Nat) (a0 a1 : List Int) : Option R38_rr :=
  cond ((((List.length a0) : Int) != ((List.length a1) : Int)))
    (some (R38_rr.o0 false))
    (f38_rr_j1 k a0 a1 false)
theorem f38_rr_e_ok (k : Nat) (a0 a1 : List Int) (r : R38_rr) (hF : f38_rr_e k a0 a1 = some r) : finK Try.prog Try.f38 0 (EX 38 k (nav B38 []) ({ n := 26, F := [(0, V.sl 1 (rowsOf (encI .u8) a0)), (1, V.sl 1 (rowsOf (encI .u8) a1))], M := [] } : St)) = some r.st := by
  unfold f38_rr_e at hF
  simp (maxSteps := 999999) (disch := first | exact D (by decide) | exact K (by kernel_rfl)) only [E, EE, ↓reduceIte, simprocAttr, xk B38 [] .sq rfl, show (nav B38 [1]) = Code.region 0 _ false from rfl, hk_38_0, hz_38_0, hs_38_0, xk B38 [2] .sq rfl, xk B38 [1, 2] .sq rfl, show (nav B38 [1, 1, 2]) = Code.region 1 _ false from rfl, hk_38_1, hz_38_1, hs_38_1, u_23, i_23, is_23, ib_23, iz_23, xk B38 [2, 1, 2] (.cd 10) rfl]
  replace hF := cond_some hF
  rcases hF with ⟨h1, hF⟩ | ⟨h1, hF⟩
  · cases hF
    simp (maxSteps := 999999) (disch := first | exact D (by decide) | exact K (by kernel_rfl)) only [E, EE, ↓reduceIte, simprocAttr, xk B38 [2, 2, 1, 2] .sq rfl, show (nav B38 [1, 2, 2, 1, 2]) = Code.region 2 _ false from rfl, hk_38_2, hz_38_2, hs_38_2, xk B38 [2, 2, 2, 1, 2] .rt rfl, finK_norm, finK_ret, fin38, R38_rr.st, h1]
  · have hJ := f38_rr_j1_ok k a0 a1 false _ hF
    simp (maxSteps := 999999) (disch := first | exact D (by decide) | exact K (by kernel_rfl)) only [E, EE, ↓reduceIte, simprocAttr, xk B38 [3, 2, 1, 2] .sk rfl, h1]
    try simp only [NM, EE] at hJ
    exact hJ
noncomputable def f38_rr (k : Nat) (a0 a1 : List Int) : Option R38_rr := match k with | 0 => none | k + 1 => f38_rr_e k a0 a1
theorem f38_rr_ok (k : Nat) (a0 a1 : List Int) (r : R38_rr) (hF : f38_rr k a0 a1 = some r) : CV k 38 [V.sl 1 (rowsOf (encI .u8) a0), V.sl 1 (rowsOf (encI .u8) a1)] [] = some r.st := by
  cases k with
  | zero => cases hF
  | succ k =>
    unfold CV
    rw [ev_call (F := Try.f38) (c := (nav B38 [])) rfl Try.func38 rfl rfl rfl rfl]
    exact f38_rr_e_ok k a0 a1 r hF
-- f33_rr: f33 heliograph/octet.Equal
inductive R33_rr where
  | o0 (y : Bool)
noncomputable def R33_rr.st : R33_rr → V × List O × List O
  | .o0 y => (V.p (Value.bool y), [], [])
noncomputable def f33_rr_e (k : Nat) (a0 a1 : List Int) : Option R33_rr :=
  Option.bind (f38_rr k a0 a1) fun o1 =>
    match o1 with
    | .o0 v4 =>
      some (R33_rr.o0 v4)
theorem f33_rr_e_ok (k : Nat) (a0 a1 : List Int) (r : R33_rr) (hF : f33_rr_e k a0 a1 = some r) : finK Try.prog Try.f33 0 (EX 33 k (nav B33 []) ({ n := 8, F := [(0, V.sl 1 (rowsOf (encI .u8) a0)), (1, V.sl 1 (rowsOf (encI .u8) a1))], M := [] } : St)) = some r.st := by
  unfold f33_rr_e at hF
  replace hF := Option.bind_eq_some_iff.1 hF
  obtain ⟨o1, h2, hF⟩ := hF
  have hc3 := f38_rr_ok k a0 a1 _ h2
  cases o1 with
  | o0 v4 =>
    (try dsimp only at hF)
    (try simp only [NM, EE, R38_rr.st] at hc3)
    cases hF
    simp (maxSteps := 999999) (disch := first | exact D (by decide) | exact K (by kernel_rfl)) only [E, EE, ↓reduceIte, simprocAttr, xk B33 [] .sq rfl, show (nav B33 [1]) = Code.region 0 _ false from rfl, hk_33_0, hz_33_0, hs_33_0, xk B33 [2] .sq rfl, show (nav B33 [1, 2]) = Code.region 1 _ false from rfl, hk_33_1, hz_33_1, hs_33_1, callStep, CL, gv, List.contains, xk B33 [2, 2] .rt rfl, finK_norm, finK_ret, fin33, R33_rr.st, hc3]
noncomputable def f33_rr (k : Nat) (a0 a1 : List Int) : Option R33_rr := match k with | 0 => none | k + 1 => f33_rr_e k a0 a1
theorem f33_rr_ok (k : Nat) (a0 a1 : List Int) (r : R33_rr) (hF : f33_rr k a0 a1 = some r) : CV k 33 [V.sl 1 (rowsOf (encI .u8) a0), V.sl 1 (rowsOf (encI .u8) a1)] [] = some r.st := by
  cases k with
  | zero => cases hF
  | succ k =>
    unfold CV
    rw [ev_call (F := Try.f33) (c := (nav B33 [])) rfl Try.func33 rfl rfl rfl rfl]
    exact f33_rr_e_ok k a0 a1 r hF
-- f39_ai10rz: f39 heliograph/bundle.same$1
inductive R39_ai10rz where
  | o0 (y y_1 y_2 y_3 y_4 y_5 y_6 y_7 y_8 y_9 : Int)
noncomputable def R39_ai10rz.st : R39_ai10rz → V × List O × List O
  | .o0 y y_1 y_2 y_3 y_4 y_5 y_6 y_7 y_8 y_9 => (V.agg [V.p (Value.int .i64 y), V.p (Value.int .i64 y_1), V.p (Value.int .i64 y_2), V.p (Value.int .i64 y_3), V.p (Value.int .i64 y_4), V.p (Value.int .i64 y_5), V.p (Value.int .i64 y_6), V.p (Value.int .i64 y_7), V.p (Value.int .i64 y_8), V.p (Value.int .u32 y_9)], [], [])
noncomputable def f39_ai10rz_e (k : Nat) (a0 a0_1 a0_2 a0_3 a0_4 a0_5 a0_6 a0_7 a0_8 a0_9 : Int) (a0_10 : List Int) : Option R39_ai10rz :=
  some (R39_ai10rz.o0 a0 a0_1 a0_3 a0_4 a0_5 a0_6 a0_7 a0_8 a0_9 a0_2)
theorem f39_ai10rz_e_ok (k : Nat) (a0 a0_1 a0_2 a0_3 a0_4 a0_5 a0_6 a0_7 a0_8 a0_9 : Int) (a0_10 : List Int) (r : R39_ai10rz) (hF : f39_ai10rz_e k a0 a0_1 a0_2 a0_3 a0_4 a0_5 a0_6 a0_7 a0_8 a0_9 a0_10 = some r) : finK Try.prog Try.f39 0 (EX 39 k (nav B39 []) ({ n := 24, F := [(0, V.agg [V.p (Value.int .i64 a0), V.p (Value.int .i64 a0_1), V.p (Value.int .u32 a0_2), V.p (Value.int .i64 a0_3), V.p (Value.int .i64 a0_4), V.p (Value.int .i64 a0_5), V.p (Value.int .i64 a0_6), V.p (Value.int .i64 a0_7), V.p (Value.int .i64 a0_8), V.p (Value.int .i64 a0_9), V.sl 1 (rowsOf (encI .u8) a0_10)])], M := [] } : St)) = some r.st := by
  unfold f39_ai10rz_e at hF
  cases hF
  simp (maxSteps := 999999) (disch := first | exact D (by decide) | exact K (by kernel_rfl)) only [E, EE, ↓reduceIte, simprocAttr, xk B39 [] .sq rfl, show (nav B39 [1]) = Code.region 0 _ false from rfl, hk_39_0, hz_39_0, hs_39_0, u_69, i_69, is_69, ib_69, iz_69, xk B39 [2] .sq rfl, show (nav B39 [1, 2]) = Code.region 1 _ false from rfl, hk_39_1, hz_39_1, hs_39_1, fieldAddrV, u_25, i_25, is_25, ib_25, iz_25, u_3, i_3, is_3, ib_3, iz_3, u_22, i_22, is_22, ib_22, iz_22, bl_69, xk B39 [2, 2] .rt rfl, finK_norm, finK_ret, fin39, R39_ai10rz.st]
noncomputable def f39_ai10rz (k : Nat) (a0 a0_1 a0_2 a0_3 a0_4 a0_5 a0_6 a0_7 a0_8 a0_9 : Int) (a0_10 : List Int) : Option R39_ai10rz := match k with | 0 => none | k + 1 => f39_ai10rz_e k a0 a0_1 a0_2 a0_3 a0_4 a0_5 a0_6 a0_7 a0_8 a0_9 a0_10
theorem f39_ai10rz_ok (k : Nat) (a0 a0_1 a0_2 a0_3 a0_4 a0_5 a0_6 a0_7 a0_8 a0_9 : Int) (a0_10 : List Int) (r : R39_ai10rz) (hF : f39_ai10rz k a0 a0_1 a0_2 a0_3 a0_4 a0_5 a0_6 a0_7 a0_8 a0_9 a0_10 = some r) : CV k 39 [V.agg [V.p (Value.int .i64 a0), V.p (Value.int .i64 a0_1), V.p (Value.int .u32 a0_2), V.p (Value.int .i64 a0_3), V.p (Value.int .i64 a0_4), V.p (Value.int .i64 a0_5), V.p (Value.int .i64 a0_6), V.p (Value.int .i64 a0_7), V.p (Value.int .i64 a0_8), V.p (Value.int .i64 a0_9), V.sl 1 (rowsOf (encI .u8) a0_10)]] [] = some r.st := by
  cases k with
  | zero => cases hF
  | succ k =>
    unfold CV
    rw [ev_call (F := Try.f39) (c := (nav B39 [])) rfl Try.func39 rfl rfl rfl rfl]
    exact f39_ai10rz_e_ok k a0 a0_1 a0_2 a0_3 a0_4 a0_5 a0_6 a0_7 a0_8 a0_9 a0_10 r hF
end Go.Proofs.YteggcokgkcfliaaV
