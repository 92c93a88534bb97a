/- What the program's functions answer: plain functions, and that the interpreter answers what they do. Written by a program of this session, out of the translation. -/
import Derived.Test.YtmogplhglcodjaaVP3
namespace Go.Proofs.YtmogplhglcodjaaV
open Go
set_option linter.unusedVariables false
set_option linter.unusedSimpArgs false
set_option maxRecDepth 8000
set_option maxHeartbeats 4000000
-- f29_yppp_lpppppbirbibirribibibirribibi: f29 (heliograph/plan.search).from$1
inductive R29_yppp_lpppppbirbibirribibibirribibi where
  | o0 (y : Int) (y_1 : List T44) (y_2 y_3 : Int) (y_4 : List T44) (y_5 : List Int) (y_6 y_7 y_8 y_9 : Int) (y_10 : List T44) (y_11 : List Int) (y_12 y_13 y_14 : Int)
noncomputable def R29_yppp_lpppppbirbibirribibibirribibi.st : R29_yppp_lpppppbirbibirribibibirribibi → V × List O × List O
  | .o0 y y_1 y_2 y_3 y_4 y_5 y_6 y_7 y_8 y_9 y_10 y_11 y_12 y_13 y_14 => (V.tup [], [O.lp 8 105 [(6, V.ptr 1000001 0), (9, V.ptr 1000002 0), (16, V.ptr 1000003 0), (17, V.ptr 1000004 0), (18, V.ptr 1000005 0)] [74, 75] (nav B8 [3, 2, 2, 1, 2, 2, 2, 2, 2]) (nav B8 [4, 2, 2, 1, 2, 2, 2, 2, 2]) 0 .norm, O.box 24 [V.p (Value.int .i64 y), V.sl 6 (rowsOf encT44 y_1)], O.box 3 [V.p (Value.int .i64 y_2)], O.box 54 [V.p (Value.int .i64 y_3), V.sl 6 (rowsOf encT44 y_4), V.sl 1 (rowsOf (encI .i64) y_5), V.p (Value.int .i64 y_6)], O.box 3 [V.p (Value.int .i64 y_7)], O.box 3 [V.p (Value.int .i64 y_8)], O.box 54 [V.p (Value.int .i64 y_9), V.sl 6 (rowsOf encT44 y_10), V.sl 1 (rowsOf (encI .i64) y_11), V.p (Value.int .i64 y_12)], O.box 3 [V.p (Value.int .i64 y_13)], O.box 3 [V.p (Value.int .i64 y_14)]], [])
inductive R29_yppp_lpppppbirbibirribibibirribibi_l1 where
  | o0 (y : List T44) (y_1 y_2 y_3 : Int) (y_4 : List T44) (y_5 y_6 : Int) (y_7 : List T44) (y_8 : List Int) (y_9 y_10 y_11 y_12 : Int) (y_13 : List T44) (y_14 : List Int) (y_15 y_16 y_17 : Int)
  | o1 (y : List T44) (y_1 y_2 : Int) (y_3 : Bool) (y_4 : Int) (y_5 : List T44) (y_6 y_7 : Int) (y_8 : List T44) (y_9 : List Int) (y_10 y_11 y_12 y_13 : Int) (y_14 : List T44) (y_15 : List Int) (y_16 y_17 y_18 : Int)
noncomputable def R29_yppp_lpppppbirbibirribibibirribibi_l1.st : R29_yppp_lpppppbirbibirribibibirribibi_l1 → Out × St
  | .o0 y y_1 y_2 y_3 y_4 y_5 y_6 y_7 y_8 y_9 y_10 y_11 y_12 y_13 y_14 y_15 y_16 y_17 => (.norm, ({ n := 51, F := [(0, V.yld 1000000), (1, V.ptr 1000006 0), (2, V.ptr 1000007 0), (3, V.ptr 1000008 0), (9, V.sl 6 (rowsOf encT44 y)), (10, V.p (Value.int .i64 y_1)), (11, V.p (Value.int .i64 y_2))], M := [(1000000, O.lp 8 105 [(6, V.ptr 1000001 0), (9, V.ptr 1000002 0), (16, V.ptr 1000003 0), (17, V.ptr 1000004 0), (18, V.ptr 1000005 0)] [74, 75] (nav B8 [3, 2, 2, 1, 2, 2, 2, 2, 2]) (nav B8 [4, 2, 2, 1, 2, 2, 2, 2, 2]) 0 .norm), (1000001, O.box 24 [V.p (Value.int .i64 y_3), V.sl 6 (rowsOf encT44 y_4)]), (1000002, O.box 3 [V.p (Value.int .i64 y_5)]), (1000003, O.box 54 [V.p (Value.int .i64 y_6), V.sl 6 (rowsOf encT44 y_7), V.sl 1 (rowsOf (encI .i64) y_8), V.p (Value.int .i64 y_9)]), (1000004, O.box 3 [V.p (Value.int .i64 y_10)]), (1000005, O.box 3 [V.p (Value.int .i64 y_11)]), (1000006, O.box 54 [V.p (Value.int .i64 y_12), V.sl 6 (rowsOf encT44 y_13), V.sl 1 (rowsOf (encI .i64) y_14), V.p (Value.int .i64 y_15)]), (1000007, O.box 3 [V.p (Value.int .i64 y_16)]), (1000008, O.box 3 [V.p (Value.int .i64 y_17)])] } : St))
  | .o1 y y_1 y_2 y_3 y_4 y_5 y_6 y_7 y_8 y_9 y_10 y_11 y_12 y_13 y_14 y_15 y_16 y_17 y_18 => (.exit 0, ({ n := 51, F := [(0, V.yld 1000000), (1, V.ptr 1000006 0), (2, V.ptr 1000007 0), (3, V.ptr 1000008 0), (9, V.sl 6 (rowsOf encT44 y)), (10, V.p (Value.int .i64 y_1)), (11, V.p (Value.int .i64 y_2)), (12, V.p (Value.bool y_3))], M := [(1000000, O.lp 8 105 [(6, V.ptr 1000001 0), (9, V.ptr 1000002 0), (16, V.ptr 1000003 0), (17, V.ptr 1000004 0), (18, V.ptr 1000005 0)] [74, 75] (nav B8 [3, 2, 2, 1, 2, 2, 2, 2, 2]) (nav B8 [4, 2, 2, 1, 2, 2, 2, 2, 2]) 0 .norm), (1000001, O.box 24 [V.p (Value.int .i64 y_4), V.sl 6 (rowsOf encT44 y_5)]), (1000002, O.box 3 [V.p (Value.int .i64 y_6)]), (1000003, O.box 54 [V.p (Value.int .i64 y_7), V.sl 6 (rowsOf encT44 y_8), V.sl 1 (rowsOf (encI .i64) y_9), V.p (Value.int .i64 y_10)]), (1000004, O.box 3 [V.p (Value.int .i64 y_11)]), (1000005, O.box 3 [V.p (Value.int .i64 y_12)]), (1000006, O.box 54 [V.p (Value.int .i64 y_13), V.sl 6 (rowsOf encT44 y_14), V.sl 1 (rowsOf (encI .i64) y_15), V.p (Value.int .i64 y_16)]), (1000007, O.box 3 [V.p (Value.int .i64 y_17)]), (1000008, O.box 3 [V.p (Value.int .i64 y_18)])] } : St))
noncomputable def f29_yppp_lpppppbirbibirribibibirribibi_l1_j2 (k : Nat) (x9 : List T44) (x10 x11 : Int) (x49 : Bool) (e1 : Int) (e1_1 : List T44) (e2 e3 : Int) (e3_1 : List T44) (e3_2 : List Int) (e3_3 e4 e5 e6 : Int) (e6_1 : List T44) (e6_2 : List Int) (e6_3 e7 e8 : Int) : Option R29_yppp_lpppppbirbibirribibibirribibi_l1 :=
  some (R29_yppp_lpppppbirbibirribibibirribibi_l1.o0 x9 x10 (IntKind.i64.wrap (x11 + (1 : Int))) e1 e1_1 e2 e3 e3_1 e3_2 e3_3 e4 e5 e6 e6_1 e6_2 e6_3 e7 e8)
theorem f29_yppp_lpppppbirbibirribibibirribibi_l1_j2_ok (k : Nat) (x9 : List T44) (x10 x11 : Int) (x49 : Bool) (e1 : Int) (e1_1 : List T44) (e2 e3 : Int) (e3_1 : List T44) (e3_2 : List Int) (e3_3 e4 e5 e6 : Int) (e6_1 : List T44) (e6_2 : List Int) (e6_3 e7 e8 : Int) (r : R29_yppp_lpppppbirbibirribibibirribibi_l1) (hF : f29_yppp_lpppppbirbibirribibibirribibi_l1_j2 k x9 x10 x11 x49 e1 e1_1 e2 e3 e3_1 e3_2 e3_3 e4 e5 e6 e6_1 e6_2 e6_3 e7 e8 = some r) : EX 29 k (nav B29 [2, 2, 2, 1, 2, 2]) ({ n := 51, F := [(0, V.yld 1000000), (1, V.ptr 1000006 0), (2, V.ptr 1000007 0), (3, V.ptr 1000008 0), (9, V.sl 6 (rowsOf encT44 x9)), (10, V.p (Value.int .i64 x10)), (11, V.p (Value.int .i64 x11)), (49, V.p (Value.bool x49))], M := [(1000000, O.lp 8 105 [(6, V.ptr 1000001 0), (9, V.ptr 1000002 0), (16, V.ptr 1000003 0), (17, V.ptr 1000004 0), (18, V.ptr 1000005 0)] [74, 75] (nav B8 [3, 2, 2, 1, 2, 2, 2, 2, 2]) (nav B8 [4, 2, 2, 1, 2, 2, 2, 2, 2]) 0 .norm), (1000001, O.box 24 [V.p (Value.int .i64 e1), V.sl 6 (rowsOf encT44 e1_1)]), (1000002, O.box 3 [V.p (Value.int .i64 e2)]), (1000003, O.box 54 [V.p (Value.int .i64 e3), V.sl 6 (rowsOf encT44 e3_1), V.sl 1 (rowsOf (encI .i64) e3_2), V.p (Value.int .i64 e3_3)]), (1000004, O.box 3 [V.p (Value.int .i64 e4)]), (1000005, O.box 3 [V.p (Value.int .i64 e5)]), (1000006, O.box 54 [V.p (Value.int .i64 e6), V.sl 6 (rowsOf encT44 e6_1), V.sl 1 (rowsOf (encI .i64) e6_2), V.p (Value.int .i64 e6_3)]), (1000007, O.box 3 [V.p (Value.int .i64 e7)]), (1000008, O.box 3 [V.p (Value.int .i64 e8)])] } : St) = some r.st := by
  unfold f29_yppp_lpppppbirbibirribibibirribibi_l1_j2 at hF
  cases hF
  simp (maxSteps := 999999) (disch := first | exact D (by decide) | exact K (by kernel_rfl)) only [E, EE, ↓reduceIte, simprocAttr, show (nav B29 [2, 2, 2, 1, 2, 2]) = Code.region 4 _ false from rfl, hk_29_4, hz_29_4, hs_29_4, R29_yppp_lpppppbirbibirribibibirribibi_l1.st]
noncomputable def f29_yppp_lpppppbirbibirribibibirribibi_l1_j1 (k : Nat) (x9 : List T44) (x10 x11 : Int) (x12 : Bool) (e1 : Int) (e1_1 : List T44) (e2 e3 : Int) (e3_1 : List T44) (e3_2 : List Int) (e3_3 e4 e5 e6 : Int) (e6_1 : List T44) (e6_2 : List Int) (e6_3 e7 e8 : Int) : Option R29_yppp_lpppppbirbibirribibibirribibi_l1 :=
  ifE ((0 : Int) ≤ x11) (
    Option.bind (x9[(Int.toNat x11)]?) fun v2 =>
      cond ((v2.From == e7))
        (
          Option.bind (e6_2[(Int.toNat x11)]?) fun v5 =>
            cond ((decide (e6_3 ≤ v5)))
              (
                cond ((decide (e8 < v2.End)))
                  (
                    Option.bind (f999999999_iiy_lpppppbirbibirribibi k x11 ((IntKind.i64.wrap ((IntKind.i64.wrap ((if v2.Start > e8 then v2.Start else e8) + v2.Delay)) + (1 : Int)))) e1 e1_1 e2 e3 e3_1 e3_2 e3_3 e4 e5) fun o9 =>
                      match o9 with
                      | .o0 v12 v13 v14 v15 v16 v17 v18 v19 v20 =>
                        f29_yppp_lpppppbirbibirribibibirribibi_l1_j2 k x9 x10 x11 false v12 v13 v14 v15 v16 v17 v18 v19 v20 e6 e6_1 e6_2 e6_3 e7 e8)
                  (f29_yppp_lpppppbirbibirribibibirribibi_l1_j2 k x9 x10 x11 false e1 e1_1 e2 e3 e3_1 e3_2 e3_3 e4 e5 e6 e6_1 e6_2 e6_3 e7 e8))
              (f29_yppp_lpppppbirbibirribibibirribibi_l1_j2 k x9 x10 x11 false e1 e1_1 e2 e3 e3_1 e3_2 e3_3 e4 e5 e6 e6_1 e6_2 e6_3 e7 e8))
        (f29_yppp_lpppppbirbibirribibibirribibi_l1_j2 k x9 x10 x11 false e1 e1_1 e2 e3 e3_1 e3_2 e3_3 e4 e5 e6 e6_1 e6_2 e6_3 e7 e8))
theorem f29_yppp_lpppppbirbibirribibibirribibi_l1_j1_ok (k : Nat) (x9 : List T44) (x10 x11 : Int) (x12 : Bool) (e1 : Int) (e1_1 : List T44) (e2 e3 : Int) (e3_1 : List T44) (e3_2 : List Int) (e3_3 e4 e5 e6 : Int) (e6_1 : List T44) (e6_2 : List Int) (e6_3 e7 e8 : Int) (r : R29_yppp_lpppppbirbibirribibibirribibi_l1) (hF : f29_yppp_lpppppbirbibirribibibirribibi_l1_j1 k x9 x10 x11 x12 e1 e1_1 e2 e3 e3_1 e3_2 e3_3 e4 e5 e6 e6_1 e6_2 e6_3 e7 e8 = some r) : EX 29 k (nav B29 [2, 2, 1, 2, 2]) ({ n := 51, F := [(0, V.yld 1000000), (1, V.ptr 1000006 0), (2, V.ptr 1000007 0), (3, V.ptr 1000008 0), (9, V.sl 6 (rowsOf encT44 x9)), (10, V.p (Value.int .i64 x10)), (11, V.p (Value.int .i64 x11)), (12, V.p (Value.bool x12))], M := [(1000000, O.lp 8 105 [(6, V.ptr 1000001 0), (9, V.ptr 1000002 0), (16, V.ptr 1000003 0), (17, V.ptr 1000004 0), (18, V.ptr 1000005 0)] [74, 75] (nav B8 [3, 2, 2, 1, 2, 2, 2, 2, 2]) (nav B8 [4, 2, 2, 1, 2, 2, 2, 2, 2]) 0 .norm), (1000001, O.box 24 [V.p (Value.int .i64 e1), V.sl 6 (rowsOf encT44 e1_1)]), (1000002, O.box 3 [V.p (Value.int .i64 e2)]), (1000003, O.box 54 [V.p (Value.int .i64 e3), V.sl 6 (rowsOf encT44 e3_1), V.sl 1 (rowsOf (encI .i64) e3_2), V.p (Value.int .i64 e3_3)]), (1000004, O.box 3 [V.p (Value.int .i64 e4)]), (1000005, O.box 3 [V.p (Value.int .i64 e5)]), (1000006, O.box 54 [V.p (Value.int .i64 e6), V.sl 6 (rowsOf encT44 e6_1), V.sl 1 (rowsOf (encI .i64) e6_2), V.p (Value.int .i64 e6_3)]), (1000007, O.box 3 [V.p (Value.int .i64 e7)]), (1000008, O.box 3 [V.p (Value.int .i64 e8)])] } : St) = some r.st := by
  unfold f29_yppp_lpppppbirbibirribibibirribibi_l1_j1 at hF
  replace hF := ifE_some.1 hF
  obtain ⟨h1, hF⟩ := hF
  replace hF := Option.bind_eq_some_iff.1 hF
  obtain ⟨v2, h3, hF⟩ := hF
  simp (maxSteps := 999999) (disch := first | exact D (by decide) | exact K (by kernel_rfl)) only [E, EE, ↓reduceIte, simprocAttr, xk B29 [2, 2, 1, 2, 2] .sq rfl, xk B29 [1, 2, 2, 1, 2, 2] (.bk 1) rfl, xk B29 [2, 1, 2, 2, 1, 2, 2] .sq rfl, show (nav B29 [1, 2, 1, 2, 2, 1, 2, 2]) = Code.region 2 _ false from rfl, hk_29_2, hz_29_2, hs_29_2, indexAddrV, u_22, i_22, is_22, ib_22, iz_22, u_44, i_44, is_44, ib_44, iz_44, encT44_eq, xk B29 [2, 2, 1, 2, 2, 1, 2, 2] .sq rfl, show (nav B29 [1, 2, 2, 1, 2, 2, 1, 2, 2]) = Code.region 3 _ true from rfl, hk_29_3, hz_29_3, hs_29_3, fieldAddrV, u_3, i_3, is_3, ib_3, iz_3, h1, h3]
  replace hF := cond_some hF
  rcases hF with ⟨h4, hF⟩ | ⟨h4, hF⟩
  · replace hF := Option.bind_eq_some_iff.1 hF
    obtain ⟨v5, h6, hF⟩ := hF
    simp (maxSteps := 999999) (disch := first | exact D (by decide) | exact K (by kernel_rfl)) only [E, EE, ↓reduceIte, simprocAttr, fieldAddrV, u_54, i_54, is_54, ib_54, iz_54, u_3, i_3, is_3, ib_3, iz_3, u_25, i_25, is_25, ib_25, iz_25, indexAddrV, encI_eq, h1, h3, h4, h6]
    replace hF := cond_some hF
    rcases hF with ⟨h7, hF⟩ | ⟨h7, hF⟩
    · simp (maxSteps := 999999) (disch := first | exact D (by decide) | exact K (by kernel_rfl)) only [E, EE, ↓reduceIte, simprocAttr, u_3, i_3, is_3, ib_3, iz_3, fieldAddrV, u_44, i_44, is_44, ib_44, iz_44, h1, h3, h4, h6, h7]
      replace hF := cond_some hF
      rcases hF with ⟨h8, hF⟩ | ⟨h8, hF⟩
      · replace hF := Option.bind_eq_some_iff.1 hF
        obtain ⟨o9, h10, hF⟩ := hF
        have hc11 := f999999999_iiy_lpppppbirbibirribibi_ok k x11 ((IntKind.i64.wrap ((IntKind.i64.wrap ((if v2.Start > e8 then v2.Start else e8) + v2.Delay)) + (1 : Int)))) e1 e1_1 e2 e3 e3_1 e3_2 e3_3 e4 e5 _ h10
        cases o9 with
        | o0 v12 v13 v14 v15 v16 v17 v18 v19 v20 =>
          (try dsimp only at hF)
          (try simp only [NM, EE, R999999999_iiy_lpppppbirbibirribibi.st] at hc11)
          have hJ := f29_yppp_lpppppbirbibirribibibirribibi_l1_j2_ok k x9 x10 x11 false v12 v13 v14 v15 v16 v17 v18 v19 v20 e6 e6_1 e6_2 e6_3 e7 e8 _ hF
          simp (maxSteps := 999999) (disch := first | exact D (by decide) | exact K (by kernel_rfl)) only [E, EE, ↓reduceIte, simprocAttr, u_3, i_3, is_3, ib_3, iz_3, fieldAddrV, u_44, i_44, is_44, ib_44, iz_44, minmaxV, minmaxGo, callStep, CL, gv, List.contains, xk B29 [2, 2, 2, 1, 2, 2, 1, 2, 2] (.cd 49) rfl, xk B29 [3, 2, 2, 2, 1, 2, 2, 1, 2, 2] .sk rfl, h1, h3, h4, h6, h7, h8, hc11]
          try simp only [NM, EE] at hJ
          exact hJ
      · have hJ := f29_yppp_lpppppbirbibirribibibirribibi_l1_j2_ok k x9 x10 x11 false e1 e1_1 e2 e3 e3_1 e3_2 e3_3 e4 e5 e6 e6_1 e6_2 e6_3 e7 e8 _ hF
        simp (maxSteps := 999999) (disch := first | exact D (by decide) | exact K (by kernel_rfl)) only [E, EE, ↓reduceIte, simprocAttr, xk B29 [2, 2, 2, 1, 2, 2, 1, 2, 2] (.cd 49) rfl, xk B29 [3, 2, 2, 2, 1, 2, 2, 1, 2, 2] .sk rfl, h1, h3, h4, h6, h7, h8]
        try simp only [NM, EE] at hJ
        exact hJ
    · have hJ := f29_yppp_lpppppbirbibirribibibirribibi_l1_j2_ok k x9 x10 x11 false e1 e1_1 e2 e3 e3_1 e3_2 e3_3 e4 e5 e6 e6_1 e6_2 e6_3 e7 e8 _ hF
      simp (maxSteps := 999999) (disch := first | exact D (by decide) | exact K (by kernel_rfl)) only [E, EE, ↓reduceIte, simprocAttr, xk B29 [2, 2, 2, 1, 2, 2, 1, 2, 2] (.cd 49) rfl, xk B29 [3, 2, 2, 2, 1, 2, 2, 1, 2, 2] .sk rfl, h1, h3, h4, h6, h7]
      try simp only [NM, EE] at hJ
      exact hJ
  · have hJ := f29_yppp_lpppppbirbibirribibibirribibi_l1_j2_ok k x9 x10 x11 false e1 e1_1 e2 e3 e3_1 e3_2 e3_3 e4 e5 e6 e6_1 e6_2 e6_3 e7 e8 _ hF
    simp (maxSteps := 999999) (disch := first | exact D (by decide) | exact K (by kernel_rfl)) only [E, EE, ↓reduceIte, simprocAttr, xk B29 [2, 2, 2, 1, 2, 2, 1, 2, 2] (.cd 49) rfl, xk B29 [3, 2, 2, 2, 1, 2, 2, 1, 2, 2] .sk rfl, h1, h3, h4]
    try simp only [NM, EE] at hJ
    exact hJ
noncomputable def f29_yppp_lpppppbirbibirribibibirribibi_l1_b (k : Nat) (x9 : List T44) (x10 x11 e1 : Int) (e1_1 : List T44) (e2 e3 : Int) (e3_1 : List T44) (e3_2 : List Int) (e3_3 e4 e5 e6 : Int) (e6_1 : List T44) (e6_2 : List Int) (e6_3 e7 e8 : Int) : Option R29_yppp_lpppppbirbibirribibibirribibi_l1 :=
  cond ((decide (x11 < x10)))
    (f29_yppp_lpppppbirbibirribibibirribibi_l1_j1 k x9 x10 x11 true e1 e1_1 e2 e3 e3_1 e3_2 e3_3 e4 e5 e6 e6_1 e6_2 e6_3 e7 e8)
    (some (R29_yppp_lpppppbirbibirribibibirribibi_l1.o1 x9 x10 x11 false e1 e1_1 e2 e3 e3_1 e3_2 e3_3 e4 e5 e6 e6_1 e6_2 e6_3 e7 e8))
theorem f29_yppp_lpppppbirbibirribibibirribibi_l1_b_ok (k : Nat) (x9 : List T44) (x10 x11 e1 : Int) (e1_1 : List T44) (e2 e3 : Int) (e3_1 : List T44) (e3_2 : List Int) (e3_3 e4 e5 e6 : Int) (e6_1 : List T44) (e6_2 : List Int) (e6_3 e7 e8 : Int) (r : R29_yppp_lpppppbirbibirribibibirribibi_l1) (hF : f29_yppp_lpppppbirbibirribibibirribibi_l1_b k x9 x10 x11 e1 e1_1 e2 e3 e3_1 e3_2 e3_3 e4 e5 e6 e6_1 e6_2 e6_3 e7 e8 = some r) : EX 29 k (nav B29 [1, 2, 2]) ({ n := 51, F := [(0, V.yld 1000000), (1, V.ptr 1000006 0), (2, V.ptr 1000007 0), (3, V.ptr 1000008 0), (9, V.sl 6 (rowsOf encT44 x9)), (10, V.p (Value.int .i64 x10)), (11, V.p (Value.int .i64 x11))], M := [(1000000, O.lp 8 105 [(6, V.ptr 1000001 0), (9, V.ptr 1000002 0), (16, V.ptr 1000003 0), (17, V.ptr 1000004 0), (18, V.ptr 1000005 0)] [74, 75] (nav B8 [3, 2, 2, 1, 2, 2, 2, 2, 2]) (nav B8 [4, 2, 2, 1, 2, 2, 2, 2, 2]) 0 .norm), (1000001, O.box 24 [V.p (Value.int .i64 e1), V.sl 6 (rowsOf encT44 e1_1)]), (1000002, O.box 3 [V.p (Value.int .i64 e2)]), (1000003, O.box 54 [V.p (Value.int .i64 e3), V.sl 6 (rowsOf encT44 e3_1), V.sl 1 (rowsOf (encI .i64) e3_2), V.p (Value.int .i64 e3_3)]), (1000004, O.box 3 [V.p (Value.int .i64 e4)]), (1000005, O.box 3 [V.p (Value.int .i64 e5)]), (1000006, O.box 54 [V.p (Value.int .i64 e6), V.sl 6 (rowsOf encT44 e6_1), V.sl 1 (rowsOf (encI .i64) e6_2), V.p (Value.int .i64 e6_3)]), (1000007, O.box 3 [V.p (Value.int .i64 e7)]), (1000008, O.box 3 [V.p (Value.int .i64 e8)])] } : St) = some r.st := by
  unfold f29_yppp_lpppppbirbibirribibibirribibi_l1_b at hF
  simp (maxSteps := 999999) (disch := first | exact D (by decide) | exact K (by kernel_rfl)) only [E, EE, ↓reduceIte, simprocAttr, xk B29 [1, 2, 2] .sq rfl, show (nav B29 [1, 1, 2, 2]) = Code.region 1 _ false from rfl, hk_29_1, hz_29_1, hs_29_1, xk B29 [2, 1, 2, 2] .sq rfl, xk B29 [1, 2, 1, 2, 2] (.cd 12) rfl]
  replace hF := cond_some hF
  rcases hF with ⟨h1, hF⟩ | ⟨h1, hF⟩
  · have hJ := f29_yppp_lpppppbirbibirribibibirribibi_l1_j1_ok k x9 x10 x11 true e1 e1_1 e2 e3 e3_1 e3_2 e3_3 e4 e5 e6 e6_1 e6_2 e6_3 e7 e8 _ hF
    simp (maxSteps := 999999) (disch := first | exact D (by decide) | exact K (by kernel_rfl)) only [E, EE, ↓reduceIte, simprocAttr, xk B29 [2, 1, 2, 1, 2, 2] .sk rfl, h1]
    try simp only [NM, EE] at hJ
    exact hJ
  · cases hF
    simp (maxSteps := 999999) (disch := first | exact D (by decide) | exact K (by kernel_rfl)) only [E, EE, ↓reduceIte, simprocAttr, xk B29 [3, 1, 2, 1, 2, 2] (.ex 0) rfl, R29_yppp_lpppppbirbibirribibibirribibi_l1.st, h1]
noncomputable def f29_yppp_lpppppbirbibirribibibirribibi_l1 (k : Nat) : Nat → (List T44) → Int → Int → Int → (List T44) → Int → Int → (List T44) → (List Int) → Int → Int → Int → Int → (List T44) → (List Int) → Int → Int → Int → Option R29_yppp_lpppppbirbibirribibibirribibi_l1
  | 0, _, _, _, _, _, _, _, _, _, _, _, _, _, _, _, _, _, _ => none
  | n + 1, x9, x10, x11, e1, e1_1, e2, e3, e3_1, e3_2, e3_3, e4, e5, e6, e6_1, e6_2, e6_3, e7, e8 => Option.bind (f29_yppp_lpppppbirbibirribibibirribibi_l1_b k x9 x10 x11 e1 e1_1 e2 e3 e3_1 e3_2 e3_3 e4 e5 e6 e6_1 e6_2 e6_3 e7 e8) fun o =>
    match o with
    | .o0 y y_1 y_2 y_3 y_4 y_5 y_6 y_7 y_8 y_9 y_10 y_11 y_12 y_13 y_14 y_15 y_16 y_17 => f29_yppp_lpppppbirbibirribibibirribibi_l1 k n y y_1 y_2 y_3 y_4 y_5 y_6 y_7 y_8 y_9 y_10 y_11 y_12 y_13 y_14 y_15 y_16 y_17
    | .o1 y y_1 y_2 y_3 y_4 y_5 y_6 y_7 y_8 y_9 y_10 y_11 y_12 y_13 y_14 y_15 y_16 y_17 y_18 => some (.o1 y y_1 y_2 y_3 y_4 y_5 y_6 y_7 y_8 y_9 y_10 y_11 y_12 y_13 y_14 y_15 y_16 y_17 y_18)
theorem f29_yppp_lpppppbirbibirribibibirribibi_l1_ok (k n : Nat) : ∀ (x9 : List T44) (x10 x11 e1 : Int) (e1_1 : List T44) (e2 e3 : Int) (e3_1 : List T44) (e3_2 : List Int) (e3_3 e4 e5 e6 : Int) (e6_1 : List T44) (e6_2 : List Int) (e6_3 e7 e8 : Int) (r : R29_yppp_lpppppbirbibirribibibirribibi_l1) (hF : f29_yppp_lpppppbirbibirribibibirribibi_l1 k n x9 x10 x11 e1 e1_1 e2 e3 e3_1 e3_2 e3_3 e4 e5 e6 e6_1 e6_2 e6_3 e7 e8 = some r) (σ : St) (hσ : headR (hints.head 29 1) (hints.canon 29 1) σ = some ({ n := 51, F := [(0, V.yld 1000000), (1, V.ptr 1000006 0), (2, V.ptr 1000007 0), (3, V.ptr 1000008 0), (9, V.sl 6 (rowsOf encT44 x9)), (10, V.p (Value.int .i64 x10)), (11, V.p (Value.int .i64 x11))], M := [(1000000, O.lp 8 105 [(6, V.ptr 1000001 0), (9, V.ptr 1000002 0), (16, V.ptr 1000003 0), (17, V.ptr 1000004 0), (18, V.ptr 1000005 0)] [74, 75] (nav B8 [3, 2, 2, 1, 2, 2, 2, 2, 2]) (nav B8 [4, 2, 2, 1, 2, 2, 2, 2, 2]) 0 .norm), (1000001, O.box 24 [V.p (Value.int .i64 e1), V.sl 6 (rowsOf encT44 e1_1)]), (1000002, O.box 3 [V.p (Value.int .i64 e2)]), (1000003, O.box 54 [V.p (Value.int .i64 e3), V.sl 6 (rowsOf encT44 e3_1), V.sl 1 (rowsOf (encI .i64) e3_2), V.p (Value.int .i64 e3_3)]), (1000004, O.box 3 [V.p (Value.int .i64 e4)]), (1000005, O.box 3 [V.p (Value.int .i64 e5)]), (1000006, O.box 54 [V.p (Value.int .i64 e6), V.sl 6 (rowsOf encT44 e6_1), V.sl 1 (rowsOf (encI .i64) e6_2), V.p (Value.int .i64 e6_3)]), (1000007, O.box 3 [V.p (Value.int .i64 e7)]), (1000008, O.box 3 [V.p (Value.int .i64 e8)])] } : St)), LP 29 k (nav B29 [1, 2, 2]) n σ = some r.st := by
  induction n with
  | zero => intro x9 x10 x11 e1 e1_1 e2 e3 e3_1 e3_2 e3_3 e4 e5 e6 e6_1 e6_2 e6_3 e7 e8 r hF; cases hF
  | succ n ih =>
    intro x9 x10 x11 e1 e1_1 e2 e3 e3_1 e3_2 e3_3 e4 e5 e6 e6_1 e6_2 e6_3 e7 e8 r hF σ hσ
    rw [f29_yppp_lpppppbirbibirribibibirribibi_l1] at hF
    obtain ⟨o, h, hF⟩ := Option.bind_eq_some_iff.1 hF
    have hB := f29_yppp_lpppppbirbibirribibibirribibi_l1_b_ok k x9 x10 x11 e1 e1_1 e2 e3 e3_1 e3_2 e3_3 e4 e5 e6 e6_1 e6_2 e6_3 e7 e8 o h
    unfold LP at ih ⊢
    unfold EX at hB
    rw [loopK_succ, show firstReg (nav B29 [1, 2, 2]) = 1 from rfl, hσ, headK_some, hB]
    cases o with
    | o0 y y_1 y_2 y_3 y_4 y_5 y_6 y_7 y_8 y_9 y_10 y_11 y_12 y_13 y_14 y_15 y_16 y_17 =>
      refine ih y y_1 y_2 y_3 y_4 y_5 y_6 y_7 y_8 y_9 y_10 y_11 y_12 y_13 y_14 y_15 y_16 y_17 r hF _ ?_
      simp (maxSteps := 999999) (disch := first | exact D (by decide) | exact K (by kernel_rfl)) only [E, EE, ↓reduceIte, simprocAttr, hh_29_1, hc_29_1]
    | o1 y y_1 y_2 y_3 y_4 y_5 y_6 y_7 y_8 y_9 y_10 y_11 y_12 y_13 y_14 y_15 y_16 y_17 y_18 => cases hF; rfl
noncomputable def f29_yppp_lpppppbirbibirribibibirribibi_e (k : Nat) (e1 : Int) (e1_1 : List T44) (e2 e3 : Int) (e3_1 : List T44) (e3_2 : List Int) (e3_3 e4 e5 e6 : Int) (e6_1 : List T44) (e6_2 : List Int) (e6_3 e7 e8 : Int) : Option R29_yppp_lpppppbirbibirribibibirribibi :=
  Option.bind (f29_yppp_lpppppbirbibirribibibirribibi_l1 k k e6_1 ((List.length e6_1) : Int) 0 e1 e1_1 e2 e3 e3_1 e3_2 e3_3 e4 e5 e6 e6_1 e6_2 e6_3 e7 e8) fun o1 =>
    match o1 with
    | .o0 _ _ _ _ _ _ _ _ _ _ _ _ _ _ _ _ _ _ =>
      none
    | .o1 v4 v5 v6 v7 v8 v9 v10 v11 v12 v13 v14 v15 v16 v17 v18 v19 v20 v21 v22 =>
      some (R29_yppp_lpppppbirbibirribibibirribibi.o0 v8 v9 v10 v11 v12 v13 v14 v15 v16 v17 v18 v19 v20 v21 v22)
theorem f29_yppp_lpppppbirbibirribibibirribibi_e_ok (k : Nat) (e1 : Int) (e1_1 : List T44) (e2 e3 : Int) (e3_1 : List T44) (e3_2 : List Int) (e3_3 e4 e5 e6 : Int) (e6_1 : List T44) (e6_2 : List Int) (e6_3 e7 e8 : Int) (r : R29_yppp_lpppppbirbibirribibibirribibi) (hF : f29_yppp_lpppppbirbibirribibibirribibi_e k e1 e1_1 e2 e3 e3_1 e3_2 e3_3 e4 e5 e6 e6_1 e6_2 e6_3 e7 e8 = some r) : finK Try.prog Try.f29 9 (EX 29 k (nav B29 []) ({ n := 51, F := [(0, V.yld 1000000), (1, V.ptr 1000006 0), (2, V.ptr 1000007 0), (3, V.ptr 1000008 0)], M := [(1000000, O.lp 8 105 [(6, V.ptr 1000001 0), (9, V.ptr 1000002 0), (16, V.ptr 1000003 0), (17, V.ptr 1000004 0), (18, V.ptr 1000005 0)] [74, 75] (nav B8 [3, 2, 2, 1, 2, 2, 2, 2, 2]) (nav B8 [4, 2, 2, 1, 2, 2, 2, 2, 2]) 0 .norm), (1000001, O.box 24 [V.p (Value.int .i64 e1), V.sl 6 (rowsOf encT44 e1_1)]), (1000002, O.box 3 [V.p (Value.int .i64 e2)]), (1000003, O.box 54 [V.p (Value.int .i64 e3), V.sl 6 (rowsOf encT44 e3_1), V.sl 1 (rowsOf (encI .i64) e3_2), V.p (Value.int .i64 e3_3)]), (1000004, O.box 3 [V.p (Value.int .i64 e4)]), (1000005, O.box 3 [V.p (Value.int .i64 e5)]), (1000006, O.box 54 [V.p (Value.int .i64 e6), V.sl 6 (rowsOf encT44 e6_1), V.sl 1 (rowsOf (encI .i64) e6_2), V.p (Value.int .i64 e6_3)]), (1000007, O.box 3 [V.p (Value.int .i64 e7)]), (1000008, O.box 3 [V.p (Value.int .i64 e8)])] } : St)) = some r.st := by
  unfold f29_yppp_lpppppbirbibirribibibirribibi_e at hF
  replace hF := Option.bind_eq_some_iff.1 hF
  obtain ⟨o1, h2, hF⟩ := hF
  have hc3 := f29_yppp_lpppppbirbibirribibibirribibi_l1_ok k k e6_1 ((List.length e6_1) : Int) 0 e1 e1_1 e2 e3 e3_1 e3_2 e3_3 e4 e5 e6 e6_1 e6_2 e6_3 e7 e8 _ h2
  simp (maxSteps := 999999) (disch := first | exact D (by decide) | exact K (by kernel_rfl)) only [E, EE, ↓reduceIte, simprocAttr, xk B29 [] .sq rfl, show (nav B29 [1]) = Code.region 0 _ false from rfl, hk_29_0, hz_29_0, hs_29_0, fieldAddrV, u_54, i_54, is_54, ib_54, iz_54, u_24, i_24, is_24, ib_24, iz_24, u_22, i_22, is_22, ib_22, iz_22, xk B29 [2] (.bk 0) rfl, xk B29 [2, 2] .lp rfl, hh_29_1, hc_29_1]
  (try simp only [NM, EE] at hc3)
  rw [hc3 _ (by simp (maxSteps := 999999) (disch := first | exact D (by decide) | exact K (by kernel_rfl)) only [E, EE, ↓reduceIte, simprocAttr, hh_29_1, hc_29_1])]
  clear hc3
  cases o1 with
  | o0 _ _ _ _ _ _ _ _ _ _ _ _ _ _ _ _ _ _ =>
    (try dsimp only at hF)
    cases hF
  | o1 v4 v5 v6 v7 v8 v9 v10 v11 v12 v13 v14 v15 v16 v17 v18 v19 v20 v21 v22 =>
    (try dsimp only at hF)
    cases hF
    simp (maxSteps := 999999) (disch := first | exact D (by decide) | exact K (by kernel_rfl)) only [E, EE, ↓reduceIte, simprocAttr, R29_yppp_lpppppbirbibirribibibirribibi_l1.st, finK_norm, finK_ret, fin29, R29_yppp_lpppppbirbibirribibibirribibi.st]
noncomputable def f29_yppp_lpppppbirbibirribibibirribibi (k : Nat) (e1 : Int) (e1_1 : List T44) (e2 e3 : Int) (e3_1 : List T44) (e3_2 : List Int) (e3_3 e4 e5 e6 : Int) (e6_1 : List T44) (e6_2 : List Int) (e6_3 e7 e8 : Int) : Option R29_yppp_lpppppbirbibirribibibirribibi := match k with | 0 => none | k + 1 => f29_yppp_lpppppbirbibirribibibirribibi_e k e1 e1_1 e2 e3 e3_1 e3_2 e3_3 e4 e5 e6 e6_1 e6_2 e6_3 e7 e8
theorem f29_yppp_lpppppbirbibirribibibirribibi_ok (k : Nat) (e1 : Int) (e1_1 : List T44) (e2 e3 : Int) (e3_1 : List T44) (e3_2 : List Int) (e3_3 e4 e5 e6 : Int) (e6_1 : List T44) (e6_2 : List Int) (e6_3 e7 e8 : Int) (r : R29_yppp_lpppppbirbibirribibibirribibi) (hF : f29_yppp_lpppppbirbibirribibibirribibi k e1 e1_1 e2 e3 e3_1 e3_2 e3_3 e4 e5 e6 e6_1 e6_2 e6_3 e7 e8 = some r) : CV k 29 [V.yld 1000000, V.ptr 1000006 0, V.ptr 1000007 0, V.ptr 1000008 0] [O.lp 8 105 [(6, V.ptr 1000001 0), (9, V.ptr 1000002 0), (16, V.ptr 1000003 0), (17, V.ptr 1000004 0), (18, V.ptr 1000005 0)] [74, 75] (nav B8 [3, 2, 2, 1, 2, 2, 2, 2, 2]) (nav B8 [4, 2, 2, 1, 2, 2, 2, 2, 2]) 0 .norm, O.box 24 [V.p (Value.int .i64 e1), V.sl 6 (rowsOf encT44 e1_1)], O.box 3 [V.p (Value.int .i64 e2)], O.box 54 [V.p (Value.int .i64 e3), V.sl 6 (rowsOf encT44 e3_1), V.sl 1 (rowsOf (encI .i64) e3_2), V.p (Value.int .i64 e3_3)], O.box 3 [V.p (Value.int .i64 e4)], O.box 3 [V.p (Value.int .i64 e5)], O.box 54 [V.p (Value.int .i64 e6), V.sl 6 (rowsOf encT44 e6_1), V.sl 1 (rowsOf (encI .i64) e6_2), V.p (Value.int .i64 e6_3)], O.box 3 [V.p (Value.int .i64 e7)], O.box 3 [V.p (Value.int .i64 e8)]] = some r.st := by
  cases k with
  | zero => cases hF
  | succ k =>
    unfold CV
    rw [ev_call (F := Try.f29) (c := (nav B29 [])) rfl Try.func29 rfl rfl rfl rfl]
    exact f29_yppp_lpppppbirbibirribibibirribibi_e_ok k e1 e1_1 e2 e3 e3_1 e3_2 e3_3 e4 e5 e6 e6_1 e6_2 e6_3 e7 e8 r hF
-- f8_airzriiii: f8 heliograph/plan.Route
inductive R8_airzriiii where
  | o0 (y y_1 y_2 : Int)
noncomputable def R8_airzriiii.st : R8_airzriiii → V × List O × List O
  | .o0 y y_1 y_2 => (V.tup [V.p (Value.int .i64 y), V.p (Value.int .i64 y_1), V.p (Value.int .i64 y_2)], [], [])
noncomputable def f8_airzriiii_j4 (k : Nat) (x102 : Bool) (m17 m18 : Int) : Option R8_airzriiii :=
  some (R8_airzriiii.o0 m17 m18 0)
theorem f8_airzriiii_j4_ok (k : Nat) (x102 : Bool) (m17 m18 : Int) (r : R8_airzriiii) (hF : f8_airzriiii_j4 k x102 m17 m18 = some r) : finK Try.prog Try.f8 0 (EX 8 k (nav B8 [2, 2, 2, 2, 2, 2, 2]) ({ n := 105, F := [(17, V.ptr 17 0), (18, V.ptr 18 0), (102, V.p (Value.bool x102))], M := [(17, O.box 3 [V.p (Value.int .i64 m17)]), (18, O.box 3 [V.p (Value.int .i64 m18)])] } : St)) = some r.st := by
  unfold f8_airzriiii_j4 at hF
  cases hF
  simp (maxSteps := 999999) (disch := first | exact D (by decide) | exact K (by kernel_rfl)) only [E, EE, ↓reduceIte, simprocAttr, xk B8 [2, 2, 2, 2, 2, 2, 2] .sq rfl, show (nav B8 [1, 2, 2, 2, 2, 2, 2, 2]) = Code.region 16 _ true from rfl, hk_8_16, hz_8_16, hs_8_16, u_3, i_3, is_3, ib_3, iz_3, xk B8 [2, 2, 2, 2, 2, 2, 2, 2] .rt rfl, finK_norm, finK_ret, fin8, R8_airzriiii.st]
noncomputable def f8_airzriiii_j3 (k : Nat) (m17 m18 : Int) : Option R8_airzriiii :=
  cond ((decide (m17 < 0)))
    (some (R8_airzriiii.o0 0 0 4))
    (f8_airzriiii_j4 k false m17 m18)
theorem f8_airzriiii_j3_ok (k : Nat) (m17 m18 : Int) (r : R8_airzriiii) (hF : f8_airzriiii_j3 k m17 m18 = some r) : finK Try.prog Try.f8 0 (EX 8 k (nav B8 [2, 2, 2, 2, 2, 2]) ({ n := 105, F := [(17, V.ptr 17 0), (18, V.ptr 18 0)], M := [(17, O.box 3 [V.p (Value.int .i64 m17)]), (18, O.box 3 [V.p (Value.int .i64 m18)])] } : St)) = some r.st := by
  unfold f8_airzriiii_j3 at hF
  simp (maxSteps := 999999) (disch := first | exact D (by decide) | exact K (by kernel_rfl)) only [E, EE, ↓reduceIte, simprocAttr, xk B8 [2, 2, 2, 2, 2, 2] .sq rfl, xk B8 [1, 2, 2, 2, 2, 2, 2] .sq rfl, show (nav B8 [1, 1, 2, 2, 2, 2, 2, 2]) = Code.region 14 _ false from rfl, hk_8_14, hz_8_14, hs_8_14, u_3, i_3, is_3, ib_3, iz_3, xk B8 [2, 1, 2, 2, 2, 2, 2, 2] (.cd 102) rfl]
  replace hF := cond_some hF
  rcases hF with ⟨h1, hF⟩ | ⟨h1, hF⟩
  · cases hF
    simp (maxSteps := 999999) (disch := first | exact D (by decide) | exact K (by kernel_rfl)) only [E, EE, ↓reduceIte, simprocAttr, xk B8 [2, 2, 1, 2, 2, 2, 2, 2, 2] .sq rfl, show (nav B8 [1, 2, 2, 1, 2, 2, 2, 2, 2, 2]) = Code.region 15 _ false from rfl, hk_8_15, hz_8_15, hs_8_15, xk B8 [2, 2, 2, 1, 2, 2, 2, 2, 2, 2] .rt rfl, finK_norm, finK_ret, fin8, R8_airzriiii.st, h1]
  · have hJ := f8_airzriiii_j4_ok k false m17 m18 _ hF
    simp (maxSteps := 999999) (disch := first | exact D (by decide) | exact K (by kernel_rfl)) only [E, EE, ↓reduceIte, simprocAttr, xk B8 [3, 2, 1, 2, 2, 2, 2, 2, 2] .sk rfl, h1]
    try simp only [NM, EE] at hJ
    exact hJ
noncomputable def f8_airzriiii_j2 (k : Nat) (x1 : List Int) (x2 x4 x5 : Int) (x65 : Bool) (m6 : Int) (m6_1 : List T44) (m9 : Int) : Option R8_airzriiii :=
  Option.bind (f22_airrizii k m6 m6_1 x1 x5 x2 x4) fun o1 =>
    match o1 with
    | .o0 v4 v5 v6 v7 v8 v9 =>
      Option.bind (f29_yppp_lpppppbirbibirribibibirribibi k m6 m6_1 m9 m6 m6_1 x1 x5 (-1) 0 v4 v5 v6 v7 v8 v9) fun o10 =>
        match o10 with
        | .o0 v13 v14 v15 v16 v17 v18 v19 v20 v21 v22 v23 v24 v25 v26 v27 =>
          f8_airzriiii_j3 k v20 v21
theorem f8_airzriiii_j2_ok (k : Nat) (x1 : List Int) (x2 x4 x5 : Int) (x65 : Bool) (m6 : Int) (m6_1 : List T44) (m9 : Int) (r : R8_airzriiii) (hF : f8_airzriiii_j2 k x1 x2 x4 x5 x65 m6 m6_1 m9 = some r) : finK Try.prog Try.f8 0 (EX 8 k (nav B8 [2, 2, 2]) ({ n := 105, F := [(1, V.sl 1 (rowsOf (encI .i64) x1)), (2, V.p (Value.int .i64 x2)), (4, V.p (Value.int .i64 x4)), (5, V.p (Value.int .i64 x5)), (6, V.ptr 6 0), (9, V.ptr 9 0), (65, V.p (Value.bool x65))], M := [(6, O.box 24 [V.p (Value.int .i64 m6), V.sl 6 (rowsOf encT44 m6_1)]), (9, O.box 3 [V.p (Value.int .i64 m9)])] } : St)) = some r.st := by
  unfold f8_airzriiii_j2 at hF
  replace hF := Option.bind_eq_some_iff.1 hF
  obtain ⟨o1, h2, hF⟩ := hF
  have hc3 := f22_airrizii_ok k m6 m6_1 x1 x5 x2 x4 _ h2
  cases o1 with
  | o0 v4 v5 v6 v7 v8 v9 =>
    (try dsimp only at hF)
    (try simp only [NM, EE, R22_airrizii.st] at hc3)
    replace hF := Option.bind_eq_some_iff.1 hF
    obtain ⟨o10, h11, hF⟩ := hF
    have hc12 := f29_yppp_lpppppbirbibirribibibirribibi_ok k m6 m6_1 m9 m6 m6_1 x1 x5 (-1) 0 v4 v5 v6 v7 v8 v9 _ h11
    cases o10 with
    | o0 v13 v14 v15 v16 v17 v18 v19 v20 v21 v22 v23 v24 v25 v26 v27 =>
      (try dsimp only at hF)
      (try simp only [NM, EE, R29_yppp_lpppppbirbibirribibibirribibi.st] at hc12)
      have hJ := f8_airzriiii_j3_ok k v20 v21 _ hF
      simp (maxSteps := 999999) (disch := first | exact D (by decide) | exact K (by kernel_rfl)) only [E, EE, ↓reduceIte, simprocAttr, xk B8 [2, 2, 2] .sq rfl, show (nav B8 [1, 2, 2, 2]) = Code.region 6 _ false from rfl, hk_8_6, hz_8_6, hs_8_6, u_24, i_24, is_24, ib_24, iz_24, bl_54, u_54, i_54, is_54, ib_54, iz_54, xk B8 [2, 2, 2, 2] .sq rfl, show (nav B8 [1, 2, 2, 2, 2]) = Code.region 7 _ false from rfl, hk_8_7, hz_8_7, hs_8_7, u_3, i_3, is_3, ib_3, iz_3, xk B8 [2, 2, 2, 2, 2] .sq rfl, xk B8 [1, 2, 2, 2, 2, 2] .sq rfl, show (nav B8 [1, 1, 2, 2, 2, 2, 2]) = Code.region 8 _ false from rfl, hk_8_8, hz_8_8, hs_8_8, callStep, CL, gv, List.contains, xk B8 [2, 1, 2, 2, 2, 2, 2] (.bk 0) rfl, xk B8 [2, 2, 1, 2, 2, 2, 2, 2] (.rf (.tmp 73) [74, 75] 11) rfl, hh_8_1000011, hk_8_1000011, hc3, hc12]
      try simp only [NM, EE] at hJ
      exact hJ
noncomputable def f8_airzriiii_j1 (k : Nat) (x1 : List Int) (x2 x4 x5 x15 : Int) (x26 : Bool) (m6 : Int) (m6_1 : List T44) (m9 : Int) : Option R8_airzriiii :=
  cond ((((List.length x1) : Int) != ((List.length m6_1) : Int)))
    (some (R8_airzriiii.o0 0 0 2))
    (
      Option.bind (f19_rf20 k x1) fun o2 =>
        match o2 with
        | .o0 v5 =>
          cond (v5)
            (some (R8_airzriiii.o0 0 0 2))
            (
              cond ((decide (x5 < 0)))
                (some (R8_airzriiii.o0 0 0 2))
                (
                  cond ((x2 == m9))
                    (some (R8_airzriiii.o0 0 0 2))
                    (
                      Option.bind (f21_iii k x2 1 m6) fun o9 =>
                        match o9 with
                        | .o0 v12 =>
                          cond ((!v12))
                            (some (R8_airzriiii.o0 0 0 2))
                            (
                              Option.bind (f21_iii k m9 1 m6) fun o14 =>
                                match o14 with
                                | .o0 v17 =>
                                  cond ((!v17))
                                    (some (R8_airzriiii.o0 0 0 2))
                                    (
                                      Option.bind (f21_iii k x4 0 1048576) fun o19 =>
                                        match o19 with
                                        | .o0 v22 =>
                                          cond ((!v22))
                                            (some (R8_airzriiii.o0 0 0 2))
                                            (f8_airzriiii_j2 k x1 x2 x4 x5 false m6 m6_1 m9)))))))
theorem f8_airzriiii_j1_ok (k : Nat) (x1 : List Int) (x2 x4 x5 x15 : Int) (x26 : Bool) (m6 : Int) (m6_1 : List T44) (m9 : Int) (r : R8_airzriiii) (hF : f8_airzriiii_j1 k x1 x2 x4 x5 x15 x26 m6 m6_1 m9 = some r) : finK Try.prog Try.f8 0 (EX 8 k (nav B8 [2, 2]) ({ n := 105, F := [(1, V.sl 1 (rowsOf (encI .i64) x1)), (2, V.p (Value.int .i64 x2)), (4, V.p (Value.int .i64 x4)), (5, V.p (Value.int .i64 x5)), (6, V.ptr 6 0), (9, V.ptr 9 0), (15, V.p (Value.int .i64 x15)), (26, V.p (Value.bool x26))], M := [(6, O.box 24 [V.p (Value.int .i64 m6), V.sl 6 (rowsOf encT44 m6_1)]), (9, O.box 3 [V.p (Value.int .i64 m9)])] } : St)) = some r.st := by
  unfold f8_airzriiii_j1 at hF
  simp (maxSteps := 999999) (disch := first | exact D (by decide) | exact K (by kernel_rfl)) only [E, EE, ↓reduceIte, simprocAttr, xk B8 [2, 2] .sq rfl, xk B8 [1, 2, 2] .sq rfl, show (nav B8 [1, 1, 2, 2]) = Code.region 4 _ false from rfl, hk_8_4, hz_8_4, hs_8_4, u_25, i_25, is_25, ib_25, iz_25, fieldAddrV, u_24, i_24, is_24, ib_24, iz_24, u_22, i_22, is_22, ib_22, iz_22]
  replace hF := cond_some hF
  rcases hF with ⟨h1, hF⟩ | ⟨h1, hF⟩
  · cases hF
    simp (maxSteps := 999999) (disch := first | exact D (by decide) | exact K (by kernel_rfl)) only [E, EE, ↓reduceIte, simprocAttr, xk B8 [2, 1, 2, 2] (.cd 65) rfl, xk B8 [2, 2, 1, 2, 2] .sq rfl, show (nav B8 [1, 2, 2, 1, 2, 2]) = Code.region 5 _ false from rfl, hk_8_5, hz_8_5, hs_8_5, xk B8 [2, 2, 2, 1, 2, 2] .rt rfl, finK_norm, finK_ret, fin8, R8_airzriiii.st, h1]
  · replace hF := Option.bind_eq_some_iff.1 hF
    obtain ⟨o2, h3, hF⟩ := hF
    have hc4 := f19_rf20_ok k x1 _ h3
    cases o2 with
    | o0 v5 =>
      (try dsimp only at hF)
      (try simp only [NM, EE, R19_rf20.st] at hc4)
      simp (maxSteps := 999999) (disch := first | exact D (by decide) | exact K (by kernel_rfl)) only [E, EE, ↓reduceIte, simprocAttr, callStep, CL, gv, List.contains, h1, hc4]
      replace hF := cond_some hF
      rcases hF with ⟨h6, hF⟩ | ⟨h6, hF⟩
      · cases hF
        simp (maxSteps := 999999) (disch := first | exact D (by decide) | exact K (by kernel_rfl)) only [E, EE, ↓reduceIte, simprocAttr, xk B8 [2, 1, 2, 2] (.cd 65) rfl, xk B8 [2, 2, 1, 2, 2] .sq rfl, show (nav B8 [1, 2, 2, 1, 2, 2]) = Code.region 5 _ false from rfl, hk_8_5, hz_8_5, hs_8_5, xk B8 [2, 2, 2, 1, 2, 2] .rt rfl, finK_norm, finK_ret, fin8, R8_airzriiii.st, h1, hc4, h6]
      · replace hF := cond_some hF
        rcases hF with ⟨h7, hF⟩ | ⟨h7, hF⟩
        · cases hF
          simp (maxSteps := 999999) (disch := first | exact D (by decide) | exact K (by kernel_rfl)) only [E, EE, ↓reduceIte, simprocAttr, xk B8 [2, 1, 2, 2] (.cd 65) rfl, xk B8 [2, 2, 1, 2, 2] .sq rfl, show (nav B8 [1, 2, 2, 1, 2, 2]) = Code.region 5 _ false from rfl, hk_8_5, hz_8_5, hs_8_5, xk B8 [2, 2, 2, 1, 2, 2] .rt rfl, finK_norm, finK_ret, fin8, R8_airzriiii.st, h1, hc4, h6, h7]
        · simp (maxSteps := 999999) (disch := first | exact D (by decide) | exact K (by kernel_rfl)) only [E, EE, ↓reduceIte, simprocAttr, u_3, i_3, is_3, ib_3, iz_3, h1, hc4, h6, h7]
          replace hF := cond_some hF
          rcases hF with ⟨h8, hF⟩ | ⟨h8, hF⟩
          · cases hF
            simp (maxSteps := 999999) (disch := first | exact D (by decide) | exact K (by kernel_rfl)) only [E, EE, ↓reduceIte, simprocAttr, xk B8 [2, 1, 2, 2] (.cd 65) rfl, xk B8 [2, 2, 1, 2, 2] .sq rfl, show (nav B8 [1, 2, 2, 1, 2, 2]) = Code.region 5 _ false from rfl, hk_8_5, hz_8_5, hs_8_5, xk B8 [2, 2, 2, 1, 2, 2] .rt rfl, finK_norm, finK_ret, fin8, R8_airzriiii.st, h1, hc4, h6, h7, h8]
          · replace hF := Option.bind_eq_some_iff.1 hF
            obtain ⟨o9, h10, hF⟩ := hF
            have hc11 := f21_iii_ok k x2 1 m6 _ h10
            cases o9 with
            | o0 v12 =>
              (try dsimp only at hF)
              (try simp only [NM, EE, R21_iii.st] at hc11)
              simp (maxSteps := 999999) (disch := first | exact D (by decide) | exact K (by kernel_rfl)) only [E, EE, ↓reduceIte, simprocAttr, fieldAddrV, u_24, i_24, is_24, ib_24, iz_24, u_3, i_3, is_3, ib_3, iz_3, callStep, CL, gv, List.contains, h1, hc4, h6, h7, h8, hc11]
              replace hF := cond_some hF
              rcases hF with ⟨h13, hF⟩ | ⟨h13, hF⟩
              · cases hF
                simp (maxSteps := 999999) (disch := first | exact D (by decide) | exact K (by kernel_rfl)) only [E, EE, ↓reduceIte, simprocAttr, xk B8 [2, 1, 2, 2] (.cd 65) rfl, xk B8 [2, 2, 1, 2, 2] .sq rfl, show (nav B8 [1, 2, 2, 1, 2, 2]) = Code.region 5 _ false from rfl, hk_8_5, hz_8_5, hs_8_5, xk B8 [2, 2, 2, 1, 2, 2] .rt rfl, finK_norm, finK_ret, fin8, R8_airzriiii.st, h1, hc4, h6, h7, h8, hc11, h13]
              · replace hF := Option.bind_eq_some_iff.1 hF
                obtain ⟨o14, h15, hF⟩ := hF
                have hc16 := f21_iii_ok k m9 1 m6 _ h15
                cases o14 with
                | o0 v17 =>
                  (try dsimp only at hF)
                  (try simp only [NM, EE, R21_iii.st] at hc16)
                  simp (maxSteps := 999999) (disch := first | exact D (by decide) | exact K (by kernel_rfl)) only [E, EE, ↓reduceIte, simprocAttr, u_3, i_3, is_3, ib_3, iz_3, fieldAddrV, u_24, i_24, is_24, ib_24, iz_24, callStep, CL, gv, List.contains, h1, hc4, h6, h7, h8, hc11, h13, hc16]
                  replace hF := cond_some hF
                  rcases hF with ⟨h18, hF⟩ | ⟨h18, hF⟩
                  · cases hF
                    simp (maxSteps := 999999) (disch := first | exact D (by decide) | exact K (by kernel_rfl)) only [E, EE, ↓reduceIte, simprocAttr, xk B8 [2, 1, 2, 2] (.cd 65) rfl, xk B8 [2, 2, 1, 2, 2] .sq rfl, show (nav B8 [1, 2, 2, 1, 2, 2]) = Code.region 5 _ false from rfl, hk_8_5, hz_8_5, hs_8_5, xk B8 [2, 2, 2, 1, 2, 2] .rt rfl, finK_norm, finK_ret, fin8, R8_airzriiii.st, h1, hc4, h6, h7, h8, hc11, h13, hc16, h18]
                  · replace hF := Option.bind_eq_some_iff.1 hF
                    obtain ⟨o19, h20, hF⟩ := hF
                    have hc21 := f21_iii_ok k x4 0 1048576 _ h20
                    cases o19 with
                    | o0 v22 =>
                      (try dsimp only at hF)
                      (try simp only [NM, EE, R21_iii.st] at hc21)
                      simp (maxSteps := 999999) (disch := first | exact D (by decide) | exact K (by kernel_rfl)) only [E, EE, ↓reduceIte, simprocAttr, callStep, CL, gv, List.contains, xk B8 [2, 1, 2, 2] (.cd 65) rfl, h1, hc4, h6, h7, h8, hc11, h13, hc16, h18, hc21]
                      replace hF := cond_some hF
                      rcases hF with ⟨h23, hF⟩ | ⟨h23, hF⟩
                      · cases hF
                        simp (maxSteps := 999999) (disch := first | exact D (by decide) | exact K (by kernel_rfl)) only [E, EE, ↓reduceIte, simprocAttr, xk B8 [2, 2, 1, 2, 2] .sq rfl, show (nav B8 [1, 2, 2, 1, 2, 2]) = Code.region 5 _ false from rfl, hk_8_5, hz_8_5, hs_8_5, xk B8 [2, 2, 2, 1, 2, 2] .rt rfl, finK_norm, finK_ret, fin8, R8_airzriiii.st, h1, hc4, h6, h7, h8, hc11, h13, hc16, h18, hc21, h23]
                      · have hJ := f8_airzriiii_j2_ok k x1 x2 x4 x5 false m6 m6_1 m9 _ hF
                        simp (maxSteps := 999999) (disch := first | exact D (by decide) | exact K (by kernel_rfl)) only [E, EE, ↓reduceIte, simprocAttr, xk B8 [3, 2, 1, 2, 2] .sk rfl, h1, hc4, h6, h7, h8, hc11, h13, hc16, h18, hc21, h23]
                        try simp only [NM, EE] at hJ
                        exact hJ
noncomputable def f8_airzriiii_e (k : Nat) (a0 : Int) (a0_1 : List T44) (a1 : List Int) (a2 a3 a4 a5 : Int) : Option R8_airzriiii :=
  Option.bind (f14_airz k a0 a0_1) fun o1 =>
    match o1 with
    | .o0 v4 =>
      cond ((v4 != 0))
        (some (R8_airzriiii.o0 0 0 v4))
        (f8_airzriiii_j1 k a1 a2 a4 a5 v4 false a0 a0_1 a3)
theorem f8_airzriiii_e_ok (k : Nat) (a0 : Int) (a0_1 : List T44) (a1 : List Int) (a2 a3 a4 a5 : Int) (r : R8_airzriiii) (hF : f8_airzriiii_e k a0 a0_1 a1 a2 a3 a4 a5 = some r) : finK Try.prog Try.f8 0 (EX 8 k (nav B8 []) ({ n := 105, F := [(0, V.agg [V.p (Value.int .i64 a0), V.sl 6 (rowsOf encT44 a0_1)]), (1, V.sl 1 (rowsOf (encI .i64) a1)), (2, V.p (Value.int .i64 a2)), (3, V.p (Value.int .i64 a3)), (4, V.p (Value.int .i64 a4)), (5, V.p (Value.int .i64 a5))], M := [] } : St)) = some r.st := by
  unfold f8_airzriiii_e at hF
  replace hF := Option.bind_eq_some_iff.1 hF
  obtain ⟨o1, h2, hF⟩ := hF
  have hc3 := f14_airz_ok k a0 a0_1 _ h2
  cases o1 with
  | o0 v4 =>
    (try dsimp only at hF)
    (try simp only [NM, EE, R14_airz.st] at hc3)
    simp (maxSteps := 999999) (disch := first | exact D (by decide) | exact K (by kernel_rfl)) only [E, EE, ↓reduceIte, simprocAttr, xk B8 [] .sq rfl, show (nav B8 [1]) = Code.region 0 _ false from rfl, hk_8_0, hz_8_0, hs_8_0, xk B8 [2] .sq rfl, xk B8 [1, 2] .sq rfl, show (nav B8 [1, 1, 2]) = Code.region 1 _ false from rfl, hk_8_1, hz_8_1, hs_8_1, u_24, i_24, is_24, ib_24, iz_24, callStep, CL, gv, List.contains, xk B8 [2, 1, 2] .sq rfl, show (nav B8 [1, 2, 1, 2]) = Code.region 2 _ false from rfl, hk_8_2, hz_8_2, hs_8_2, xk B8 [2, 2, 1, 2] (.cd 26) rfl, hc3]
    replace hF := cond_some hF
    rcases hF with ⟨h5, hF⟩ | ⟨h5, hF⟩
    · cases hF
      simp (maxSteps := 999999) (disch := first | exact D (by decide) | exact K (by kernel_rfl)) only [E, EE, ↓reduceIte, simprocAttr, xk B8 [2, 2, 2, 1, 2] .sq rfl, show (nav B8 [1, 2, 2, 2, 1, 2]) = Code.region 3 _ false from rfl, hk_8_3, hz_8_3, hs_8_3, xk B8 [2, 2, 2, 2, 1, 2] .rt rfl, finK_norm, finK_ret, fin8, R8_airzriiii.st, hc3, h5]
    · have hJ := f8_airzriiii_j1_ok k a1 a2 a4 a5 v4 false a0 a0_1 a3 _ hF
      simp (maxSteps := 999999) (disch := first | exact D (by decide) | exact K (by kernel_rfl)) only [E, EE, ↓reduceIte, simprocAttr, xk B8 [3, 2, 2, 1, 2] .sk rfl, hc3, h5]
      try simp only [NM, EE] at hJ
      exact hJ
noncomputable def f8_airzriiii (k : Nat) (a0 : Int) (a0_1 : List T44) (a1 : List Int) (a2 a3 a4 a5 : Int) : Option R8_airzriiii := match k with | 0 => none | k + 1 => f8_airzriiii_e k a0 a0_1 a1 a2 a3 a4 a5
theorem f8_airzriiii_ok (k : Nat) (a0 : Int) (a0_1 : List T44) (a1 : List Int) (a2 a3 a4 a5 : Int) (r : R8_airzriiii) (hF : f8_airzriiii k a0 a0_1 a1 a2 a3 a4 a5 = some r) : CV k 8 [V.agg [V.p (Value.int .i64 a0), V.sl 6 (rowsOf encT44 a0_1)], V.sl 1 (rowsOf (encI .i64) a1), V.p (Value.int .i64 a2), V.p (Value.int .i64 a3), V.p (Value.int .i64 a4), V.p (Value.int .i64 a5)] [] = some r.st := by
  cases k with
  | zero => cases hF
  | succ k =>
    unfold CV
    rw [ev_call (F := Try.f8) (c := (nav B8 [])) rfl Try.func8 rfl rfl rfl rfl]
    exact f8_airzriiii_e_ok k a0 a0_1 a1 a2 a3 a4 a5 r hF
end Go.Proofs.YtmogplhglcodjaaV
