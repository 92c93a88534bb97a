/- What the program's functions answer: plain functions, and that the interpreter answers what they do. Written by a program of this session, out of the translation. -/
import Derived.Test.YteggcokgkcfliaaVP5
namespace Go.Proofs.YteggcokgkcfliaaV
open Go
set_option linter.unusedVariables false
set_option linter.unusedSimpArgs false
set_option maxRecDepth 8000
set_option maxHeartbeats 4000000
-- f18_r: f18 heliograph/pieces.Join
inductive R18_r where
  | o0 (y y_1 y_2 y_3 y_4 y_5 y_6 y_7 y_8 y_9 : Int) (y_10 : List Int) (y_11 : Int)
  | o1 (y y_1 y_2 y_3 y_4 y_5 y_6 y_7 y_8 y_9 y_10 : Int) (y_11 : List Int)
noncomputable def R18_r.st : R18_r → V × List O × List O
  | .o0 y y_1 y_2 y_3 y_4 y_5 y_6 y_7 y_8 y_9 y_10 y_11 => (V.tup [V.agg [V.p (Value.int .i64 y), V.p (Value.int .i64 y_1), V.p (Value.int .u32 y_2), V.p (Value.int .i64 y_3), V.p (Value.int .i64 y_4), V.p (Value.int .i64 y_5), V.p (Value.int .i64 y_6), V.p (Value.int .i64 y_7), V.p (Value.int .i64 y_8), V.p (Value.int .i64 y_9), V.sl 1 (rowsOf (encI .u8) y_10)], V.p (Value.int .i64 y_11)], [], [])
  | .o1 y y_1 y_2 y_3 y_4 y_5 y_6 y_7 y_8 y_9 y_10 y_11 => (V.tup [V.agg [V.p (Value.int .i64 y), V.p (Value.int .i64 y_1), V.p (Value.int .u32 y_2), V.p (Value.int .i64 y_3), V.p (Value.int .i64 y_4), V.p (Value.int .i64 y_5), V.p (Value.int .i64 y_6), V.p (Value.int .i64 y_7), V.p (Value.int .i64 y_8), V.p (Value.int .i64 y_9), V.own 2000000], V.p (Value.int .i64 y_10)], [], [O.row true 1 5 (rowsOf (encI .u8) y_11)])
inductive R18_r_l2 where
  | o0 (y : List T25) (y_1 y_2 y_3 y_4 y_5 y_6 y_7 y_8 y_9 y_10 y_11 y_12 : Int) (y_13 : List Int) (y_14 y_15 y_16 y_17 y_18 y_19 y_20 y_21 y_22 y_23 : Int) (y_24 : List Int)
  | o1 (y : List T25) (y_1 y_2 : Int) (y_3 : Bool) (y_4 y_5 y_6 y_7 y_8 y_9 y_10 y_11 y_12 y_13 : Int) (y_14 : List Int) (y_15 y_16 y_17 y_18 y_19 y_20 y_21 y_22 y_23 y_24 : Int) (y_25 : List Int)
noncomputable def R18_r_l2.st : R18_r_l2 → Out × St
  | .o0 y y_1 y_2 y_3 y_4 y_5 y_6 y_7 y_8 y_9 y_10 y_11 y_12 y_13 y_14 y_15 y_16 y_17 y_18 y_19 y_20 y_21 y_22 y_23 y_24 => (.norm, ({ n := 47, F := [(2, V.ptr 30000 0), (7, V.ptr 30001 0), (33, V.sl 11 (rowsOf encT25 y)), (34, V.p (Value.int .i64 y_1)), (35, V.p (Value.int .i64 y_2))], M := [(30000, O.box 25 [V.p (Value.int .i64 y_3), V.p (Value.int .i64 y_4), V.p (Value.int .u32 y_5), V.p (Value.int .i64 y_6), V.p (Value.int .i64 y_7), V.p (Value.int .i64 y_8), V.p (Value.int .i64 y_9), V.p (Value.int .i64 y_10), V.p (Value.int .i64 y_11), V.p (Value.int .i64 y_12), V.sl 1 (rowsOf (encI .u8) y_13)]), (30001, O.box 25 [V.p (Value.int .i64 y_14), V.p (Value.int .i64 y_15), V.p (Value.int .u32 y_16), V.p (Value.int .i64 y_17), V.p (Value.int .i64 y_18), V.p (Value.int .i64 y_19), V.p (Value.int .i64 y_20), V.p (Value.int .i64 y_21), V.p (Value.int .i64 y_22), V.p (Value.int .i64 y_23), V.sl 1 (rowsOf (encI .u8) y_24)])] } : St))
  | .o1 y y_1 y_2 y_3 y_4 y_5 y_6 y_7 y_8 y_9 y_10 y_11 y_12 y_13 y_14 y_15 y_16 y_17 y_18 y_19 y_20 y_21 y_22 y_23 y_24 y_25 => (.exit 1, ({ n := 47, F := [(2, V.ptr 30000 0), (7, V.ptr 30001 0), (33, V.sl 11 (rowsOf encT25 y)), (34, V.p (Value.int .i64 y_1)), (35, V.p (Value.int .i64 y_2)), (36, V.p (Value.bool y_3))], M := [(30000, O.box 25 [V.p (Value.int .i64 y_4), V.p (Value.int .i64 y_5), V.p (Value.int .u32 y_6), V.p (Value.int .i64 y_7), V.p (Value.int .i64 y_8), V.p (Value.int .i64 y_9), V.p (Value.int .i64 y_10), V.p (Value.int .i64 y_11), V.p (Value.int .i64 y_12), V.p (Value.int .i64 y_13), V.sl 1 (rowsOf (encI .u8) y_14)]), (30001, O.box 25 [V.p (Value.int .i64 y_15), V.p (Value.int .i64 y_16), V.p (Value.int .u32 y_17), V.p (Value.int .i64 y_18), V.p (Value.int .i64 y_19), V.p (Value.int .i64 y_20), V.p (Value.int .i64 y_21), V.p (Value.int .i64 y_22), V.p (Value.int .i64 y_23), V.p (Value.int .i64 y_24), V.sl 1 (rowsOf (encI .u8) y_25)])] } : St))
noncomputable def f18_r_l2_j2 (k : Nat) (x33 : List T25) (x34 x35 h0_ h0__1 h0__2 h0__3 h0__4 h0__5 h0__6 h0__7 h0__8 h0__9 : Int) (h0__10 : List Int) (h1_ h1__1 h1__2 h1__3 h1__4 h1__5 h1__6 h1__7 h1__8 h1__9 : Int) (h1__10 : List Int) : Option R18_r_l2 :=
  some (R18_r_l2.o0 x33 x34 (IntKind.i64.wrap (x35 + (1 : Int))) h0_ h0__1 h0__2 h0__3 h0__4 h0__5 h0__6 h0__7 h0__8 h0__9 h0__10 h1_ h1__1 h1__2 h1__3 h1__4 h1__5 h1__6 h1__7 h1__8 h1__9 h1__10)
theorem f18_r_l2_j2_ok (k : Nat) (x33 : List T25) (x34 x35 h0_ h0__1 h0__2 h0__3 h0__4 h0__5 h0__6 h0__7 h0__8 h0__9 : Int) (h0__10 : List Int) (h1_ h1__1 h1__2 h1__3 h1__4 h1__5 h1__6 h1__7 h1__8 h1__9 : Int) (h1__10 : List Int) (r : R18_r_l2) (hF : f18_r_l2_j2 k x33 x34 x35 h0_ h0__1 h0__2 h0__3 h0__4 h0__5 h0__6 h0__7 h0__8 h0__9 h0__10 h1_ h1__1 h1__2 h1__3 h1__4 h1__5 h1__6 h1__7 h1__8 h1__9 h1__10 = some r) : EX 18 k (nav B18 [2, 2, 2, 1, 2, 2, 1, 2, 2, 2, 2, 2]) ({ n := 47, F := [(2, V.ptr 30000 0), (7, V.ptr 30001 0), (33, V.sl 11 (rowsOf encT25 x33)), (34, V.p (Value.int .i64 x34)), (35, V.p (Value.int .i64 x35))], M := [(30000, O.box 25 [V.p (Value.int .i64 h0_), V.p (Value.int .i64 h0__1), V.p (Value.int .u32 h0__2), V.p (Value.int .i64 h0__3), V.p (Value.int .i64 h0__4), V.p (Value.int .i64 h0__5), V.p (Value.int .i64 h0__6), V.p (Value.int .i64 h0__7), V.p (Value.int .i64 h0__8), V.p (Value.int .i64 h0__9), V.sl 1 (rowsOf (encI .u8) h0__10)]), (30001, O.box 25 [V.p (Value.int .i64 h1_), V.p (Value.int .i64 h1__1), V.p (Value.int .u32 h1__2), V.p (Value.int .i64 h1__3), V.p (Value.int .i64 h1__4), V.p (Value.int .i64 h1__5), V.p (Value.int .i64 h1__6), V.p (Value.int .i64 h1__7), V.p (Value.int .i64 h1__8), V.p (Value.int .i64 h1__9), V.sl 1 (rowsOf (encI .u8) h1__10)])] } : St) = some r.st := by
  unfold f18_r_l2_j2 at hF
  cases hF
  simp (maxSteps := 999999) (disch := first | exact D (by decide) | exact K (by kernel_rfl)) only [E, EE, ↓reduceIte, simprocAttr, show (nav B18 [2, 2, 2, 1, 2, 2, 1, 2, 2, 2, 2, 2]) = Code.region 12 _ false from rfl, hk_18_12, hz_18_12, hs_18_12, R18_r_l2.st]
noncomputable def f18_r_l2_j1 (k : Nat) (x33 : List T25) (x34 x35 : Int) (x36 : Bool) (h0_ h0__1 h0__2 h0__3 h0__4 h0__5 h0__6 h0__7 h0__8 h0__9 : Int) (h0__10 : List Int) (h1_ h1__1 h1__2 h1__3 h1__4 h1__5 h1__6 h1__7 h1__8 h1__9 : Int) (h1__10 : List Int) : Option R18_r_l2 :=
  ifE ((0 : Int) ≤ x35) (
    Option.bind (x33[(Int.toNat x35)]?) fun v2 =>
      f18_r_l2_j2 k x33 x34 x35 h0_ h0__1 h0__2 h0__3 h0__4 h0__5 h0__6 h0__7 h0__8 h0__9 h0__10 h1_ h1__1 h1__2 h1__3 h1__4 h1__5 (if v2.Hops > h1__6 then v2.Hops else h1__6) h1__7 h1__8 h1__9 h1__10)
theorem f18_r_l2_j1_ok (k : Nat) (x33 : List T25) (x34 x35 : Int) (x36 : Bool) (h0_ h0__1 h0__2 h0__3 h0__4 h0__5 h0__6 h0__7 h0__8 h0__9 : Int) (h0__10 : List Int) (h1_ h1__1 h1__2 h1__3 h1__4 h1__5 h1__6 h1__7 h1__8 h1__9 : Int) (h1__10 : List Int) (r : R18_r_l2) (hF : f18_r_l2_j1 k x33 x34 x35 x36 h0_ h0__1 h0__2 h0__3 h0__4 h0__5 h0__6 h0__7 h0__8 h0__9 h0__10 h1_ h1__1 h1__2 h1__3 h1__4 h1__5 h1__6 h1__7 h1__8 h1__9 h1__10 = some r) : EX 18 k (nav B18 [2, 2, 1, 2, 2, 1, 2, 2, 2, 2, 2]) ({ n := 47, F := [(2, V.ptr 30000 0), (7, V.ptr 30001 0), (33, V.sl 11 (rowsOf encT25 x33)), (34, V.p (Value.int .i64 x34)), (35, V.p (Value.int .i64 x35)), (36, V.p (Value.bool x36))], M := [(30000, O.box 25 [V.p (Value.int .i64 h0_), V.p (Value.int .i64 h0__1), V.p (Value.int .u32 h0__2), V.p (Value.int .i64 h0__3), V.p (Value.int .i64 h0__4), V.p (Value.int .i64 h0__5), V.p (Value.int .i64 h0__6), V.p (Value.int .i64 h0__7), V.p (Value.int .i64 h0__8), V.p (Value.int .i64 h0__9), V.sl 1 (rowsOf (encI .u8) h0__10)]), (30001, O.box 25 [V.p (Value.int .i64 h1_), V.p (Value.int .i64 h1__1), V.p (Value.int .u32 h1__2), V.p (Value.int .i64 h1__3), V.p (Value.int .i64 h1__4), V.p (Value.int .i64 h1__5), V.p (Value.int .i64 h1__6), V.p (Value.int .i64 h1__7), V.p (Value.int .i64 h1__8), V.p (Value.int .i64 h1__9), V.sl 1 (rowsOf (encI .u8) h1__10)])] } : St) = some r.st := by
  unfold f18_r_l2_j1 at hF
  replace hF := ifE_some.1 hF
  obtain ⟨h1, hF⟩ := hF
  replace hF := Option.bind_eq_some_iff.1 hF
  obtain ⟨v2, h3, hF⟩ := hF
  have hJ := f18_r_l2_j2_ok k x33 x34 x35 h0_ h0__1 h0__2 h0__3 h0__4 h0__5 h0__6 h0__7 h0__8 h0__9 h0__10 h1_ h1__1 h1__2 h1__3 h1__4 h1__5 (if v2.Hops > h1__6 then v2.Hops else h1__6) h1__7 h1__8 h1__9 h1__10 _ hF
  simp (maxSteps := 999999) (disch := first | exact D (by decide) | exact K (by kernel_rfl)) only [E, EE, ↓reduceIte, simprocAttr, xk B18 [2, 2, 1, 2, 2, 1, 2, 2, 2, 2, 2] .sq rfl, xk B18 [1, 2, 2, 1, 2, 2, 1, 2, 2, 2, 2, 2] (.bk 2) rfl, xk B18 [2, 1, 2, 2, 1, 2, 2, 1, 2, 2, 2, 2, 2] .sq rfl, show (nav B18 [1, 2, 1, 2, 2, 1, 2, 2, 1, 2, 2, 2, 2, 2]) = Code.region 10 _ false from rfl, hk_18_10, hz_18_10, hs_18_10, indexAddrV, u_28, i_28, is_28, ib_28, iz_28, u_25, i_25, is_25, ib_25, iz_25, encT25_eq, show (nav B18 [2, 2, 1, 2, 2, 1, 2, 2, 1, 2, 2, 2, 2, 2]) = Code.region 11 _ false from rfl, hk_18_11, hz_18_11, hs_18_11, fieldAddrV, u_3, i_3, is_3, ib_3, iz_3, minmaxV, minmaxGo, h1, h3]
  try simp only [NM, EE] at hJ
  exact hJ
noncomputable def f18_r_l2_b (k : Nat) (x33 : List T25) (x34 x35 h0_ h0__1 h0__2 h0__3 h0__4 h0__5 h0__6 h0__7 h0__8 h0__9 : Int) (h0__10 : List Int) (h1_ h1__1 h1__2 h1__3 h1__4 h1__5 h1__6 h1__7 h1__8 h1__9 : Int) (h1__10 : List Int) : Option R18_r_l2 :=
  cond ((decide (x35 < x34)))
    (f18_r_l2_j1 k x33 x34 x35 true h0_ h0__1 h0__2 h0__3 h0__4 h0__5 h0__6 h0__7 h0__8 h0__9 h0__10 h1_ h1__1 h1__2 h1__3 h1__4 h1__5 h1__6 h1__7 h1__8 h1__9 h1__10)
    (some (R18_r_l2.o1 x33 x34 x35 false h0_ h0__1 h0__2 h0__3 h0__4 h0__5 h0__6 h0__7 h0__8 h0__9 h0__10 h1_ h1__1 h1__2 h1__3 h1__4 h1__5 h1__6 h1__7 h1__8 h1__9 h1__10))
theorem f18_r_l2_b_ok (k : Nat) (x33 : List T25) (x34 x35 h0_ h0__1 h0__2 h0__3 h0__4 h0__5 h0__6 h0__7 h0__8 h0__9 : Int) (h0__10 : List Int) (h1_ h1__1 h1__2 h1__3 h1__4 h1__5 h1__6 h1__7 h1__8 h1__9 : Int) (h1__10 : List Int) (r : R18_r_l2) (hF : f18_r_l2_b k x33 x34 x35 h0_ h0__1 h0__2 h0__3 h0__4 h0__5 h0__6 h0__7 h0__8 h0__9 h0__10 h1_ h1__1 h1__2 h1__3 h1__4 h1__5 h1__6 h1__7 h1__8 h1__9 h1__10 = some r) : EX 18 k (nav B18 [1, 2, 2, 1, 2, 2, 2, 2, 2]) ({ n := 47, F := [(2, V.ptr 30000 0), (7, V.ptr 30001 0), (33, V.sl 11 (rowsOf encT25 x33)), (34, V.p (Value.int .i64 x34)), (35, V.p (Value.int .i64 x35))], M := [(30000, O.box 25 [V.p (Value.int .i64 h0_), V.p (Value.int .i64 h0__1), V.p (Value.int .u32 h0__2), V.p (Value.int .i64 h0__3), V.p (Value.int .i64 h0__4), V.p (Value.int .i64 h0__5), V.p (Value.int .i64 h0__6), V.p (Value.int .i64 h0__7), V.p (Value.int .i64 h0__8), V.p (Value.int .i64 h0__9), V.sl 1 (rowsOf (encI .u8) h0__10)]), (30001, O.box 25 [V.p (Value.int .i64 h1_), V.p (Value.int .i64 h1__1), V.p (Value.int .u32 h1__2), V.p (Value.int .i64 h1__3), V.p (Value.int .i64 h1__4), V.p (Value.int .i64 h1__5), V.p (Value.int .i64 h1__6), V.p (Value.int .i64 h1__7), V.p (Value.int .i64 h1__8), V.p (Value.int .i64 h1__9), V.sl 1 (rowsOf (encI .u8) h1__10)])] } : St) = some r.st := by
  unfold f18_r_l2_b at hF
  simp (maxSteps := 999999) (disch := first | exact D (by decide) | exact K (by kernel_rfl)) only [E, EE, ↓reduceIte, simprocAttr, xk B18 [1, 2, 2, 1, 2, 2, 2, 2, 2] .sq rfl, show (nav B18 [1, 1, 2, 2, 1, 2, 2, 2, 2, 2]) = Code.region 9 _ false from rfl, hk_18_9, hz_18_9, hs_18_9, xk B18 [2, 1, 2, 2, 1, 2, 2, 2, 2, 2] .sq rfl, xk B18 [1, 2, 1, 2, 2, 1, 2, 2, 2, 2, 2] (.cd 36) rfl]
  replace hF := cond_some hF
  rcases hF with ⟨h1, hF⟩ | ⟨h1, hF⟩
  · have hJ := f18_r_l2_j1_ok k x33 x34 x35 true h0_ h0__1 h0__2 h0__3 h0__4 h0__5 h0__6 h0__7 h0__8 h0__9 h0__10 h1_ h1__1 h1__2 h1__3 h1__4 h1__5 h1__6 h1__7 h1__8 h1__9 h1__10 _ hF
    simp (maxSteps := 999999) (disch := first | exact D (by decide) | exact K (by kernel_rfl)) only [E, EE, ↓reduceIte, simprocAttr, xk B18 [2, 1, 2, 1, 2, 2, 1, 2, 2, 2, 2, 2] .sk rfl, h1]
    try simp only [NM, EE] at hJ
    exact hJ
  · cases hF
    simp (maxSteps := 999999) (disch := first | exact D (by decide) | exact K (by kernel_rfl)) only [E, EE, ↓reduceIte, simprocAttr, xk B18 [3, 1, 2, 1, 2, 2, 1, 2, 2, 2, 2, 2] (.ex 1) rfl, R18_r_l2.st, h1]
noncomputable def f18_r_l2 (k : Nat) : Nat → (List T25) → Int → Int → Int → Int → Int → Int → Int → Int → Int → Int → Int → Int → (List Int) → Int → Int → Int → Int → Int → Int → Int → Int → Int → Int → (List Int) → Option R18_r_l2
  | 0, _, _, _, _, _, _, _, _, _, _, _, _, _, _, _, _, _, _, _, _, _, _, _, _, _ => none
  | n + 1, x33, x34, x35, h0_, h0__1, h0__2, h0__3, h0__4, h0__5, h0__6, h0__7, h0__8, h0__9, h0__10, h1_, h1__1, h1__2, h1__3, h1__4, h1__5, h1__6, h1__7, h1__8, h1__9, h1__10 => Option.bind (f18_r_l2_b k x33 x34 x35 h0_ h0__1 h0__2 h0__3 h0__4 h0__5 h0__6 h0__7 h0__8 h0__9 h0__10 h1_ h1__1 h1__2 h1__3 h1__4 h1__5 h1__6 h1__7 h1__8 h1__9 h1__10) fun o =>
    match o with
    | .o0 y y_1 y_2 y_3 y_4 y_5 y_6 y_7 y_8 y_9 y_10 y_11 y_12 y_13 y_14 y_15 y_16 y_17 y_18 y_19 y_20 y_21 y_22 y_23 y_24 => f18_r_l2 k n y y_1 y_2 y_3 y_4 y_5 y_6 y_7 y_8 y_9 y_10 y_11 y_12 y_13 y_14 y_15 y_16 y_17 y_18 y_19 y_20 y_21 y_22 y_23 y_24
    | .o1 y y_1 y_2 y_3 y_4 y_5 y_6 y_7 y_8 y_9 y_10 y_11 y_12 y_13 y_14 y_15 y_16 y_17 y_18 y_19 y_20 y_21 y_22 y_23 y_24 y_25 => some (.o1 y y_1 y_2 y_3 y_4 y_5 y_6 y_7 y_8 y_9 y_10 y_11 y_12 y_13 y_14 y_15 y_16 y_17 y_18 y_19 y_20 y_21 y_22 y_23 y_24 y_25)
theorem f18_r_l2_ok (k n : Nat) : ∀ (x33 : List T25) (x34 x35 h0_ h0__1 h0__2 h0__3 h0__4 h0__5 h0__6 h0__7 h0__8 h0__9 : Int) (h0__10 : List Int) (h1_ h1__1 h1__2 h1__3 h1__4 h1__5 h1__6 h1__7 h1__8 h1__9 : Int) (h1__10 : List Int) (r : R18_r_l2) (hF : f18_r_l2 k n x33 x34 x35 h0_ h0__1 h0__2 h0__3 h0__4 h0__5 h0__6 h0__7 h0__8 h0__9 h0__10 h1_ h1__1 h1__2 h1__3 h1__4 h1__5 h1__6 h1__7 h1__8 h1__9 h1__10 = some r) (σ : St) (hσ : headR (hints.head 18 9) (hints.canon 18 9) σ = some ({ n := 47, F := [(2, V.ptr 30000 0), (7, V.ptr 30001 0), (33, V.sl 11 (rowsOf encT25 x33)), (34, V.p (Value.int .i64 x34)), (35, V.p (Value.int .i64 x35))], M := [(30000, O.box 25 [V.p (Value.int .i64 h0_), V.p (Value.int .i64 h0__1), V.p (Value.int .u32 h0__2), V.p (Value.int .i64 h0__3), V.p (Value.int .i64 h0__4), V.p (Value.int .i64 h0__5), V.p (Value.int .i64 h0__6), V.p (Value.int .i64 h0__7), V.p (Value.int .i64 h0__8), V.p (Value.int .i64 h0__9), V.sl 1 (rowsOf (encI .u8) h0__10)]), (30001, O.box 25 [V.p (Value.int .i64 h1_), V.p (Value.int .i64 h1__1), V.p (Value.int .u32 h1__2), V.p (Value.int .i64 h1__3), V.p (Value.int .i64 h1__4), V.p (Value.int .i64 h1__5), V.p (Value.int .i64 h1__6), V.p (Value.int .i64 h1__7), V.p (Value.int .i64 h1__8), V.p (Value.int .i64 h1__9), V.sl 1 (rowsOf (encI .u8) h1__10)])] } : St)), LP 18 k (nav B18 [1, 2, 2, 1, 2, 2, 2, 2, 2]) n σ = some r.st := by
  induction n with
  | zero => intro x33 x34 x35 h0_ h0__1 h0__2 h0__3 h0__4 h0__5 h0__6 h0__7 h0__8 h0__9 h0__10 h1_ h1__1 h1__2 h1__3 h1__4 h1__5 h1__6 h1__7 h1__8 h1__9 h1__10 r hF; cases hF
  | succ n ih =>
    intro x33 x34 x35 h0_ h0__1 h0__2 h0__3 h0__4 h0__5 h0__6 h0__7 h0__8 h0__9 h0__10 h1_ h1__1 h1__2 h1__3 h1__4 h1__5 h1__6 h1__7 h1__8 h1__9 h1__10 r hF σ hσ
    rw [f18_r_l2] at hF
    obtain ⟨o, h, hF⟩ := Option.bind_eq_some_iff.1 hF
    have hB := f18_r_l2_b_ok k x33 x34 x35 h0_ h0__1 h0__2 h0__3 h0__4 h0__5 h0__6 h0__7 h0__8 h0__9 h0__10 h1_ h1__1 h1__2 h1__3 h1__4 h1__5 h1__6 h1__7 h1__8 h1__9 h1__10 o h
    unfold LP at ih ⊢
    unfold EX at hB
    rw [loopK_succ, show firstReg (nav B18 [1, 2, 2, 1, 2, 2, 2, 2, 2]) = 9 from rfl, hσ, headK_some, hB]
    cases o with
    | o0 y y_1 y_2 y_3 y_4 y_5 y_6 y_7 y_8 y_9 y_10 y_11 y_12 y_13 y_14 y_15 y_16 y_17 y_18 y_19 y_20 y_21 y_22 y_23 y_24 =>
      refine ih y y_1 y_2 y_3 y_4 y_5 y_6 y_7 y_8 y_9 y_10 y_11 y_12 y_13 y_14 y_15 y_16 y_17 y_18 y_19 y_20 y_21 y_22 y_23 y_24 r hF _ ?_
      simp (maxSteps := 999999) (disch := first | exact D (by decide) | exact K (by kernel_rfl)) only [E, EE, ↓reduceIte, simprocAttr, hh_18_9, hc_18_9]
    | o1 y y_1 y_2 y_3 y_4 y_5 y_6 y_7 y_8 y_9 y_10 y_11 y_12 y_13 y_14 y_15 y_16 y_17 y_18 y_19 y_20 y_21 y_22 y_23 y_24 y_25 => cases hF; rfl
noncomputable def f18_r_j3 (k : Nat) (x33 : List T25) (x34 x35 : Int) (x36 : Bool) (h0_ h0__1 h0__2 h0__3 h0__4 h0__5 h0__6 h0__7 h0__8 h0__9 : Int) (h0__10 : List Int) (h1_ h1__1 h1__2 h1__3 h1__4 h1__5 h1__6 h1__7 h1__8 h1__9 : Int) (h1__10 : List Int) : Option R18_r :=
  some (R18_r.o0 h1_ h1__1 h1__2 h1__3 h1__4 h1__5 h1__6 h1__7 h1__8 h1__9 h1__10 0)
theorem f18_r_j3_ok (k : Nat) (x33 : List T25) (x34 x35 : Int) (x36 : Bool) (h0_ h0__1 h0__2 h0__3 h0__4 h0__5 h0__6 h0__7 h0__8 h0__9 : Int) (h0__10 : List Int) (h1_ h1__1 h1__2 h1__3 h1__4 h1__5 h1__6 h1__7 h1__8 h1__9 : Int) (h1__10 : List Int) (r : R18_r) (hF : f18_r_j3 k x33 x34 x35 x36 h0_ h0__1 h0__2 h0__3 h0__4 h0__5 h0__6 h0__7 h0__8 h0__9 h0__10 h1_ h1__1 h1__2 h1__3 h1__4 h1__5 h1__6 h1__7 h1__8 h1__9 h1__10 = some r) : finK Try.prog Try.f18 0 (EX 18 k (nav B18 [2, 2, 2, 2, 2, 2]) ({ n := 47, F := [(2, V.ptr 30000 0), (7, V.ptr 30001 0), (33, V.sl 11 (rowsOf encT25 x33)), (34, V.p (Value.int .i64 x34)), (35, V.p (Value.int .i64 x35)), (36, V.p (Value.bool x36))], M := [(30000, O.box 25 [V.p (Value.int .i64 h0_), V.p (Value.int .i64 h0__1), V.p (Value.int .u32 h0__2), V.p (Value.int .i64 h0__3), V.p (Value.int .i64 h0__4), V.p (Value.int .i64 h0__5), V.p (Value.int .i64 h0__6), V.p (Value.int .i64 h0__7), V.p (Value.int .i64 h0__8), V.p (Value.int .i64 h0__9), V.sl 1 (rowsOf (encI .u8) h0__10)]), (30001, O.box 25 [V.p (Value.int .i64 h1_), V.p (Value.int .i64 h1__1), V.p (Value.int .u32 h1__2), V.p (Value.int .i64 h1__3), V.p (Value.int .i64 h1__4), V.p (Value.int .i64 h1__5), V.p (Value.int .i64 h1__6), V.p (Value.int .i64 h1__7), V.p (Value.int .i64 h1__8), V.p (Value.int .i64 h1__9), V.sl 1 (rowsOf (encI .u8) h1__10)])] } : St)) = some r.st := by
  unfold f18_r_j3 at hF
  cases hF
  simp (maxSteps := 999999) (disch := first | exact D (by decide) | exact K (by kernel_rfl)) only [E, EE, ↓reduceIte, simprocAttr, xk B18 [2, 2, 2, 2, 2, 2] .sq rfl, show (nav B18 [1, 2, 2, 2, 2, 2, 2]) = Code.region 13 _ false from rfl, hk_18_13, hz_18_13, hs_18_13, u_25, i_25, is_25, ib_25, iz_25, xk B18 [2, 2, 2, 2, 2, 2, 2] .rt rfl, finK_norm, finK_ret, fin18, R18_r.st]
noncomputable def f18_r_j1 (k : Nat) (x0 : List T25) (x5 : List Int) (x21 : Bool) (m2 m2_1 m2_2 m2_3 m2_4 m2_5 m2_6 m2_7 m2_8 m2_9 : Int) (m2_10 : List Int) : Option R18_r :=
  Option.bind (x0[0]?) fun v1 =>
    Option.bind (f18_r_l2 k k x0 ((List.length x0) : Int) 0 m2 m2_1 m2_2 m2_3 m2_4 m2_5 m2_6 m2_7 m2_8 m2_9 m2_10 v1.Source v1.Dest v1.Seq v1.Created v1.Lifetime v1.HopLimit v1.Hops v1.Priority 0 v1.Total x5) fun o3 =>
      match o3 with
      | .o0 _ _ _ _ _ _ _ _ _ _ _ _ _ _ _ _ _ _ _ _ _ _ _ _ _ =>
        none
      | .o1 v6 v7 v8 v9 v10 v11 v12 v13 v14 v15 v16 v17 v18 v19 v20 v21 v22 v23 v24 v25 v26 v27 v28 v29 v30 v31 =>
        f18_r_j3 k v6 v7 v8 v9 v10 v11 v12 v13 v14 v15 v16 v17 v18 v19 v20 v21 v22 v23 v24 v25 v26 v27 v28 v29 v30 v31
theorem f18_r_j1_ok (k : Nat) (x0 : List T25) (x5 : List Int) (x21 : Bool) (m2 m2_1 m2_2 m2_3 m2_4 m2_5 m2_6 m2_7 m2_8 m2_9 : Int) (m2_10 : List Int) (r : R18_r) (hF : f18_r_j1 k x0 x5 x21 m2 m2_1 m2_2 m2_3 m2_4 m2_5 m2_6 m2_7 m2_8 m2_9 m2_10 = some r) : finK Try.prog Try.f18 0 (EX 18 k (nav B18 [2, 2, 2]) ({ n := 47, F := [(0, V.sl 11 (rowsOf encT25 x0)), (2, V.ptr 2 0), (5, V.sl 1 (rowsOf (encI .u8) x5)), (21, V.p (Value.bool x21))], M := [(2, O.box 25 [V.p (Value.int .i64 m2), V.p (Value.int .i64 m2_1), V.p (Value.int .u32 m2_2), V.p (Value.int .i64 m2_3), V.p (Value.int .i64 m2_4), V.p (Value.int .i64 m2_5), V.p (Value.int .i64 m2_6), V.p (Value.int .i64 m2_7), V.p (Value.int .i64 m2_8), V.p (Value.int .i64 m2_9), V.sl 1 (rowsOf (encI .u8) m2_10)])] } : St)) = some r.st := by
  unfold f18_r_j1 at hF
  replace hF := Option.bind_eq_some_iff.1 hF
  obtain ⟨v1, h2, hF⟩ := hF
  replace hF := Option.bind_eq_some_iff.1 hF
  obtain ⟨o3, h4, hF⟩ := hF
  have hc5 := f18_r_l2_ok k k x0 ((List.length x0) : Int) 0 m2 m2_1 m2_2 m2_3 m2_4 m2_5 m2_6 m2_7 m2_8 m2_9 m2_10 v1.Source v1.Dest v1.Seq v1.Created v1.Lifetime v1.HopLimit v1.Hops v1.Priority 0 v1.Total x5 _ h4
  simp (maxSteps := 999999) (disch := first | exact D (by decide) | exact K (by kernel_rfl)) only [E, EE, ↓reduceIte, simprocAttr, xk B18 [2, 2, 2] .sq rfl, show (nav B18 [1, 2, 2, 2]) = Code.region 6 _ false from rfl, hk_18_6, hz_18_6, hs_18_6, indexAddrV, u_28, i_28, is_28, ib_28, iz_28, u_25, i_25, is_25, ib_25, iz_25, encT25_eq, xk B18 [2, 2, 2, 2] .sq rfl, show (nav B18 [1, 2, 2, 2, 2]) = Code.region 7 _ false from rfl, hk_18_7, hz_18_7, hs_18_7, fieldAddrV, u_3, i_3, is_3, ib_3, iz_3, u_23, i_23, is_23, ib_23, iz_23, xk B18 [2, 2, 2, 2, 2] .sq rfl, xk B18 [1, 2, 2, 2, 2, 2] .sq rfl, show (nav B18 [1, 1, 2, 2, 2, 2, 2]) = Code.region 8 _ false from rfl, hk_18_8, hz_18_8, hs_18_8, xk B18 [2, 1, 2, 2, 2, 2, 2] (.bk 1) rfl, xk B18 [2, 2, 1, 2, 2, 2, 2, 2] .lp rfl, hh_18_9, hc_18_9, h2]
  (try simp only [NM, EE] at hc5)
  rw [hc5 _ (by simp (maxSteps := 999999) (disch := first | exact D (by decide) | exact K (by kernel_rfl)) only [E, EE, ↓reduceIte, simprocAttr, hh_18_9, hc_18_9, h2])]
  clear hc5
  cases o3 with
  | o0 _ _ _ _ _ _ _ _ _ _ _ _ _ _ _ _ _ _ _ _ _ _ _ _ _ =>
    (try dsimp only at hF)
    cases hF
  | o1 v6 v7 v8 v9 v10 v11 v12 v13 v14 v15 v16 v17 v18 v19 v20 v21 v22 v23 v24 v25 v26 v27 v28 v29 v30 v31 =>
    (try dsimp only at hF)
    have hJ := f18_r_j3_ok k v6 v7 v8 v9 v10 v11 v12 v13 v14 v15 v16 v17 v18 v19 v20 v21 v22 v23 v24 v25 v26 v27 v28 v29 v30 v31 _ hF
    simp (maxSteps := 999999) (disch := first | exact D (by decide) | exact K (by kernel_rfl)) only [E, EE, ↓reduceIte, simprocAttr, R18_r_l2.st, h2]
    try simp only [NM, EE] at hJ
    exact hJ
inductive R18_r_l5 where
  | o0 (y : List T25) (y_1 y_2 y_3 y_4 y_5 y_6 y_7 y_8 y_9 y_10 y_11 y_12 : Int) (y_13 : List Int) (y_14 y_15 y_16 y_17 y_18 y_19 y_20 y_21 y_22 y_23 : Int) (y_24 : List Int)
  | o1 (y : List T25) (y_1 y_2 : Int) (y_3 : Bool) (y_4 y_5 y_6 y_7 y_8 y_9 y_10 y_11 y_12 y_13 : Int) (y_14 : List Int) (y_15 y_16 y_17 y_18 y_19 y_20 y_21 y_22 y_23 y_24 : Int) (y_25 : List Int)
noncomputable def R18_r_l5.st : R18_r_l5 → Out × St
  | .o0 y y_1 y_2 y_3 y_4 y_5 y_6 y_7 y_8 y_9 y_10 y_11 y_12 y_13 y_14 y_15 y_16 y_17 y_18 y_19 y_20 y_21 y_22 y_23 y_24 => (.norm, ({ n := 47, F := [(2, V.ptr 30000 0), (7, V.ptr 30001 0), (33, V.sl 11 (rowsOf encT25 y)), (34, V.p (Value.int .i64 y_1)), (35, V.p (Value.int .i64 y_2))], M := [(30000, O.box 25 [V.p (Value.int .i64 y_3), V.p (Value.int .i64 y_4), V.p (Value.int .u32 y_5), V.p (Value.int .i64 y_6), V.p (Value.int .i64 y_7), V.p (Value.int .i64 y_8), V.p (Value.int .i64 y_9), V.p (Value.int .i64 y_10), V.p (Value.int .i64 y_11), V.p (Value.int .i64 y_12), V.sl 1 (rowsOf (encI .u8) y_13)]), (30001, O.box 25 [V.p (Value.int .i64 y_14), V.p (Value.int .i64 y_15), V.p (Value.int .u32 y_16), V.p (Value.int .i64 y_17), V.p (Value.int .i64 y_18), V.p (Value.int .i64 y_19), V.p (Value.int .i64 y_20), V.p (Value.int .i64 y_21), V.p (Value.int .i64 y_22), V.p (Value.int .i64 y_23), V.own 30002]), (30002, O.row true 1 5 (rowsOf (encI .u8) y_24))] } : St))
  | .o1 y y_1 y_2 y_3 y_4 y_5 y_6 y_7 y_8 y_9 y_10 y_11 y_12 y_13 y_14 y_15 y_16 y_17 y_18 y_19 y_20 y_21 y_22 y_23 y_24 y_25 => (.exit 1, ({ n := 47, F := [(2, V.ptr 30000 0), (7, V.ptr 30001 0), (33, V.sl 11 (rowsOf encT25 y)), (34, V.p (Value.int .i64 y_1)), (35, V.p (Value.int .i64 y_2)), (36, V.p (Value.bool y_3))], M := [(30000, O.box 25 [V.p (Value.int .i64 y_4), V.p (Value.int .i64 y_5), V.p (Value.int .u32 y_6), V.p (Value.int .i64 y_7), V.p (Value.int .i64 y_8), V.p (Value.int .i64 y_9), V.p (Value.int .i64 y_10), V.p (Value.int .i64 y_11), V.p (Value.int .i64 y_12), V.p (Value.int .i64 y_13), V.sl 1 (rowsOf (encI .u8) y_14)]), (30001, O.box 25 [V.p (Value.int .i64 y_15), V.p (Value.int .i64 y_16), V.p (Value.int .u32 y_17), V.p (Value.int .i64 y_18), V.p (Value.int .i64 y_19), V.p (Value.int .i64 y_20), V.p (Value.int .i64 y_21), V.p (Value.int .i64 y_22), V.p (Value.int .i64 y_23), V.p (Value.int .i64 y_24), V.own 30002]), (30002, O.row true 1 5 (rowsOf (encI .u8) y_25))] } : St))
noncomputable def f18_r_l5_j2 (k : Nat) (x33 : List T25) (x34 x35 h0_ h0__1 h0__2 h0__3 h0__4 h0__5 h0__6 h0__7 h0__8 h0__9 : Int) (h0__10 : List Int) (h1_ h1__1 h1__2 h1__3 h1__4 h1__5 h1__6 h1__7 h1__8 h1__9 : Int) (h2_ : List Int) : Option R18_r_l5 :=
  some (R18_r_l5.o0 x33 x34 (IntKind.i64.wrap (x35 + (1 : Int))) h0_ h0__1 h0__2 h0__3 h0__4 h0__5 h0__6 h0__7 h0__8 h0__9 h0__10 h1_ h1__1 h1__2 h1__3 h1__4 h1__5 h1__6 h1__7 h1__8 h1__9 h2_)
theorem f18_r_l5_j2_ok (k : Nat) (x33 : List T25) (x34 x35 h0_ h0__1 h0__2 h0__3 h0__4 h0__5 h0__6 h0__7 h0__8 h0__9 : Int) (h0__10 : List Int) (h1_ h1__1 h1__2 h1__3 h1__4 h1__5 h1__6 h1__7 h1__8 h1__9 : Int) (h2_ : List Int) (r : R18_r_l5) (hF : f18_r_l5_j2 k x33 x34 x35 h0_ h0__1 h0__2 h0__3 h0__4 h0__5 h0__6 h0__7 h0__8 h0__9 h0__10 h1_ h1__1 h1__2 h1__3 h1__4 h1__5 h1__6 h1__7 h1__8 h1__9 h2_ = some r) : EX 18 k (nav B18 [2, 2, 2, 1, 2, 2, 1, 2, 2, 2, 2, 2]) ({ n := 47, F := [(2, V.ptr 30000 0), (7, V.ptr 30001 0), (33, V.sl 11 (rowsOf encT25 x33)), (34, V.p (Value.int .i64 x34)), (35, V.p (Value.int .i64 x35))], M := [(30000, O.box 25 [V.p (Value.int .i64 h0_), V.p (Value.int .i64 h0__1), V.p (Value.int .u32 h0__2), V.p (Value.int .i64 h0__3), V.p (Value.int .i64 h0__4), V.p (Value.int .i64 h0__5), V.p (Value.int .i64 h0__6), V.p (Value.int .i64 h0__7), V.p (Value.int .i64 h0__8), V.p (Value.int .i64 h0__9), V.sl 1 (rowsOf (encI .u8) h0__10)]), (30001, O.box 25 [V.p (Value.int .i64 h1_), V.p (Value.int .i64 h1__1), V.p (Value.int .u32 h1__2), V.p (Value.int .i64 h1__3), V.p (Value.int .i64 h1__4), V.p (Value.int .i64 h1__5), V.p (Value.int .i64 h1__6), V.p (Value.int .i64 h1__7), V.p (Value.int .i64 h1__8), V.p (Value.int .i64 h1__9), V.own 30002]), (30002, O.row true 1 5 (rowsOf (encI .u8) h2_))] } : St) = some r.st := by
  unfold f18_r_l5_j2 at hF
  cases hF
  simp (maxSteps := 999999) (disch := first | exact D (by decide) | exact K (by kernel_rfl)) only [E, EE, ↓reduceIte, simprocAttr, show (nav B18 [2, 2, 2, 1, 2, 2, 1, 2, 2, 2, 2, 2]) = Code.region 12 _ false from rfl, hk_18_12, hz_18_12, hs_18_12, R18_r_l5.st]
noncomputable def f18_r_l5_j1 (k : Nat) (x33 : List T25) (x34 x35 : Int) (x36 : Bool) (h0_ h0__1 h0__2 h0__3 h0__4 h0__5 h0__6 h0__7 h0__8 h0__9 : Int) (h0__10 : List Int) (h1_ h1__1 h1__2 h1__3 h1__4 h1__5 h1__6 h1__7 h1__8 h1__9 : Int) (h2_ : List Int) : Option R18_r_l5 :=
  ifE ((0 : Int) ≤ x35) (
    Option.bind (x33[(Int.toNat x35)]?) fun v2 =>
      f18_r_l5_j2 k x33 x34 x35 h0_ h0__1 h0__2 h0__3 h0__4 h0__5 h0__6 h0__7 h0__8 h0__9 h0__10 h1_ h1__1 h1__2 h1__3 h1__4 h1__5 (if v2.Hops > h1__6 then v2.Hops else h1__6) h1__7 h1__8 h1__9 h2_)
theorem f18_r_l5_j1_ok (k : Nat) (x33 : List T25) (x34 x35 : Int) (x36 : Bool) (h0_ h0__1 h0__2 h0__3 h0__4 h0__5 h0__6 h0__7 h0__8 h0__9 : Int) (h0__10 : List Int) (h1_ h1__1 h1__2 h1__3 h1__4 h1__5 h1__6 h1__7 h1__8 h1__9 : Int) (h2_ : List Int) (r : R18_r_l5) (hF : f18_r_l5_j1 k x33 x34 x35 x36 h0_ h0__1 h0__2 h0__3 h0__4 h0__5 h0__6 h0__7 h0__8 h0__9 h0__10 h1_ h1__1 h1__2 h1__3 h1__4 h1__5 h1__6 h1__7 h1__8 h1__9 h2_ = some r) : EX 18 k (nav B18 [2, 2, 1, 2, 2, 1, 2, 2, 2, 2, 2]) ({ n := 47, F := [(2, V.ptr 30000 0), (7, V.ptr 30001 0), (33, V.sl 11 (rowsOf encT25 x33)), (34, V.p (Value.int .i64 x34)), (35, V.p (Value.int .i64 x35)), (36, V.p (Value.bool x36))], M := [(30000, O.box 25 [V.p (Value.int .i64 h0_), V.p (Value.int .i64 h0__1), V.p (Value.int .u32 h0__2), V.p (Value.int .i64 h0__3), V.p (Value.int .i64 h0__4), V.p (Value.int .i64 h0__5), V.p (Value.int .i64 h0__6), V.p (Value.int .i64 h0__7), V.p (Value.int .i64 h0__8), V.p (Value.int .i64 h0__9), V.sl 1 (rowsOf (encI .u8) h0__10)]), (30001, O.box 25 [V.p (Value.int .i64 h1_), V.p (Value.int .i64 h1__1), V.p (Value.int .u32 h1__2), V.p (Value.int .i64 h1__3), V.p (Value.int .i64 h1__4), V.p (Value.int .i64 h1__5), V.p (Value.int .i64 h1__6), V.p (Value.int .i64 h1__7), V.p (Value.int .i64 h1__8), V.p (Value.int .i64 h1__9), V.own 30002]), (30002, O.row true 1 5 (rowsOf (encI .u8) h2_))] } : St) = some r.st := by
  unfold f18_r_l5_j1 at hF
  replace hF := ifE_some.1 hF
  obtain ⟨h1, hF⟩ := hF
  replace hF := Option.bind_eq_some_iff.1 hF
  obtain ⟨v2, h3, hF⟩ := hF
  have hJ := f18_r_l5_j2_ok k x33 x34 x35 h0_ h0__1 h0__2 h0__3 h0__4 h0__5 h0__6 h0__7 h0__8 h0__9 h0__10 h1_ h1__1 h1__2 h1__3 h1__4 h1__5 (if v2.Hops > h1__6 then v2.Hops else h1__6) h1__7 h1__8 h1__9 h2_ _ hF
  simp (maxSteps := 999999) (disch := first | exact D (by decide) | exact K (by kernel_rfl)) only [E, EE, ↓reduceIte, simprocAttr, xk B18 [2, 2, 1, 2, 2, 1, 2, 2, 2, 2, 2] .sq rfl, xk B18 [1, 2, 2, 1, 2, 2, 1, 2, 2, 2, 2, 2] (.bk 2) rfl, xk B18 [2, 1, 2, 2, 1, 2, 2, 1, 2, 2, 2, 2, 2] .sq rfl, show (nav B18 [1, 2, 1, 2, 2, 1, 2, 2, 1, 2, 2, 2, 2, 2]) = Code.region 10 _ false from rfl, hk_18_10, hz_18_10, hs_18_10, indexAddrV, u_28, i_28, is_28, ib_28, iz_28, u_25, i_25, is_25, ib_25, iz_25, encT25_eq, show (nav B18 [2, 2, 1, 2, 2, 1, 2, 2, 1, 2, 2, 2, 2, 2]) = Code.region 11 _ false from rfl, hk_18_11, hz_18_11, hs_18_11, fieldAddrV, u_3, i_3, is_3, ib_3, iz_3, minmaxV, minmaxGo, h1, h3]
  try simp only [NM, EE] at hJ
  exact hJ
noncomputable def f18_r_l5_b (k : Nat) (x33 : List T25) (x34 x35 h0_ h0__1 h0__2 h0__3 h0__4 h0__5 h0__6 h0__7 h0__8 h0__9 : Int) (h0__10 : List Int) (h1_ h1__1 h1__2 h1__3 h1__4 h1__5 h1__6 h1__7 h1__8 h1__9 : Int) (h2_ : List Int) : Option R18_r_l5 :=
  cond ((decide (x35 < x34)))
    (f18_r_l5_j1 k x33 x34 x35 true h0_ h0__1 h0__2 h0__3 h0__4 h0__5 h0__6 h0__7 h0__8 h0__9 h0__10 h1_ h1__1 h1__2 h1__3 h1__4 h1__5 h1__6 h1__7 h1__8 h1__9 h2_)
    (some (R18_r_l5.o1 x33 x34 x35 false h0_ h0__1 h0__2 h0__3 h0__4 h0__5 h0__6 h0__7 h0__8 h0__9 h0__10 h1_ h1__1 h1__2 h1__3 h1__4 h1__5 h1__6 h1__7 h1__8 h1__9 h2_))
theorem f18_r_l5_b_ok (k : Nat) (x33 : List T25) (x34 x35 h0_ h0__1 h0__2 h0__3 h0__4 h0__5 h0__6 h0__7 h0__8 h0__9 : Int) (h0__10 : List Int) (h1_ h1__1 h1__2 h1__3 h1__4 h1__5 h1__6 h1__7 h1__8 h1__9 : Int) (h2_ : List Int) (r : R18_r_l5) (hF : f18_r_l5_b k x33 x34 x35 h0_ h0__1 h0__2 h0__3 h0__4 h0__5 h0__6 h0__7 h0__8 h0__9 h0__10 h1_ h1__1 h1__2 h1__3 h1__4 h1__5 h1__6 h1__7 h1__8 h1__9 h2_ = some r) : EX 18 k (nav B18 [1, 2, 2, 1, 2, 2, 2, 2, 2]) ({ n := 47, F := [(2, V.ptr 30000 0), (7, V.ptr 30001 0), (33, V.sl 11 (rowsOf encT25 x33)), (34, V.p (Value.int .i64 x34)), (35, V.p (Value.int .i64 x35))], M := [(30000, O.box 25 [V.p (Value.int .i64 h0_), V.p (Value.int .i64 h0__1), V.p (Value.int .u32 h0__2), V.p (Value.int .i64 h0__3), V.p (Value.int .i64 h0__4), V.p (Value.int .i64 h0__5), V.p (Value.int .i64 h0__6), V.p (Value.int .i64 h0__7), V.p (Value.int .i64 h0__8), V.p (Value.int .i64 h0__9), V.sl 1 (rowsOf (encI .u8) h0__10)]), (30001, O.box 25 [V.p (Value.int .i64 h1_), V.p (Value.int .i64 h1__1), V.p (Value.int .u32 h1__2), V.p (Value.int .i64 h1__3), V.p (Value.int .i64 h1__4), V.p (Value.int .i64 h1__5), V.p (Value.int .i64 h1__6), V.p (Value.int .i64 h1__7), V.p (Value.int .i64 h1__8), V.p (Value.int .i64 h1__9), V.own 30002]), (30002, O.row true 1 5 (rowsOf (encI .u8) h2_))] } : St) = some r.st := by
  unfold f18_r_l5_b at hF
  simp (maxSteps := 999999) (disch := first | exact D (by decide) | exact K (by kernel_rfl)) only [E, EE, ↓reduceIte, simprocAttr, xk B18 [1, 2, 2, 1, 2, 2, 2, 2, 2] .sq rfl, show (nav B18 [1, 1, 2, 2, 1, 2, 2, 2, 2, 2]) = Code.region 9 _ false from rfl, hk_18_9, hz_18_9, hs_18_9, xk B18 [2, 1, 2, 2, 1, 2, 2, 2, 2, 2] .sq rfl, xk B18 [1, 2, 1, 2, 2, 1, 2, 2, 2, 2, 2] (.cd 36) rfl]
  replace hF := cond_some hF
  rcases hF with ⟨h1, hF⟩ | ⟨h1, hF⟩
  · have hJ := f18_r_l5_j1_ok k x33 x34 x35 true h0_ h0__1 h0__2 h0__3 h0__4 h0__5 h0__6 h0__7 h0__8 h0__9 h0__10 h1_ h1__1 h1__2 h1__3 h1__4 h1__5 h1__6 h1__7 h1__8 h1__9 h2_ _ hF
    simp (maxSteps := 999999) (disch := first | exact D (by decide) | exact K (by kernel_rfl)) only [E, EE, ↓reduceIte, simprocAttr, xk B18 [2, 1, 2, 1, 2, 2, 1, 2, 2, 2, 2, 2] .sk rfl, h1]
    try simp only [NM, EE] at hJ
    exact hJ
  · cases hF
    simp (maxSteps := 999999) (disch := first | exact D (by decide) | exact K (by kernel_rfl)) only [E, EE, ↓reduceIte, simprocAttr, xk B18 [3, 1, 2, 1, 2, 2, 1, 2, 2, 2, 2, 2] (.ex 1) rfl, R18_r_l5.st, h1]
noncomputable def f18_r_l5 (k : Nat) : Nat → (List T25) → Int → Int → Int → Int → Int → Int → Int → Int → Int → Int → Int → Int → (List Int) → Int → Int → Int → Int → Int → Int → Int → Int → Int → Int → (List Int) → Option R18_r_l5
  | 0, _, _, _, _, _, _, _, _, _, _, _, _, _, _, _, _, _, _, _, _, _, _, _, _, _ => none
  | n + 1, x33, x34, x35, h0_, h0__1, h0__2, h0__3, h0__4, h0__5, h0__6, h0__7, h0__8, h0__9, h0__10, h1_, h1__1, h1__2, h1__3, h1__4, h1__5, h1__6, h1__7, h1__8, h1__9, h2_ => Option.bind (f18_r_l5_b k x33 x34 x35 h0_ h0__1 h0__2 h0__3 h0__4 h0__5 h0__6 h0__7 h0__8 h0__9 h0__10 h1_ h1__1 h1__2 h1__3 h1__4 h1__5 h1__6 h1__7 h1__8 h1__9 h2_) fun o =>
    match o with
    | .o0 y y_1 y_2 y_3 y_4 y_5 y_6 y_7 y_8 y_9 y_10 y_11 y_12 y_13 y_14 y_15 y_16 y_17 y_18 y_19 y_20 y_21 y_22 y_23 y_24 => f18_r_l5 k n y y_1 y_2 y_3 y_4 y_5 y_6 y_7 y_8 y_9 y_10 y_11 y_12 y_13 y_14 y_15 y_16 y_17 y_18 y_19 y_20 y_21 y_22 y_23 y_24
    | .o1 y y_1 y_2 y_3 y_4 y_5 y_6 y_7 y_8 y_9 y_10 y_11 y_12 y_13 y_14 y_15 y_16 y_17 y_18 y_19 y_20 y_21 y_22 y_23 y_24 y_25 => some (.o1 y y_1 y_2 y_3 y_4 y_5 y_6 y_7 y_8 y_9 y_10 y_11 y_12 y_13 y_14 y_15 y_16 y_17 y_18 y_19 y_20 y_21 y_22 y_23 y_24 y_25)
theorem f18_r_l5_ok (k n : Nat) : ∀ (x33 : List T25) (x34 x35 h0_ h0__1 h0__2 h0__3 h0__4 h0__5 h0__6 h0__7 h0__8 h0__9 : Int) (h0__10 : List Int) (h1_ h1__1 h1__2 h1__3 h1__4 h1__5 h1__6 h1__7 h1__8 h1__9 : Int) (h2_ : List Int) (r : R18_r_l5) (hF : f18_r_l5 k n x33 x34 x35 h0_ h0__1 h0__2 h0__3 h0__4 h0__5 h0__6 h0__7 h0__8 h0__9 h0__10 h1_ h1__1 h1__2 h1__3 h1__4 h1__5 h1__6 h1__7 h1__8 h1__9 h2_ = some r) (σ : St) (hσ : headR (hints.head 18 9) (hints.canon 18 9) σ = some ({ n := 47, F := [(2, V.ptr 30000 0), (7, V.ptr 30001 0), (33, V.sl 11 (rowsOf encT25 x33)), (34, V.p (Value.int .i64 x34)), (35, V.p (Value.int .i64 x35))], M := [(30000, O.box 25 [V.p (Value.int .i64 h0_), V.p (Value.int .i64 h0__1), V.p (Value.int .u32 h0__2), V.p (Value.int .i64 h0__3), V.p (Value.int .i64 h0__4), V.p (Value.int .i64 h0__5), V.p (Value.int .i64 h0__6), V.p (Value.int .i64 h0__7), V.p (Value.int .i64 h0__8), V.p (Value.int .i64 h0__9), V.sl 1 (rowsOf (encI .u8) h0__10)]), (30001, O.box 25 [V.p (Value.int .i64 h1_), V.p (Value.int .i64 h1__1), V.p (Value.int .u32 h1__2), V.p (Value.int .i64 h1__3), V.p (Value.int .i64 h1__4), V.p (Value.int .i64 h1__5), V.p (Value.int .i64 h1__6), V.p (Value.int .i64 h1__7), V.p (Value.int .i64 h1__8), V.p (Value.int .i64 h1__9), V.own 30002]), (30002, O.row true 1 5 (rowsOf (encI .u8) h2_))] } : St)), LP 18 k (nav B18 [1, 2, 2, 1, 2, 2, 2, 2, 2]) n σ = some r.st := by
  induction n with
  | zero => intro x33 x34 x35 h0_ h0__1 h0__2 h0__3 h0__4 h0__5 h0__6 h0__7 h0__8 h0__9 h0__10 h1_ h1__1 h1__2 h1__3 h1__4 h1__5 h1__6 h1__7 h1__8 h1__9 h2_ r hF; cases hF
  | succ n ih =>
    intro x33 x34 x35 h0_ h0__1 h0__2 h0__3 h0__4 h0__5 h0__6 h0__7 h0__8 h0__9 h0__10 h1_ h1__1 h1__2 h1__3 h1__4 h1__5 h1__6 h1__7 h1__8 h1__9 h2_ r hF σ hσ
    rw [f18_r_l5] at hF
    obtain ⟨o, h, hF⟩ := Option.bind_eq_some_iff.1 hF
    have hB := f18_r_l5_b_ok k x33 x34 x35 h0_ h0__1 h0__2 h0__3 h0__4 h0__5 h0__6 h0__7 h0__8 h0__9 h0__10 h1_ h1__1 h1__2 h1__3 h1__4 h1__5 h1__6 h1__7 h1__8 h1__9 h2_ o h
    unfold LP at ih ⊢
    unfold EX at hB
    rw [loopK_succ, show firstReg (nav B18 [1, 2, 2, 1, 2, 2, 2, 2, 2]) = 9 from rfl, hσ, headK_some, hB]
    cases o with
    | o0 y y_1 y_2 y_3 y_4 y_5 y_6 y_7 y_8 y_9 y_10 y_11 y_12 y_13 y_14 y_15 y_16 y_17 y_18 y_19 y_20 y_21 y_22 y_23 y_24 =>
      refine ih y y_1 y_2 y_3 y_4 y_5 y_6 y_7 y_8 y_9 y_10 y_11 y_12 y_13 y_14 y_15 y_16 y_17 y_18 y_19 y_20 y_21 y_22 y_23 y_24 r hF _ ?_
      simp (maxSteps := 999999) (disch := first | exact D (by decide) | exact K (by kernel_rfl)) only [E, EE, ↓reduceIte, simprocAttr, hh_18_9, hc_18_9]
    | o1 y y_1 y_2 y_3 y_4 y_5 y_6 y_7 y_8 y_9 y_10 y_11 y_12 y_13 y_14 y_15 y_16 y_17 y_18 y_19 y_20 y_21 y_22 y_23 y_24 y_25 => cases hF; rfl
noncomputable def f18_r_j6 (k : Nat) (x33 : List T25) (x34 x35 : Int) (x36 : Bool) (h0_ h0__1 h0__2 h0__3 h0__4 h0__5 h0__6 h0__7 h0__8 h0__9 : Int) (h0__10 : List Int) (h1_ h1__1 h1__2 h1__3 h1__4 h1__5 h1__6 h1__7 h1__8 h1__9 : Int) (h2_ : List Int) : Option R18_r :=
  some (R18_r.o1 h1_ h1__1 h1__2 h1__3 h1__4 h1__5 h1__6 h1__7 h1__8 h1__9 0 h2_)
theorem f18_r_j6_ok (k : Nat) (x33 : List T25) (x34 x35 : Int) (x36 : Bool) (h0_ h0__1 h0__2 h0__3 h0__4 h0__5 h0__6 h0__7 h0__8 h0__9 : Int) (h0__10 : List Int) (h1_ h1__1 h1__2 h1__3 h1__4 h1__5 h1__6 h1__7 h1__8 h1__9 : Int) (h2_ : List Int) (r : R18_r) (hF : f18_r_j6 k x33 x34 x35 x36 h0_ h0__1 h0__2 h0__3 h0__4 h0__5 h0__6 h0__7 h0__8 h0__9 h0__10 h1_ h1__1 h1__2 h1__3 h1__4 h1__5 h1__6 h1__7 h1__8 h1__9 h2_ = some r) : finK Try.prog Try.f18 0 (EX 18 k (nav B18 [2, 2, 2, 2, 2, 2]) ({ n := 47, F := [(2, V.ptr 30000 0), (7, V.ptr 30001 0), (33, V.sl 11 (rowsOf encT25 x33)), (34, V.p (Value.int .i64 x34)), (35, V.p (Value.int .i64 x35)), (36, V.p (Value.bool x36))], M := [(30000, O.box 25 [V.p (Value.int .i64 h0_), V.p (Value.int .i64 h0__1), V.p (Value.int .u32 h0__2), V.p (Value.int .i64 h0__3), V.p (Value.int .i64 h0__4), V.p (Value.int .i64 h0__5), V.p (Value.int .i64 h0__6), V.p (Value.int .i64 h0__7), V.p (Value.int .i64 h0__8), V.p (Value.int .i64 h0__9), V.sl 1 (rowsOf (encI .u8) h0__10)]), (30001, O.box 25 [V.p (Value.int .i64 h1_), V.p (Value.int .i64 h1__1), V.p (Value.int .u32 h1__2), V.p (Value.int .i64 h1__3), V.p (Value.int .i64 h1__4), V.p (Value.int .i64 h1__5), V.p (Value.int .i64 h1__6), V.p (Value.int .i64 h1__7), V.p (Value.int .i64 h1__8), V.p (Value.int .i64 h1__9), V.own 30002]), (30002, O.row true 1 5 (rowsOf (encI .u8) h2_))] } : St)) = some r.st := by
  unfold f18_r_j6 at hF
  cases hF
  simp (maxSteps := 999999) (disch := first | exact D (by decide) | exact K (by kernel_rfl)) only [E, EE, ↓reduceIte, simprocAttr, xk B18 [2, 2, 2, 2, 2, 2] .sq rfl, show (nav B18 [1, 2, 2, 2, 2, 2, 2]) = Code.region 13 _ false from rfl, hk_18_13, hz_18_13, hs_18_13, u_25, i_25, is_25, ib_25, iz_25, xk B18 [2, 2, 2, 2, 2, 2, 2] .rt rfl, finK_norm, finK_ret, fin18, R18_r.st]
noncomputable def f18_r_j4 (k : Nat) (x0 : List T25) (x21 : Bool) (m2 m2_1 m2_2 m2_3 m2_4 m2_5 m2_6 m2_7 m2_8 m2_9 : Int) (m2_10 m12_1_ : List Int) : Option R18_r :=
  Option.bind (x0[0]?) fun v1 =>
    Option.bind (f18_r_l5 k k x0 ((List.length x0) : Int) 0 m2 m2_1 m2_2 m2_3 m2_4 m2_5 m2_6 m2_7 m2_8 m2_9 m2_10 v1.Source v1.Dest v1.Seq v1.Created v1.Lifetime v1.HopLimit v1.Hops v1.Priority 0 v1.Total m12_1_) fun o3 =>
      match o3 with
      | .o0 _ _ _ _ _ _ _ _ _ _ _ _ _ _ _ _ _ _ _ _ _ _ _ _ _ =>
        none
      | .o1 v6 v7 v8 v9 v10 v11 v12 v13 v14 v15 v16 v17 v18 v19 v20 v21 v22 v23 v24 v25 v26 v27 v28 v29 v30 v31 =>
        f18_r_j6 k v6 v7 v8 v9 v10 v11 v12 v13 v14 v15 v16 v17 v18 v19 v20 v21 v22 v23 v24 v25 v26 v27 v28 v29 v30 v31
theorem f18_r_j4_ok (k : Nat) (x0 : List T25) (x21 : Bool) (m2 m2_1 m2_2 m2_3 m2_4 m2_5 m2_6 m2_7 m2_8 m2_9 : Int) (m2_10 m12_1_ : List Int) (r : R18_r) (hF : f18_r_j4 k x0 x21 m2 m2_1 m2_2 m2_3 m2_4 m2_5 m2_6 m2_7 m2_8 m2_9 m2_10 m12_1_ = some r) : finK Try.prog Try.f18 0 (EX 18 k (nav B18 [2, 2, 2]) ({ n := 47, F := [(0, V.sl 11 (rowsOf encT25 x0)), (2, V.ptr 2 0), (5, V.own 10012), (21, V.p (Value.bool x21))], M := [(2, O.box 25 [V.p (Value.int .i64 m2), V.p (Value.int .i64 m2_1), V.p (Value.int .u32 m2_2), V.p (Value.int .i64 m2_3), V.p (Value.int .i64 m2_4), V.p (Value.int .i64 m2_5), V.p (Value.int .i64 m2_6), V.p (Value.int .i64 m2_7), V.p (Value.int .i64 m2_8), V.p (Value.int .i64 m2_9), V.sl 1 (rowsOf (encI .u8) m2_10)]), (10012, O.row true 1 5 (rowsOf (encI .u8) m12_1_))] } : St)) = some r.st := by
  unfold f18_r_j4 at hF
  replace hF := Option.bind_eq_some_iff.1 hF
  obtain ⟨v1, h2, hF⟩ := hF
  replace hF := Option.bind_eq_some_iff.1 hF
  obtain ⟨o3, h4, hF⟩ := hF
  have hc5 := f18_r_l5_ok k k x0 ((List.length x0) : Int) 0 m2 m2_1 m2_2 m2_3 m2_4 m2_5 m2_6 m2_7 m2_8 m2_9 m2_10 v1.Source v1.Dest v1.Seq v1.Created v1.Lifetime v1.HopLimit v1.Hops v1.Priority 0 v1.Total m12_1_ _ h4
  simp (maxSteps := 999999) (disch := first | exact D (by decide) | exact K (by kernel_rfl)) only [E, EE, ↓reduceIte, simprocAttr, xk B18 [2, 2, 2] .sq rfl, show (nav B18 [1, 2, 2, 2]) = Code.region 6 _ false from rfl, hk_18_6, hz_18_6, hs_18_6, indexAddrV, u_28, i_28, is_28, ib_28, iz_28, u_25, i_25, is_25, ib_25, iz_25, encT25_eq, xk B18 [2, 2, 2, 2] .sq rfl, show (nav B18 [1, 2, 2, 2, 2]) = Code.region 7 _ false from rfl, hk_18_7, hz_18_7, hs_18_7, fieldAddrV, u_3, i_3, is_3, ib_3, iz_3, u_23, i_23, is_23, ib_23, iz_23, xk B18 [2, 2, 2, 2, 2] .sq rfl, xk B18 [1, 2, 2, 2, 2, 2] .sq rfl, show (nav B18 [1, 1, 2, 2, 2, 2, 2]) = Code.region 8 _ false from rfl, hk_18_8, hz_18_8, hs_18_8, xk B18 [2, 1, 2, 2, 2, 2, 2] (.bk 1) rfl, xk B18 [2, 2, 1, 2, 2, 2, 2, 2] .lp rfl, hh_18_9, hc_18_9, h2]
  (try simp only [NM, EE] at hc5)
  rw [hc5 _ (by simp (maxSteps := 999999) (disch := first | exact D (by decide) | exact K (by kernel_rfl)) only [E, EE, ↓reduceIte, simprocAttr, hh_18_9, hc_18_9, h2])]
  clear hc5
  cases o3 with
  | o0 _ _ _ _ _ _ _ _ _ _ _ _ _ _ _ _ _ _ _ _ _ _ _ _ _ =>
    (try dsimp only at hF)
    cases hF
  | o1 v6 v7 v8 v9 v10 v11 v12 v13 v14 v15 v16 v17 v18 v19 v20 v21 v22 v23 v24 v25 v26 v27 v28 v29 v30 v31 =>
    (try dsimp only at hF)
    have hJ := f18_r_j6_ok k v6 v7 v8 v9 v10 v11 v12 v13 v14 v15 v16 v17 v18 v19 v20 v21 v22 v23 v24 v25 v26 v27 v28 v29 v30 v31 _ hF
    simp (maxSteps := 999999) (disch := first | exact D (by decide) | exact K (by kernel_rfl)) only [E, EE, ↓reduceIte, simprocAttr, R18_r_l5.st, h2]
    try simp only [NM, EE] at hJ
    exact hJ
noncomputable def f18_r_e (k : Nat) (a0 : List T25) : Option R18_r :=
  Option.bind (f31_r k a0) fun o1 =>
    match o1 with
    | .o0 v4 v5 v6 =>
      cond ((v6 != 0))
        (some (R18_r.o0 0 0 0 0 0 0 0 0 0 0 [] v6))
        (
          Option.bind (f32_r k v4) fun o8 =>
            match o8 with
            | .o0 v11 =>
              cond ((decide (((List.length v11) : Int) > 0)))
                (some (R18_r.o0 0 0 0 0 0 0 0 0 0 0 [] 4))
                (f18_r_j1 k a0 v5 false 0 0 0 0 0 0 0 0 0 0 []))
    | .o1 v13 v14 v15 =>
      cond ((v13 != 0))
        (some (R18_r.o0 0 0 0 0 0 0 0 0 0 0 [] v13))
        (
          Option.bind (f32_r k v14) fun o17 =>
            match o17 with
            | .o0 v20 =>
              cond ((decide (((List.length v20) : Int) > 0)))
                (some (R18_r.o0 0 0 0 0 0 0 0 0 0 0 [] 4))
                (f18_r_j4 k a0 false 0 0 0 0 0 0 0 0 0 0 [] v15))
theorem f18_r_e_ok (k : Nat) (a0 : List T25) (r : R18_r) (hF : f18_r_e k a0 = some r) : finK Try.prog Try.f18 0 (EX 18 k (nav B18 []) ({ n := 47, F := [(0, V.sl 11 (rowsOf encT25 a0))], M := [] } : St)) = some r.st := by
  unfold f18_r_e at hF
  simp (maxSteps := 999999) (disch := first | exact D (by decide) | exact K (by kernel_rfl)) only [E, EE, ↓reduceIte, simprocAttr, xk B18 [] .sq rfl, show (nav B18 [1]) = Code.region 0 _ false from rfl, hk_18_0, hz_18_0, hs_18_0, u_25, i_25, is_25, ib_25, iz_25, xk B18 [2] .sq rfl, show (nav B18 [1, 2]) = Code.region 1 _ false from rfl, hk_18_1, hz_18_1, hs_18_1, callStep, CL, gv, List.contains]
  replace hF := Option.bind_eq_some_iff.1 hF
  obtain ⟨o1, h2, hF⟩ := hF
  have hc3 := f31_r_ok k a0 _ h2
  cases o1 with
  | o0 v4 v5 v6 =>
    (try dsimp only at hF)
    (try simp only [NM, EE, R31_r.st] at hc3)
    simp (maxSteps := 999999) (disch := first | exact D (by decide) | exact K (by kernel_rfl)) only [E, EE, ↓reduceIte, simprocAttr, xk B18 [2, 2] .sq rfl, xk B18 [1, 2, 2] (.bk 0) rfl, xk B18 [2, 1, 2, 2] .sq rfl, show (nav B18 [1, 2, 1, 2, 2]) = Code.region 2 _ false from rfl, hk_18_2, hz_18_2, hs_18_2, xk B18 [2, 2, 1, 2, 2] (.cd 16) rfl, hc3]
    replace hF := cond_some hF
    rcases hF with ⟨h7, hF⟩ | ⟨h7, hF⟩
    · cases hF
      simp (maxSteps := 999999) (disch := first | exact D (by decide) | exact K (by kernel_rfl)) only [E, EE, ↓reduceIte, simprocAttr, xk B18 [2, 2, 2, 1, 2, 2] .sq rfl, show (nav B18 [1, 2, 2, 2, 1, 2, 2]) = Code.region 3 _ false from rfl, hk_18_3, hz_18_3, hs_18_3, bl_25, u_25, i_25, is_25, ib_25, iz_25, xk B18 [2, 2, 2, 2, 1, 2, 2] .rt rfl, finK_norm, finK_ret, fin18, R18_r.st, hc3, h7]
    · replace hF := Option.bind_eq_some_iff.1 hF
      obtain ⟨o8, h9, hF⟩ := hF
      have hc10 := f32_r_ok k v4 _ h9
      cases o8 with
      | o0 v11 =>
        (try dsimp only at hF)
        (try simp only [NM, EE, R32_r.st] at hc10)
        simp (maxSteps := 999999) (disch := first | exact D (by decide) | exact K (by kernel_rfl)) only [E, EE, ↓reduceIte, simprocAttr, xk B18 [3, 2, 2, 1, 2, 2] .sq rfl, show (nav B18 [1, 3, 2, 2, 1, 2, 2]) = Code.region 4 _ false from rfl, hk_18_4, hz_18_4, hs_18_4, callStep, CL, gv, List.contains, u_41, i_41, is_41, ib_41, iz_41, xk B18 [2, 3, 2, 2, 1, 2, 2] (.cd 21) rfl, hc3, h7, hc10]
        replace hF := cond_some hF
        rcases hF with ⟨h12, hF⟩ | ⟨h12, hF⟩
        · cases hF
          simp (maxSteps := 999999) (disch := first | exact D (by decide) | exact K (by kernel_rfl)) only [E, EE, ↓reduceIte, simprocAttr, xk B18 [2, 2, 3, 2, 2, 1, 2, 2] .sq rfl, show (nav B18 [1, 2, 2, 3, 2, 2, 1, 2, 2]) = Code.region 5 _ false from rfl, hk_18_5, hz_18_5, hs_18_5, bl_25, u_25, i_25, is_25, ib_25, iz_25, xk B18 [2, 2, 2, 3, 2, 2, 1, 2, 2] .rt rfl, finK_norm, finK_ret, fin18, R18_r.st, hc3, h7, hc10, h12]
        · have hJ := f18_r_j1_ok k a0 v5 false 0 0 0 0 0 0 0 0 0 0 [] _ hF
          simp (maxSteps := 999999) (disch := first | exact D (by decide) | exact K (by kernel_rfl)) only [E, EE, ↓reduceIte, simprocAttr, xk B18 [3, 2, 3, 2, 2, 1, 2, 2] .sk rfl, hc3, h7, hc10, h12]
          try simp only [NM, EE] at hJ
          exact hJ
  | o1 v13 v14 v15 =>
    (try dsimp only at hF)
    (try simp only [NM, EE, R31_r.st] at hc3)
    simp (maxSteps := 999999) (disch := first | exact D (by decide) | exact K (by kernel_rfl)) only [E, EE, ↓reduceIte, simprocAttr, xk B18 [2, 2] .sq rfl, xk B18 [1, 2, 2] (.bk 0) rfl, xk B18 [2, 1, 2, 2] .sq rfl, show (nav B18 [1, 2, 1, 2, 2]) = Code.region 2 _ false from rfl, hk_18_2, hz_18_2, hs_18_2, xk B18 [2, 2, 1, 2, 2] (.cd 16) rfl, hc3]
    replace hF := cond_some hF
    rcases hF with ⟨h16, hF⟩ | ⟨h16, hF⟩
    · cases hF
      simp (maxSteps := 999999) (disch := first | exact D (by decide) | exact K (by kernel_rfl)) only [E, EE, ↓reduceIte, simprocAttr, xk B18 [2, 2, 2, 1, 2, 2] .sq rfl, show (nav B18 [1, 2, 2, 2, 1, 2, 2]) = Code.region 3 _ false from rfl, hk_18_3, hz_18_3, hs_18_3, bl_25, u_25, i_25, is_25, ib_25, iz_25, xk B18 [2, 2, 2, 2, 1, 2, 2] .rt rfl, finK_norm, finK_ret, fin18, R18_r.st, hc3, h16]
    · replace hF := Option.bind_eq_some_iff.1 hF
      obtain ⟨o17, h18, hF⟩ := hF
      have hc19 := f32_r_ok k v14 _ h18
      cases o17 with
      | o0 v20 =>
        (try dsimp only at hF)
        (try simp only [NM, EE, R32_r.st] at hc19)
        simp (maxSteps := 999999) (disch := first | exact D (by decide) | exact K (by kernel_rfl)) only [E, EE, ↓reduceIte, simprocAttr, xk B18 [3, 2, 2, 1, 2, 2] .sq rfl, show (nav B18 [1, 3, 2, 2, 1, 2, 2]) = Code.region 4 _ false from rfl, hk_18_4, hz_18_4, hs_18_4, callStep, CL, gv, List.contains, u_41, i_41, is_41, ib_41, iz_41, xk B18 [2, 3, 2, 2, 1, 2, 2] (.cd 21) rfl, hc3, h16, hc19]
        replace hF := cond_some hF
        rcases hF with ⟨h21, hF⟩ | ⟨h21, hF⟩
        · cases hF
          simp (maxSteps := 999999) (disch := first | exact D (by decide) | exact K (by kernel_rfl)) only [E, EE, ↓reduceIte, simprocAttr, xk B18 [2, 2, 3, 2, 2, 1, 2, 2] .sq rfl, show (nav B18 [1, 2, 2, 3, 2, 2, 1, 2, 2]) = Code.region 5 _ false from rfl, hk_18_5, hz_18_5, hs_18_5, bl_25, u_25, i_25, is_25, ib_25, iz_25, xk B18 [2, 2, 2, 3, 2, 2, 1, 2, 2] .rt rfl, finK_norm, finK_ret, fin18, R18_r.st, hc3, h16, hc19, h21]
        · have hJ := f18_r_j4_ok k a0 false 0 0 0 0 0 0 0 0 0 0 [] v15 _ hF
          simp (maxSteps := 999999) (disch := first | exact D (by decide) | exact K (by kernel_rfl)) only [E, EE, ↓reduceIte, simprocAttr, xk B18 [3, 2, 3, 2, 2, 1, 2, 2] .sk rfl, hc3, h16, hc19, h21]
          try simp only [NM, EE] at hJ
          exact hJ
noncomputable def f18_r (k : Nat) (a0 : List T25) : Option R18_r := match k with | 0 => none | k + 1 => f18_r_e k a0
theorem f18_r_ok (k : Nat) (a0 : List T25) (r : R18_r) (hF : f18_r k a0 = some r) : CV k 18 [V.sl 11 (rowsOf encT25 a0)] [] = some r.st := by
  cases k with
  | zero => cases hF
  | succ k =>
    unfold CV
    rw [ev_call (F := Try.f18) (c := (nav B18 [])) rfl Try.func18 rfl rfl rfl rfl]
    exact f18_r_e_ok k a0 r hF
-- f19_ai10rz: f19 heliograph/bundle.Whole
inductive R19_ai10rz where
  | o0 (y : Bool)
noncomputable def R19_ai10rz.st : R19_ai10rz → V × List O × List O
  | .o0 y => (V.p (Value.bool y), [], [])
noncomputable def f19_ai10rz_e (k : Nat) (a0 a0_1 a0_2 a0_3 a0_4 a0_5 a0_6 a0_7 a0_8 a0_9 : Int) (a0_10 : List Int) : Option R19_ai10rz :=
  some (R19_ai10rz.o0 (((List.length a0_10) : Int) == a0_9))
theorem f19_ai10rz_e_ok (k : Nat) (a0 a0_1 a0_2 a0_3 a0_4 a0_5 a0_6 a0_7 a0_8 a0_9 : Int) (a0_10 : List Int) (r : R19_ai10rz) (hF : f19_ai10rz_e k a0 a0_1 a0_2 a0_3 a0_4 a0_5 a0_6 a0_7 a0_8 a0_9 a0_10 = some r) : finK Try.prog Try.f19 0 (EX 19 k (nav B19 []) ({ n := 9, F := [(0, V.agg [V.p (Value.int .i64 a0), V.p (Value.int .i64 a0_1), V.p (Value.int .u32 a0_2), V.p (Value.int .i64 a0_3), V.p (Value.int .i64 a0_4), V.p (Value.int .i64 a0_5), V.p (Value.int .i64 a0_6), V.p (Value.int .i64 a0_7), V.p (Value.int .i64 a0_8), V.p (Value.int .i64 a0_9), V.sl 1 (rowsOf (encI .u8) a0_10)])], M := [] } : St)) = some r.st := by
  unfold f19_ai10rz_e at hF
  cases hF
  simp (maxSteps := 999999) (disch := first | exact D (by decide) | exact K (by kernel_rfl)) only [E, EE, ↓reduceIte, simprocAttr, xk B19 [] .sq rfl, show (nav B19 [1]) = Code.region 0 _ false from rfl, hk_19_0, hz_19_0, hs_19_0, xk B19 [2] .sq rfl, show (nav B19 [1, 2]) = Code.region 1 _ false from rfl, hk_19_1, hz_19_1, hs_19_1, fieldAddrV, u_25, i_25, is_25, ib_25, iz_25, u_23, i_23, is_23, ib_23, iz_23, u_3, i_3, is_3, ib_3, iz_3, xk B19 [2, 2] .rt rfl, finK_norm, finK_ret, fin19, R19_ai10rz.st]
noncomputable def f19_ai10rz (k : Nat) (a0 a0_1 a0_2 a0_3 a0_4 a0_5 a0_6 a0_7 a0_8 a0_9 : Int) (a0_10 : List Int) : Option R19_ai10rz := match k with | 0 => none | k + 1 => f19_ai10rz_e k a0 a0_1 a0_2 a0_3 a0_4 a0_5 a0_6 a0_7 a0_8 a0_9 a0_10
theorem f19_ai10rz_ok (k : Nat) (a0 a0_1 a0_2 a0_3 a0_4 a0_5 a0_6 a0_7 a0_8 a0_9 : Int) (a0_10 : List Int) (r : R19_ai10rz) (hF : f19_ai10rz k a0 a0_1 a0_2 a0_3 a0_4 a0_5 a0_6 a0_7 a0_8 a0_9 a0_10 = some r) : CV k 19 [V.agg [V.p (Value.int .i64 a0), V.p (Value.int .i64 a0_1), V.p (Value.int .u32 a0_2), V.p (Value.int .i64 a0_3), V.p (Value.int .i64 a0_4), V.p (Value.int .i64 a0_5), V.p (Value.int .i64 a0_6), V.p (Value.int .i64 a0_7), V.p (Value.int .i64 a0_8), V.p (Value.int .i64 a0_9), V.sl 1 (rowsOf (encI .u8) a0_10)]] [] = some r.st := by
  cases k with
  | zero => cases hF
  | succ k =>
    unfold CV
    rw [ev_call (F := Try.f19) (c := (nav B19 [])) rfl Try.func19 rfl rfl rfl rfl]
    exact f19_ai10rz_e_ok k a0 a0_1 a0_2 a0_3 a0_4 a0_5 a0_6 a0_7 a0_8 a0_9 a0_10 r hF
end Go.Proofs.YteggcokgkcfliaaV
