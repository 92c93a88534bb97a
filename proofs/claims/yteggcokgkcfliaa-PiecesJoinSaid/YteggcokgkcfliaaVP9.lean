/- What the program's functions answer: plain functions, and that the interpreter answers what they do. Written by a program of this session, out of the translation. -/
import Derived.Test.YteggcokgkcfliaaVP8
namespace Go.Proofs.YteggcokgkcfliaaV
open Go
set_option linter.unusedVariables false
set_option linter.unusedSimpArgs false
set_option maxRecDepth 8000
set_option maxHeartbeats 4000000
-- f22_r: f22 heliograph/heliographref18.Join
inductive R22_r where
  | o0 (y y_1 y_2 y_3 y_4 y_5 y_6 y_7 y_8 y_9 : Int) (y_10 : List Int) (y_11 : Int)
  | o1 (y y_1 y_2 y_3 y_4 y_5 y_6 y_7 y_8 y_9 y_10 : Int) (y_11 : List Int)
noncomputable def R22_r.st : R22_r → V × List O × List O
  | .o0 y y_1 y_2 y_3 y_4 y_5 y_6 y_7 y_8 y_9 y_10 y_11 => (V.tup [V.agg [V.p (Value.int .i64 y), V.p (Value.int .i64 y_1), V.p (Value.int .u32 y_2), V.p (Value.int .i64 y_3), V.p (Value.int .i64 y_4), V.p (Value.int .i64 y_5), V.p (Value.int .i64 y_6), V.p (Value.int .i64 y_7), V.p (Value.int .i64 y_8), V.p (Value.int .i64 y_9), V.sl 1 (rowsOf (encI .u8) y_10)], V.p (Value.int .i64 y_11)], [], [])
  | .o1 y y_1 y_2 y_3 y_4 y_5 y_6 y_7 y_8 y_9 y_10 y_11 => (V.tup [V.agg [V.p (Value.int .i64 y), V.p (Value.int .i64 y_1), V.p (Value.int .u32 y_2), V.p (Value.int .i64 y_3), V.p (Value.int .i64 y_4), V.p (Value.int .i64 y_5), V.p (Value.int .i64 y_6), V.p (Value.int .i64 y_7), V.p (Value.int .i64 y_8), V.p (Value.int .i64 y_9), V.own 2000000], V.p (Value.int .i64 y_10)], [], [O.row true 1 5 (rowsOf (encI .u8) y_11)])
inductive R22_r_l3 where
  | o0 (y : List T25) (y_1 y_2 y_3 y_4 y_5 y_6 y_7 y_8 y_9 y_10 y_11 y_12 : Int) (y_13 : List Int) (y_14 y_15 y_16 y_17 y_18 y_19 y_20 y_21 y_22 y_23 : Int) (y_24 : List Int)
  | o1 (y : List T25) (y_1 y_2 : Int) (y_3 : Bool) (y_4 y_5 y_6 y_7 y_8 y_9 y_10 y_11 y_12 y_13 : Int) (y_14 : List Int) (y_15 y_16 y_17 y_18 y_19 y_20 y_21 y_22 y_23 y_24 : Int) (y_25 : List Int)
noncomputable def R22_r_l3.st : R22_r_l3 → Out × St
  | .o0 y y_1 y_2 y_3 y_4 y_5 y_6 y_7 y_8 y_9 y_10 y_11 y_12 y_13 y_14 y_15 y_16 y_17 y_18 y_19 y_20 y_21 y_22 y_23 y_24 => (.norm, ({ n := 40, F := [(2, V.ptr 30000 0), (4, V.ptr 30001 0), (26, V.sl 11 (rowsOf encT25 y)), (27, V.p (Value.int .i64 y_1)), (28, V.p (Value.int .i64 y_2))], M := [(30000, O.box 25 [V.p (Value.int .i64 y_3), V.p (Value.int .i64 y_4), V.p (Value.int .u32 y_5), V.p (Value.int .i64 y_6), V.p (Value.int .i64 y_7), V.p (Value.int .i64 y_8), V.p (Value.int .i64 y_9), V.p (Value.int .i64 y_10), V.p (Value.int .i64 y_11), V.p (Value.int .i64 y_12), V.sl 1 (rowsOf (encI .u8) y_13)]), (30001, O.box 25 [V.p (Value.int .i64 y_14), V.p (Value.int .i64 y_15), V.p (Value.int .u32 y_16), V.p (Value.int .i64 y_17), V.p (Value.int .i64 y_18), V.p (Value.int .i64 y_19), V.p (Value.int .i64 y_20), V.p (Value.int .i64 y_21), V.p (Value.int .i64 y_22), V.p (Value.int .i64 y_23), V.own 30002]), (30002, O.row true 1 5 (rowsOf (encI .u8) y_24))] } : St))
  | .o1 y y_1 y_2 y_3 y_4 y_5 y_6 y_7 y_8 y_9 y_10 y_11 y_12 y_13 y_14 y_15 y_16 y_17 y_18 y_19 y_20 y_21 y_22 y_23 y_24 y_25 => (.exit 0, ({ n := 40, F := [(2, V.ptr 30000 0), (4, V.ptr 30001 0), (26, V.sl 11 (rowsOf encT25 y)), (27, V.p (Value.int .i64 y_1)), (28, V.p (Value.int .i64 y_2)), (29, V.p (Value.bool y_3))], M := [(30000, O.box 25 [V.p (Value.int .i64 y_4), V.p (Value.int .i64 y_5), V.p (Value.int .u32 y_6), V.p (Value.int .i64 y_7), V.p (Value.int .i64 y_8), V.p (Value.int .i64 y_9), V.p (Value.int .i64 y_10), V.p (Value.int .i64 y_11), V.p (Value.int .i64 y_12), V.p (Value.int .i64 y_13), V.sl 1 (rowsOf (encI .u8) y_14)]), (30001, O.box 25 [V.p (Value.int .i64 y_15), V.p (Value.int .i64 y_16), V.p (Value.int .u32 y_17), V.p (Value.int .i64 y_18), V.p (Value.int .i64 y_19), V.p (Value.int .i64 y_20), V.p (Value.int .i64 y_21), V.p (Value.int .i64 y_22), V.p (Value.int .i64 y_23), V.p (Value.int .i64 y_24), V.own 30002]), (30002, O.row true 1 5 (rowsOf (encI .u8) y_25))] } : St))
noncomputable def f22_r_l3_j2 (k : Nat) (x26 : List T25) (x27 x28 h0_ h0__1 h0__2 h0__3 h0__4 h0__5 h0__6 h0__7 h0__8 h0__9 : Int) (h0__10 : List Int) (h1_ h1__1 h1__2 h1__3 h1__4 h1__5 h1__6 h1__7 h1__8 h1__9 : Int) (h2_ : List Int) : Option R22_r_l3 :=
  some (R22_r_l3.o0 x26 x27 (IntKind.i64.wrap (x28 + (1 : Int))) h0_ h0__1 h0__2 h0__3 h0__4 h0__5 h0__6 h0__7 h0__8 h0__9 h0__10 h1_ h1__1 h1__2 h1__3 h1__4 h1__5 h1__6 h1__7 h1__8 h1__9 h2_)
theorem f22_r_l3_j2_ok (k : Nat) (x26 : List T25) (x27 x28 h0_ h0__1 h0__2 h0__3 h0__4 h0__5 h0__6 h0__7 h0__8 h0__9 : Int) (h0__10 : List Int) (h1_ h1__1 h1__2 h1__3 h1__4 h1__5 h1__6 h1__7 h1__8 h1__9 : Int) (h2_ : List Int) (r : R22_r_l3) (hF : f22_r_l3_j2 k x26 x27 x28 h0_ h0__1 h0__2 h0__3 h0__4 h0__5 h0__6 h0__7 h0__8 h0__9 h0__10 h1_ h1__1 h1__2 h1__3 h1__4 h1__5 h1__6 h1__7 h1__8 h1__9 h2_ = some r) : EX 22 k (nav B22 [2, 2, 2, 1, 2, 2, 1, 2, 2, 2, 2, 2, 2]) ({ n := 40, F := [(2, V.ptr 30000 0), (4, V.ptr 30001 0), (26, V.sl 11 (rowsOf encT25 x26)), (27, V.p (Value.int .i64 x27)), (28, V.p (Value.int .i64 x28))], M := [(30000, O.box 25 [V.p (Value.int .i64 h0_), V.p (Value.int .i64 h0__1), V.p (Value.int .u32 h0__2), V.p (Value.int .i64 h0__3), V.p (Value.int .i64 h0__4), V.p (Value.int .i64 h0__5), V.p (Value.int .i64 h0__6), V.p (Value.int .i64 h0__7), V.p (Value.int .i64 h0__8), V.p (Value.int .i64 h0__9), V.sl 1 (rowsOf (encI .u8) h0__10)]), (30001, O.box 25 [V.p (Value.int .i64 h1_), V.p (Value.int .i64 h1__1), V.p (Value.int .u32 h1__2), V.p (Value.int .i64 h1__3), V.p (Value.int .i64 h1__4), V.p (Value.int .i64 h1__5), V.p (Value.int .i64 h1__6), V.p (Value.int .i64 h1__7), V.p (Value.int .i64 h1__8), V.p (Value.int .i64 h1__9), V.own 30002]), (30002, O.row true 1 5 (rowsOf (encI .u8) h2_))] } : St) = some r.st := by
  unfold f22_r_l3_j2 at hF
  cases hF
  simp (maxSteps := 999999) (disch := first | exact D (by decide) | exact K (by kernel_rfl)) only [E, EE, ↓reduceIte, simprocAttr, show (nav B22 [2, 2, 2, 1, 2, 2, 1, 2, 2, 2, 2, 2, 2]) = Code.region 12 _ false from rfl, hk_22_12, hz_22_12, hs_22_12, R22_r_l3.st]
noncomputable def f22_r_l3_j1 (k : Nat) (x26 : List T25) (x27 x28 : Int) (x29 : Bool) (h0_ h0__1 h0__2 h0__3 h0__4 h0__5 h0__6 h0__7 h0__8 h0__9 : Int) (h0__10 : List Int) (h1_ h1__1 h1__2 h1__3 h1__4 h1__5 h1__6 h1__7 h1__8 h1__9 : Int) (h2_ : List Int) : Option R22_r_l3 :=
  ifE ((0 : Int) ≤ x28) (
    Option.bind (x26[(Int.toNat x28)]?) fun v2 =>
      f22_r_l3_j2 k x26 x27 x28 h0_ h0__1 h0__2 h0__3 h0__4 h0__5 h0__6 h0__7 h0__8 h0__9 h0__10 h1_ h1__1 h1__2 h1__3 h1__4 h1__5 (if v2.Hops > h1__6 then v2.Hops else h1__6) h1__7 h1__8 h1__9 h2_)
theorem f22_r_l3_j1_ok (k : Nat) (x26 : List T25) (x27 x28 : Int) (x29 : Bool) (h0_ h0__1 h0__2 h0__3 h0__4 h0__5 h0__6 h0__7 h0__8 h0__9 : Int) (h0__10 : List Int) (h1_ h1__1 h1__2 h1__3 h1__4 h1__5 h1__6 h1__7 h1__8 h1__9 : Int) (h2_ : List Int) (r : R22_r_l3) (hF : f22_r_l3_j1 k x26 x27 x28 x29 h0_ h0__1 h0__2 h0__3 h0__4 h0__5 h0__6 h0__7 h0__8 h0__9 h0__10 h1_ h1__1 h1__2 h1__3 h1__4 h1__5 h1__6 h1__7 h1__8 h1__9 h2_ = some r) : EX 22 k (nav B22 [2, 2, 1, 2, 2, 1, 2, 2, 2, 2, 2, 2]) ({ n := 40, F := [(2, V.ptr 30000 0), (4, V.ptr 30001 0), (26, V.sl 11 (rowsOf encT25 x26)), (27, V.p (Value.int .i64 x27)), (28, V.p (Value.int .i64 x28)), (29, V.p (Value.bool x29))], M := [(30000, O.box 25 [V.p (Value.int .i64 h0_), V.p (Value.int .i64 h0__1), V.p (Value.int .u32 h0__2), V.p (Value.int .i64 h0__3), V.p (Value.int .i64 h0__4), V.p (Value.int .i64 h0__5), V.p (Value.int .i64 h0__6), V.p (Value.int .i64 h0__7), V.p (Value.int .i64 h0__8), V.p (Value.int .i64 h0__9), V.sl 1 (rowsOf (encI .u8) h0__10)]), (30001, O.box 25 [V.p (Value.int .i64 h1_), V.p (Value.int .i64 h1__1), V.p (Value.int .u32 h1__2), V.p (Value.int .i64 h1__3), V.p (Value.int .i64 h1__4), V.p (Value.int .i64 h1__5), V.p (Value.int .i64 h1__6), V.p (Value.int .i64 h1__7), V.p (Value.int .i64 h1__8), V.p (Value.int .i64 h1__9), V.own 30002]), (30002, O.row true 1 5 (rowsOf (encI .u8) h2_))] } : St) = some r.st := by
  unfold f22_r_l3_j1 at hF
  replace hF := ifE_some.1 hF
  obtain ⟨h1, hF⟩ := hF
  replace hF := Option.bind_eq_some_iff.1 hF
  obtain ⟨v2, h3, hF⟩ := hF
  have hJ := f22_r_l3_j2_ok k x26 x27 x28 h0_ h0__1 h0__2 h0__3 h0__4 h0__5 h0__6 h0__7 h0__8 h0__9 h0__10 h1_ h1__1 h1__2 h1__3 h1__4 h1__5 (if v2.Hops > h1__6 then v2.Hops else h1__6) h1__7 h1__8 h1__9 h2_ _ hF
  simp (maxSteps := 999999) (disch := first | exact D (by decide) | exact K (by kernel_rfl)) only [E, EE, ↓reduceIte, simprocAttr, xk B22 [2, 2, 1, 2, 2, 1, 2, 2, 2, 2, 2, 2] .sq rfl, xk B22 [1, 2, 2, 1, 2, 2, 1, 2, 2, 2, 2, 2, 2] (.bk 1) rfl, xk B22 [2, 1, 2, 2, 1, 2, 2, 1, 2, 2, 2, 2, 2, 2] .sq rfl, show (nav B22 [1, 2, 1, 2, 2, 1, 2, 2, 1, 2, 2, 2, 2, 2, 2]) = Code.region 10 _ false from rfl, hk_22_10, hz_22_10, hs_22_10, indexAddrV, u_28, i_28, is_28, ib_28, iz_28, u_25, i_25, is_25, ib_25, iz_25, encT25_eq, show (nav B22 [2, 2, 1, 2, 2, 1, 2, 2, 1, 2, 2, 2, 2, 2, 2]) = Code.region 11 _ false from rfl, hk_22_11, hz_22_11, hs_22_11, fieldAddrV, u_3, i_3, is_3, ib_3, iz_3, minmaxV, minmaxGo, h1, h3]
  try simp only [NM, EE] at hJ
  exact hJ
noncomputable def f22_r_l3_b (k : Nat) (x26 : List T25) (x27 x28 h0_ h0__1 h0__2 h0__3 h0__4 h0__5 h0__6 h0__7 h0__8 h0__9 : Int) (h0__10 : List Int) (h1_ h1__1 h1__2 h1__3 h1__4 h1__5 h1__6 h1__7 h1__8 h1__9 : Int) (h2_ : List Int) : Option R22_r_l3 :=
  cond ((decide (x28 < x27)))
    (f22_r_l3_j1 k x26 x27 x28 true h0_ h0__1 h0__2 h0__3 h0__4 h0__5 h0__6 h0__7 h0__8 h0__9 h0__10 h1_ h1__1 h1__2 h1__3 h1__4 h1__5 h1__6 h1__7 h1__8 h1__9 h2_)
    (some (R22_r_l3.o1 x26 x27 x28 false h0_ h0__1 h0__2 h0__3 h0__4 h0__5 h0__6 h0__7 h0__8 h0__9 h0__10 h1_ h1__1 h1__2 h1__3 h1__4 h1__5 h1__6 h1__7 h1__8 h1__9 h2_))
theorem f22_r_l3_b_ok (k : Nat) (x26 : List T25) (x27 x28 h0_ h0__1 h0__2 h0__3 h0__4 h0__5 h0__6 h0__7 h0__8 h0__9 : Int) (h0__10 : List Int) (h1_ h1__1 h1__2 h1__3 h1__4 h1__5 h1__6 h1__7 h1__8 h1__9 : Int) (h2_ : List Int) (r : R22_r_l3) (hF : f22_r_l3_b k x26 x27 x28 h0_ h0__1 h0__2 h0__3 h0__4 h0__5 h0__6 h0__7 h0__8 h0__9 h0__10 h1_ h1__1 h1__2 h1__3 h1__4 h1__5 h1__6 h1__7 h1__8 h1__9 h2_ = some r) : EX 22 k (nav B22 [1, 2, 2, 1, 2, 2, 2, 2, 2, 2]) ({ n := 40, F := [(2, V.ptr 30000 0), (4, V.ptr 30001 0), (26, V.sl 11 (rowsOf encT25 x26)), (27, V.p (Value.int .i64 x27)), (28, V.p (Value.int .i64 x28))], M := [(30000, O.box 25 [V.p (Value.int .i64 h0_), V.p (Value.int .i64 h0__1), V.p (Value.int .u32 h0__2), V.p (Value.int .i64 h0__3), V.p (Value.int .i64 h0__4), V.p (Value.int .i64 h0__5), V.p (Value.int .i64 h0__6), V.p (Value.int .i64 h0__7), V.p (Value.int .i64 h0__8), V.p (Value.int .i64 h0__9), V.sl 1 (rowsOf (encI .u8) h0__10)]), (30001, O.box 25 [V.p (Value.int .i64 h1_), V.p (Value.int .i64 h1__1), V.p (Value.int .u32 h1__2), V.p (Value.int .i64 h1__3), V.p (Value.int .i64 h1__4), V.p (Value.int .i64 h1__5), V.p (Value.int .i64 h1__6), V.p (Value.int .i64 h1__7), V.p (Value.int .i64 h1__8), V.p (Value.int .i64 h1__9), V.own 30002]), (30002, O.row true 1 5 (rowsOf (encI .u8) h2_))] } : St) = some r.st := by
  unfold f22_r_l3_b at hF
  simp (maxSteps := 999999) (disch := first | exact D (by decide) | exact K (by kernel_rfl)) only [E, EE, ↓reduceIte, simprocAttr, xk B22 [1, 2, 2, 1, 2, 2, 2, 2, 2, 2] .sq rfl, show (nav B22 [1, 1, 2, 2, 1, 2, 2, 2, 2, 2, 2]) = Code.region 9 _ false from rfl, hk_22_9, hz_22_9, hs_22_9, xk B22 [2, 1, 2, 2, 1, 2, 2, 2, 2, 2, 2] .sq rfl, xk B22 [1, 2, 1, 2, 2, 1, 2, 2, 2, 2, 2, 2] (.cd 29) rfl]
  replace hF := cond_some hF
  rcases hF with ⟨h1, hF⟩ | ⟨h1, hF⟩
  · have hJ := f22_r_l3_j1_ok k x26 x27 x28 true h0_ h0__1 h0__2 h0__3 h0__4 h0__5 h0__6 h0__7 h0__8 h0__9 h0__10 h1_ h1__1 h1__2 h1__3 h1__4 h1__5 h1__6 h1__7 h1__8 h1__9 h2_ _ hF
    simp (maxSteps := 999999) (disch := first | exact D (by decide) | exact K (by kernel_rfl)) only [E, EE, ↓reduceIte, simprocAttr, xk B22 [2, 1, 2, 1, 2, 2, 1, 2, 2, 2, 2, 2, 2] .sk rfl, h1]
    try simp only [NM, EE] at hJ
    exact hJ
  · cases hF
    simp (maxSteps := 999999) (disch := first | exact D (by decide) | exact K (by kernel_rfl)) only [E, EE, ↓reduceIte, simprocAttr, xk B22 [3, 1, 2, 1, 2, 2, 1, 2, 2, 2, 2, 2, 2] (.ex 0) rfl, R22_r_l3.st, h1]
noncomputable def f22_r_l3 (k : Nat) : Nat → (List T25) → Int → Int → Int → Int → Int → Int → Int → Int → Int → Int → Int → Int → (List Int) → Int → Int → Int → Int → Int → Int → Int → Int → Int → Int → (List Int) → Option R22_r_l3
  | 0, _, _, _, _, _, _, _, _, _, _, _, _, _, _, _, _, _, _, _, _, _, _, _, _, _ => none
  | n + 1, x26, x27, x28, h0_, h0__1, h0__2, h0__3, h0__4, h0__5, h0__6, h0__7, h0__8, h0__9, h0__10, h1_, h1__1, h1__2, h1__3, h1__4, h1__5, h1__6, h1__7, h1__8, h1__9, h2_ => Option.bind (f22_r_l3_b k x26 x27 x28 h0_ h0__1 h0__2 h0__3 h0__4 h0__5 h0__6 h0__7 h0__8 h0__9 h0__10 h1_ h1__1 h1__2 h1__3 h1__4 h1__5 h1__6 h1__7 h1__8 h1__9 h2_) fun o =>
    match o with
    | .o0 y y_1 y_2 y_3 y_4 y_5 y_6 y_7 y_8 y_9 y_10 y_11 y_12 y_13 y_14 y_15 y_16 y_17 y_18 y_19 y_20 y_21 y_22 y_23 y_24 => f22_r_l3 k n y y_1 y_2 y_3 y_4 y_5 y_6 y_7 y_8 y_9 y_10 y_11 y_12 y_13 y_14 y_15 y_16 y_17 y_18 y_19 y_20 y_21 y_22 y_23 y_24
    | .o1 y y_1 y_2 y_3 y_4 y_5 y_6 y_7 y_8 y_9 y_10 y_11 y_12 y_13 y_14 y_15 y_16 y_17 y_18 y_19 y_20 y_21 y_22 y_23 y_24 y_25 => some (.o1 y y_1 y_2 y_3 y_4 y_5 y_6 y_7 y_8 y_9 y_10 y_11 y_12 y_13 y_14 y_15 y_16 y_17 y_18 y_19 y_20 y_21 y_22 y_23 y_24 y_25)
theorem f22_r_l3_ok (k n : Nat) : ∀ (x26 : List T25) (x27 x28 h0_ h0__1 h0__2 h0__3 h0__4 h0__5 h0__6 h0__7 h0__8 h0__9 : Int) (h0__10 : List Int) (h1_ h1__1 h1__2 h1__3 h1__4 h1__5 h1__6 h1__7 h1__8 h1__9 : Int) (h2_ : List Int) (r : R22_r_l3) (hF : f22_r_l3 k n x26 x27 x28 h0_ h0__1 h0__2 h0__3 h0__4 h0__5 h0__6 h0__7 h0__8 h0__9 h0__10 h1_ h1__1 h1__2 h1__3 h1__4 h1__5 h1__6 h1__7 h1__8 h1__9 h2_ = some r) (σ : St) (hσ : headR (hints.head 22 9) (hints.canon 22 9) σ = some ({ n := 40, F := [(2, V.ptr 30000 0), (4, V.ptr 30001 0), (26, V.sl 11 (rowsOf encT25 x26)), (27, V.p (Value.int .i64 x27)), (28, V.p (Value.int .i64 x28))], M := [(30000, O.box 25 [V.p (Value.int .i64 h0_), V.p (Value.int .i64 h0__1), V.p (Value.int .u32 h0__2), V.p (Value.int .i64 h0__3), V.p (Value.int .i64 h0__4), V.p (Value.int .i64 h0__5), V.p (Value.int .i64 h0__6), V.p (Value.int .i64 h0__7), V.p (Value.int .i64 h0__8), V.p (Value.int .i64 h0__9), V.sl 1 (rowsOf (encI .u8) h0__10)]), (30001, O.box 25 [V.p (Value.int .i64 h1_), V.p (Value.int .i64 h1__1), V.p (Value.int .u32 h1__2), V.p (Value.int .i64 h1__3), V.p (Value.int .i64 h1__4), V.p (Value.int .i64 h1__5), V.p (Value.int .i64 h1__6), V.p (Value.int .i64 h1__7), V.p (Value.int .i64 h1__8), V.p (Value.int .i64 h1__9), V.own 30002]), (30002, O.row true 1 5 (rowsOf (encI .u8) h2_))] } : St)), LP 22 k (nav B22 [1, 2, 2, 1, 2, 2, 2, 2, 2, 2]) n σ = some r.st := by
  induction n with
  | zero => intro x26 x27 x28 h0_ h0__1 h0__2 h0__3 h0__4 h0__5 h0__6 h0__7 h0__8 h0__9 h0__10 h1_ h1__1 h1__2 h1__3 h1__4 h1__5 h1__6 h1__7 h1__8 h1__9 h2_ r hF; cases hF
  | succ n ih =>
    intro x26 x27 x28 h0_ h0__1 h0__2 h0__3 h0__4 h0__5 h0__6 h0__7 h0__8 h0__9 h0__10 h1_ h1__1 h1__2 h1__3 h1__4 h1__5 h1__6 h1__7 h1__8 h1__9 h2_ r hF σ hσ
    rw [f22_r_l3] at hF
    obtain ⟨o, h, hF⟩ := Option.bind_eq_some_iff.1 hF
    have hB := f22_r_l3_b_ok k x26 x27 x28 h0_ h0__1 h0__2 h0__3 h0__4 h0__5 h0__6 h0__7 h0__8 h0__9 h0__10 h1_ h1__1 h1__2 h1__3 h1__4 h1__5 h1__6 h1__7 h1__8 h1__9 h2_ o h
    unfold LP at ih ⊢
    unfold EX at hB
    rw [loopK_succ, show firstReg (nav B22 [1, 2, 2, 1, 2, 2, 2, 2, 2, 2]) = 9 from rfl, hσ, headK_some, hB]
    cases o with
    | o0 y y_1 y_2 y_3 y_4 y_5 y_6 y_7 y_8 y_9 y_10 y_11 y_12 y_13 y_14 y_15 y_16 y_17 y_18 y_19 y_20 y_21 y_22 y_23 y_24 =>
      refine ih y y_1 y_2 y_3 y_4 y_5 y_6 y_7 y_8 y_9 y_10 y_11 y_12 y_13 y_14 y_15 y_16 y_17 y_18 y_19 y_20 y_21 y_22 y_23 y_24 r hF _ ?_
      simp (maxSteps := 999999) (disch := first | exact D (by decide) | exact K (by kernel_rfl)) only [E, EE, ↓reduceIte, simprocAttr, hh_22_9, hc_22_9]
    | o1 y y_1 y_2 y_3 y_4 y_5 y_6 y_7 y_8 y_9 y_10 y_11 y_12 y_13 y_14 y_15 y_16 y_17 y_18 y_19 y_20 y_21 y_22 y_23 y_24 y_25 => cases hF; rfl
noncomputable def f22_r_j4 (k : Nat) (x26 : List T25) (x27 x28 : Int) (x29 : Bool) (h0_ h0__1 h0__2 h0__3 h0__4 h0__5 h0__6 h0__7 h0__8 h0__9 : Int) (h0__10 : List Int) (h1_ h1__1 h1__2 h1__3 h1__4 h1__5 h1__6 h1__7 h1__8 h1__9 : Int) (h2_ : List Int) : Option R22_r :=
  some (R22_r.o1 h1_ h1__1 h1__2 h1__3 h1__4 h1__5 h1__6 h1__7 h1__8 h1__9 0 h2_)
theorem f22_r_j4_ok (k : Nat) (x26 : List T25) (x27 x28 : Int) (x29 : Bool) (h0_ h0__1 h0__2 h0__3 h0__4 h0__5 h0__6 h0__7 h0__8 h0__9 : Int) (h0__10 : List Int) (h1_ h1__1 h1__2 h1__3 h1__4 h1__5 h1__6 h1__7 h1__8 h1__9 : Int) (h2_ : List Int) (r : R22_r) (hF : f22_r_j4 k x26 x27 x28 x29 h0_ h0__1 h0__2 h0__3 h0__4 h0__5 h0__6 h0__7 h0__8 h0__9 h0__10 h1_ h1__1 h1__2 h1__3 h1__4 h1__5 h1__6 h1__7 h1__8 h1__9 h2_ = some r) : finK Try.prog Try.f22 0 (EX 22 k (nav B22 [2, 2, 2, 2, 2, 2, 2]) ({ n := 40, F := [(2, V.ptr 30000 0), (4, V.ptr 30001 0), (26, V.sl 11 (rowsOf encT25 x26)), (27, V.p (Value.int .i64 x27)), (28, V.p (Value.int .i64 x28)), (29, V.p (Value.bool x29))], M := [(30000, O.box 25 [V.p (Value.int .i64 h0_), V.p (Value.int .i64 h0__1), V.p (Value.int .u32 h0__2), V.p (Value.int .i64 h0__3), V.p (Value.int .i64 h0__4), V.p (Value.int .i64 h0__5), V.p (Value.int .i64 h0__6), V.p (Value.int .i64 h0__7), V.p (Value.int .i64 h0__8), V.p (Value.int .i64 h0__9), V.sl 1 (rowsOf (encI .u8) h0__10)]), (30001, O.box 25 [V.p (Value.int .i64 h1_), V.p (Value.int .i64 h1__1), V.p (Value.int .u32 h1__2), V.p (Value.int .i64 h1__3), V.p (Value.int .i64 h1__4), V.p (Value.int .i64 h1__5), V.p (Value.int .i64 h1__6), V.p (Value.int .i64 h1__7), V.p (Value.int .i64 h1__8), V.p (Value.int .i64 h1__9), V.own 30002]), (30002, O.row true 1 5 (rowsOf (encI .u8) h2_))] } : St)) = some r.st := by
  unfold f22_r_j4 at hF
  cases hF
  simp (maxSteps := 999999) (disch := first | exact D (by decide) | exact K (by kernel_rfl)) only [E, EE, ↓reduceIte, simprocAttr, xk B22 [2, 2, 2, 2, 2, 2, 2] .sq rfl, show (nav B22 [1, 2, 2, 2, 2, 2, 2, 2]) = Code.region 13 _ false from rfl, hk_22_13, hz_22_13, hs_22_13, u_25, i_25, is_25, ib_25, iz_25, xk B22 [2, 2, 2, 2, 2, 2, 2, 2] .rt rfl, finK_norm, finK_ret, fin22, R22_r.st]
noncomputable def f22_r_j2 (k : Nat) (x0 : List T25) (x14 : Bool) (m2 m2_1 m2_2 m2_3 m2_4 m2_5 m2_6 m2_7 m2_8 m2_9 : Int) (m2_10 : List Int) : Option R22_r :=
  Option.bind (x0[0]?) fun v1 =>
    Option.bind (f35_r k x0) fun o3 =>
      match o3 with
      | .o0 v6 v7 =>
        Option.bind (f22_r_l3 k k x0 ((List.length x0) : Int) 0 m2 m2_1 m2_2 m2_3 m2_4 m2_5 m2_6 m2_7 m2_8 m2_9 m2_10 v1.Source v1.Dest v1.Seq v1.Created v1.Lifetime v1.HopLimit v1.Hops v1.Priority 0 v1.Total v7) fun o8 =>
          match o8 with
          | .o0 _ _ _ _ _ _ _ _ _ _ _ _ _ _ _ _ _ _ _ _ _ _ _ _ _ =>
            none
          | .o1 v11 v12 v13 v14 v15 v16 v17 v18 v19 v20 v21 v22 v23 v24 v25 v26 v27 v28 v29 v30 v31 v32 v33 v34 v35 v36 =>
            f22_r_j4 k v11 v12 v13 v14 v15 v16 v17 v18 v19 v20 v21 v22 v23 v24 v25 v26 v27 v28 v29 v30 v31 v32 v33 v34 v35 v36
theorem f22_r_j2_ok (k : Nat) (x0 : List T25) (x14 : Bool) (m2 m2_1 m2_2 m2_3 m2_4 m2_5 m2_6 m2_7 m2_8 m2_9 : Int) (m2_10 : List Int) (r : R22_r) (hF : f22_r_j2 k x0 x14 m2 m2_1 m2_2 m2_3 m2_4 m2_5 m2_6 m2_7 m2_8 m2_9 m2_10 = some r) : finK Try.prog Try.f22 0 (EX 22 k (nav B22 [2, 2, 2]) ({ n := 40, F := [(0, V.sl 11 (rowsOf encT25 x0)), (2, V.ptr 2 0), (14, V.p (Value.bool x14))], M := [(2, O.box 25 [V.p (Value.int .i64 m2), V.p (Value.int .i64 m2_1), V.p (Value.int .u32 m2_2), V.p (Value.int .i64 m2_3), V.p (Value.int .i64 m2_4), V.p (Value.int .i64 m2_5), V.p (Value.int .i64 m2_6), V.p (Value.int .i64 m2_7), V.p (Value.int .i64 m2_8), V.p (Value.int .i64 m2_9), V.sl 1 (rowsOf (encI .u8) m2_10)])] } : St)) = some r.st := by
  unfold f22_r_j2 at hF
  replace hF := Option.bind_eq_some_iff.1 hF
  obtain ⟨v1, h2, hF⟩ := hF
  replace hF := Option.bind_eq_some_iff.1 hF
  obtain ⟨o3, h4, hF⟩ := hF
  have hc5 := f35_r_ok k x0 _ h4
  cases o3 with
  | o0 v6 v7 =>
    (try dsimp only at hF)
    (try simp only [NM, EE, R35_r.st] at hc5)
    replace hF := Option.bind_eq_some_iff.1 hF
    obtain ⟨o8, h9, hF⟩ := hF
    have hc10 := f22_r_l3_ok k k x0 ((List.length x0) : Int) 0 m2 m2_1 m2_2 m2_3 m2_4 m2_5 m2_6 m2_7 m2_8 m2_9 m2_10 v1.Source v1.Dest v1.Seq v1.Created v1.Lifetime v1.HopLimit v1.Hops v1.Priority 0 v1.Total v7 _ h9
    simp (maxSteps := 999999) (disch := first | exact D (by decide) | exact K (by kernel_rfl)) only [E, EE, ↓reduceIte, simprocAttr, xk B22 [2, 2, 2] .sq rfl, show (nav B22 [1, 2, 2, 2]) = Code.region 5 _ false from rfl, hk_22_5, hz_22_5, hs_22_5, indexAddrV, u_28, i_28, is_28, ib_28, iz_28, u_25, i_25, is_25, ib_25, iz_25, encT25_eq, xk B22 [2, 2, 2, 2] .sq rfl, show (nav B22 [1, 2, 2, 2, 2]) = Code.region 6 _ false from rfl, hk_22_6, hz_22_6, hs_22_6, fieldAddrV, u_3, i_3, is_3, ib_3, iz_3, xk B22 [2, 2, 2, 2, 2] .sq rfl, show (nav B22 [1, 2, 2, 2, 2, 2]) = Code.region 7 _ false from rfl, hk_22_7, hz_22_7, hs_22_7, callStep, CL, gv, List.contains, u_23, i_23, is_23, ib_23, iz_23, xk B22 [2, 2, 2, 2, 2, 2] .sq rfl, xk B22 [1, 2, 2, 2, 2, 2, 2] .sq rfl, show (nav B22 [1, 1, 2, 2, 2, 2, 2, 2]) = Code.region 8 _ false from rfl, hk_22_8, hz_22_8, hs_22_8, xk B22 [2, 1, 2, 2, 2, 2, 2, 2] (.bk 0) rfl, xk B22 [2, 2, 1, 2, 2, 2, 2, 2, 2] .lp rfl, hh_22_9, hc_22_9, h2, hc5]
    (try simp only [NM, EE] at hc10)
    rw [hc10 _ (by simp (maxSteps := 999999) (disch := first | exact D (by decide) | exact K (by kernel_rfl)) only [E, EE, ↓reduceIte, simprocAttr, hh_22_9, hc_22_9, h2, hc5])]
    clear hc10
    cases o8 with
    | o0 _ _ _ _ _ _ _ _ _ _ _ _ _ _ _ _ _ _ _ _ _ _ _ _ _ =>
      (try dsimp only at hF)
      cases hF
    | o1 v11 v12 v13 v14 v15 v16 v17 v18 v19 v20 v21 v22 v23 v24 v25 v26 v27 v28 v29 v30 v31 v32 v33 v34 v35 v36 =>
      (try dsimp only at hF)
      have hJ := f22_r_j4_ok k v11 v12 v13 v14 v15 v16 v17 v18 v19 v20 v21 v22 v23 v24 v25 v26 v27 v28 v29 v30 v31 v32 v33 v34 v35 v36 _ hF
      simp (maxSteps := 999999) (disch := first | exact D (by decide) | exact K (by kernel_rfl)) only [E, EE, ↓reduceIte, simprocAttr, R22_r_l3.st, h2, hc5]
      try simp only [NM, EE] at hJ
      exact hJ
noncomputable def f22_r_j1 (k : Nat) (x0 : List T25) (x9 : Bool) (m2 m2_1 m2_2 m2_3 m2_4 m2_5 m2_6 m2_7 m2_8 m2_9 : Int) (m2_10 : List Int) : Option R22_r :=
  Option.bind (f25_r k x0) fun o1 =>
    match o1 with
    | .o0 v4 =>
      cond ((decide (((List.length v4) : Int) > 0)))
        (some (R22_r.o0 0 0 0 0 0 0 0 0 0 0 [] 4))
        (f22_r_j2 k x0 false m2 m2_1 m2_2 m2_3 m2_4 m2_5 m2_6 m2_7 m2_8 m2_9 m2_10)
theorem f22_r_j1_ok (k : Nat) (x0 : List T25) (x9 : Bool) (m2 m2_1 m2_2 m2_3 m2_4 m2_5 m2_6 m2_7 m2_8 m2_9 : Int) (m2_10 : List Int) (r : R22_r) (hF : f22_r_j1 k x0 x9 m2 m2_1 m2_2 m2_3 m2_4 m2_5 m2_6 m2_7 m2_8 m2_9 m2_10 = some r) : finK Try.prog Try.f22 0 (EX 22 k (nav B22 [2, 2]) ({ n := 40, F := [(0, V.sl 11 (rowsOf encT25 x0)), (2, V.ptr 2 0), (9, V.p (Value.bool x9))], M := [(2, O.box 25 [V.p (Value.int .i64 m2), V.p (Value.int .i64 m2_1), V.p (Value.int .u32 m2_2), V.p (Value.int .i64 m2_3), V.p (Value.int .i64 m2_4), V.p (Value.int .i64 m2_5), V.p (Value.int .i64 m2_6), V.p (Value.int .i64 m2_7), V.p (Value.int .i64 m2_8), V.p (Value.int .i64 m2_9), V.sl 1 (rowsOf (encI .u8) m2_10)])] } : St)) = some r.st := by
  unfold f22_r_j1 at hF
  replace hF := Option.bind_eq_some_iff.1 hF
  obtain ⟨o1, h2, hF⟩ := hF
  have hc3 := f25_r_ok k x0 _ h2
  cases o1 with
  | o0 v4 =>
    (try dsimp only at hF)
    (try simp only [NM, EE, R25_r.st] at hc3)
    simp (maxSteps := 999999) (disch := first | exact D (by decide) | exact K (by kernel_rfl)) only [E, EE, ↓reduceIte, simprocAttr, xk B22 [2, 2] .sq rfl, xk B22 [1, 2, 2] .sq rfl, show (nav B22 [1, 1, 2, 2]) = Code.region 3 _ false from rfl, hk_22_3, hz_22_3, hs_22_3, callStep, CL, gv, List.contains, u_41, i_41, is_41, ib_41, iz_41, xk B22 [2, 1, 2, 2] (.cd 14) rfl, hc3]
    replace hF := cond_some hF
    rcases hF with ⟨h5, hF⟩ | ⟨h5, hF⟩
    · cases hF
      simp (maxSteps := 999999) (disch := first | exact D (by decide) | exact K (by kernel_rfl)) only [E, EE, ↓reduceIte, simprocAttr, xk B22 [2, 2, 1, 2, 2] .sq rfl, show (nav B22 [1, 2, 2, 1, 2, 2]) = Code.region 4 _ false from rfl, hk_22_4, hz_22_4, hs_22_4, bl_25, u_25, i_25, is_25, ib_25, iz_25, xk B22 [2, 2, 2, 1, 2, 2] .rt rfl, finK_norm, finK_ret, fin22, R22_r.st, hc3, h5]
    · have hJ := f22_r_j2_ok k x0 false m2 m2_1 m2_2 m2_3 m2_4 m2_5 m2_6 m2_7 m2_8 m2_9 m2_10 _ hF
      simp (maxSteps := 999999) (disch := first | exact D (by decide) | exact K (by kernel_rfl)) only [E, EE, ↓reduceIte, simprocAttr, xk B22 [3, 2, 1, 2, 2] .sk rfl, hc3, h5]
      try simp only [NM, EE] at hJ
      exact hJ
noncomputable def f22_r_e (k : Nat) (a0 : List T25) : Option R22_r :=
  Option.bind (f24_r k a0) fun o1 =>
    match o1 with
    | .o0 v4 =>
      cond ((!v4))
        (some (R22_r.o0 0 0 0 0 0 0 0 0 0 0 [] 280))
        (f22_r_j1 k a0 false 0 0 0 0 0 0 0 0 0 0 [])
theorem f22_r_e_ok (k : Nat) (a0 : List T25) (r : R22_r) (hF : f22_r_e k a0 = some r) : finK Try.prog Try.f22 0 (EX 22 k (nav B22 []) ({ n := 40, F := [(0, V.sl 11 (rowsOf encT25 a0))], M := [] } : St)) = some r.st := by
  unfold f22_r_e at hF
  replace hF := Option.bind_eq_some_iff.1 hF
  obtain ⟨o1, h2, hF⟩ := hF
  have hc3 := f24_r_ok k a0 _ h2
  cases o1 with
  | o0 v4 =>
    (try dsimp only at hF)
    (try simp only [NM, EE, R24_r.st] at hc3)
    simp (maxSteps := 999999) (disch := first | exact D (by decide) | exact K (by kernel_rfl)) only [E, EE, ↓reduceIte, simprocAttr, xk B22 [] .sq rfl, show (nav B22 [1]) = Code.region 0 _ false from rfl, hk_22_0, hz_22_0, hs_22_0, u_25, i_25, is_25, ib_25, iz_25, xk B22 [2] .sq rfl, xk B22 [1, 2] .sq rfl, show (nav B22 [1, 1, 2]) = Code.region 1 _ false from rfl, hk_22_1, hz_22_1, hs_22_1, callStep, CL, gv, List.contains, xk B22 [2, 1, 2] (.cd 9) rfl, hc3]
    replace hF := cond_some hF
    rcases hF with ⟨h5, hF⟩ | ⟨h5, hF⟩
    · cases hF
      simp (maxSteps := 999999) (disch := first | exact D (by decide) | exact K (by kernel_rfl)) only [E, EE, ↓reduceIte, simprocAttr, xk B22 [2, 2, 1, 2] .sq rfl, show (nav B22 [1, 2, 2, 1, 2]) = Code.region 2 _ false from rfl, hk_22_2, hz_22_2, hs_22_2, bl_25, u_25, i_25, is_25, ib_25, iz_25, xk B22 [2, 2, 2, 1, 2] .rt rfl, finK_norm, finK_ret, fin22, R22_r.st, hc3, h5]
    · have hJ := f22_r_j1_ok k a0 false 0 0 0 0 0 0 0 0 0 0 [] _ hF
      simp (maxSteps := 999999) (disch := first | exact D (by decide) | exact K (by kernel_rfl)) only [E, EE, ↓reduceIte, simprocAttr, xk B22 [3, 2, 1, 2] .sk rfl, hc3, h5]
      try simp only [NM, EE] at hJ
      exact hJ
noncomputable def f22_r (k : Nat) (a0 : List T25) : Option R22_r := match k with | 0 => none | k + 1 => f22_r_e k a0
theorem f22_r_ok (k : Nat) (a0 : List T25) (r : R22_r) (hF : f22_r k a0 = some r) : CV k 22 [V.sl 11 (rowsOf encT25 a0)] [] = some r.st := by
  cases k with
  | zero => cases hF
  | succ k =>
    unfold CV
    rw [ev_call (F := Try.f22) (c := (nav B22 [])) rfl Try.func22 rfl rfl rfl rfl]
    exact f22_r_e_ok k a0 r hF
-- f23_r: f23 heliograph/pieces.Missing
inductive R23_r where
  | o0 (y : Int) (y_1 : List T47)
noncomputable def R23_r.st : R23_r → V × List O × List O
  | .o0 y y_1 => (V.tup [V.own 2000000, V.p (Value.int .i64 y)], [], [O.row true 2 47 (rowsOf encT47 y_1)])
noncomputable def f23_r_e (k : Nat) (a0 : List T25) : Option R23_r :=
  Option.bind (f31_r k a0) fun o1 =>
    match o1 with
    | .o0 v4 v5 v6 =>
      Option.bind (f32_r k v4) fun o7 =>
        match o7 with
        | .o0 v10 =>
          some (R23_r.o0 v6 v10)
    | .o1 v11 v12 v13 =>
      Option.bind (f32_r k v12) fun o14 =>
        match o14 with
        | .o0 v17 =>
          some (R23_r.o0 v11 v17)
theorem f23_r_e_ok (k : Nat) (a0 : List T25) (r : R23_r) (hF : f23_r_e k a0 = some r) : finK Try.prog Try.f23 0 (EX 23 k (nav B23 []) ({ n := 16, F := [(0, V.sl 11 (rowsOf encT25 a0))], M := [] } : St)) = some r.st := by
  unfold f23_r_e at hF
  simp (maxSteps := 999999) (disch := first | exact D (by decide) | exact K (by kernel_rfl)) only [E, EE, ↓reduceIte, simprocAttr, xk B23 [] .sq rfl, show (nav B23 [1]) = Code.region 0 _ false from rfl, hk_23_0, hz_23_0, hs_23_0, xk B23 [2] .sq rfl, show (nav B23 [1, 2]) = Code.region 1 _ false from rfl, hk_23_1, hz_23_1, hs_23_1, callStep, CL, gv, List.contains]
  replace hF := Option.bind_eq_some_iff.1 hF
  obtain ⟨o1, h2, hF⟩ := hF
  have hc3 := f31_r_ok k a0 _ h2
  cases o1 with
  | o0 v4 v5 v6 =>
    (try dsimp only at hF)
    (try simp only [NM, EE, R31_r.st] at hc3)
    replace hF := Option.bind_eq_some_iff.1 hF
    obtain ⟨o7, h8, hF⟩ := hF
    have hc9 := f32_r_ok k v4 _ h8
    cases o7 with
    | o0 v10 =>
      (try dsimp only at hF)
      (try simp only [NM, EE, R32_r.st] at hc9)
      cases hF
      simp (maxSteps := 999999) (disch := first | exact D (by decide) | exact K (by kernel_rfl)) only [E, EE, ↓reduceIte, simprocAttr, xk B23 [2, 2] .sq rfl, show (nav B23 [1, 2, 2]) = Code.region 2 _ false from rfl, hk_23_2, hz_23_2, hs_23_2, callStep, CL, gv, List.contains, xk B23 [2, 2, 2] .rt rfl, finK_norm, finK_ret, fin23, R23_r.st, hc3, hc9]
  | o1 v11 v12 v13 =>
    (try dsimp only at hF)
    (try simp only [NM, EE, R31_r.st] at hc3)
    replace hF := Option.bind_eq_some_iff.1 hF
    obtain ⟨o14, h15, hF⟩ := hF
    have hc16 := f32_r_ok k v12 _ h15
    cases o14 with
    | o0 v17 =>
      (try dsimp only at hF)
      (try simp only [NM, EE, R32_r.st] at hc16)
      cases hF
      simp (maxSteps := 999999) (disch := first | exact D (by decide) | exact K (by kernel_rfl)) only [E, EE, ↓reduceIte, simprocAttr, xk B23 [2, 2] .sq rfl, show (nav B23 [1, 2, 2]) = Code.region 2 _ false from rfl, hk_23_2, hz_23_2, hs_23_2, callStep, CL, gv, List.contains, xk B23 [2, 2, 2] .rt rfl, finK_norm, finK_ret, fin23, R23_r.st, hc3, hc16]
noncomputable def f23_r (k : Nat) (a0 : List T25) : Option R23_r := match k with | 0 => none | k + 1 => f23_r_e k a0
theorem f23_r_ok (k : Nat) (a0 : List T25) (r : R23_r) (hF : f23_r k a0 = some r) : CV k 23 [V.sl 11 (rowsOf encT25 a0)] [] = some r.st := by
  cases k with
  | zero => cases hF
  | succ k =>
    unfold CV
    rw [ev_call (F := Try.f23) (c := (nav B23 [])) rfl Try.func23 rfl rfl rfl rfl]
    exact f23_r_e_ok k a0 r hF
-- f13_rr: f13 heliograph/heliographlaw18.same
inductive R13_rr where
  | o0 (y : Bool)
noncomputable def R13_rr.st : R13_rr → V × List O × List O
  | .o0 y => (V.p (Value.bool y), [], [])
inductive R13_rr_l2 where
  | o0 (y : Bool)
  | o1 (y y_1 : List T25) (y_2 y_3 : Int)
  | o2 (y y_1 : List T25) (y_2 y_3 : Int) (y_4 : Bool)
noncomputable def R13_rr_l2.st : R13_rr_l2 → Out × St
  | .o0 y => (.ret, ({ n := 27, F := [(4, V.p (Value.bool y))], M := [] } : St))
  | .o1 y y_1 y_2 y_3 => (.norm, ({ n := 27, F := [(0, V.sl 11 (rowsOf encT25 y)), (1, V.sl 11 (rowsOf encT25 y_1)), (12, V.p (Value.int .i64 y_2)), (13, V.p (Value.int .i64 y_3))], M := [] } : St))
  | .o2 y y_1 y_2 y_3 y_4 => (.exit 0, ({ n := 27, F := [(0, V.sl 11 (rowsOf encT25 y)), (1, V.sl 11 (rowsOf encT25 y_1)), (12, V.p (Value.int .i64 y_2)), (13, V.p (Value.int .i64 y_3)), (14, V.p (Value.bool y_4))], M := [] } : St))
noncomputable def f13_rr_l2_j2 (k : Nat) (x0 x1 : List T25) (x12 x13 : Int) (x25 : Bool) : Option R13_rr_l2 :=
  some (R13_rr_l2.o1 x0 x1 x12 (IntKind.i64.wrap (x13 + (1 : Int))))
theorem f13_rr_l2_j2_ok (k : Nat) (x0 x1 : List T25) (x12 x13 : Int) (x25 : Bool) (r : R13_rr_l2) (hF : f13_rr_l2_j2 k x0 x1 x12 x13 x25 = some r) : EX 13 k (nav B13 [2, 2, 2, 1, 2, 2, 1, 2, 2]) ({ n := 27, F := [(0, V.sl 11 (rowsOf encT25 x0)), (1, V.sl 11 (rowsOf encT25 x1)), (12, V.p (Value.int .i64 x12)), (13, V.p (Value.int .i64 x13)), (25, V.p (Value.bool x25))], M := [] } : St) = some r.st := by
  unfold f13_rr_l2_j2 at hF
  cases hF
  simp (maxSteps := 999999) (disch := first | exact D (by decide) | exact K (by kernel_rfl)) only [E, EE, ↓reduceIte, simprocAttr, show (nav B13 [2, 2, 2, 1, 2, 2, 1, 2, 2]) = Code.region 8 _ false from rfl, hk_13_8, hz_13_8, hs_13_8, R13_rr_l2.st]
noncomputable def f13_rr_l2_j1 (k : Nat) (x0 x1 : List T25) (x12 x13 : Int) (x14 : Bool) : Option R13_rr_l2 :=
  ifE ((0 : Int) ≤ x13) (
    Option.bind (x0[(Int.toNat x13)]?) fun v2 =>
      Option.bind (x1[(Int.toNat x13)]?) fun v4 =>
        Option.bind (f15_ai10rzai10rz k v2.Source v2.Dest v2.Seq v2.Created v2.Lifetime v2.HopLimit v2.Hops v2.Priority v2.Offset v2.Total v2.Payload v4.Source v4.Dest v4.Seq v4.Created v4.Lifetime v4.HopLimit v4.Hops v4.Priority v4.Offset v4.Total v4.Payload) fun o6 =>
          match o6 with
          | .o0 v9 =>
            cond ((!v9))
              (some (R13_rr_l2.o0 false))
              (f13_rr_l2_j2 k x0 x1 x12 x13 false))
theorem f13_rr_l2_j1_ok (k : Nat) (x0 x1 : List T25) (x12 x13 : Int) (x14 : Bool) (r : R13_rr_l2) (hF : f13_rr_l2_j1 k x0 x1 x12 x13 x14 = some r) : EX 13 k (nav B13 [2, 2, 1, 2, 2, 1, 2, 2]) ({ n := 27, F := [(0, V.sl 11 (rowsOf encT25 x0)), (1, V.sl 11 (rowsOf encT25 x1)), (12, V.p (Value.int .i64 x12)), (13, V.p (Value.int .i64 x13)), (14, V.p (Value.bool x14))], M := [] } : St) = some r.st := by
  unfold f13_rr_l2_j1 at hF
  replace hF := ifE_some.1 hF
  obtain ⟨h1, hF⟩ := hF
  replace hF := Option.bind_eq_some_iff.1 hF
  obtain ⟨v2, h3, hF⟩ := hF
  replace hF := Option.bind_eq_some_iff.1 hF
  obtain ⟨v4, h5, hF⟩ := hF
  replace hF := Option.bind_eq_some_iff.1 hF
  obtain ⟨o6, h7, hF⟩ := hF
  have hc8 := f15_ai10rzai10rz_ok k v2.Source v2.Dest v2.Seq v2.Created v2.Lifetime v2.HopLimit v2.Hops v2.Priority v2.Offset v2.Total v2.Payload v4.Source v4.Dest v4.Seq v4.Created v4.Lifetime v4.HopLimit v4.Hops v4.Priority v4.Offset v4.Total v4.Payload _ h7
  cases o6 with
  | o0 v9 =>
    (try dsimp only at hF)
    (try simp only [NM, EE, R15_ai10rzai10rz.st] at hc8)
    simp (maxSteps := 999999) (disch := first | exact D (by decide) | exact K (by kernel_rfl)) only [E, EE, ↓reduceIte, simprocAttr, xk B13 [2, 2, 1, 2, 2, 1, 2, 2] .sq rfl, xk B13 [1, 2, 2, 1, 2, 2, 1, 2, 2] (.bk 1) rfl, xk B13 [2, 1, 2, 2, 1, 2, 2, 1, 2, 2] .sq rfl, show (nav B13 [1, 2, 1, 2, 2, 1, 2, 2, 1, 2, 2]) = Code.region 5 _ false from rfl, hk_13_5, hz_13_5, hs_13_5, xk B13 [2, 2, 1, 2, 2, 1, 2, 2, 1, 2, 2] .sq rfl, show (nav B13 [1, 2, 2, 1, 2, 2, 1, 2, 2, 1, 2, 2]) = Code.region 6 _ true from rfl, hk_13_6, hz_13_6, hs_13_6, indexAddrV, u_28, i_28, is_28, ib_28, iz_28, u_25, i_25, is_25, ib_25, iz_25, encT25_eq, callStep, CL, gv, List.contains, xk B13 [2, 2, 2, 1, 2, 2, 1, 2, 2, 1, 2, 2] (.cd 25) rfl, h1, h3, h5, hc8]
    replace hF := cond_some hF
    rcases hF with ⟨h10, hF⟩ | ⟨h10, hF⟩
    · cases hF
      simp (maxSteps := 999999) (disch := first | exact D (by decide) | exact K (by kernel_rfl)) only [E, EE, ↓reduceIte, simprocAttr, xk B13 [2, 2, 2, 2, 1, 2, 2, 1, 2, 2, 1, 2, 2] .sq rfl, show (nav B13 [1, 2, 2, 2, 2, 1, 2, 2, 1, 2, 2, 1, 2, 2]) = Code.region 7 _ false from rfl, hk_13_7, hz_13_7, hs_13_7, xk B13 [2, 2, 2, 2, 2, 1, 2, 2, 1, 2, 2, 1, 2, 2] .rt rfl, R13_rr_l2.st, h1, h3, h5, hc8, h10]
    · have hJ := f13_rr_l2_j2_ok k x0 x1 x12 x13 false _ hF
      simp (maxSteps := 999999) (disch := first | exact D (by decide) | exact K (by kernel_rfl)) only [E, EE, ↓reduceIte, simprocAttr, xk B13 [3, 2, 2, 2, 1, 2, 2, 1, 2, 2, 1, 2, 2] .sk rfl, h1, h3, h5, hc8, h10]
      try simp only [NM, EE] at hJ
      exact hJ
noncomputable def f13_rr_l2_b (k : Nat) (x0 x1 : List T25) (x12 x13 : Int) : Option R13_rr_l2 :=
  cond ((decide (x13 < x12)))
    (f13_rr_l2_j1 k x0 x1 x12 x13 true)
    (some (R13_rr_l2.o2 x0 x1 x12 x13 false))
theorem f13_rr_l2_b_ok (k : Nat) (x0 x1 : List T25) (x12 x13 : Int) (r : R13_rr_l2) (hF : f13_rr_l2_b k x0 x1 x12 x13 = some r) : EX 13 k (nav B13 [1, 2, 2, 1, 2, 2]) ({ n := 27, F := [(0, V.sl 11 (rowsOf encT25 x0)), (1, V.sl 11 (rowsOf encT25 x1)), (12, V.p (Value.int .i64 x12)), (13, V.p (Value.int .i64 x13))], M := [] } : St) = some r.st := by
  unfold f13_rr_l2_b at hF
  simp (maxSteps := 999999) (disch := first | exact D (by decide) | exact K (by kernel_rfl)) only [E, EE, ↓reduceIte, simprocAttr, xk B13 [1, 2, 2, 1, 2, 2] .sq rfl, show (nav B13 [1, 1, 2, 2, 1, 2, 2]) = Code.region 4 _ false from rfl, hk_13_4, hz_13_4, hs_13_4, xk B13 [2, 1, 2, 2, 1, 2, 2] .sq rfl, xk B13 [1, 2, 1, 2, 2, 1, 2, 2] (.cd 14) rfl]
  replace hF := cond_some hF
  rcases hF with ⟨h1, hF⟩ | ⟨h1, hF⟩
  · have hJ := f13_rr_l2_j1_ok k x0 x1 x12 x13 true _ hF
    simp (maxSteps := 999999) (disch := first | exact D (by decide) | exact K (by kernel_rfl)) only [E, EE, ↓reduceIte, simprocAttr, xk B13 [2, 1, 2, 1, 2, 2, 1, 2, 2] .sk rfl, h1]
    try simp only [NM, EE] at hJ
    exact hJ
  · cases hF
    simp (maxSteps := 999999) (disch := first | exact D (by decide) | exact K (by kernel_rfl)) only [E, EE, ↓reduceIte, simprocAttr, xk B13 [3, 1, 2, 1, 2, 2, 1, 2, 2] (.ex 0) rfl, R13_rr_l2.st, h1]
noncomputable def f13_rr_l2 (k : Nat) : Nat → (List T25) → (List T25) → Int → Int → Option R13_rr_l2
  | 0, _, _, _, _ => none
  | n + 1, x0, x1, x12, x13 => Option.bind (f13_rr_l2_b k x0 x1 x12 x13) fun o =>
    match o with
    | .o0 y => some (.o0 y)
    | .o1 y y_1 y_2 y_3 => f13_rr_l2 k n y y_1 y_2 y_3
    | .o2 y y_1 y_2 y_3 y_4 => some (.o2 y y_1 y_2 y_3 y_4)
theorem f13_rr_l2_ok (k n : Nat) : ∀ (x0 x1 : List T25) (x12 x13 : Int) (r : R13_rr_l2) (hF : f13_rr_l2 k n x0 x1 x12 x13 = some r) (σ : St) (hσ : headR (hints.head 13 4) (hints.canon 13 4) σ = some ({ n := 27, F := [(0, V.sl 11 (rowsOf encT25 x0)), (1, V.sl 11 (rowsOf encT25 x1)), (12, V.p (Value.int .i64 x12)), (13, V.p (Value.int .i64 x13))], M := [] } : St)), LP 13 k (nav B13 [1, 2, 2, 1, 2, 2]) n σ = some r.st := by
  induction n with
  | zero => intro x0 x1 x12 x13 r hF; cases hF
  | succ n ih =>
    intro x0 x1 x12 x13 r hF σ hσ
    rw [f13_rr_l2] at hF
    obtain ⟨o, h, hF⟩ := Option.bind_eq_some_iff.1 hF
    have hB := f13_rr_l2_b_ok k x0 x1 x12 x13 o h
    unfold LP at ih ⊢
    unfold EX at hB
    rw [loopK_succ, show firstReg (nav B13 [1, 2, 2, 1, 2, 2]) = 4 from rfl, hσ, headK_some, hB]
    cases o with
    | o0 y => cases hF; rfl
    | o1 y y_1 y_2 y_3 =>
      refine ih y y_1 y_2 y_3 r hF _ ?_
      simp (maxSteps := 999999) (disch := first | exact D (by decide) | exact K (by kernel_rfl)) only [E, EE, ↓reduceIte, simprocAttr, hh_13_4, hc_13_4]
    | o2 y y_1 y_2 y_3 y_4 => cases hF; rfl
noncomputable def f13_rr_j3 (k : Nat) (x0 x1 : List T25) (x12 x13 : Int) (x14 : Bool) : Option R13_rr :=
  some (R13_rr.o0 true)
theorem f13_rr_j3_ok (k : Nat) (x0 x1 : List T25) (x12 x13 : Int) (x14 : Bool) (r : R13_rr) (hF : f13_rr_j3 k x0 x1 x12 x13 x14 = some r) : finK Try.prog Try.f13 0 (EX 13 k (nav B13 [2, 2, 2]) ({ n := 27, F := [(0, V.sl 11 (rowsOf encT25 x0)), (1, V.sl 11 (rowsOf encT25 x1)), (12, V.p (Value.int .i64 x12)), (13, V.p (Value.int .i64 x13)), (14, V.p (Value.bool x14))], M := [] } : St)) = some r.st := by
  unfold f13_rr_j3 at hF
  cases hF
  simp (maxSteps := 999999) (disch := first | exact D (by decide) | exact K (by kernel_rfl)) only [E, EE, ↓reduceIte, simprocAttr, xk B13 [2, 2, 2] .sq rfl, show (nav B13 [1, 2, 2, 2]) = Code.region 9 _ false from rfl, hk_13_9, hz_13_9, hs_13_9, xk B13 [2, 2, 2, 2] .rt rfl, finK_norm, finK_ret, fin13, R13_rr.st]
noncomputable def f13_rr_j1 (k : Nat) (x0 x1 : List T25) (x10 : Bool) : Option R13_rr :=
  Option.bind (f13_rr_l2 k k x0 x1 ((List.length x0) : Int) 0) fun o1 =>
    match o1 with
    | .o0 v4 =>
      some (R13_rr.o0 v4)
    | .o1 _ _ _ _ =>
      none
    | .o2 v5 v6 v7 v8 v9 =>
      f13_rr_j3 k v5 v6 v7 v8 v9
theorem f13_rr_j1_ok (k : Nat) (x0 x1 : List T25) (x10 : Bool) (r : R13_rr) (hF : f13_rr_j1 k x0 x1 x10 = some r) : finK Try.prog Try.f13 0 (EX 13 k (nav B13 [2, 2]) ({ n := 27, F := [(0, V.sl 11 (rowsOf encT25 x0)), (1, V.sl 11 (rowsOf encT25 x1)), (10, V.p (Value.bool x10))], M := [] } : St)) = some r.st := by
  unfold f13_rr_j1 at hF
  replace hF := Option.bind_eq_some_iff.1 hF
  obtain ⟨o1, h2, hF⟩ := hF
  have hc3 := f13_rr_l2_ok k k x0 x1 ((List.length x0) : Int) 0 _ h2
  simp (maxSteps := 999999) (disch := first | exact D (by decide) | exact K (by kernel_rfl)) only [E, EE, ↓reduceIte, simprocAttr, xk B13 [2, 2] .sq rfl, xk B13 [1, 2, 2] .sq rfl, show (nav B13 [1, 1, 2, 2]) = Code.region 3 _ false from rfl, hk_13_3, hz_13_3, hs_13_3, u_28, i_28, is_28, ib_28, iz_28, xk B13 [2, 1, 2, 2] (.bk 0) rfl, xk B13 [2, 2, 1, 2, 2] .lp rfl, hh_13_4, hc_13_4]
  (try simp only [NM, EE] at hc3)
  rw [hc3 _ (by simp (maxSteps := 999999) (disch := first | exact D (by decide) | exact K (by kernel_rfl)) only [E, EE, ↓reduceIte, simprocAttr, hh_13_4, hc_13_4])]
  clear hc3
  cases o1 with
  | o0 v4 =>
    (try dsimp only at hF)
    cases hF
    simp (maxSteps := 999999) (disch := first | exact D (by decide) | exact K (by kernel_rfl)) only [E, EE, ↓reduceIte, simprocAttr, R13_rr_l2.st, finK_norm, finK_ret, fin13, R13_rr.st]
  | o1 _ _ _ _ =>
    (try dsimp only at hF)
    cases hF
  | o2 v5 v6 v7 v8 v9 =>
    (try dsimp only at hF)
    have hJ := f13_rr_j3_ok k v5 v6 v7 v8 v9 _ hF
    simp (maxSteps := 999999) (disch := first | exact D (by decide) | exact K (by kernel_rfl)) only [E, EE, ↓reduceIte, simprocAttr, R13_rr_l2.st]
    try simp only [NM, EE] at hJ
    exact hJ
noncomputable def f13_rr_e (k : Nat) (a0 a1 : List T25) : Option R13_rr :=
  cond ((((List.length a0) : Int) != ((List.length a1) : Int)))
    (some (R13_rr.o0 false))
    (f13_rr_j1 k a0 a1 false)
theorem f13_rr_e_ok (k : Nat) (a0 a1 : List T25) (r : R13_rr) (hF : f13_rr_e k a0 a1 = some r) : finK Try.prog Try.f13 0 (EX 13 k (nav B13 []) ({ n := 27, F := [(0, V.sl 11 (rowsOf encT25 a0)), (1, V.sl 11 (rowsOf encT25 a1))], M := [] } : St)) = some r.st := by
  unfold f13_rr_e at hF
  simp (maxSteps := 999999) (disch := first | exact D (by decide) | exact K (by kernel_rfl)) only [E, EE, ↓reduceIte, simprocAttr, xk B13 [] .sq rfl, show (nav B13 [1]) = Code.region 0 _ false from rfl, hk_13_0, hz_13_0, hs_13_0, xk B13 [2] .sq rfl, xk B13 [1, 2] .sq rfl, show (nav B13 [1, 1, 2]) = Code.region 1 _ false from rfl, hk_13_1, hz_13_1, hs_13_1, u_28, i_28, is_28, ib_28, iz_28, xk B13 [2, 1, 2] (.cd 10) rfl]
  replace hF := cond_some hF
  rcases hF with ⟨h1, hF⟩ | ⟨h1, hF⟩
  · cases hF
    simp (maxSteps := 999999) (disch := first | exact D (by decide) | exact K (by kernel_rfl)) only [E, EE, ↓reduceIte, simprocAttr, xk B13 [2, 2, 1, 2] .sq rfl, show (nav B13 [1, 2, 2, 1, 2]) = Code.region 2 _ false from rfl, hk_13_2, hz_13_2, hs_13_2, xk B13 [2, 2, 2, 1, 2] .rt rfl, finK_norm, finK_ret, fin13, R13_rr.st, h1]
  · have hJ := f13_rr_j1_ok k a0 a1 false _ hF
    simp (maxSteps := 999999) (disch := first | exact D (by decide) | exact K (by kernel_rfl)) only [E, EE, ↓reduceIte, simprocAttr, xk B13 [3, 2, 1, 2] .sk rfl, h1]
    try simp only [NM, EE] at hJ
    exact hJ
noncomputable def f13_rr (k : Nat) (a0 a1 : List T25) : Option R13_rr := match k with | 0 => none | k + 1 => f13_rr_e k a0 a1
theorem f13_rr_ok (k : Nat) (a0 a1 : List T25) (r : R13_rr) (hF : f13_rr k a0 a1 = some r) : CV k 13 [V.sl 11 (rowsOf encT25 a0), V.sl 11 (rowsOf encT25 a1)] [] = some r.st := by
  cases k with
  | zero => cases hF
  | succ k =>
    unfold CV
    rw [ev_call (F := Try.f13) (c := (nav B13 [])) rfl Try.func13 rfl rfl rfl rfl]
    exact f13_rr_e_ok k a0 a1 r hF
end Go.Proofs.YteggcokgkcfliaaV
