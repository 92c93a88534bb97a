/- What the program's functions answer: plain functions, and that the interpreter answers what they do. Written by a program of this session, out of the translation. -/
import Derived.Test.YteggcokgkcfliaaVP7
namespace Go.Proofs.YteggcokgkcfliaaV
open Go
set_option linter.unusedVariables false
set_option linter.unusedSimpArgs false
set_option maxRecDepth 8000
set_option maxHeartbeats 4000000
-- f35_r: f35 heliograph/heliographref18.have
inductive R35_r where
  | o0 (y : List Bool) (y_1 : List Int)
noncomputable def R35_r.st : R35_r → V × List O × List O
  | .o0 y y_1 => (V.tup [V.own 2000000, V.own 2000001], [], [O.row true 1 4 (rowsOf encB y), O.row true 1 5 (rowsOf (encI .u8) y_1)])
inductive R35_r_l1_l2 where
  | o0 (y : List T25) (y_1 y_2 : Int) (y_3 : List Int) (y_4 y_5 : Int) (y_6 : List Bool) (y_7 : List Int) (y_8 y_9 y_10 y_11 y_12 y_13 y_14 y_15 y_16 y_17 : Int) (y_18 : List Int)
  | o1 (y : List T25) (y_1 y_2 : Int) (y_3 : List Int) (y_4 y_5 : Int) (y_6 : Bool) (y_7 : List Bool) (y_8 : List Int) (y_9 y_10 y_11 y_12 y_13 y_14 y_15 y_16 y_17 y_18 : Int) (y_19 : List Int)
noncomputable def R35_r_l1_l2.st : R35_r_l1_l2 → Out × St
  | .o0 y y_1 y_2 y_3 y_4 y_5 y_6 y_7 y_8 y_9 y_10 y_11 y_12 y_13 y_14 y_15 y_16 y_17 y_18 => (.norm, ({ n := 51, F := [(4, V.own 30000), (5, V.own 30001), (7, V.ptr 30002 0), (20, V.sl 11 (rowsOf encT25 y)), (21, V.p (Value.int .i64 y_1)), (22, V.p (Value.int .i64 y_2)), (27, V.sl 1 (rowsOf (encI .u8) y_3)), (28, V.p (Value.int .i64 y_4)), (29, V.p (Value.int .i64 y_5))], M := [(30000, O.row true 1 4 (rowsOf encB y_6)), (30001, O.row true 1 5 (rowsOf (encI .u8) y_7)), (30002, O.box 25 [V.p (Value.int .i64 y_8), V.p (Value.int .i64 y_9), V.p (Value.int .u32 y_10), V.p (Value.int .i64 y_11), V.p (Value.int .i64 y_12), V.p (Value.int .i64 y_13), V.p (Value.int .i64 y_14), V.p (Value.int .i64 y_15), V.p (Value.int .i64 y_16), V.p (Value.int .i64 y_17), V.sl 1 (rowsOf (encI .u8) y_18)])] } : St))
  | .o1 y y_1 y_2 y_3 y_4 y_5 y_6 y_7 y_8 y_9 y_10 y_11 y_12 y_13 y_14 y_15 y_16 y_17 y_18 y_19 => (.exit 2, ({ n := 51, F := [(4, V.own 30000), (5, V.own 30001), (7, V.ptr 30002 0), (20, V.sl 11 (rowsOf encT25 y)), (21, V.p (Value.int .i64 y_1)), (22, V.p (Value.int .i64 y_2)), (27, V.sl 1 (rowsOf (encI .u8) y_3)), (28, V.p (Value.int .i64 y_4)), (29, V.p (Value.int .i64 y_5)), (30, V.p (Value.bool y_6))], M := [(30000, O.row true 1 4 (rowsOf encB y_7)), (30001, O.row true 1 5 (rowsOf (encI .u8) y_8)), (30002, O.box 25 [V.p (Value.int .i64 y_9), V.p (Value.int .i64 y_10), V.p (Value.int .u32 y_11), V.p (Value.int .i64 y_12), V.p (Value.int .i64 y_13), V.p (Value.int .i64 y_14), V.p (Value.int .i64 y_15), V.p (Value.int .i64 y_16), V.p (Value.int .i64 y_17), V.p (Value.int .i64 y_18), V.sl 1 (rowsOf (encI .u8) y_19)])] } : St))
noncomputable def f35_r_l1_l2_j2 (k : Nat) (x20 : List T25) (x21 x22 : Int) (x27 : List Int) (x28 x29 : Int) (h0_ : List Bool) (h1_ : List Int) (h2_ h2__1 h2__2 h2__3 h2__4 h2__5 h2__6 h2__7 h2__8 h2__9 : Int) (h2__10 : List Int) : Option R35_r_l1_l2 :=
  some (R35_r_l1_l2.o0 x20 x21 x22 x27 x28 (IntKind.i64.wrap (x29 + (1 : Int))) h0_ h1_ h2_ h2__1 h2__2 h2__3 h2__4 h2__5 h2__6 h2__7 h2__8 h2__9 h2__10)
theorem f35_r_l1_l2_j2_ok (k : Nat) (x20 : List T25) (x21 x22 : Int) (x27 : List Int) (x28 x29 : Int) (h0_ : List Bool) (h1_ : List Int) (h2_ h2__1 h2__2 h2__3 h2__4 h2__5 h2__6 h2__7 h2__8 h2__9 : Int) (h2__10 : List Int) (r : R35_r_l1_l2) (hF : f35_r_l1_l2_j2 k x20 x21 x22 x27 x28 x29 h0_ h1_ h2_ h2__1 h2__2 h2__3 h2__4 h2__5 h2__6 h2__7 h2__8 h2__9 h2__10 = some r) : EX 35 k (nav B35 [2, 2, 2, 1, 2, 2, 2, 2, 1, 2, 2, 1, 2, 2, 1, 2, 2]) ({ n := 51, F := [(4, V.own 30000), (5, V.own 30001), (7, V.ptr 30002 0), (20, V.sl 11 (rowsOf encT25 x20)), (21, V.p (Value.int .i64 x21)), (22, V.p (Value.int .i64 x22)), (27, V.sl 1 (rowsOf (encI .u8) x27)), (28, V.p (Value.int .i64 x28)), (29, V.p (Value.int .i64 x29))], M := [(30000, O.row true 1 4 (rowsOf encB h0_)), (30001, O.row true 1 5 (rowsOf (encI .u8) h1_)), (30002, O.box 25 [V.p (Value.int .i64 h2_), V.p (Value.int .i64 h2__1), V.p (Value.int .u32 h2__2), V.p (Value.int .i64 h2__3), V.p (Value.int .i64 h2__4), V.p (Value.int .i64 h2__5), V.p (Value.int .i64 h2__6), V.p (Value.int .i64 h2__7), V.p (Value.int .i64 h2__8), V.p (Value.int .i64 h2__9), V.sl 1 (rowsOf (encI .u8) h2__10)])] } : St) = some r.st := by
  unfold f35_r_l1_l2_j2 at hF
  cases hF
  simp (maxSteps := 999999) (disch := first | exact D (by decide) | exact K (by kernel_rfl)) only [E, EE, ↓reduceIte, simprocAttr, show (nav B35 [2, 2, 2, 1, 2, 2, 2, 2, 1, 2, 2, 1, 2, 2, 1, 2, 2]) = Code.region 9 _ false from rfl, hk_35_9, hz_35_9, hs_35_9, R35_r_l1_l2.st]
noncomputable def f35_r_l1_l2_j1 (k : Nat) (x20 : List T25) (x21 x22 : Int) (x27 : List Int) (x28 x29 : Int) (x30 : Bool) (h0_ : List Bool) (h1_ : List Int) (h2_ h2__1 h2__2 h2__3 h2__4 h2__5 h2__6 h2__7 h2__8 h2__9 : Int) (h2__10 : List Int) : Option R35_r_l1_l2 :=
  ifE ((0 : Int) ≤ x29) (
    Option.bind (x27[(Int.toNat x29)]?) fun v2 =>
      ifE ((0 : Int) ≤ (IntKind.i64.wrap (h2__8 + x29))) (
        ifE ((IntKind.i64.wrap (h2__8 + x29)) < ((List.length h0_) : Int)) (
          Option.bind (h0_[(Int.toNat (IntKind.i64.wrap (h2__8 + x29)))]?) fun v6 =>
            ifE ((IntKind.i64.wrap (h2__8 + x29)) < ((List.length h1_) : Int)) (
              Option.bind (h1_[(Int.toNat (IntKind.i64.wrap (h2__8 + x29)))]?) fun v10 =>
                f35_r_l1_l2_j2 k x20 x21 x22 x27 x28 x29 (List.set h0_ (Int.toNat (IntKind.i64.wrap (h2__8 + x29))) true) (List.set h1_ (Int.toNat (IntKind.i64.wrap (h2__8 + x29))) v2) h2_ h2__1 h2__2 h2__3 h2__4 h2__5 h2__6 h2__7 h2__8 h2__9 h2__10))))
theorem f35_r_l1_l2_j1_ok (k : Nat) (x20 : List T25) (x21 x22 : Int) (x27 : List Int) (x28 x29 : Int) (x30 : Bool) (h0_ : List Bool) (h1_ : List Int) (h2_ h2__1 h2__2 h2__3 h2__4 h2__5 h2__6 h2__7 h2__8 h2__9 : Int) (h2__10 : List Int) (r : R35_r_l1_l2) (hF : f35_r_l1_l2_j1 k x20 x21 x22 x27 x28 x29 x30 h0_ h1_ h2_ h2__1 h2__2 h2__3 h2__4 h2__5 h2__6 h2__7 h2__8 h2__9 h2__10 = some r) : EX 35 k (nav B35 [2, 2, 1, 2, 2, 2, 2, 1, 2, 2, 1, 2, 2, 1, 2, 2]) ({ n := 51, F := [(4, V.own 30000), (5, V.own 30001), (7, V.ptr 30002 0), (20, V.sl 11 (rowsOf encT25 x20)), (21, V.p (Value.int .i64 x21)), (22, V.p (Value.int .i64 x22)), (27, V.sl 1 (rowsOf (encI .u8) x27)), (28, V.p (Value.int .i64 x28)), (29, V.p (Value.int .i64 x29)), (30, V.p (Value.bool x30))], M := [(30000, O.row true 1 4 (rowsOf encB h0_)), (30001, O.row true 1 5 (rowsOf (encI .u8) h1_)), (30002, O.box 25 [V.p (Value.int .i64 h2_), V.p (Value.int .i64 h2__1), V.p (Value.int .u32 h2__2), V.p (Value.int .i64 h2__3), V.p (Value.int .i64 h2__4), V.p (Value.int .i64 h2__5), V.p (Value.int .i64 h2__6), V.p (Value.int .i64 h2__7), V.p (Value.int .i64 h2__8), V.p (Value.int .i64 h2__9), V.sl 1 (rowsOf (encI .u8) h2__10)])] } : St) = some r.st := by
  unfold f35_r_l1_l2_j1 at hF
  replace hF := ifE_some.1 hF
  obtain ⟨h1, hF⟩ := hF
  replace hF := Option.bind_eq_some_iff.1 hF
  obtain ⟨v2, h3, hF⟩ := hF
  replace hF := ifE_some.1 hF
  obtain ⟨h4, hF⟩ := hF
  replace hF := ifE_some.1 hF
  obtain ⟨h5, hF⟩ := hF
  replace hF := Option.bind_eq_some_iff.1 hF
  obtain ⟨v6, h7, hF⟩ := hF
  have q8 : List.set (rowsOf encB h0_) (Int.toNat (IntKind.i64.wrap (h2__8 + x29))) [V.p (Value.bool true)] = rowsOf encB (List.set h0_ (Int.toNat (IntKind.i64.wrap (h2__8 + x29))) true) := (rowsOf_set (enc := encB) (l := h0_) (i := (Int.toNat (IntKind.i64.wrap (h2__8 + x29)))) (x := true)).symm
  replace hF := ifE_some.1 hF
  obtain ⟨h9, hF⟩ := hF
  replace hF := Option.bind_eq_some_iff.1 hF
  obtain ⟨v10, h11, hF⟩ := hF
  have q12 : List.set (rowsOf (encI .u8) h1_) (Int.toNat (IntKind.i64.wrap (h2__8 + x29))) [V.p (Value.int .u8 v2)] = rowsOf (encI .u8) (List.set h1_ (Int.toNat (IntKind.i64.wrap (h2__8 + x29))) v2) := (rowsOf_set (enc := (encI .u8)) (l := h1_) (i := (Int.toNat (IntKind.i64.wrap (h2__8 + x29)))) (x := v2)).symm
  have hJ := f35_r_l1_l2_j2_ok k x20 x21 x22 x27 x28 x29 (List.set h0_ (Int.toNat (IntKind.i64.wrap (h2__8 + x29))) true) (List.set h1_ (Int.toNat (IntKind.i64.wrap (h2__8 + x29))) v2) h2_ h2__1 h2__2 h2__3 h2__4 h2__5 h2__6 h2__7 h2__8 h2__9 h2__10 _ hF
  simp (maxSteps := 999999) (disch := first | exact D (by decide) | exact K (by kernel_rfl)) only [E, EE, ↓reduceIte, simprocAttr, xk B35 [2, 2, 1, 2, 2, 2, 2, 1, 2, 2, 1, 2, 2, 1, 2, 2] .sq rfl, xk B35 [1, 2, 2, 1, 2, 2, 2, 2, 1, 2, 2, 1, 2, 2, 1, 2, 2] (.bk 3) rfl, xk B35 [2, 1, 2, 2, 1, 2, 2, 2, 2, 1, 2, 2, 1, 2, 2, 1, 2, 2] .sq rfl, show (nav B35 [1, 2, 1, 2, 2, 1, 2, 2, 2, 2, 1, 2, 2, 1, 2, 2, 1, 2, 2]) = Code.region 7 _ false from rfl, hk_35_7, hz_35_7, hs_35_7, indexAddrV, u_23, i_23, is_23, ib_23, iz_23, u_5, i_5, is_5, ib_5, iz_5, encI_eq, show (nav B35 [2, 2, 1, 2, 2, 1, 2, 2, 2, 2, 1, 2, 2, 1, 2, 2, 1, 2, 2]) = Code.region 8 _ true from rfl, hk_35_8, hz_35_8, hs_35_8, fieldAddrV, u_25, i_25, is_25, ib_25, iz_25, u_3, i_3, is_3, ib_3, iz_3, u_60, i_60, is_60, ib_60, iz_60, u_4, i_4, is_4, ib_4, iz_4, sm_4, encB_eq, sm_5, h1, h3, h4, h5, h7, q8, h9, h11, q12]
  try simp only [NM, EE] at hJ
  exact hJ
noncomputable def f35_r_l1_l2_b (k : Nat) (x20 : List T25) (x21 x22 : Int) (x27 : List Int) (x28 x29 : Int) (h0_ : List Bool) (h1_ : List Int) (h2_ h2__1 h2__2 h2__3 h2__4 h2__5 h2__6 h2__7 h2__8 h2__9 : Int) (h2__10 : List Int) : Option R35_r_l1_l2 :=
  cond ((decide (x29 < x28)))
    (f35_r_l1_l2_j1 k x20 x21 x22 x27 x28 x29 true h0_ h1_ h2_ h2__1 h2__2 h2__3 h2__4 h2__5 h2__6 h2__7 h2__8 h2__9 h2__10)
    (some (R35_r_l1_l2.o1 x20 x21 x22 x27 x28 x29 false h0_ h1_ h2_ h2__1 h2__2 h2__3 h2__4 h2__5 h2__6 h2__7 h2__8 h2__9 h2__10))
theorem f35_r_l1_l2_b_ok (k : Nat) (x20 : List T25) (x21 x22 : Int) (x27 : List Int) (x28 x29 : Int) (h0_ : List Bool) (h1_ : List Int) (h2_ h2__1 h2__2 h2__3 h2__4 h2__5 h2__6 h2__7 h2__8 h2__9 : Int) (h2__10 : List Int) (r : R35_r_l1_l2) (hF : f35_r_l1_l2_b k x20 x21 x22 x27 x28 x29 h0_ h1_ h2_ h2__1 h2__2 h2__3 h2__4 h2__5 h2__6 h2__7 h2__8 h2__9 h2__10 = some r) : EX 35 k (nav B35 [1, 2, 2, 2, 2, 1, 2, 2, 1, 2, 2, 1, 2, 2]) ({ n := 51, F := [(4, V.own 30000), (5, V.own 30001), (7, V.ptr 30002 0), (20, V.sl 11 (rowsOf encT25 x20)), (21, V.p (Value.int .i64 x21)), (22, V.p (Value.int .i64 x22)), (27, V.sl 1 (rowsOf (encI .u8) x27)), (28, V.p (Value.int .i64 x28)), (29, V.p (Value.int .i64 x29))], M := [(30000, O.row true 1 4 (rowsOf encB h0_)), (30001, O.row true 1 5 (rowsOf (encI .u8) h1_)), (30002, O.box 25 [V.p (Value.int .i64 h2_), V.p (Value.int .i64 h2__1), V.p (Value.int .u32 h2__2), V.p (Value.int .i64 h2__3), V.p (Value.int .i64 h2__4), V.p (Value.int .i64 h2__5), V.p (Value.int .i64 h2__6), V.p (Value.int .i64 h2__7), V.p (Value.int .i64 h2__8), V.p (Value.int .i64 h2__9), V.sl 1 (rowsOf (encI .u8) h2__10)])] } : St) = some r.st := by
  unfold f35_r_l1_l2_b at hF
  simp (maxSteps := 999999) (disch := first | exact D (by decide) | exact K (by kernel_rfl)) only [E, EE, ↓reduceIte, simprocAttr, xk B35 [1, 2, 2, 2, 2, 1, 2, 2, 1, 2, 2, 1, 2, 2] .sq rfl, show (nav B35 [1, 1, 2, 2, 2, 2, 1, 2, 2, 1, 2, 2, 1, 2, 2]) = Code.region 6 _ false from rfl, hk_35_6, hz_35_6, hs_35_6, xk B35 [2, 1, 2, 2, 2, 2, 1, 2, 2, 1, 2, 2, 1, 2, 2] .sq rfl, xk B35 [1, 2, 1, 2, 2, 2, 2, 1, 2, 2, 1, 2, 2, 1, 2, 2] (.cd 30) rfl]
  replace hF := cond_some hF
  rcases hF with ⟨h1, hF⟩ | ⟨h1, hF⟩
  · have hJ := f35_r_l1_l2_j1_ok k x20 x21 x22 x27 x28 x29 true h0_ h1_ h2_ h2__1 h2__2 h2__3 h2__4 h2__5 h2__6 h2__7 h2__8 h2__9 h2__10 _ hF
    simp (maxSteps := 999999) (disch := first | exact D (by decide) | exact K (by kernel_rfl)) only [E, EE, ↓reduceIte, simprocAttr, xk B35 [2, 1, 2, 1, 2, 2, 2, 2, 1, 2, 2, 1, 2, 2, 1, 2, 2] .sk rfl, h1]
    try simp only [NM, EE] at hJ
    exact hJ
  · cases hF
    simp (maxSteps := 999999) (disch := first | exact D (by decide) | exact K (by kernel_rfl)) only [E, EE, ↓reduceIte, simprocAttr, xk B35 [3, 1, 2, 1, 2, 2, 2, 2, 1, 2, 2, 1, 2, 2, 1, 2, 2] (.ex 2) rfl, R35_r_l1_l2.st, h1]
noncomputable def f35_r_l1_l2 (k : Nat) : Nat → (List T25) → Int → Int → (List Int) → Int → Int → (List Bool) → (List Int) → Int → Int → Int → Int → Int → Int → Int → Int → Int → Int → (List Int) → Option R35_r_l1_l2
  | 0, _, _, _, _, _, _, _, _, _, _, _, _, _, _, _, _, _, _, _ => none
  | n + 1, x20, x21, x22, x27, x28, x29, h0_, h1_, h2_, h2__1, h2__2, h2__3, h2__4, h2__5, h2__6, h2__7, h2__8, h2__9, h2__10 => Option.bind (f35_r_l1_l2_b k x20 x21 x22 x27 x28 x29 h0_ h1_ h2_ h2__1 h2__2 h2__3 h2__4 h2__5 h2__6 h2__7 h2__8 h2__9 h2__10) fun o =>
    match o with
    | .o0 y y_1 y_2 y_3 y_4 y_5 y_6 y_7 y_8 y_9 y_10 y_11 y_12 y_13 y_14 y_15 y_16 y_17 y_18 => f35_r_l1_l2 k n y y_1 y_2 y_3 y_4 y_5 y_6 y_7 y_8 y_9 y_10 y_11 y_12 y_13 y_14 y_15 y_16 y_17 y_18
    | .o1 y y_1 y_2 y_3 y_4 y_5 y_6 y_7 y_8 y_9 y_10 y_11 y_12 y_13 y_14 y_15 y_16 y_17 y_18 y_19 => some (.o1 y y_1 y_2 y_3 y_4 y_5 y_6 y_7 y_8 y_9 y_10 y_11 y_12 y_13 y_14 y_15 y_16 y_17 y_18 y_19)
theorem f35_r_l1_l2_ok (k n : Nat) : ∀ (x20 : List T25) (x21 x22 : Int) (x27 : List Int) (x28 x29 : Int) (h0_ : List Bool) (h1_ : List Int) (h2_ h2__1 h2__2 h2__3 h2__4 h2__5 h2__6 h2__7 h2__8 h2__9 : Int) (h2__10 : List Int) (r : R35_r_l1_l2) (hF : f35_r_l1_l2 k n x20 x21 x22 x27 x28 x29 h0_ h1_ h2_ h2__1 h2__2 h2__3 h2__4 h2__5 h2__6 h2__7 h2__8 h2__9 h2__10 = some r) (σ : St) (hσ : headR (hints.head 35 6) (hints.canon 35 6) σ = some ({ n := 51, F := [(4, V.own 30000), (5, V.own 30001), (7, V.ptr 30002 0), (20, V.sl 11 (rowsOf encT25 x20)), (21, V.p (Value.int .i64 x21)), (22, V.p (Value.int .i64 x22)), (27, V.sl 1 (rowsOf (encI .u8) x27)), (28, V.p (Value.int .i64 x28)), (29, V.p (Value.int .i64 x29))], M := [(30000, O.row true 1 4 (rowsOf encB h0_)), (30001, O.row true 1 5 (rowsOf (encI .u8) h1_)), (30002, O.box 25 [V.p (Value.int .i64 h2_), V.p (Value.int .i64 h2__1), V.p (Value.int .u32 h2__2), V.p (Value.int .i64 h2__3), V.p (Value.int .i64 h2__4), V.p (Value.int .i64 h2__5), V.p (Value.int .i64 h2__6), V.p (Value.int .i64 h2__7), V.p (Value.int .i64 h2__8), V.p (Value.int .i64 h2__9), V.sl 1 (rowsOf (encI .u8) h2__10)])] } : St)), LP 35 k (nav B35 [1, 2, 2, 2, 2, 1, 2, 2, 1, 2, 2, 1, 2, 2]) n σ = some r.st := by
  induction n with
  | zero => intro x20 x21 x22 x27 x28 x29 h0_ h1_ h2_ h2__1 h2__2 h2__3 h2__4 h2__5 h2__6 h2__7 h2__8 h2__9 h2__10 r hF; cases hF
  | succ n ih =>
    intro x20 x21 x22 x27 x28 x29 h0_ h1_ h2_ h2__1 h2__2 h2__3 h2__4 h2__5 h2__6 h2__7 h2__8 h2__9 h2__10 r hF σ hσ
    rw [f35_r_l1_l2] at hF
    obtain ⟨o, h, hF⟩ := Option.bind_eq_some_iff.1 hF
    have hB := f35_r_l1_l2_b_ok k x20 x21 x22 x27 x28 x29 h0_ h1_ h2_ h2__1 h2__2 h2__3 h2__4 h2__5 h2__6 h2__7 h2__8 h2__9 h2__10 o h
    unfold LP at ih ⊢
    unfold EX at hB
    rw [loopK_succ, show firstReg (nav B35 [1, 2, 2, 2, 2, 1, 2, 2, 1, 2, 2, 1, 2, 2]) = 6 from rfl, hσ, headK_some, hB]
    cases o with
    | o0 y y_1 y_2 y_3 y_4 y_5 y_6 y_7 y_8 y_9 y_10 y_11 y_12 y_13 y_14 y_15 y_16 y_17 y_18 =>
      refine ih y y_1 y_2 y_3 y_4 y_5 y_6 y_7 y_8 y_9 y_10 y_11 y_12 y_13 y_14 y_15 y_16 y_17 y_18 r hF _ ?_
      simp (maxSteps := 999999) (disch := first | exact D (by decide) | exact K (by kernel_rfl)) only [E, EE, ↓reduceIte, simprocAttr, hh_35_6, hc_35_6]
    | o1 y y_1 y_2 y_3 y_4 y_5 y_6 y_7 y_8 y_9 y_10 y_11 y_12 y_13 y_14 y_15 y_16 y_17 y_18 y_19 => cases hF; rfl
inductive R35_r_l1 where
  | o0 (y : List T25) (y_1 y_2 : Int) (y_3 : List Bool) (y_4 : List Int)
  | o1 (y : List T25) (y_1 y_2 : Int) (y_3 : Bool) (y_4 : List Bool) (y_5 : List Int)
noncomputable def R35_r_l1.st : R35_r_l1 → Out × St
  | .o0 y y_1 y_2 y_3 y_4 => (.norm, ({ n := 51, F := [(4, V.own 30000), (5, V.own 30001), (20, V.sl 11 (rowsOf encT25 y)), (21, V.p (Value.int .i64 y_1)), (22, V.p (Value.int .i64 y_2))], M := [(30000, O.row true 1 4 (rowsOf encB y_3)), (30001, O.row true 1 5 (rowsOf (encI .u8) y_4))] } : St))
  | .o1 y y_1 y_2 y_3 y_4 y_5 => (.exit 0, ({ n := 51, F := [(4, V.own 30000), (5, V.own 30001), (20, V.sl 11 (rowsOf encT25 y)), (21, V.p (Value.int .i64 y_1)), (22, V.p (Value.int .i64 y_2)), (23, V.p (Value.bool y_3))], M := [(30000, O.row true 1 4 (rowsOf encB y_4)), (30001, O.row true 1 5 (rowsOf (encI .u8) y_5))] } : St))
noncomputable def f35_r_l1_j3 (k : Nat) (x20 : List T25) (x21 x22 : Int) (x27 : List Int) (x28 x29 : Int) (x30 : Bool) (h0_ : List Bool) (h1_ : List Int) (h2_ h2__1 h2__2 h2__3 h2__4 h2__5 h2__6 h2__7 h2__8 h2__9 : Int) (h2__10 : List Int) : Option R35_r_l1 :=
  some (R35_r_l1.o0 x20 x21 (IntKind.i64.wrap (x22 + (1 : Int))) h0_ h1_)
theorem f35_r_l1_j3_ok (k : Nat) (x20 : List T25) (x21 x22 : Int) (x27 : List Int) (x28 x29 : Int) (x30 : Bool) (h0_ : List Bool) (h1_ : List Int) (h2_ h2__1 h2__2 h2__3 h2__4 h2__5 h2__6 h2__7 h2__8 h2__9 : Int) (h2__10 : List Int) (r : R35_r_l1) (hF : f35_r_l1_j3 k x20 x21 x22 x27 x28 x29 x30 h0_ h1_ h2_ h2__1 h2__2 h2__3 h2__4 h2__5 h2__6 h2__7 h2__8 h2__9 h2__10 = some r) : EX 35 k (nav B35 [2, 2, 2, 1, 2, 2, 1, 2, 2]) ({ n := 51, F := [(4, V.own 30000), (5, V.own 30001), (7, V.ptr 30002 0), (20, V.sl 11 (rowsOf encT25 x20)), (21, V.p (Value.int .i64 x21)), (22, V.p (Value.int .i64 x22)), (27, V.sl 1 (rowsOf (encI .u8) x27)), (28, V.p (Value.int .i64 x28)), (29, V.p (Value.int .i64 x29)), (30, V.p (Value.bool x30))], M := [(30000, O.row true 1 4 (rowsOf encB h0_)), (30001, O.row true 1 5 (rowsOf (encI .u8) h1_)), (30002, O.box 25 [V.p (Value.int .i64 h2_), V.p (Value.int .i64 h2__1), V.p (Value.int .u32 h2__2), V.p (Value.int .i64 h2__3), V.p (Value.int .i64 h2__4), V.p (Value.int .i64 h2__5), V.p (Value.int .i64 h2__6), V.p (Value.int .i64 h2__7), V.p (Value.int .i64 h2__8), V.p (Value.int .i64 h2__9), V.sl 1 (rowsOf (encI .u8) h2__10)])] } : St) = some r.st := by
  unfold f35_r_l1_j3 at hF
  cases hF
  simp (maxSteps := 999999) (disch := first | exact D (by decide) | exact K (by kernel_rfl)) only [E, EE, ↓reduceIte, simprocAttr, show (nav B35 [2, 2, 2, 1, 2, 2, 1, 2, 2]) = Code.region 10 _ false from rfl, hk_35_10, hz_35_10, hs_35_10, R35_r_l1.st]
noncomputable def f35_r_l1_j1 (k : Nat) (x20 : List T25) (x21 x22 : Int) (x23 : Bool) (h0_ : List Bool) (h1_ : List Int) : Option R35_r_l1 :=
  ifE ((0 : Int) ≤ x22) (
    Option.bind (x20[(Int.toNat x22)]?) fun v2 =>
      Option.bind (f35_r_l1_l2 k k x20 x21 x22 v2.Payload ((List.length v2.Payload) : Int) 0 h0_ h1_ v2.Source v2.Dest v2.Seq v2.Created v2.Lifetime v2.HopLimit v2.Hops v2.Priority v2.Offset v2.Total v2.Payload) fun o4 =>
        match o4 with
        | .o0 _ _ _ _ _ _ _ _ _ _ _ _ _ _ _ _ _ _ _ =>
          none
        | .o1 v7 v8 v9 v10 v11 v12 v13 v14 v15 v16 v17 v18 v19 v20 v21 v22 v23 v24 v25 v26 =>
          f35_r_l1_j3 k v7 v8 v9 v10 v11 v12 v13 v14 v15 v16 v17 v18 v19 v20 v21 v22 v23 v24 v25 v26)
theorem f35_r_l1_j1_ok (k : Nat) (x20 : List T25) (x21 x22 : Int) (x23 : Bool) (h0_ : List Bool) (h1_ : List Int) (r : R35_r_l1) (hF : f35_r_l1_j1 k x20 x21 x22 x23 h0_ h1_ = some r) : EX 35 k (nav B35 [2, 2, 1, 2, 2, 1, 2, 2]) ({ n := 51, F := [(4, V.own 30000), (5, V.own 30001), (20, V.sl 11 (rowsOf encT25 x20)), (21, V.p (Value.int .i64 x21)), (22, V.p (Value.int .i64 x22)), (23, V.p (Value.bool x23))], M := [(30000, O.row true 1 4 (rowsOf encB h0_)), (30001, O.row true 1 5 (rowsOf (encI .u8) h1_))] } : St) = some r.st := by
  unfold f35_r_l1_j1 at hF
  replace hF := ifE_some.1 hF
  obtain ⟨h1, hF⟩ := hF
  replace hF := Option.bind_eq_some_iff.1 hF
  obtain ⟨v2, h3, hF⟩ := hF
  replace hF := Option.bind_eq_some_iff.1 hF
  obtain ⟨o4, h5, hF⟩ := hF
  have hc6 := f35_r_l1_l2_ok k k x20 x21 x22 v2.Payload ((List.length v2.Payload) : Int) 0 h0_ h1_ v2.Source v2.Dest v2.Seq v2.Created v2.Lifetime v2.HopLimit v2.Hops v2.Priority v2.Offset v2.Total v2.Payload _ h5
  simp (maxSteps := 999999) (disch := first | exact D (by decide) | exact K (by kernel_rfl)) only [E, EE, ↓reduceIte, simprocAttr, xk B35 [2, 2, 1, 2, 2, 1, 2, 2] .sq rfl, xk B35 [1, 2, 2, 1, 2, 2, 1, 2, 2] (.bk 1) rfl, xk B35 [2, 1, 2, 2, 1, 2, 2, 1, 2, 2] .sq rfl, show (nav B35 [1, 2, 1, 2, 2, 1, 2, 2, 1, 2, 2]) = Code.region 4 _ false from rfl, hk_35_4, hz_35_4, hs_35_4, indexAddrV, u_28, i_28, is_28, ib_28, iz_28, u_25, i_25, is_25, ib_25, iz_25, encT25_eq, xk B35 [2, 2, 1, 2, 2, 1, 2, 2, 1, 2, 2] .sq rfl, show (nav B35 [1, 2, 2, 1, 2, 2, 1, 2, 2, 1, 2, 2]) = Code.region 5 _ false from rfl, hk_35_5, hz_35_5, hs_35_5, fieldAddrV, u_23, i_23, is_23, ib_23, iz_23, xk B35 [2, 2, 2, 1, 2, 2, 1, 2, 2, 1, 2, 2] (.bk 2) rfl, xk B35 [2, 2, 2, 2, 1, 2, 2, 1, 2, 2, 1, 2, 2] .lp rfl, hh_35_6, hc_35_6, h1, h3]
  (try simp only [NM, EE] at hc6)
  rw [hc6 _ (by simp (maxSteps := 999999) (disch := first | exact D (by decide) | exact K (by kernel_rfl)) only [E, EE, ↓reduceIte, simprocAttr, hh_35_6, hc_35_6, h1, h3])]
  clear hc6
  cases o4 with
  | o0 _ _ _ _ _ _ _ _ _ _ _ _ _ _ _ _ _ _ _ =>
    (try dsimp only at hF)
    cases hF
  | o1 v7 v8 v9 v10 v11 v12 v13 v14 v15 v16 v17 v18 v19 v20 v21 v22 v23 v24 v25 v26 =>
    (try dsimp only at hF)
    have hJ := f35_r_l1_j3_ok k v7 v8 v9 v10 v11 v12 v13 v14 v15 v16 v17 v18 v19 v20 v21 v22 v23 v24 v25 v26 _ hF
    simp (maxSteps := 999999) (disch := first | exact D (by decide) | exact K (by kernel_rfl)) only [E, EE, ↓reduceIte, simprocAttr, R35_r_l1_l2.st, h1, h3]
    try simp only [NM, EE] at hJ
    exact hJ
noncomputable def f35_r_l1_b (k : Nat) (x20 : List T25) (x21 x22 : Int) (h0_ : List Bool) (h1_ : List Int) : Option R35_r_l1 :=
  cond ((decide (x22 < x21)))
    (f35_r_l1_j1 k x20 x21 x22 true h0_ h1_)
    (some (R35_r_l1.o1 x20 x21 x22 false h0_ h1_))
theorem f35_r_l1_b_ok (k : Nat) (x20 : List T25) (x21 x22 : Int) (h0_ : List Bool) (h1_ : List Int) (r : R35_r_l1) (hF : f35_r_l1_b k x20 x21 x22 h0_ h1_ = some r) : EX 35 k (nav B35 [1, 2, 2, 1, 2, 2]) ({ n := 51, F := [(4, V.own 30000), (5, V.own 30001), (20, V.sl 11 (rowsOf encT25 x20)), (21, V.p (Value.int .i64 x21)), (22, V.p (Value.int .i64 x22))], M := [(30000, O.row true 1 4 (rowsOf encB h0_)), (30001, O.row true 1 5 (rowsOf (encI .u8) h1_))] } : St) = some r.st := by
  unfold f35_r_l1_b at hF
  simp (maxSteps := 999999) (disch := first | exact D (by decide) | exact K (by kernel_rfl)) only [E, EE, ↓reduceIte, simprocAttr, xk B35 [1, 2, 2, 1, 2, 2] .sq rfl, show (nav B35 [1, 1, 2, 2, 1, 2, 2]) = Code.region 3 _ false from rfl, hk_35_3, hz_35_3, hs_35_3, xk B35 [2, 1, 2, 2, 1, 2, 2] .sq rfl, xk B35 [1, 2, 1, 2, 2, 1, 2, 2] (.cd 23) rfl]
  replace hF := cond_some hF
  rcases hF with ⟨h1, hF⟩ | ⟨h1, hF⟩
  · have hJ := f35_r_l1_j1_ok k x20 x21 x22 true h0_ h1_ _ hF
    simp (maxSteps := 999999) (disch := first | exact D (by decide) | exact K (by kernel_rfl)) only [E, EE, ↓reduceIte, simprocAttr, xk B35 [2, 1, 2, 1, 2, 2, 1, 2, 2] .sk rfl, h1]
    try simp only [NM, EE] at hJ
    exact hJ
  · cases hF
    simp (maxSteps := 999999) (disch := first | exact D (by decide) | exact K (by kernel_rfl)) only [E, EE, ↓reduceIte, simprocAttr, xk B35 [3, 1, 2, 1, 2, 2, 1, 2, 2] (.ex 0) rfl, R35_r_l1.st, h1]
noncomputable def f35_r_l1 (k : Nat) : Nat → (List T25) → Int → Int → (List Bool) → (List Int) → Option R35_r_l1
  | 0, _, _, _, _, _ => none
  | n + 1, x20, x21, x22, h0_, h1_ => Option.bind (f35_r_l1_b k x20 x21 x22 h0_ h1_) fun o =>
    match o with
    | .o0 y y_1 y_2 y_3 y_4 => f35_r_l1 k n y y_1 y_2 y_3 y_4
    | .o1 y y_1 y_2 y_3 y_4 y_5 => some (.o1 y y_1 y_2 y_3 y_4 y_5)
theorem f35_r_l1_ok (k n : Nat) : ∀ (x20 : List T25) (x21 x22 : Int) (h0_ : List Bool) (h1_ : List Int) (r : R35_r_l1) (hF : f35_r_l1 k n x20 x21 x22 h0_ h1_ = some r) (σ : St) (hσ : headR (hints.head 35 3) (hints.canon 35 3) σ = some ({ n := 51, F := [(4, V.own 30000), (5, V.own 30001), (20, V.sl 11 (rowsOf encT25 x20)), (21, V.p (Value.int .i64 x21)), (22, V.p (Value.int .i64 x22))], M := [(30000, O.row true 1 4 (rowsOf encB h0_)), (30001, O.row true 1 5 (rowsOf (encI .u8) h1_))] } : St)), LP 35 k (nav B35 [1, 2, 2, 1, 2, 2]) n σ = some r.st := by
  induction n with
  | zero => intro x20 x21 x22 h0_ h1_ r hF; cases hF
  | succ n ih =>
    intro x20 x21 x22 h0_ h1_ r hF σ hσ
    rw [f35_r_l1] at hF
    obtain ⟨o, h, hF⟩ := Option.bind_eq_some_iff.1 hF
    have hB := f35_r_l1_b_ok k x20 x21 x22 h0_ h1_ o h
    unfold LP at ih ⊢
    unfold EX at hB
    rw [loopK_succ, show firstReg (nav B35 [1, 2, 2, 1, 2, 2]) = 3 from rfl, hσ, headK_some, hB]
    cases o with
    | o0 y y_1 y_2 y_3 y_4 =>
      refine ih y y_1 y_2 y_3 y_4 r hF _ ?_
      simp (maxSteps := 999999) (disch := first | exact D (by decide) | exact K (by kernel_rfl)) only [E, EE, ↓reduceIte, simprocAttr, hh_35_3, hc_35_3]
    | o1 y y_1 y_2 y_3 y_4 y_5 => cases hF; rfl
noncomputable def f35_r_j2 (k : Nat) (x20 : List T25) (x21 x22 : Int) (x23 : Bool) (h0_ : List Bool) (h1_ : List Int) : Option R35_r :=
  some (R35_r.o0 h0_ h1_)
theorem f35_r_j2_ok (k : Nat) (x20 : List T25) (x21 x22 : Int) (x23 : Bool) (h0_ : List Bool) (h1_ : List Int) (r : R35_r) (hF : f35_r_j2 k x20 x21 x22 x23 h0_ h1_ = some r) : finK Try.prog Try.f35 0 (EX 35 k (nav B35 [2, 2, 2]) ({ n := 51, F := [(4, V.own 30000), (5, V.own 30001), (20, V.sl 11 (rowsOf encT25 x20)), (21, V.p (Value.int .i64 x21)), (22, V.p (Value.int .i64 x22)), (23, V.p (Value.bool x23))], M := [(30000, O.row true 1 4 (rowsOf encB h0_)), (30001, O.row true 1 5 (rowsOf (encI .u8) h1_))] } : St)) = some r.st := by
  unfold f35_r_j2 at hF
  cases hF
  simp (maxSteps := 999999) (disch := first | exact D (by decide) | exact K (by kernel_rfl)) only [E, EE, ↓reduceIte, simprocAttr, xk B35 [2, 2, 2] .sq rfl, show (nav B35 [1, 2, 2, 2]) = Code.region 11 _ false from rfl, hk_35_11, hz_35_11, hs_35_11, xk B35 [2, 2, 2, 2] .rt rfl, finK_norm, finK_ret, fin35, R35_r.st]
noncomputable def f35_r_e (k : Nat) (a0 : List T25) : Option R35_r :=
  Option.bind (a0[0]?) fun v1 =>
    ifE ((0 : Int) ≤ v1.Total) (
      ifE (v1.Total ≤ v1.Total) (
        ifE ((v1.Total : Int) * 1 ≤ (roomy : Int)) (
          Option.bind (f35_r_l1 k k a0 ((List.length a0) : Int) 0 ((List.replicate (Int.toNat v1.Total) (false : Bool))) ((List.replicate (Int.toNat v1.Total) (0 : Int)))) fun o8 =>
            match o8 with
            | .o0 _ _ _ _ _ =>
              none
            | .o1 v11 v12 v13 v14 v15 v16 =>
              f35_r_j2 k v11 v12 v13 v14 v15 v16)))
theorem f35_r_e_ok (k : Nat) (a0 : List T25) (r : R35_r) (hF : f35_r_e k a0 = some r) : finK Try.prog Try.f35 0 (EX 35 k (nav B35 []) ({ n := 51, F := [(0, V.sl 11 (rowsOf encT25 a0))], M := [] } : St)) = some r.st := by
  unfold f35_r_e at hF
  replace hF := Option.bind_eq_some_iff.1 hF
  obtain ⟨v1, h2, hF⟩ := hF
  replace hF := ifE_some.1 hF
  obtain ⟨h3, hF⟩ := hF
  replace hF := ifE_some.1 hF
  obtain ⟨h4, hF⟩ := hF
  replace hF := ifE_some.1 hF
  obtain ⟨h5, hF⟩ := hF
  have q6 : List.replicate (Int.toNat v1.Total) [V.p (Value.bool false)] = rowsOf encB (List.replicate (Int.toNat v1.Total) (false : Bool)) := (rowsOf_replicate (enc := encB) (n := (Int.toNat v1.Total)) (x := (false : Bool))).symm
  have q7 : List.replicate (Int.toNat v1.Total) [V.p (Value.int .u8 0)] = rowsOf (encI .u8) (List.replicate (Int.toNat v1.Total) (0 : Int)) := (rowsOf_replicate (enc := (encI .u8)) (n := (Int.toNat v1.Total)) (x := (0 : Int))).symm
  replace hF := Option.bind_eq_some_iff.1 hF
  obtain ⟨o8, h9, hF⟩ := hF
  have hc10 := f35_r_l1_ok k k a0 ((List.length a0) : Int) 0 ((List.replicate (Int.toNat v1.Total) (false : Bool))) ((List.replicate (Int.toNat v1.Total) (0 : Int))) _ h9
  simp (maxSteps := 999999) (disch := first | exact D (by decide) | exact K (by kernel_rfl)) only [E, EE, ↓reduceIte, simprocAttr, xk B35 [] .sq rfl, show (nav B35 [1]) = Code.region 0 _ false from rfl, hk_35_0, hz_35_0, hs_35_0, xk B35 [2] .sq rfl, show (nav B35 [1, 2]) = Code.region 1 _ true from rfl, hk_35_1, hz_35_1, hs_35_1, indexAddrV, u_28, i_28, is_28, ib_28, iz_28, u_25, i_25, is_25, ib_25, iz_25, encT25_eq, fieldAddrV, u_3, i_3, is_3, ib_3, iz_3, makeV, intArg, sm_4, u_60, i_60, is_60, ib_60, iz_60, u_4, i_4, is_4, ib_4, iz_4, sm_5, u_23, i_23, is_23, ib_23, iz_23, u_5, i_5, is_5, ib_5, iz_5, xk B35 [2, 2] .sq rfl, xk B35 [1, 2, 2] .sq rfl, show (nav B35 [1, 1, 2, 2]) = Code.region 2 _ false from rfl, hk_35_2, hz_35_2, hs_35_2, xk B35 [2, 1, 2, 2] (.bk 0) rfl, xk B35 [2, 2, 1, 2, 2] .lp rfl, hh_35_3, hc_35_3, h2, h3, h4, h5, q6, q7]
  (try simp only [NM, EE] at hc10)
  rw [hc10 _ (by simp (maxSteps := 999999) (disch := first | exact D (by decide) | exact K (by kernel_rfl)) only [E, EE, ↓reduceIte, simprocAttr, hh_35_3, hc_35_3, h2, h3, h4, h5, q6, q7])]
  clear hc10
  cases o8 with
  | o0 _ _ _ _ _ =>
    (try dsimp only at hF)
    cases hF
  | o1 v11 v12 v13 v14 v15 v16 =>
    (try dsimp only at hF)
    have hJ := f35_r_j2_ok k v11 v12 v13 v14 v15 v16 _ hF
    simp (maxSteps := 999999) (disch := first | exact D (by decide) | exact K (by kernel_rfl)) only [E, EE, ↓reduceIte, simprocAttr, R35_r_l1.st, h2, h3, h4, h5, q6, q7]
    try simp only [NM, EE] at hJ
    exact hJ
noncomputable def f35_r (k : Nat) (a0 : List T25) : Option R35_r := match k with | 0 => none | k + 1 => f35_r_e k a0
theorem f35_r_ok (k : Nat) (a0 : List T25) (r : R35_r) (hF : f35_r k a0 = some r) : CV k 35 [V.sl 11 (rowsOf encT25 a0)] [] = some r.st := by
  cases k with
  | zero => cases hF
  | succ k =>
    unfold CV
    rw [ev_call (F := Try.f35) (c := (nav B35 [])) rfl Try.func35 rfl rfl rfl rfl]
    exact f35_r_e_ok k a0 r hF
-- f25_r: f25 heliograph/heliographref18.Missing
inductive R25_r where
  | o0 (y : List T47)
noncomputable def R25_r.st : R25_r → V × List O × List O
  | .o0 y => (V.own 2000000, [], [O.row true 2 47 (rowsOf encT47 y)])
inductive R25_r_l1 where
  | o0 (y y_1 : Int) (y_2 : List T47) (y_3 : List Bool)
  | o1 (y y_1 : Int) (y_2 : List T47) (y_3 : List Bool)
  | o2 (y y_1 : Int) (y_2 : Bool) (y_3 : List T47) (y_4 : List Bool)
noncomputable def R25_r_l1.st : R25_r_l1 → Out × St
  | .o0 y y_1 y_2 y_3 => (.norm, ({ n := 61, F := [(5, V.own 30000), (14, V.own 30001), (15, V.p (Value.int .i64 y)), (16, V.p (Value.int .i64 y_1))], M := [(30000, O.row true 2 47 (rowsOf encT47 y_2)), (30001, O.row true 1 4 (rowsOf encB y_3))] } : St))
  | .o1 y y_1 y_2 y_3 => (.norm, ({ n := 61, F := [(5, V.own 27), (14, V.own 30001), (15, V.p (Value.int .i64 y)), (16, V.p (Value.int .i64 y_1))], M := [(27, O.row true 2 47 (rowsOf encT47 y_2)), (30001, O.row true 1 4 (rowsOf encB y_3))] } : St))
  | .o2 y y_1 y_2 y_3 y_4 => (.exit 0, ({ n := 61, F := [(5, V.own 30000), (14, V.own 30001), (15, V.p (Value.int .i64 y)), (16, V.p (Value.int .i64 y_1)), (17, V.p (Value.bool y_2))], M := [(30000, O.row true 2 47 (rowsOf encT47 y_3)), (30001, O.row true 1 4 (rowsOf encB y_4))] } : St))
noncomputable def f25_r_l1_j2 (k : Nat) (x6 x8 x15 x16 : Int) (x28 : Bool) (h0_ : List T47) (h1_ : List Bool) : Option R25_r_l1 :=
  some (R25_r_l1.o0 x15 (IntKind.i64.wrap (x16 + (1 : Int))) h0_ h1_)
theorem f25_r_l1_j2_ok (k : Nat) (x6 x8 x15 x16 : Int) (x28 : Bool) (h0_ : List T47) (h1_ : List Bool) (r : R25_r_l1) (hF : f25_r_l1_j2 k x6 x8 x15 x16 x28 h0_ h1_ = some r) : EX 25 k (nav B25 [2, 2, 2, 1, 2, 2, 1, 2, 2, 2]) ({ n := 61, F := [(5, V.own 30000), (6, V.p (Value.int .i64 x6)), (8, V.p (Value.int .i64 x8)), (14, V.own 30001), (15, V.p (Value.int .i64 x15)), (16, V.p (Value.int .i64 x16)), (28, V.p (Value.bool x28))], M := [(30000, O.row true 2 47 (rowsOf encT47 h0_)), (30001, O.row true 1 4 (rowsOf encB h1_))] } : St) = some r.st := by
  unfold f25_r_l1_j2 at hF
  cases hF
  simp (maxSteps := 999999) (disch := first | exact D (by decide) | exact K (by kernel_rfl)) only [E, EE, ↓reduceIte, simprocAttr, show (nav B25 [2, 2, 2, 1, 2, 2, 1, 2, 2, 2]) = Code.region 11 _ false from rfl, hk_25_11, hz_25_11, hs_25_11, R25_r_l1.st]
noncomputable def f25_r_l1_j3 (k : Nat) (x15 x16 : Int) (h0_ : List T47) (h1_ : List Bool) : Option R25_r_l1 :=
  some (R25_r_l1.o0 x15 (IntKind.i64.wrap (x16 + (1 : Int))) h0_ h1_)
theorem f25_r_l1_j3_ok (k : Nat) (x15 x16 : Int) (h0_ : List T47) (h1_ : List Bool) (r : R25_r_l1) (hF : f25_r_l1_j3 k x15 x16 h0_ h1_ = some r) : EX 25 k (nav B25 [2, 2, 2, 1, 2, 2, 1, 2, 2, 2]) ({ n := 61, F := [(5, V.own 30000), (14, V.own 30001), (15, V.p (Value.int .i64 x15)), (16, V.p (Value.int .i64 x16))], M := [(30000, O.row true 2 47 (rowsOf encT47 h0_)), (30001, O.row true 1 4 (rowsOf encB h1_))] } : St) = some r.st := by
  unfold f25_r_l1_j3 at hF
  cases hF
  simp (maxSteps := 999999) (disch := first | exact D (by decide) | exact K (by kernel_rfl)) only [E, EE, ↓reduceIte, simprocAttr, show (nav B25 [2, 2, 2, 1, 2, 2, 1, 2, 2, 2]) = Code.region 11 _ false from rfl, hk_25_11, hz_25_11, hs_25_11, R25_r_l1.st]
noncomputable def f25_r_l1_j4 (k : Nat) (x15 x16 : Int) (m27 : List T47) (h1_ : List Bool) : Option R25_r_l1 :=
  some (R25_r_l1.o1 x15 (IntKind.i64.wrap (x16 + (1 : Int))) m27 h1_)
theorem f25_r_l1_j4_ok (k : Nat) (x15 x16 : Int) (m27 : List T47) (h1_ : List Bool) (r : R25_r_l1) (hF : f25_r_l1_j4 k x15 x16 m27 h1_ = some r) : EX 25 k (nav B25 [2, 2, 2, 1, 2, 2, 1, 2, 2, 2]) ({ n := 61, F := [(5, V.own 27), (14, V.own 30001), (15, V.p (Value.int .i64 x15)), (16, V.p (Value.int .i64 x16))], M := [(27, O.row true 2 47 (rowsOf encT47 m27)), (30001, O.row true 1 4 (rowsOf encB h1_))] } : St) = some r.st := by
  unfold f25_r_l1_j4 at hF
  cases hF
  simp (maxSteps := 999999) (disch := first | exact D (by decide) | exact K (by kernel_rfl)) only [E, EE, ↓reduceIte, simprocAttr, show (nav B25 [2, 2, 2, 1, 2, 2, 1, 2, 2, 2]) = Code.region 11 _ false from rfl, hk_25_11, hz_25_11, hs_25_11, R25_r_l1.st]
noncomputable def f25_r_l1_j1 (k : Nat) (x15 x16 : Int) (x17 : Bool) (h0_ : List T47) (h1_ : List Bool) : Option R25_r_l1 :=
  ifE ((0 : Int) ≤ x16) (
    ifE (x16 < ((List.length h1_) : Int)) (
      Option.bind (h1_[(Int.toNat x16)]?) fun v3 =>
        cond (v3)
          (f25_r_l1_j2 k x16 ((List.length h0_) : Int) x15 x16 true h0_ h1_)
          (
            cond ((decide (((List.length h0_) : Int) > 0)))
              (
                ifE ((0 : Int) ≤ (IntKind.i64.wrap (((List.length h0_) : Int) - (1 : Int)))) (
                  ifE ((IntKind.i64.wrap (((List.length h0_) : Int) - (1 : Int))) < ((List.length h0_) : Int)) (
                    Option.bind (h0_[(Int.toNat ((IntKind.i64.wrap (((List.length h0_) : Int) - (1 : Int)))))]?) fun v9 =>
                      cond (((IntKind.i64.wrap (v9.At + v9.N)) == x16))
                        (f25_r_l1_j3 k x15 x16 ((List.set h0_ ((Int.toNat ((IntKind.i64.wrap (((List.length h0_) : Int) - (1 : Int)))))) (T47.mk v9.At (IntKind.i64.wrap (v9.N + (1 : Int)))))) h1_)
                        (
                          ifE (((List.length h0_) + 1) * 16 ≤ roomy) (
                            f25_r_l1_j4 k x15 x16 (h0_ ++ ([(T47.mk x16 1)] : List T47)) h1_)))))
              (
                ifE (((List.length h0_) + 1) * 16 ≤ roomy) (
                  f25_r_l1_j4 k x15 x16 (h0_ ++ ([(T47.mk x16 1)] : List T47)) h1_)))))
theorem f25_r_l1_j1_ok (k : Nat) (x15 x16 : Int) (x17 : Bool) (h0_ : List T47) (h1_ : List Bool) (r : R25_r_l1) (hF : f25_r_l1_j1 k x15 x16 x17 h0_ h1_ = some r) : EX 25 k (nav B25 [2, 2, 1, 2, 2, 1, 2, 2, 2]) ({ n := 61, F := [(5, V.own 30000), (14, V.own 30001), (15, V.p (Value.int .i64 x15)), (16, V.p (Value.int .i64 x16)), (17, V.p (Value.bool x17))], M := [(30000, O.row true 2 47 (rowsOf encT47 h0_)), (30001, O.row true 1 4 (rowsOf encB h1_))] } : St) = some r.st := by
  unfold f25_r_l1_j1 at hF
  replace hF := ifE_some.1 hF
  obtain ⟨h1, hF⟩ := hF
  replace hF := ifE_some.1 hF
  obtain ⟨h2, hF⟩ := hF
  replace hF := Option.bind_eq_some_iff.1 hF
  obtain ⟨v3, h4, hF⟩ := hF
  simp (maxSteps := 999999) (disch := first | exact D (by decide) | exact K (by kernel_rfl)) only [E, EE, ↓reduceIte, simprocAttr, xk B25 [2, 2, 1, 2, 2, 1, 2, 2, 2] .sq rfl, xk B25 [1, 2, 2, 1, 2, 2, 1, 2, 2, 2] (.bk 1) rfl, xk B25 [2, 1, 2, 2, 1, 2, 2, 1, 2, 2, 2] .sq rfl, show (nav B25 [1, 2, 1, 2, 2, 1, 2, 2, 1, 2, 2, 2]) = Code.region 5 _ false from rfl, hk_25_5, hz_25_5, hs_25_5, indexAddrV, u_60, i_60, is_60, ib_60, iz_60, u_4, i_4, is_4, ib_4, iz_4, encB_eq, xk B25 [2, 2, 1, 2, 2, 1, 2, 2, 1, 2, 2, 2] .sq rfl, show (nav B25 [1, 2, 2, 1, 2, 2, 1, 2, 2, 1, 2, 2, 2]) = Code.region 6 _ false from rfl, hk_25_6, hz_25_6, hs_25_6, u_41, i_41, is_41, ib_41, iz_41, xk B25 [2, 2, 2, 1, 2, 2, 1, 2, 2, 1, 2, 2, 2] (.bk 2) rfl, xk B25 [2, 2, 2, 2, 1, 2, 2, 1, 2, 2, 1, 2, 2, 2] .sq rfl, show (nav B25 [1, 2, 2, 2, 2, 1, 2, 2, 1, 2, 2, 1, 2, 2, 2]) = Code.region 8 _ false from rfl, hk_25_8, hz_25_8, hs_25_8, xk B25 [2, 2, 2, 2, 2, 1, 2, 2, 1, 2, 2, 1, 2, 2, 2] (.cd 28) rfl, h1, h2, h4]
  replace hF := cond_some hF
  rcases hF with ⟨h5, hF⟩ | ⟨h5, hF⟩
  · have hJ := f25_r_l1_j2_ok k x16 ((List.length h0_) : Int) x15 x16 true h0_ h1_ _ hF
    simp (maxSteps := 999999) (disch := first | exact D (by decide) | exact K (by kernel_rfl)) only [E, EE, ↓reduceIte, simprocAttr, xk B25 [2, 2, 2, 2, 2, 2, 1, 2, 2, 1, 2, 2, 1, 2, 2, 2] .sk rfl, h1, h2, h4, h5]
    try simp only [NM, EE] at hJ
    exact hJ
  · simp (maxSteps := 999999) (disch := first | exact D (by decide) | exact K (by kernel_rfl)) only [E, EE, ↓reduceIte, simprocAttr, xk B25 [3, 2, 2, 2, 2, 2, 1, 2, 2, 1, 2, 2, 1, 2, 2, 2] .sq rfl, show (nav B25 [1, 3, 2, 2, 2, 2, 2, 1, 2, 2, 1, 2, 2, 1, 2, 2, 2]) = Code.region 9 _ true from rfl, hk_25_9, hz_25_9, hs_25_9, h1, h2, h4, h5]
    replace hF := cond_some hF
    rcases hF with ⟨h6, hF⟩ | ⟨h6, hF⟩
    · replace hF := ifE_some.1 hF
      obtain ⟨h7, hF⟩ := hF
      replace hF := ifE_some.1 hF
      obtain ⟨h8, hF⟩ := hF
      replace hF := Option.bind_eq_some_iff.1 hF
      obtain ⟨v9, h10, hF⟩ := hF
      simp (maxSteps := 999999) (disch := first | exact D (by decide) | exact K (by kernel_rfl)) only [E, EE, ↓reduceIte, simprocAttr, indexAddrV, u_41, i_41, is_41, ib_41, iz_41, u_47, i_47, is_47, ib_47, iz_47, fieldAddrV, u_3, i_3, is_3, ib_3, iz_3, encT47_eq, xk B25 [2, 3, 2, 2, 2, 2, 2, 1, 2, 2, 1, 2, 2, 1, 2, 2, 2] (.cd 30) rfl, h1, h2, h4, h5, h6, h7, h8, h10]
      replace hF := cond_some hF
      rcases hF with ⟨h11, hF⟩ | ⟨h11, hF⟩
      · have q12 : List.set (rowsOf encT47 h0_) ((Int.toNat ((IntKind.i64.wrap (((List.length h0_) : Int) - (1 : Int)))))) [V.p (Value.int .i64 v9.At), V.p (Value.int .i64 (IntKind.i64.wrap (v9.N + (1 : Int))))] = rowsOf encT47 (List.set h0_ ((Int.toNat ((IntKind.i64.wrap (((List.length h0_) : Int) - (1 : Int)))))) (T47.mk v9.At (IntKind.i64.wrap (v9.N + (1 : Int))))) := (rowsOf_set (enc := encT47) (l := h0_) (i := ((Int.toNat ((IntKind.i64.wrap (((List.length h0_) : Int) - (1 : Int))))))) (x := (T47.mk v9.At (IntKind.i64.wrap (v9.N + (1 : Int)))))).symm
        have hJ := f25_r_l1_j3_ok k x15 x16 ((List.set h0_ ((Int.toNat ((IntKind.i64.wrap (((List.length h0_) : Int) - (1 : Int)))))) (T47.mk v9.At (IntKind.i64.wrap (v9.N + (1 : Int)))))) h1_ _ hF
        simp (maxSteps := 999999) (disch := first | exact D (by decide) | exact K (by kernel_rfl)) only [E, EE, ↓reduceIte, simprocAttr, show (nav B25 [2, 2, 3, 2, 2, 2, 2, 2, 1, 2, 2, 1, 2, 2, 1, 2, 2, 2]) = Code.region 10 _ false from rfl, hk_25_10, hz_25_10, hs_25_10, indexAddrV, u_41, i_41, is_41, ib_41, iz_41, u_47, i_47, is_47, ib_47, iz_47, fieldAddrV, u_3, i_3, is_3, ib_3, iz_3, encT47_eq, sm_47, h1, h2, h4, h5, h6, h7, h8, h10, h11, q12]
        try simp only [NM, EE] at hJ
        exact hJ
      · have q13 : [[V.p (Value.int .i64 x16), V.p (Value.int .i64 1)]] = rowsOf encT47 ([(T47.mk x16 1)] : List T47) := rfl
        have q14 : List.map (tell [0, 0]) (rowsOf encT47 ([(T47.mk x16 1)] : List T47)) = rowsOf encT47 ([(T47.mk x16 1)] : List T47) := rfl
        replace hF := ifE_some.1 hF
        obtain ⟨h15, hF⟩ := hF
        have hJ := f25_r_l1_j4_ok k x15 x16 (h0_ ++ ([(T47.mk x16 1)] : List T47)) h1_ _ hF
        simp (maxSteps := 999999) (disch := first | exact D (by decide) | exact K (by kernel_rfl)) only [E, EE, ↓reduceIte, simprocAttr, show (nav B25 [3, 2, 3, 2, 2, 2, 2, 2, 1, 2, 2, 1, 2, 2, 1, 2, 2, 2]) = Code.region 7 _ false from rfl, hk_25_7, hz_25_7, hs_25_7, bl_47, u_47, i_47, is_47, ib_47, iz_47, buildSliceV, fillRows, sm_47, u_41, i_41, is_41, ib_41, iz_41, appendV, content, h1, h2, h4, h5, h6, h7, h8, h10, h11, q13, q14, h15]
        try simp only [NM, EE] at hJ
        exact hJ
    · have q16 : [[V.p (Value.int .i64 x16), V.p (Value.int .i64 1)]] = rowsOf encT47 ([(T47.mk x16 1)] : List T47) := rfl
      have q17 : List.map (tell [0, 0]) (rowsOf encT47 ([(T47.mk x16 1)] : List T47)) = rowsOf encT47 ([(T47.mk x16 1)] : List T47) := rfl
      replace hF := ifE_some.1 hF
      obtain ⟨h18, hF⟩ := hF
      have hJ := f25_r_l1_j4_ok k x15 x16 (h0_ ++ ([(T47.mk x16 1)] : List T47)) h1_ _ hF
      simp (maxSteps := 999999) (disch := first | exact D (by decide) | exact K (by kernel_rfl)) only [E, EE, ↓reduceIte, simprocAttr, xk B25 [2, 3, 2, 2, 2, 2, 2, 1, 2, 2, 1, 2, 2, 1, 2, 2, 2] (.cd 30) rfl, show (nav B25 [3, 2, 3, 2, 2, 2, 2, 2, 1, 2, 2, 1, 2, 2, 1, 2, 2, 2]) = Code.region 7 _ false from rfl, hk_25_7, hz_25_7, hs_25_7, bl_47, u_47, i_47, is_47, ib_47, iz_47, buildSliceV, fillRows, sm_47, u_41, i_41, is_41, ib_41, iz_41, appendV, content, h1, h2, h4, h5, h6, q16, q17, h18]
      try simp only [NM, EE] at hJ
      exact hJ
noncomputable def f25_r_l1_b (k : Nat) (x15 x16 : Int) (h0_ : List T47) (h1_ : List Bool) : Option R25_r_l1 :=
  cond ((decide (x16 < x15)))
    (f25_r_l1_j1 k x15 x16 true h0_ h1_)
    (some (R25_r_l1.o2 x15 x16 false h0_ h1_))
theorem f25_r_l1_b_ok (k : Nat) (x15 x16 : Int) (h0_ : List T47) (h1_ : List Bool) (r : R25_r_l1) (hF : f25_r_l1_b k x15 x16 h0_ h1_ = some r) : EX 25 k (nav B25 [1, 2, 2, 1, 2, 2, 2]) ({ n := 61, F := [(5, V.own 30000), (14, V.own 30001), (15, V.p (Value.int .i64 x15)), (16, V.p (Value.int .i64 x16))], M := [(30000, O.row true 2 47 (rowsOf encT47 h0_)), (30001, O.row true 1 4 (rowsOf encB h1_))] } : St) = some r.st := by
  unfold f25_r_l1_b at hF
  simp (maxSteps := 999999) (disch := first | exact D (by decide) | exact K (by kernel_rfl)) only [E, EE, ↓reduceIte, simprocAttr, xk B25 [1, 2, 2, 1, 2, 2, 2] .sq rfl, show (nav B25 [1, 1, 2, 2, 1, 2, 2, 2]) = Code.region 4 _ false from rfl, hk_25_4, hz_25_4, hs_25_4, xk B25 [2, 1, 2, 2, 1, 2, 2, 2] .sq rfl, xk B25 [1, 2, 1, 2, 2, 1, 2, 2, 2] (.cd 17) rfl]
  replace hF := cond_some hF
  rcases hF with ⟨h1, hF⟩ | ⟨h1, hF⟩
  · have hJ := f25_r_l1_j1_ok k x15 x16 true h0_ h1_ _ hF
    simp (maxSteps := 999999) (disch := first | exact D (by decide) | exact K (by kernel_rfl)) only [E, EE, ↓reduceIte, simprocAttr, xk B25 [2, 1, 2, 1, 2, 2, 1, 2, 2, 2] .sk rfl, h1]
    try simp only [NM, EE] at hJ
    exact hJ
  · cases hF
    simp (maxSteps := 999999) (disch := first | exact D (by decide) | exact K (by kernel_rfl)) only [E, EE, ↓reduceIte, simprocAttr, xk B25 [3, 1, 2, 1, 2, 2, 1, 2, 2, 2] (.ex 0) rfl, R25_r_l1.st, h1]
noncomputable def f25_r_l1 (k : Nat) : Nat → Int → Int → (List T47) → (List Bool) → Option R25_r_l1
  | 0, _, _, _, _ => none
  | n + 1, x15, x16, h0_, h1_ => Option.bind (f25_r_l1_b k x15 x16 h0_ h1_) fun o =>
    match o with
    | .o0 y y_1 y_2 y_3 => f25_r_l1 k n y y_1 y_2 y_3
    | .o1 y y_1 y_2 y_3 => f25_r_l1 k n y y_1 y_2 y_3
    | .o2 y y_1 y_2 y_3 y_4 => some (.o2 y y_1 y_2 y_3 y_4)
theorem f25_r_l1_ok (k n : Nat) : ∀ (x15 x16 : Int) (h0_ : List T47) (h1_ : List Bool) (r : R25_r_l1) (hF : f25_r_l1 k n x15 x16 h0_ h1_ = some r) (σ : St) (hσ : headR (hints.head 25 4) (hints.canon 25 4) σ = some ({ n := 61, F := [(5, V.own 30000), (14, V.own 30001), (15, V.p (Value.int .i64 x15)), (16, V.p (Value.int .i64 x16))], M := [(30000, O.row true 2 47 (rowsOf encT47 h0_)), (30001, O.row true 1 4 (rowsOf encB h1_))] } : St)), LP 25 k (nav B25 [1, 2, 2, 1, 2, 2, 2]) n σ = some r.st := by
  induction n with
  | zero => intro x15 x16 h0_ h1_ r hF; cases hF
  | succ n ih =>
    intro x15 x16 h0_ h1_ r hF σ hσ
    rw [f25_r_l1] at hF
    obtain ⟨o, h, hF⟩ := Option.bind_eq_some_iff.1 hF
    have hB := f25_r_l1_b_ok k x15 x16 h0_ h1_ o h
    unfold LP at ih ⊢
    unfold EX at hB
    rw [loopK_succ, show firstReg (nav B25 [1, 2, 2, 1, 2, 2, 2]) = 4 from rfl, hσ, headK_some, hB]
    cases o with
    | o0 y y_1 y_2 y_3 =>
      refine ih y y_1 y_2 y_3 r hF _ ?_
      simp (maxSteps := 999999) (disch := first | exact D (by decide) | exact K (by kernel_rfl)) only [E, EE, ↓reduceIte, simprocAttr, hh_25_4, hc_25_4]
    | o1 y y_1 y_2 y_3 =>
      refine ih y y_1 y_2 y_3 r hF _ ?_
      simp (maxSteps := 999999) (disch := first | exact D (by decide) | exact K (by kernel_rfl)) only [E, EE, ↓reduceIte, simprocAttr, hh_25_4, hc_25_4]
    | o2 y y_1 y_2 y_3 y_4 => cases hF; rfl
noncomputable def f25_r_j2 (k : Nat) (x15 x16 : Int) (x17 : Bool) (h0_ : List T47) (h1_ : List Bool) : Option R25_r :=
  some (R25_r.o0 h0_)
theorem f25_r_j2_ok (k : Nat) (x15 x16 : Int) (x17 : Bool) (h0_ : List T47) (h1_ : List Bool) (r : R25_r) (hF : f25_r_j2 k x15 x16 x17 h0_ h1_ = some r) : finK Try.prog Try.f25 0 (EX 25 k (nav B25 [2, 2, 2, 2]) ({ n := 61, F := [(5, V.own 30000), (14, V.own 30001), (15, V.p (Value.int .i64 x15)), (16, V.p (Value.int .i64 x16)), (17, V.p (Value.bool x17))], M := [(30000, O.row true 2 47 (rowsOf encT47 h0_)), (30001, O.row true 1 4 (rowsOf encB h1_))] } : St)) = some r.st := by
  unfold f25_r_j2 at hF
  cases hF
  simp (maxSteps := 999999) (disch := first | exact D (by decide) | exact K (by kernel_rfl)) only [E, EE, ↓reduceIte, simprocAttr, xk B25 [2, 2, 2, 2] .sq rfl, show (nav B25 [1, 2, 2, 2, 2]) = Code.region 12 _ false from rfl, hk_25_12, hz_25_12, hs_25_12, xk B25 [2, 2, 2, 2, 2] .rt rfl, finK_norm, finK_ret, fin25, R25_r.st]
noncomputable def f25_r_e (k : Nat) (a0 : List T25) : Option R25_r :=
  Option.bind (f35_r k a0) fun o1 =>
    match o1 with
    | .o0 v4 v5 =>
      Option.bind (f25_r_l1 k k ((List.length v4) : Int) 0 [] v4) fun o6 =>
        match o6 with
        | .o0 _ _ _ _ =>
          none
        | .o1 _ _ _ _ =>
          none
        | .o2 v9 v10 v11 v12 v13 =>
          f25_r_j2 k v9 v10 v11 v12 v13
theorem f25_r_e_ok (k : Nat) (a0 : List T25) (r : R25_r) (hF : f25_r_e k a0 = some r) : finK Try.prog Try.f25 0 (EX 25 k (nav B25 []) ({ n := 61, F := [(0, V.sl 11 (rowsOf encT25 a0))], M := [] } : St)) = some r.st := by
  unfold f25_r_e at hF
  replace hF := Option.bind_eq_some_iff.1 hF
  obtain ⟨o1, h2, hF⟩ := hF
  have hc3 := f35_r_ok k a0 _ h2
  cases o1 with
  | o0 v4 v5 =>
    (try dsimp only at hF)
    (try simp only [NM, EE, R35_r.st] at hc3)
    replace hF := Option.bind_eq_some_iff.1 hF
    obtain ⟨o6, h7, hF⟩ := hF
    have hc8 := f25_r_l1_ok k k ((List.length v4) : Int) 0 [] v4 _ h7
    simp (maxSteps := 999999) (disch := first | exact D (by decide) | exact K (by kernel_rfl)) only [E, EE, ↓reduceIte, simprocAttr, xk B25 [] .sq rfl, show (nav B25 [1]) = Code.region 0 _ false from rfl, hk_25_0, hz_25_0, hs_25_0, xk B25 [2] .sq rfl, show (nav B25 [1, 2]) = Code.region 1 _ false from rfl, hk_25_1, hz_25_1, hs_25_1, callStep, CL, gv, List.contains, xk B25 [2, 2] .sq rfl, show (nav B25 [1, 2, 2]) = Code.region 2 _ false from rfl, hk_25_2, hz_25_2, hs_25_2, xk B25 [2, 2, 2] .sq rfl, xk B25 [1, 2, 2, 2] .sq rfl, show (nav B25 [1, 1, 2, 2, 2]) = Code.region 3 _ false from rfl, hk_25_3, hz_25_3, hs_25_3, u_60, i_60, is_60, ib_60, iz_60, xk B25 [2, 1, 2, 2, 2] (.bk 0) rfl, xk B25 [2, 2, 1, 2, 2, 2] .lp rfl, hh_25_4, hc_25_4, hc3]
    (try simp only [NM, EE] at hc8)
    rw [hc8 _ (by simp (maxSteps := 999999) (disch := first | exact D (by decide) | exact K (by kernel_rfl)) only [E, EE, ↓reduceIte, simprocAttr, hh_25_4, hc_25_4, hc3])]
    clear hc8
    cases o6 with
    | o0 _ _ _ _ =>
      (try dsimp only at hF)
      cases hF
    | o1 _ _ _ _ =>
      (try dsimp only at hF)
      cases hF
    | o2 v9 v10 v11 v12 v13 =>
      (try dsimp only at hF)
      have hJ := f25_r_j2_ok k v9 v10 v11 v12 v13 _ hF
      simp (maxSteps := 999999) (disch := first | exact D (by decide) | exact K (by kernel_rfl)) only [E, EE, ↓reduceIte, simprocAttr, R25_r_l1.st, hc3]
      try simp only [NM, EE] at hJ
      exact hJ
noncomputable def f25_r (k : Nat) (a0 : List T25) : Option R25_r := match k with | 0 => none | k + 1 => f25_r_e k a0
theorem f25_r_ok (k : Nat) (a0 : List T25) (r : R25_r) (hF : f25_r k a0 = some r) : CV k 25 [V.sl 11 (rowsOf encT25 a0)] [] = some r.st := by
  cases k with
  | zero => cases hF
  | succ k =>
    unfold CV
    rw [ev_call (F := Try.f25) (c := (nav B25 [])) rfl Try.func25 rfl rfl rfl rfl]
    exact f25_r_e_ok k a0 r hF
end Go.Proofs.YteggcokgkcfliaaV
