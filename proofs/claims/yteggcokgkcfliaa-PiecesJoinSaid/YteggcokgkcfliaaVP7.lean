/- What the program's functions answer: plain functions, and that the interpreter answers what they do. Written by a program of this session, out of the translation. -/
import Derived.Test.YteggcokgkcfliaaVP6
namespace Go.Proofs.YteggcokgkcfliaaV
open Go
set_option linter.unusedVariables false
set_option linter.unusedSimpArgs false
set_option maxRecDepth 8000
set_option maxHeartbeats 4000000
-- f17_ai10rzai10rz: f17 heliograph/heliographref18.Together
inductive R17_ai10rzai10rz where
  | o0 (y : Bool)
noncomputable def R17_ai10rzai10rz.st : R17_ai10rzai10rz → V × List O × List O
  | .o0 y => (V.p (Value.bool y), [], [])
inductive R17_ai10rzai10rz_l3 where
  | o0 (y : Bool)
  | o1 (y : List Int) (y_1 y_2 y_3 y_4 y_5 y_6 y_7 y_8 y_9 y_10 y_11 y_12 : Int) (y_13 : List Int) (y_14 y_15 y_16 y_17 y_18 y_19 y_20 y_21 y_22 y_23 : Int) (y_24 : List Int)
  | o2 (y : List Int) (y_1 y_2 : Int) (y_3 : Bool) (y_4 y_5 y_6 y_7 y_8 y_9 y_10 y_11 y_12 y_13 : Int) (y_14 : List Int) (y_15 y_16 y_17 y_18 y_19 y_20 y_21 y_22 y_23 y_24 : Int) (y_25 : List Int)
noncomputable def R17_ai10rzai10rz_l3.st : R17_ai10rzai10rz_l3 → Out × St
  | .o0 y => (.ret, ({ n := 65, F := [(4, V.p (Value.bool y))], M := [] } : St))
  | .o1 y y_1 y_2 y_3 y_4 y_5 y_6 y_7 y_8 y_9 y_10 y_11 y_12 y_13 y_14 y_15 y_16 y_17 y_18 y_19 y_20 y_21 y_22 y_23 y_24 => (.norm, ({ n := 65, F := [(2, V.ptr 30000 0), (3, V.ptr 30001 0), (32, V.sl 1 (rowsOf (encI .u8) y)), (33, V.p (Value.int .i64 y_1)), (34, V.p (Value.int .i64 y_2))], M := [(30000, O.box 25 [V.p (Value.int .i64 y_3), V.p (Value.int .i64 y_4), V.p (Value.int .u32 y_5), V.p (Value.int .i64 y_6), V.p (Value.int .i64 y_7), V.p (Value.int .i64 y_8), V.p (Value.int .i64 y_9), V.p (Value.int .i64 y_10), V.p (Value.int .i64 y_11), V.p (Value.int .i64 y_12), V.sl 1 (rowsOf (encI .u8) y_13)]), (30001, O.box 25 [V.p (Value.int .i64 y_14), V.p (Value.int .i64 y_15), V.p (Value.int .u32 y_16), V.p (Value.int .i64 y_17), V.p (Value.int .i64 y_18), V.p (Value.int .i64 y_19), V.p (Value.int .i64 y_20), V.p (Value.int .i64 y_21), V.p (Value.int .i64 y_22), V.p (Value.int .i64 y_23), V.sl 1 (rowsOf (encI .u8) y_24)])] } : St))
  | .o2 y y_1 y_2 y_3 y_4 y_5 y_6 y_7 y_8 y_9 y_10 y_11 y_12 y_13 y_14 y_15 y_16 y_17 y_18 y_19 y_20 y_21 y_22 y_23 y_24 y_25 => (.exit 0, ({ n := 65, F := [(2, V.ptr 30000 0), (3, V.ptr 30001 0), (32, V.sl 1 (rowsOf (encI .u8) y)), (33, V.p (Value.int .i64 y_1)), (34, V.p (Value.int .i64 y_2)), (35, V.p (Value.bool y_3))], M := [(30000, O.box 25 [V.p (Value.int .i64 y_4), V.p (Value.int .i64 y_5), V.p (Value.int .u32 y_6), V.p (Value.int .i64 y_7), V.p (Value.int .i64 y_8), V.p (Value.int .i64 y_9), V.p (Value.int .i64 y_10), V.p (Value.int .i64 y_11), V.p (Value.int .i64 y_12), V.p (Value.int .i64 y_13), V.sl 1 (rowsOf (encI .u8) y_14)]), (30001, O.box 25 [V.p (Value.int .i64 y_15), V.p (Value.int .i64 y_16), V.p (Value.int .u32 y_17), V.p (Value.int .i64 y_18), V.p (Value.int .i64 y_19), V.p (Value.int .i64 y_20), V.p (Value.int .i64 y_21), V.p (Value.int .i64 y_22), V.p (Value.int .i64 y_23), V.p (Value.int .i64 y_24), V.sl 1 (rowsOf (encI .u8) y_25)])] } : St))
noncomputable def f17_ai10rzai10rz_l3_j2 (k : Nat) (x32 : List Int) (x33 x34 : Int) (x63 : Bool) (h0_ h0__1 h0__2 h0__3 h0__4 h0__5 h0__6 h0__7 h0__8 h0__9 : Int) (h0__10 : List Int) (h1_ h1__1 h1__2 h1__3 h1__4 h1__5 h1__6 h1__7 h1__8 h1__9 : Int) (h1__10 : List Int) : Option R17_ai10rzai10rz_l3 :=
  some (R17_ai10rzai10rz_l3.o1 x32 x33 (IntKind.i64.wrap (x34 + (1 : Int))) h0_ h0__1 h0__2 h0__3 h0__4 h0__5 h0__6 h0__7 h0__8 h0__9 h0__10 h1_ h1__1 h1__2 h1__3 h1__4 h1__5 h1__6 h1__7 h1__8 h1__9 h1__10)
theorem f17_ai10rzai10rz_l3_j2_ok (k : Nat) (x32 : List Int) (x33 x34 : Int) (x63 : Bool) (h0_ h0__1 h0__2 h0__3 h0__4 h0__5 h0__6 h0__7 h0__8 h0__9 : Int) (h0__10 : List Int) (h1_ h1__1 h1__2 h1__3 h1__4 h1__5 h1__6 h1__7 h1__8 h1__9 : Int) (h1__10 : List Int) (r : R17_ai10rzai10rz_l3) (hF : f17_ai10rzai10rz_l3_j2 k x32 x33 x34 x63 h0_ h0__1 h0__2 h0__3 h0__4 h0__5 h0__6 h0__7 h0__8 h0__9 h0__10 h1_ h1__1 h1__2 h1__3 h1__4 h1__5 h1__6 h1__7 h1__8 h1__9 h1__10 = some r) : EX 17 k (nav B17 [2, 2, 2, 1, 2, 2, 1, 2, 2, 2, 2, 2]) ({ n := 65, F := [(2, V.ptr 30000 0), (3, V.ptr 30001 0), (32, V.sl 1 (rowsOf (encI .u8) x32)), (33, V.p (Value.int .i64 x33)), (34, V.p (Value.int .i64 x34)), (63, V.p (Value.bool x63))], M := [(30000, O.box 25 [V.p (Value.int .i64 h0_), V.p (Value.int .i64 h0__1), V.p (Value.int .u32 h0__2), V.p (Value.int .i64 h0__3), V.p (Value.int .i64 h0__4), V.p (Value.int .i64 h0__5), V.p (Value.int .i64 h0__6), V.p (Value.int .i64 h0__7), V.p (Value.int .i64 h0__8), V.p (Value.int .i64 h0__9), V.sl 1 (rowsOf (encI .u8) h0__10)]), (30001, O.box 25 [V.p (Value.int .i64 h1_), V.p (Value.int .i64 h1__1), V.p (Value.int .u32 h1__2), V.p (Value.int .i64 h1__3), V.p (Value.int .i64 h1__4), V.p (Value.int .i64 h1__5), V.p (Value.int .i64 h1__6), V.p (Value.int .i64 h1__7), V.p (Value.int .i64 h1__8), V.p (Value.int .i64 h1__9), V.sl 1 (rowsOf (encI .u8) h1__10)])] } : St) = some r.st := by
  unfold f17_ai10rzai10rz_l3_j2 at hF
  cases hF
  simp (maxSteps := 999999) (disch := first | exact D (by decide) | exact K (by kernel_rfl)) only [E, EE, ↓reduceIte, simprocAttr, show (nav B17 [2, 2, 2, 1, 2, 2, 1, 2, 2, 2, 2, 2]) = Code.region 13 _ false from rfl, hk_17_13, hz_17_13, hs_17_13, R17_ai10rzai10rz_l3.st]
noncomputable def f17_ai10rzai10rz_l3_j1 (k : Nat) (x32 : List Int) (x33 x34 : Int) (x35 : Bool) (h0_ h0__1 h0__2 h0__3 h0__4 h0__5 h0__6 h0__7 h0__8 h0__9 : Int) (h0__10 : List Int) (h1_ h1__1 h1__2 h1__3 h1__4 h1__5 h1__6 h1__7 h1__8 h1__9 : Int) (h1__10 : List Int) : Option R17_ai10rzai10rz_l3 :=
  ifE ((0 : Int) ≤ x34) (
    Option.bind (x32[(Int.toNat x34)]?) fun v2 =>
      cond ((decide ((IntKind.i64.wrap ((IntKind.i64.wrap (h0__8 + x34)) - h1__8)) ≥ 0)))
        (
          cond ((decide ((IntKind.i64.wrap ((IntKind.i64.wrap (h0__8 + x34)) - h1__8)) < ((List.length h1__10) : Int))))
            (
              ifE ((0 : Int) ≤ (IntKind.i64.wrap ((IntKind.i64.wrap (h0__8 + x34)) - h1__8))) (
                Option.bind (h1__10[(Int.toNat (IntKind.i64.wrap ((IntKind.i64.wrap (h0__8 + x34)) - h1__8)))]?) fun v7 =>
                  cond ((v7 != v2))
                    (some (R17_ai10rzai10rz_l3.o0 false))
                    (f17_ai10rzai10rz_l3_j2 k x32 x33 x34 false h0_ h0__1 h0__2 h0__3 h0__4 h0__5 h0__6 h0__7 h0__8 h0__9 h0__10 h1_ h1__1 h1__2 h1__3 h1__4 h1__5 h1__6 h1__7 h1__8 h1__9 h1__10)))
            (f17_ai10rzai10rz_l3_j2 k x32 x33 x34 false h0_ h0__1 h0__2 h0__3 h0__4 h0__5 h0__6 h0__7 h0__8 h0__9 h0__10 h1_ h1__1 h1__2 h1__3 h1__4 h1__5 h1__6 h1__7 h1__8 h1__9 h1__10))
        (f17_ai10rzai10rz_l3_j2 k x32 x33 x34 false h0_ h0__1 h0__2 h0__3 h0__4 h0__5 h0__6 h0__7 h0__8 h0__9 h0__10 h1_ h1__1 h1__2 h1__3 h1__4 h1__5 h1__6 h1__7 h1__8 h1__9 h1__10))
theorem f17_ai10rzai10rz_l3_j1_ok (k : Nat) (x32 : List Int) (x33 x34 : Int) (x35 : Bool) (h0_ h0__1 h0__2 h0__3 h0__4 h0__5 h0__6 h0__7 h0__8 h0__9 : Int) (h0__10 : List Int) (h1_ h1__1 h1__2 h1__3 h1__4 h1__5 h1__6 h1__7 h1__8 h1__9 : Int) (h1__10 : List Int) (r : R17_ai10rzai10rz_l3) (hF : f17_ai10rzai10rz_l3_j1 k x32 x33 x34 x35 h0_ h0__1 h0__2 h0__3 h0__4 h0__5 h0__6 h0__7 h0__8 h0__9 h0__10 h1_ h1__1 h1__2 h1__3 h1__4 h1__5 h1__6 h1__7 h1__8 h1__9 h1__10 = some r) : EX 17 k (nav B17 [2, 2, 1, 2, 2, 1, 2, 2, 2, 2, 2]) ({ n := 65, F := [(2, V.ptr 30000 0), (3, V.ptr 30001 0), (32, V.sl 1 (rowsOf (encI .u8) x32)), (33, V.p (Value.int .i64 x33)), (34, V.p (Value.int .i64 x34)), (35, V.p (Value.bool x35))], M := [(30000, O.box 25 [V.p (Value.int .i64 h0_), V.p (Value.int .i64 h0__1), V.p (Value.int .u32 h0__2), V.p (Value.int .i64 h0__3), V.p (Value.int .i64 h0__4), V.p (Value.int .i64 h0__5), V.p (Value.int .i64 h0__6), V.p (Value.int .i64 h0__7), V.p (Value.int .i64 h0__8), V.p (Value.int .i64 h0__9), V.sl 1 (rowsOf (encI .u8) h0__10)]), (30001, O.box 25 [V.p (Value.int .i64 h1_), V.p (Value.int .i64 h1__1), V.p (Value.int .u32 h1__2), V.p (Value.int .i64 h1__3), V.p (Value.int .i64 h1__4), V.p (Value.int .i64 h1__5), V.p (Value.int .i64 h1__6), V.p (Value.int .i64 h1__7), V.p (Value.int .i64 h1__8), V.p (Value.int .i64 h1__9), V.sl 1 (rowsOf (encI .u8) h1__10)])] } : St) = some r.st := by
  unfold f17_ai10rzai10rz_l3_j1 at hF
  replace hF := ifE_some.1 hF
  obtain ⟨h1, hF⟩ := hF
  replace hF := Option.bind_eq_some_iff.1 hF
  obtain ⟨v2, h3, hF⟩ := hF
  simp (maxSteps := 999999) (disch := first | exact D (by decide) | exact K (by kernel_rfl)) only [E, EE, ↓reduceIte, simprocAttr, xk B17 [2, 2, 1, 2, 2, 1, 2, 2, 2, 2, 2] .sq rfl, xk B17 [1, 2, 2, 1, 2, 2, 1, 2, 2, 2, 2, 2] (.bk 1) rfl, xk B17 [2, 1, 2, 2, 1, 2, 2, 1, 2, 2, 2, 2, 2] .sq rfl, show (nav B17 [1, 2, 1, 2, 2, 1, 2, 2, 1, 2, 2, 2, 2, 2]) = Code.region 9 _ false from rfl, hk_17_9, hz_17_9, hs_17_9, indexAddrV, u_23, i_23, is_23, ib_23, iz_23, u_5, i_5, is_5, ib_5, iz_5, encI_eq, xk B17 [2, 2, 1, 2, 2, 1, 2, 2, 1, 2, 2, 2, 2, 2] .sq rfl, show (nav B17 [1, 2, 2, 1, 2, 2, 1, 2, 2, 1, 2, 2, 2, 2, 2]) = Code.region 10 _ false from rfl, hk_17_10, hz_17_10, hs_17_10, fieldAddrV, u_25, i_25, is_25, ib_25, iz_25, u_3, i_3, is_3, ib_3, iz_3, xk B17 [2, 2, 2, 1, 2, 2, 1, 2, 2, 1, 2, 2, 2, 2, 2] .sq rfl, show (nav B17 [1, 2, 2, 2, 1, 2, 2, 1, 2, 2, 1, 2, 2, 2, 2, 2]) = Code.region 11 _ false from rfl, hk_17_11, hz_17_11, hs_17_11, h1, h3]
  replace hF := cond_some hF
  rcases hF with ⟨h4, hF⟩ | ⟨h4, hF⟩
  · simp (maxSteps := 999999) (disch := first | exact D (by decide) | exact K (by kernel_rfl)) only [E, EE, ↓reduceIte, simprocAttr, fieldAddrV, u_25, i_25, is_25, ib_25, iz_25, u_23, i_23, is_23, ib_23, iz_23, h1, h3, h4]
    replace hF := cond_some hF
    rcases hF with ⟨h5, hF⟩ | ⟨h5, hF⟩
    · replace hF := ifE_some.1 hF
      obtain ⟨h6, hF⟩ := hF
      replace hF := Option.bind_eq_some_iff.1 hF
      obtain ⟨v7, h8, hF⟩ := hF
      simp (maxSteps := 999999) (disch := first | exact D (by decide) | exact K (by kernel_rfl)) only [E, EE, ↓reduceIte, simprocAttr, fieldAddrV, u_25, i_25, is_25, ib_25, iz_25, u_23, i_23, is_23, ib_23, iz_23, indexAddrV, u_5, i_5, is_5, ib_5, iz_5, encI_eq, xk B17 [2, 2, 2, 2, 1, 2, 2, 1, 2, 2, 1, 2, 2, 2, 2, 2] (.cd 63) rfl, h1, h3, h4, h5, h6, h8]
      replace hF := cond_some hF
      rcases hF with ⟨h9, hF⟩ | ⟨h9, hF⟩
      · cases hF
        simp (maxSteps := 999999) (disch := first | exact D (by decide) | exact K (by kernel_rfl)) only [E, EE, ↓reduceIte, simprocAttr, xk B17 [2, 2, 2, 2, 2, 1, 2, 2, 1, 2, 2, 1, 2, 2, 2, 2, 2] .sq rfl, show (nav B17 [1, 2, 2, 2, 2, 2, 1, 2, 2, 1, 2, 2, 1, 2, 2, 2, 2, 2]) = Code.region 12 _ false from rfl, hk_17_12, hz_17_12, hs_17_12, xk B17 [2, 2, 2, 2, 2, 2, 1, 2, 2, 1, 2, 2, 1, 2, 2, 2, 2, 2] .rt rfl, R17_ai10rzai10rz_l3.st, h1, h3, h4, h5, h6, h8, h9]
      · have hJ := f17_ai10rzai10rz_l3_j2_ok k x32 x33 x34 false h0_ h0__1 h0__2 h0__3 h0__4 h0__5 h0__6 h0__7 h0__8 h0__9 h0__10 h1_ h1__1 h1__2 h1__3 h1__4 h1__5 h1__6 h1__7 h1__8 h1__9 h1__10 _ hF
        simp (maxSteps := 999999) (disch := first | exact D (by decide) | exact K (by kernel_rfl)) only [E, EE, ↓reduceIte, simprocAttr, xk B17 [3, 2, 2, 2, 2, 1, 2, 2, 1, 2, 2, 1, 2, 2, 2, 2, 2] .sk rfl, h1, h3, h4, h5, h6, h8, h9]
        try simp only [NM, EE] at hJ
        exact hJ
    · have hJ := f17_ai10rzai10rz_l3_j2_ok k x32 x33 x34 false h0_ h0__1 h0__2 h0__3 h0__4 h0__5 h0__6 h0__7 h0__8 h0__9 h0__10 h1_ h1__1 h1__2 h1__3 h1__4 h1__5 h1__6 h1__7 h1__8 h1__9 h1__10 _ hF
      simp (maxSteps := 999999) (disch := first | exact D (by decide) | exact K (by kernel_rfl)) only [E, EE, ↓reduceIte, simprocAttr, xk B17 [2, 2, 2, 2, 1, 2, 2, 1, 2, 2, 1, 2, 2, 2, 2, 2] (.cd 63) rfl, xk B17 [3, 2, 2, 2, 2, 1, 2, 2, 1, 2, 2, 1, 2, 2, 2, 2, 2] .sk rfl, h1, h3, h4, h5]
      try simp only [NM, EE] at hJ
      exact hJ
  · have hJ := f17_ai10rzai10rz_l3_j2_ok k x32 x33 x34 false h0_ h0__1 h0__2 h0__3 h0__4 h0__5 h0__6 h0__7 h0__8 h0__9 h0__10 h1_ h1__1 h1__2 h1__3 h1__4 h1__5 h1__6 h1__7 h1__8 h1__9 h1__10 _ hF
    simp (maxSteps := 999999) (disch := first | exact D (by decide) | exact K (by kernel_rfl)) only [E, EE, ↓reduceIte, simprocAttr, xk B17 [2, 2, 2, 2, 1, 2, 2, 1, 2, 2, 1, 2, 2, 2, 2, 2] (.cd 63) rfl, xk B17 [3, 2, 2, 2, 2, 1, 2, 2, 1, 2, 2, 1, 2, 2, 2, 2, 2] .sk rfl, h1, h3, h4]
    try simp only [NM, EE] at hJ
    exact hJ
noncomputable def f17_ai10rzai10rz_l3_b (k : Nat) (x32 : List Int) (x33 x34 h0_ h0__1 h0__2 h0__3 h0__4 h0__5 h0__6 h0__7 h0__8 h0__9 : Int) (h0__10 : List Int) (h1_ h1__1 h1__2 h1__3 h1__4 h1__5 h1__6 h1__7 h1__8 h1__9 : Int) (h1__10 : List Int) : Option R17_ai10rzai10rz_l3 :=
  cond ((decide (x34 < x33)))
    (f17_ai10rzai10rz_l3_j1 k x32 x33 x34 true h0_ h0__1 h0__2 h0__3 h0__4 h0__5 h0__6 h0__7 h0__8 h0__9 h0__10 h1_ h1__1 h1__2 h1__3 h1__4 h1__5 h1__6 h1__7 h1__8 h1__9 h1__10)
    (some (R17_ai10rzai10rz_l3.o2 x32 x33 x34 false h0_ h0__1 h0__2 h0__3 h0__4 h0__5 h0__6 h0__7 h0__8 h0__9 h0__10 h1_ h1__1 h1__2 h1__3 h1__4 h1__5 h1__6 h1__7 h1__8 h1__9 h1__10))
theorem f17_ai10rzai10rz_l3_b_ok (k : Nat) (x32 : List Int) (x33 x34 h0_ h0__1 h0__2 h0__3 h0__4 h0__5 h0__6 h0__7 h0__8 h0__9 : Int) (h0__10 : List Int) (h1_ h1__1 h1__2 h1__3 h1__4 h1__5 h1__6 h1__7 h1__8 h1__9 : Int) (h1__10 : List Int) (r : R17_ai10rzai10rz_l3) (hF : f17_ai10rzai10rz_l3_b k x32 x33 x34 h0_ h0__1 h0__2 h0__3 h0__4 h0__5 h0__6 h0__7 h0__8 h0__9 h0__10 h1_ h1__1 h1__2 h1__3 h1__4 h1__5 h1__6 h1__7 h1__8 h1__9 h1__10 = some r) : EX 17 k (nav B17 [1, 2, 2, 1, 2, 2, 2, 2, 2]) ({ n := 65, F := [(2, V.ptr 30000 0), (3, V.ptr 30001 0), (32, V.sl 1 (rowsOf (encI .u8) x32)), (33, V.p (Value.int .i64 x33)), (34, V.p (Value.int .i64 x34))], M := [(30000, O.box 25 [V.p (Value.int .i64 h0_), V.p (Value.int .i64 h0__1), V.p (Value.int .u32 h0__2), V.p (Value.int .i64 h0__3), V.p (Value.int .i64 h0__4), V.p (Value.int .i64 h0__5), V.p (Value.int .i64 h0__6), V.p (Value.int .i64 h0__7), V.p (Value.int .i64 h0__8), V.p (Value.int .i64 h0__9), V.sl 1 (rowsOf (encI .u8) h0__10)]), (30001, O.box 25 [V.p (Value.int .i64 h1_), V.p (Value.int .i64 h1__1), V.p (Value.int .u32 h1__2), V.p (Value.int .i64 h1__3), V.p (Value.int .i64 h1__4), V.p (Value.int .i64 h1__5), V.p (Value.int .i64 h1__6), V.p (Value.int .i64 h1__7), V.p (Value.int .i64 h1__8), V.p (Value.int .i64 h1__9), V.sl 1 (rowsOf (encI .u8) h1__10)])] } : St) = some r.st := by
  unfold f17_ai10rzai10rz_l3_b at hF
  simp (maxSteps := 999999) (disch := first | exact D (by decide) | exact K (by kernel_rfl)) only [E, EE, ↓reduceIte, simprocAttr, xk B17 [1, 2, 2, 1, 2, 2, 2, 2, 2] .sq rfl, show (nav B17 [1, 1, 2, 2, 1, 2, 2, 2, 2, 2]) = Code.region 8 _ false from rfl, hk_17_8, hz_17_8, hs_17_8, xk B17 [2, 1, 2, 2, 1, 2, 2, 2, 2, 2] .sq rfl, xk B17 [1, 2, 1, 2, 2, 1, 2, 2, 2, 2, 2] (.cd 35) rfl]
  replace hF := cond_some hF
  rcases hF with ⟨h1, hF⟩ | ⟨h1, hF⟩
  · have hJ := f17_ai10rzai10rz_l3_j1_ok k x32 x33 x34 true h0_ h0__1 h0__2 h0__3 h0__4 h0__5 h0__6 h0__7 h0__8 h0__9 h0__10 h1_ h1__1 h1__2 h1__3 h1__4 h1__5 h1__6 h1__7 h1__8 h1__9 h1__10 _ hF
    simp (maxSteps := 999999) (disch := first | exact D (by decide) | exact K (by kernel_rfl)) only [E, EE, ↓reduceIte, simprocAttr, xk B17 [2, 1, 2, 1, 2, 2, 1, 2, 2, 2, 2, 2] .sk rfl, h1]
    try simp only [NM, EE] at hJ
    exact hJ
  · cases hF
    simp (maxSteps := 999999) (disch := first | exact D (by decide) | exact K (by kernel_rfl)) only [E, EE, ↓reduceIte, simprocAttr, xk B17 [3, 1, 2, 1, 2, 2, 1, 2, 2, 2, 2, 2] (.ex 0) rfl, R17_ai10rzai10rz_l3.st, h1]
noncomputable def f17_ai10rzai10rz_l3 (k : Nat) : Nat → (List Int) → Int → Int → Int → Int → Int → Int → Int → Int → Int → Int → Int → Int → (List Int) → Int → Int → Int → Int → Int → Int → Int → Int → Int → Int → (List Int) → Option R17_ai10rzai10rz_l3
  | 0, _, _, _, _, _, _, _, _, _, _, _, _, _, _, _, _, _, _, _, _, _, _, _, _, _ => none
  | n + 1, x32, x33, x34, h0_, h0__1, h0__2, h0__3, h0__4, h0__5, h0__6, h0__7, h0__8, h0__9, h0__10, h1_, h1__1, h1__2, h1__3, h1__4, h1__5, h1__6, h1__7, h1__8, h1__9, h1__10 => Option.bind (f17_ai10rzai10rz_l3_b k x32 x33 x34 h0_ h0__1 h0__2 h0__3 h0__4 h0__5 h0__6 h0__7 h0__8 h0__9 h0__10 h1_ h1__1 h1__2 h1__3 h1__4 h1__5 h1__6 h1__7 h1__8 h1__9 h1__10) fun o =>
    match o with
    | .o0 y => some (.o0 y)
    | .o1 y y_1 y_2 y_3 y_4 y_5 y_6 y_7 y_8 y_9 y_10 y_11 y_12 y_13 y_14 y_15 y_16 y_17 y_18 y_19 y_20 y_21 y_22 y_23 y_24 => f17_ai10rzai10rz_l3 k n y y_1 y_2 y_3 y_4 y_5 y_6 y_7 y_8 y_9 y_10 y_11 y_12 y_13 y_14 y_15 y_16 y_17 y_18 y_19 y_20 y_21 y_22 y_23 y_24
    | .o2 y y_1 y_2 y_3 y_4 y_5 y_6 y_7 y_8 y_9 y_10 y_11 y_12 y_13 y_14 y_15 y_16 y_17 y_18 y_19 y_20 y_21 y_22 y_23 y_24 y_25 => some (.o2 y y_1 y_2 y_3 y_4 y_5 y_6 y_7 y_8 y_9 y_10 y_11 y_12 y_13 y_14 y_15 y_16 y_17 y_18 y_19 y_20 y_21 y_22 y_23 y_24 y_25)
theorem f17_ai10rzai10rz_l3_ok (k n : Nat) : ∀ (x32 : List Int) (x33 x34 h0_ h0__1 h0__2 h0__3 h0__4 h0__5 h0__6 h0__7 h0__8 h0__9 : Int) (h0__10 : List Int) (h1_ h1__1 h1__2 h1__3 h1__4 h1__5 h1__6 h1__7 h1__8 h1__9 : Int) (h1__10 : List Int) (r : R17_ai10rzai10rz_l3) (hF : f17_ai10rzai10rz_l3 k n x32 x33 x34 h0_ h0__1 h0__2 h0__3 h0__4 h0__5 h0__6 h0__7 h0__8 h0__9 h0__10 h1_ h1__1 h1__2 h1__3 h1__4 h1__5 h1__6 h1__7 h1__8 h1__9 h1__10 = some r) (σ : St) (hσ : headR (hints.head 17 8) (hints.canon 17 8) σ = some ({ n := 65, F := [(2, V.ptr 30000 0), (3, V.ptr 30001 0), (32, V.sl 1 (rowsOf (encI .u8) x32)), (33, V.p (Value.int .i64 x33)), (34, V.p (Value.int .i64 x34))], M := [(30000, O.box 25 [V.p (Value.int .i64 h0_), V.p (Value.int .i64 h0__1), V.p (Value.int .u32 h0__2), V.p (Value.int .i64 h0__3), V.p (Value.int .i64 h0__4), V.p (Value.int .i64 h0__5), V.p (Value.int .i64 h0__6), V.p (Value.int .i64 h0__7), V.p (Value.int .i64 h0__8), V.p (Value.int .i64 h0__9), V.sl 1 (rowsOf (encI .u8) h0__10)]), (30001, O.box 25 [V.p (Value.int .i64 h1_), V.p (Value.int .i64 h1__1), V.p (Value.int .u32 h1__2), V.p (Value.int .i64 h1__3), V.p (Value.int .i64 h1__4), V.p (Value.int .i64 h1__5), V.p (Value.int .i64 h1__6), V.p (Value.int .i64 h1__7), V.p (Value.int .i64 h1__8), V.p (Value.int .i64 h1__9), V.sl 1 (rowsOf (encI .u8) h1__10)])] } : St)), LP 17 k (nav B17 [1, 2, 2, 1, 2, 2, 2, 2, 2]) n σ = some r.st := by
  induction n with
  | zero => intro x32 x33 x34 h0_ h0__1 h0__2 h0__3 h0__4 h0__5 h0__6 h0__7 h0__8 h0__9 h0__10 h1_ h1__1 h1__2 h1__3 h1__4 h1__5 h1__6 h1__7 h1__8 h1__9 h1__10 r hF; cases hF
  | succ n ih =>
    intro x32 x33 x34 h0_ h0__1 h0__2 h0__3 h0__4 h0__5 h0__6 h0__7 h0__8 h0__9 h0__10 h1_ h1__1 h1__2 h1__3 h1__4 h1__5 h1__6 h1__7 h1__8 h1__9 h1__10 r hF σ hσ
    rw [f17_ai10rzai10rz_l3] at hF
    obtain ⟨o, h, hF⟩ := Option.bind_eq_some_iff.1 hF
    have hB := f17_ai10rzai10rz_l3_b_ok k x32 x33 x34 h0_ h0__1 h0__2 h0__3 h0__4 h0__5 h0__6 h0__7 h0__8 h0__9 h0__10 h1_ h1__1 h1__2 h1__3 h1__4 h1__5 h1__6 h1__7 h1__8 h1__9 h1__10 o h
    unfold LP at ih ⊢
    unfold EX at hB
    rw [loopK_succ, show firstReg (nav B17 [1, 2, 2, 1, 2, 2, 2, 2, 2]) = 8 from rfl, hσ, headK_some, hB]
    cases o with
    | o0 y => cases hF; rfl
    | o1 y y_1 y_2 y_3 y_4 y_5 y_6 y_7 y_8 y_9 y_10 y_11 y_12 y_13 y_14 y_15 y_16 y_17 y_18 y_19 y_20 y_21 y_22 y_23 y_24 =>
      refine ih y y_1 y_2 y_3 y_4 y_5 y_6 y_7 y_8 y_9 y_10 y_11 y_12 y_13 y_14 y_15 y_16 y_17 y_18 y_19 y_20 y_21 y_22 y_23 y_24 r hF _ ?_
      simp (maxSteps := 999999) (disch := first | exact D (by decide) | exact K (by kernel_rfl)) only [E, EE, ↓reduceIte, simprocAttr, hh_17_8, hc_17_8]
    | o2 y y_1 y_2 y_3 y_4 y_5 y_6 y_7 y_8 y_9 y_10 y_11 y_12 y_13 y_14 y_15 y_16 y_17 y_18 y_19 y_20 y_21 y_22 y_23 y_24 y_25 => cases hF; rfl
noncomputable def f17_ai10rzai10rz_j4 (k : Nat) (x32 : List Int) (x33 x34 : Int) (x35 : Bool) (h0_ h0__1 h0__2 h0__3 h0__4 h0__5 h0__6 h0__7 h0__8 h0__9 : Int) (h0__10 : List Int) (h1_ h1__1 h1__2 h1__3 h1__4 h1__5 h1__6 h1__7 h1__8 h1__9 : Int) (h1__10 : List Int) : Option R17_ai10rzai10rz :=
  some (R17_ai10rzai10rz.o0 true)
theorem f17_ai10rzai10rz_j4_ok (k : Nat) (x32 : List Int) (x33 x34 : Int) (x35 : Bool) (h0_ h0__1 h0__2 h0__3 h0__4 h0__5 h0__6 h0__7 h0__8 h0__9 : Int) (h0__10 : List Int) (h1_ h1__1 h1__2 h1__3 h1__4 h1__5 h1__6 h1__7 h1__8 h1__9 : Int) (h1__10 : List Int) (r : R17_ai10rzai10rz) (hF : f17_ai10rzai10rz_j4 k x32 x33 x34 x35 h0_ h0__1 h0__2 h0__3 h0__4 h0__5 h0__6 h0__7 h0__8 h0__9 h0__10 h1_ h1__1 h1__2 h1__3 h1__4 h1__5 h1__6 h1__7 h1__8 h1__9 h1__10 = some r) : finK Try.prog Try.f17 0 (EX 17 k (nav B17 [2, 2, 2, 2, 2, 2]) ({ n := 65, F := [(2, V.ptr 30000 0), (3, V.ptr 30001 0), (32, V.sl 1 (rowsOf (encI .u8) x32)), (33, V.p (Value.int .i64 x33)), (34, V.p (Value.int .i64 x34)), (35, V.p (Value.bool x35))], M := [(30000, O.box 25 [V.p (Value.int .i64 h0_), V.p (Value.int .i64 h0__1), V.p (Value.int .u32 h0__2), V.p (Value.int .i64 h0__3), V.p (Value.int .i64 h0__4), V.p (Value.int .i64 h0__5), V.p (Value.int .i64 h0__6), V.p (Value.int .i64 h0__7), V.p (Value.int .i64 h0__8), V.p (Value.int .i64 h0__9), V.sl 1 (rowsOf (encI .u8) h0__10)]), (30001, O.box 25 [V.p (Value.int .i64 h1_), V.p (Value.int .i64 h1__1), V.p (Value.int .u32 h1__2), V.p (Value.int .i64 h1__3), V.p (Value.int .i64 h1__4), V.p (Value.int .i64 h1__5), V.p (Value.int .i64 h1__6), V.p (Value.int .i64 h1__7), V.p (Value.int .i64 h1__8), V.p (Value.int .i64 h1__9), V.sl 1 (rowsOf (encI .u8) h1__10)])] } : St)) = some r.st := by
  unfold f17_ai10rzai10rz_j4 at hF
  cases hF
  simp (maxSteps := 999999) (disch := first | exact D (by decide) | exact K (by kernel_rfl)) only [E, EE, ↓reduceIte, simprocAttr, xk B17 [2, 2, 2, 2, 2, 2] .sq rfl, show (nav B17 [1, 2, 2, 2, 2, 2, 2]) = Code.region 14 _ false from rfl, hk_17_14, hz_17_14, hs_17_14, xk B17 [2, 2, 2, 2, 2, 2, 2] .rt rfl, finK_norm, finK_ret, fin17, R17_ai10rzai10rz.st]
noncomputable def f17_ai10rzai10rz_j2 (k : Nat) (x30 : Bool) (m2 m2_1 m2_2 m2_3 m2_4 m2_5 m2_6 m2_7 m2_8 m2_9 : Int) (m2_10 : List Int) (m3 m3_1 m3_2 m3_3 m3_4 m3_5 m3_6 m3_7 m3_8 m3_9 : Int) (m3_10 : List Int) : Option R17_ai10rzai10rz :=
  Option.bind (f17_ai10rzai10rz_l3 k k m2_10 ((List.length m2_10) : Int) 0 m2 m2_1 m2_2 m2_3 m2_4 m2_5 m2_6 m2_7 m2_8 m2_9 m2_10 m3 m3_1 m3_2 m3_3 m3_4 m3_5 m3_6 m3_7 m3_8 m3_9 m3_10) fun o1 =>
    match o1 with
    | .o0 v4 =>
      some (R17_ai10rzai10rz.o0 v4)
    | .o1 _ _ _ _ _ _ _ _ _ _ _ _ _ _ _ _ _ _ _ _ _ _ _ _ _ =>
      none
    | .o2 v5 v6 v7 v8 v9 v10 v11 v12 v13 v14 v15 v16 v17 v18 v19 v20 v21 v22 v23 v24 v25 v26 v27 v28 v29 v30 =>
      f17_ai10rzai10rz_j4 k v5 v6 v7 v8 v9 v10 v11 v12 v13 v14 v15 v16 v17 v18 v19 v20 v21 v22 v23 v24 v25 v26 v27 v28 v29 v30
theorem f17_ai10rzai10rz_j2_ok (k : Nat) (x30 : Bool) (m2 m2_1 m2_2 m2_3 m2_4 m2_5 m2_6 m2_7 m2_8 m2_9 : Int) (m2_10 : List Int) (m3 m3_1 m3_2 m3_3 m3_4 m3_5 m3_6 m3_7 m3_8 m3_9 : Int) (m3_10 : List Int) (r : R17_ai10rzai10rz) (hF : f17_ai10rzai10rz_j2 k x30 m2 m2_1 m2_2 m2_3 m2_4 m2_5 m2_6 m2_7 m2_8 m2_9 m2_10 m3 m3_1 m3_2 m3_3 m3_4 m3_5 m3_6 m3_7 m3_8 m3_9 m3_10 = some r) : finK Try.prog Try.f17 0 (EX 17 k (nav B17 [2, 2, 2, 2, 2]) ({ n := 65, F := [(2, V.ptr 2 0), (3, V.ptr 3 0), (30, V.p (Value.bool x30))], M := [(2, O.box 25 [V.p (Value.int .i64 m2), V.p (Value.int .i64 m2_1), V.p (Value.int .u32 m2_2), V.p (Value.int .i64 m2_3), V.p (Value.int .i64 m2_4), V.p (Value.int .i64 m2_5), V.p (Value.int .i64 m2_6), V.p (Value.int .i64 m2_7), V.p (Value.int .i64 m2_8), V.p (Value.int .i64 m2_9), V.sl 1 (rowsOf (encI .u8) m2_10)]), (3, O.box 25 [V.p (Value.int .i64 m3), V.p (Value.int .i64 m3_1), V.p (Value.int .u32 m3_2), V.p (Value.int .i64 m3_3), V.p (Value.int .i64 m3_4), V.p (Value.int .i64 m3_5), V.p (Value.int .i64 m3_6), V.p (Value.int .i64 m3_7), V.p (Value.int .i64 m3_8), V.p (Value.int .i64 m3_9), V.sl 1 (rowsOf (encI .u8) m3_10)])] } : St)) = some r.st := by
  unfold f17_ai10rzai10rz_j2 at hF
  replace hF := Option.bind_eq_some_iff.1 hF
  obtain ⟨o1, h2, hF⟩ := hF
  have hc3 := f17_ai10rzai10rz_l3_ok k k m2_10 ((List.length m2_10) : Int) 0 m2 m2_1 m2_2 m2_3 m2_4 m2_5 m2_6 m2_7 m2_8 m2_9 m2_10 m3 m3_1 m3_2 m3_3 m3_4 m3_5 m3_6 m3_7 m3_8 m3_9 m3_10 _ h2
  simp (maxSteps := 999999) (disch := first | exact D (by decide) | exact K (by kernel_rfl)) only [E, EE, ↓reduceIte, simprocAttr, xk B17 [2, 2, 2, 2, 2] .sq rfl, xk B17 [1, 2, 2, 2, 2, 2] .sq rfl, show (nav B17 [1, 1, 2, 2, 2, 2, 2]) = Code.region 7 _ false from rfl, hk_17_7, hz_17_7, hs_17_7, fieldAddrV, u_25, i_25, is_25, ib_25, iz_25, u_23, i_23, is_23, ib_23, iz_23, xk B17 [2, 1, 2, 2, 2, 2, 2] (.bk 0) rfl, xk B17 [2, 2, 1, 2, 2, 2, 2, 2] .lp rfl, hh_17_8, hc_17_8]
  (try simp only [NM, EE] at hc3)
  rw [hc3 _ (by simp (maxSteps := 999999) (disch := first | exact D (by decide) | exact K (by kernel_rfl)) only [E, EE, ↓reduceIte, simprocAttr, hh_17_8, hc_17_8])]
  clear hc3
  cases o1 with
  | o0 v4 =>
    (try dsimp only at hF)
    cases hF
    simp (maxSteps := 999999) (disch := first | exact D (by decide) | exact K (by kernel_rfl)) only [E, EE, ↓reduceIte, simprocAttr, R17_ai10rzai10rz_l3.st, finK_norm, finK_ret, fin17, R17_ai10rzai10rz.st]
  | o1 _ _ _ _ _ _ _ _ _ _ _ _ _ _ _ _ _ _ _ _ _ _ _ _ _ =>
    (try dsimp only at hF)
    cases hF
  | o2 v5 v6 v7 v8 v9 v10 v11 v12 v13 v14 v15 v16 v17 v18 v19 v20 v21 v22 v23 v24 v25 v26 v27 v28 v29 v30 =>
    (try dsimp only at hF)
    have hJ := f17_ai10rzai10rz_j4_ok k v5 v6 v7 v8 v9 v10 v11 v12 v13 v14 v15 v16 v17 v18 v19 v20 v21 v22 v23 v24 v25 v26 v27 v28 v29 v30 _ hF
    simp (maxSteps := 999999) (disch := first | exact D (by decide) | exact K (by kernel_rfl)) only [E, EE, ↓reduceIte, simprocAttr, R17_ai10rzai10rz_l3.st]
    try simp only [NM, EE] at hJ
    exact hJ
noncomputable def f17_ai10rzai10rz_j1 (k : Nat) (x16 : Bool) (m2 m2_1 m2_2 m2_3 m2_4 m2_5 m2_6 m2_7 m2_8 m2_9 : Int) (m2_10 : List Int) (m3 m3_1 m3_2 m3_3 m3_4 m3_5 m3_6 m3_7 m3_8 m3_9 : Int) (m3_10 : List Int) : Option R17_ai10rzai10rz :=
  Option.bind (f15_ai10rzai10rz k m2 m2_1 m2_2 m2_3 m2_4 m2_5 m2_6 m2_7 m2_8 m2_9 m2_10 m3 m3_1 m3_2 m3_3 m3_4 m3_5 m2_6 m3_7 m2_8 m3_9 m2_10) fun o1 =>
    match o1 with
    | .o0 v4 =>
      cond ((!v4))
        (some (R17_ai10rzai10rz.o0 false))
        (f17_ai10rzai10rz_j2 k false m2 m2_1 m2_2 m2_3 m2_4 m2_5 m2_6 m2_7 m2_8 m2_9 m2_10 m3 m3_1 m3_2 m3_3 m3_4 m3_5 m3_6 m3_7 m3_8 m3_9 m3_10)
theorem f17_ai10rzai10rz_j1_ok (k : Nat) (x16 : Bool) (m2 m2_1 m2_2 m2_3 m2_4 m2_5 m2_6 m2_7 m2_8 m2_9 : Int) (m2_10 : List Int) (m3 m3_1 m3_2 m3_3 m3_4 m3_5 m3_6 m3_7 m3_8 m3_9 : Int) (m3_10 : List Int) (r : R17_ai10rzai10rz) (hF : f17_ai10rzai10rz_j1 k x16 m2 m2_1 m2_2 m2_3 m2_4 m2_5 m2_6 m2_7 m2_8 m2_9 m2_10 m3 m3_1 m3_2 m3_3 m3_4 m3_5 m3_6 m3_7 m3_8 m3_9 m3_10 = some r) : finK Try.prog Try.f17 0 (EX 17 k (nav B17 [2, 2]) ({ n := 65, F := [(2, V.ptr 2 0), (3, V.ptr 3 0), (16, V.p (Value.bool x16))], M := [(2, O.box 25 [V.p (Value.int .i64 m2), V.p (Value.int .i64 m2_1), V.p (Value.int .u32 m2_2), V.p (Value.int .i64 m2_3), V.p (Value.int .i64 m2_4), V.p (Value.int .i64 m2_5), V.p (Value.int .i64 m2_6), V.p (Value.int .i64 m2_7), V.p (Value.int .i64 m2_8), V.p (Value.int .i64 m2_9), V.sl 1 (rowsOf (encI .u8) m2_10)]), (3, O.box 25 [V.p (Value.int .i64 m3), V.p (Value.int .i64 m3_1), V.p (Value.int .u32 m3_2), V.p (Value.int .i64 m3_3), V.p (Value.int .i64 m3_4), V.p (Value.int .i64 m3_5), V.p (Value.int .i64 m3_6), V.p (Value.int .i64 m3_7), V.p (Value.int .i64 m3_8), V.p (Value.int .i64 m3_9), V.sl 1 (rowsOf (encI .u8) m3_10)])] } : St)) = some r.st := by
  unfold f17_ai10rzai10rz_j1 at hF
  replace hF := Option.bind_eq_some_iff.1 hF
  obtain ⟨o1, h2, hF⟩ := hF
  have hc3 := f15_ai10rzai10rz_ok k m2 m2_1 m2_2 m2_3 m2_4 m2_5 m2_6 m2_7 m2_8 m2_9 m2_10 m3 m3_1 m3_2 m3_3 m3_4 m3_5 m2_6 m3_7 m2_8 m3_9 m2_10 _ h2
  cases o1 with
  | o0 v4 =>
    (try dsimp only at hF)
    (try simp only [NM, EE, R15_ai10rzai10rz.st] at hc3)
    simp (maxSteps := 999999) (disch := first | exact D (by decide) | exact K (by kernel_rfl)) only [E, EE, ↓reduceIte, simprocAttr, xk B17 [2, 2] .sq rfl, show (nav B17 [1, 2, 2]) = Code.region 3 _ false from rfl, hk_17_3, hz_17_3, hs_17_3, u_25, i_25, is_25, ib_25, iz_25, xk B17 [2, 2, 2] .sq rfl, show (nav B17 [1, 2, 2, 2]) = Code.region 4 _ true from rfl, hk_17_4, hz_17_4, hs_17_4, fieldAddrV, u_3, i_3, is_3, ib_3, iz_3, u_23, i_23, is_23, ib_23, iz_23, xk B17 [2, 2, 2, 2] .sq rfl, xk B17 [1, 2, 2, 2, 2] .sq rfl, show (nav B17 [1, 1, 2, 2, 2, 2]) = Code.region 5 _ false from rfl, hk_17_5, hz_17_5, hs_17_5, callStep, CL, gv, List.contains, xk B17 [2, 1, 2, 2, 2, 2] (.cd 30) rfl, hc3]
    replace hF := cond_some hF
    rcases hF with ⟨h5, hF⟩ | ⟨h5, hF⟩
    · cases hF
      simp (maxSteps := 999999) (disch := first | exact D (by decide) | exact K (by kernel_rfl)) only [E, EE, ↓reduceIte, simprocAttr, xk B17 [2, 2, 1, 2, 2, 2, 2] .sq rfl, show (nav B17 [1, 2, 2, 1, 2, 2, 2, 2]) = Code.region 6 _ false from rfl, hk_17_6, hz_17_6, hs_17_6, xk B17 [2, 2, 2, 1, 2, 2, 2, 2] .rt rfl, finK_norm, finK_ret, fin17, R17_ai10rzai10rz.st, hc3, h5]
    · have hJ := f17_ai10rzai10rz_j2_ok k false m2 m2_1 m2_2 m2_3 m2_4 m2_5 m2_6 m2_7 m2_8 m2_9 m2_10 m3 m3_1 m3_2 m3_3 m3_4 m3_5 m3_6 m3_7 m3_8 m3_9 m3_10 _ hF
      simp (maxSteps := 999999) (disch := first | exact D (by decide) | exact K (by kernel_rfl)) only [E, EE, ↓reduceIte, simprocAttr, xk B17 [3, 2, 1, 2, 2, 2, 2] .sk rfl, hc3, h5]
      try simp only [NM, EE] at hJ
      exact hJ
noncomputable def f17_ai10rzai10rz_e (k : Nat) (a0 a0_1 a0_2 a0_3 a0_4 a0_5 a0_6 a0_7 a0_8 a0_9 : Int) (a0_10 : List Int) (a1 a1_1 a1_2 a1_3 a1_4 a1_5 a1_6 a1_7 a1_8 a1_9 : Int) (a1_10 : List Int) : Option R17_ai10rzai10rz :=
  Option.bind (f12_ai10rz k a0 a0_1 a0_2 a0_3 a0_4 a0_5 a0_6 a0_7 a0_8 a0_9 a0_10) fun o1 =>
    match o1 with
    | .o0 v4 =>
      cond ((!v4))
        (some (R17_ai10rzai10rz.o0 false))
        (
          Option.bind (f12_ai10rz k a1 a1_1 a1_2 a1_3 a1_4 a1_5 a1_6 a1_7 a1_8 a1_9 a1_10) fun o6 =>
            match o6 with
            | .o0 v9 =>
              cond ((!v9))
                (some (R17_ai10rzai10rz.o0 false))
                (f17_ai10rzai10rz_j1 k false a0 a0_1 a0_2 a0_3 a0_4 a0_5 a0_6 a0_7 a0_8 a0_9 a0_10 a1 a1_1 a1_2 a1_3 a1_4 a1_5 a1_6 a1_7 a1_8 a1_9 a1_10))
theorem f17_ai10rzai10rz_e_ok (k : Nat) (a0 a0_1 a0_2 a0_3 a0_4 a0_5 a0_6 a0_7 a0_8 a0_9 : Int) (a0_10 : List Int) (a1 a1_1 a1_2 a1_3 a1_4 a1_5 a1_6 a1_7 a1_8 a1_9 : Int) (a1_10 : List Int) (r : R17_ai10rzai10rz) (hF : f17_ai10rzai10rz_e k a0 a0_1 a0_2 a0_3 a0_4 a0_5 a0_6 a0_7 a0_8 a0_9 a0_10 a1 a1_1 a1_2 a1_3 a1_4 a1_5 a1_6 a1_7 a1_8 a1_9 a1_10 = some r) : finK Try.prog Try.f17 0 (EX 17 k (nav B17 []) ({ n := 65, F := [(0, V.agg [V.p (Value.int .i64 a0), V.p (Value.int .i64 a0_1), V.p (Value.int .u32 a0_2), V.p (Value.int .i64 a0_3), V.p (Value.int .i64 a0_4), V.p (Value.int .i64 a0_5), V.p (Value.int .i64 a0_6), V.p (Value.int .i64 a0_7), V.p (Value.int .i64 a0_8), V.p (Value.int .i64 a0_9), V.sl 1 (rowsOf (encI .u8) a0_10)]), (1, V.agg [V.p (Value.int .i64 a1), V.p (Value.int .i64 a1_1), V.p (Value.int .u32 a1_2), V.p (Value.int .i64 a1_3), V.p (Value.int .i64 a1_4), V.p (Value.int .i64 a1_5), V.p (Value.int .i64 a1_6), V.p (Value.int .i64 a1_7), V.p (Value.int .i64 a1_8), V.p (Value.int .i64 a1_9), V.sl 1 (rowsOf (encI .u8) a1_10)])], M := [] } : St)) = some r.st := by
  unfold f17_ai10rzai10rz_e at hF
  replace hF := Option.bind_eq_some_iff.1 hF
  obtain ⟨o1, h2, hF⟩ := hF
  have hc3 := f12_ai10rz_ok k a0 a0_1 a0_2 a0_3 a0_4 a0_5 a0_6 a0_7 a0_8 a0_9 a0_10 _ h2
  cases o1 with
  | o0 v4 =>
    (try dsimp only at hF)
    (try simp only [NM, EE, R12_ai10rz.st] at hc3)
    simp (maxSteps := 999999) (disch := first | exact D (by decide) | exact K (by kernel_rfl)) only [E, EE, ↓reduceIte, simprocAttr, xk B17 [] .sq rfl, show (nav B17 [1]) = Code.region 0 _ false from rfl, hk_17_0, hz_17_0, hs_17_0, xk B17 [2] .sq rfl, xk B17 [1, 2] .sq rfl, show (nav B17 [1, 1, 2]) = Code.region 1 _ false from rfl, hk_17_1, hz_17_1, hs_17_1, u_25, i_25, is_25, ib_25, iz_25, callStep, CL, gv, List.contains, hc3]
    replace hF := cond_some hF
    rcases hF with ⟨h5, hF⟩ | ⟨h5, hF⟩
    · cases hF
      simp (maxSteps := 999999) (disch := first | exact D (by decide) | exact K (by kernel_rfl)) only [E, EE, ↓reduceIte, simprocAttr, xk B17 [2, 1, 2] (.cd 16) rfl, xk B17 [2, 2, 1, 2] .sq rfl, show (nav B17 [1, 2, 2, 1, 2]) = Code.region 2 _ false from rfl, hk_17_2, hz_17_2, hs_17_2, xk B17 [2, 2, 2, 1, 2] .rt rfl, finK_norm, finK_ret, fin17, R17_ai10rzai10rz.st, hc3, h5]
    · replace hF := Option.bind_eq_some_iff.1 hF
      obtain ⟨o6, h7, hF⟩ := hF
      have hc8 := f12_ai10rz_ok k a1 a1_1 a1_2 a1_3 a1_4 a1_5 a1_6 a1_7 a1_8 a1_9 a1_10 _ h7
      cases o6 with
      | o0 v9 =>
        (try dsimp only at hF)
        (try simp only [NM, EE, R12_ai10rz.st] at hc8)
        simp (maxSteps := 999999) (disch := first | exact D (by decide) | exact K (by kernel_rfl)) only [E, EE, ↓reduceIte, simprocAttr, u_25, i_25, is_25, ib_25, iz_25, callStep, CL, gv, List.contains, xk B17 [2, 1, 2] (.cd 16) rfl, hc3, h5, hc8]
        replace hF := cond_some hF
        rcases hF with ⟨h10, hF⟩ | ⟨h10, hF⟩
        · cases hF
          simp (maxSteps := 999999) (disch := first | exact D (by decide) | exact K (by kernel_rfl)) only [E, EE, ↓reduceIte, simprocAttr, xk B17 [2, 2, 1, 2] .sq rfl, show (nav B17 [1, 2, 2, 1, 2]) = Code.region 2 _ false from rfl, hk_17_2, hz_17_2, hs_17_2, xk B17 [2, 2, 2, 1, 2] .rt rfl, finK_norm, finK_ret, fin17, R17_ai10rzai10rz.st, hc3, h5, hc8, h10]
        · have hJ := f17_ai10rzai10rz_j1_ok k false a0 a0_1 a0_2 a0_3 a0_4 a0_5 a0_6 a0_7 a0_8 a0_9 a0_10 a1 a1_1 a1_2 a1_3 a1_4 a1_5 a1_6 a1_7 a1_8 a1_9 a1_10 _ hF
          simp (maxSteps := 999999) (disch := first | exact D (by decide) | exact K (by kernel_rfl)) only [E, EE, ↓reduceIte, simprocAttr, xk B17 [3, 2, 1, 2] .sk rfl, hc3, h5, hc8, h10]
          try simp only [NM, EE] at hJ
          exact hJ
noncomputable def f17_ai10rzai10rz (k : Nat) (a0 a0_1 a0_2 a0_3 a0_4 a0_5 a0_6 a0_7 a0_8 a0_9 : Int) (a0_10 : List Int) (a1 a1_1 a1_2 a1_3 a1_4 a1_5 a1_6 a1_7 a1_8 a1_9 : Int) (a1_10 : List Int) : Option R17_ai10rzai10rz := match k with | 0 => none | k + 1 => f17_ai10rzai10rz_e k a0 a0_1 a0_2 a0_3 a0_4 a0_5 a0_6 a0_7 a0_8 a0_9 a0_10 a1 a1_1 a1_2 a1_3 a1_4 a1_5 a1_6 a1_7 a1_8 a1_9 a1_10
theorem f17_ai10rzai10rz_ok (k : Nat) (a0 a0_1 a0_2 a0_3 a0_4 a0_5 a0_6 a0_7 a0_8 a0_9 : Int) (a0_10 : List Int) (a1 a1_1 a1_2 a1_3 a1_4 a1_5 a1_6 a1_7 a1_8 a1_9 : Int) (a1_10 : List Int) (r : R17_ai10rzai10rz) (hF : f17_ai10rzai10rz k a0 a0_1 a0_2 a0_3 a0_4 a0_5 a0_6 a0_7 a0_8 a0_9 a0_10 a1 a1_1 a1_2 a1_3 a1_4 a1_5 a1_6 a1_7 a1_8 a1_9 a1_10 = some r) : CV k 17 [V.agg [V.p (Value.int .i64 a0), V.p (Value.int .i64 a0_1), V.p (Value.int .u32 a0_2), V.p (Value.int .i64 a0_3), V.p (Value.int .i64 a0_4), V.p (Value.int .i64 a0_5), V.p (Value.int .i64 a0_6), V.p (Value.int .i64 a0_7), V.p (Value.int .i64 a0_8), V.p (Value.int .i64 a0_9), V.sl 1 (rowsOf (encI .u8) a0_10)], V.agg [V.p (Value.int .i64 a1), V.p (Value.int .i64 a1_1), V.p (Value.int .u32 a1_2), V.p (Value.int .i64 a1_3), V.p (Value.int .i64 a1_4), V.p (Value.int .i64 a1_5), V.p (Value.int .i64 a1_6), V.p (Value.int .i64 a1_7), V.p (Value.int .i64 a1_8), V.p (Value.int .i64 a1_9), V.sl 1 (rowsOf (encI .u8) a1_10)]] [] = some r.st := by
  cases k with
  | zero => cases hF
  | succ k =>
    unfold CV
    rw [ev_call (F := Try.f17) (c := (nav B17 [])) rfl Try.func17 rfl rfl rfl rfl]
    exact f17_ai10rzai10rz_e_ok k a0 a0_1 a0_2 a0_3 a0_4 a0_5 a0_6 a0_7 a0_8 a0_9 a0_10 a1 a1_1 a1_2 a1_3 a1_4 a1_5 a1_6 a1_7 a1_8 a1_9 a1_10 r hF
-- f24_r: f24 heliograph/heliographref18.All
inductive R24_r where
  | o0 (y : Bool)
noncomputable def R24_r.st : R24_r → V × List O × List O
  | .o0 y => (V.p (Value.bool y), [], [])
inductive R24_r_l1_l2 where
  | o0 (y : Bool)
  | o1 (y : List T25) (y_1 y_2 y_3 y_4 y_5 : Int)
  | o2 (y : List T25) (y_1 y_2 y_3 y_4 y_5 : Int) (y_6 : Bool)
noncomputable def R24_r_l1_l2.st : R24_r_l1_l2 → Out × St
  | .o0 y => (.ret, ({ n := 30, F := [(2, V.p (Value.bool y))], M := [] } : St))
  | .o1 y y_1 y_2 y_3 y_4 y_5 => (.norm, ({ n := 30, F := [(0, V.sl 11 (rowsOf encT25 y)), (3, V.p (Value.int .i64 y_1)), (6, V.p (Value.int .i64 y_2)), (7, V.p (Value.int .i64 y_3)), (11, V.p (Value.int .i64 y_4)), (12, V.p (Value.int .i64 y_5))], M := [] } : St))
  | .o2 y y_1 y_2 y_3 y_4 y_5 y_6 => (.exit 2, ({ n := 30, F := [(0, V.sl 11 (rowsOf encT25 y)), (3, V.p (Value.int .i64 y_1)), (6, V.p (Value.int .i64 y_2)), (7, V.p (Value.int .i64 y_3)), (11, V.p (Value.int .i64 y_4)), (12, V.p (Value.int .i64 y_5)), (13, V.p (Value.bool y_6))], M := [] } : St))
noncomputable def f24_r_l1_l2_j2 (k : Nat) (x0 : List T25) (x3 x6 x7 x11 x12 : Int) (x24 : Bool) : Option R24_r_l1_l2 :=
  some (R24_r_l1_l2.o1 x0 x3 x6 x7 x11 (IntKind.i64.wrap (x12 + (1 : Int))))
theorem f24_r_l1_l2_j2_ok (k : Nat) (x0 : List T25) (x3 x6 x7 x11 x12 : Int) (x24 : Bool) (r : R24_r_l1_l2) (hF : f24_r_l1_l2_j2 k x0 x3 x6 x7 x11 x12 x24 = some r) : EX 24 k (nav B24 [2, 2, 2, 1, 2, 2, 2, 2, 1, 2, 2, 1, 2, 2, 1, 2]) ({ n := 30, F := [(0, V.sl 11 (rowsOf encT25 x0)), (3, V.p (Value.int .i64 x3)), (6, V.p (Value.int .i64 x6)), (7, V.p (Value.int .i64 x7)), (11, V.p (Value.int .i64 x11)), (12, V.p (Value.int .i64 x12)), (24, V.p (Value.bool x24))], M := [] } : St) = some r.st := by
  unfold f24_r_l1_l2_j2 at hF
  cases hF
  simp (maxSteps := 999999) (disch := first | exact D (by decide) | exact K (by kernel_rfl)) only [E, EE, ↓reduceIte, simprocAttr, show (nav B24 [2, 2, 2, 1, 2, 2, 2, 2, 1, 2, 2, 1, 2, 2, 1, 2]) = Code.region 9 _ false from rfl, hk_24_9, hz_24_9, hs_24_9, R24_r_l1_l2.st]
noncomputable def f24_r_l1_l2_j1 (k : Nat) (x0 : List T25) (x3 x6 x7 x11 x12 : Int) (x13 : Bool) : Option R24_r_l1_l2 :=
  ifE ((0 : Int) ≤ x3) (
    Option.bind (x0[(Int.toNat x3)]?) fun v2 =>
      ifE ((0 : Int) ≤ x12) (
        Option.bind (x0[(Int.toNat x12)]?) fun v5 =>
          Option.bind (f17_ai10rzai10rz k v2.Source v2.Dest v2.Seq v2.Created v2.Lifetime v2.HopLimit v2.Hops v2.Priority v2.Offset v2.Total v2.Payload v5.Source v5.Dest v5.Seq v5.Created v5.Lifetime v5.HopLimit v5.Hops v5.Priority v5.Offset v5.Total v5.Payload) fun o7 =>
            match o7 with
            | .o0 v10 =>
              cond ((!v10))
                (some (R24_r_l1_l2.o0 false))
                (f24_r_l1_l2_j2 k x0 x3 x6 x7 x11 x12 false)))
theorem f24_r_l1_l2_j1_ok (k : Nat) (x0 : List T25) (x3 x6 x7 x11 x12 : Int) (x13 : Bool) (r : R24_r_l1_l2) (hF : f24_r_l1_l2_j1 k x0 x3 x6 x7 x11 x12 x13 = some r) : EX 24 k (nav B24 [2, 2, 1, 2, 2, 2, 2, 1, 2, 2, 1, 2, 2, 1, 2]) ({ n := 30, F := [(0, V.sl 11 (rowsOf encT25 x0)), (3, V.p (Value.int .i64 x3)), (6, V.p (Value.int .i64 x6)), (7, V.p (Value.int .i64 x7)), (11, V.p (Value.int .i64 x11)), (12, V.p (Value.int .i64 x12)), (13, V.p (Value.bool x13))], M := [] } : St) = some r.st := by
  unfold f24_r_l1_l2_j1 at hF
  replace hF := ifE_some.1 hF
  obtain ⟨h1, hF⟩ := hF
  replace hF := Option.bind_eq_some_iff.1 hF
  obtain ⟨v2, h3, hF⟩ := hF
  replace hF := ifE_some.1 hF
  obtain ⟨h4, hF⟩ := hF
  replace hF := Option.bind_eq_some_iff.1 hF
  obtain ⟨v5, h6, hF⟩ := hF
  replace hF := Option.bind_eq_some_iff.1 hF
  obtain ⟨o7, h8, hF⟩ := hF
  have hc9 := f17_ai10rzai10rz_ok k v2.Source v2.Dest v2.Seq v2.Created v2.Lifetime v2.HopLimit v2.Hops v2.Priority v2.Offset v2.Total v2.Payload v5.Source v5.Dest v5.Seq v5.Created v5.Lifetime v5.HopLimit v5.Hops v5.Priority v5.Offset v5.Total v5.Payload _ h8
  cases o7 with
  | o0 v10 =>
    (try dsimp only at hF)
    (try simp only [NM, EE, R17_ai10rzai10rz.st] at hc9)
    simp (maxSteps := 999999) (disch := first | exact D (by decide) | exact K (by kernel_rfl)) only [E, EE, ↓reduceIte, simprocAttr, xk B24 [2, 2, 1, 2, 2, 2, 2, 1, 2, 2, 1, 2, 2, 1, 2] .sq rfl, xk B24 [1, 2, 2, 1, 2, 2, 2, 2, 1, 2, 2, 1, 2, 2, 1, 2] (.bk 3) rfl, xk B24 [2, 1, 2, 2, 1, 2, 2, 2, 2, 1, 2, 2, 1, 2, 2, 1, 2] .sq rfl, show (nav B24 [1, 2, 1, 2, 2, 1, 2, 2, 2, 2, 1, 2, 2, 1, 2, 2, 1, 2]) = Code.region 6 _ false from rfl, hk_24_6, hz_24_6, hs_24_6, xk B24 [2, 2, 1, 2, 2, 1, 2, 2, 2, 2, 1, 2, 2, 1, 2, 2, 1, 2] .sq rfl, show (nav B24 [1, 2, 2, 1, 2, 2, 1, 2, 2, 2, 2, 1, 2, 2, 1, 2, 2, 1, 2]) = Code.region 7 _ true from rfl, hk_24_7, hz_24_7, hs_24_7, indexAddrV, u_28, i_28, is_28, ib_28, iz_28, u_25, i_25, is_25, ib_25, iz_25, encT25_eq, callStep, CL, gv, List.contains, xk B24 [2, 2, 2, 1, 2, 2, 1, 2, 2, 2, 2, 1, 2, 2, 1, 2, 2, 1, 2] (.cd 24) rfl, h1, h3, h4, h6, hc9]
    replace hF := cond_some hF
    rcases hF with ⟨h11, hF⟩ | ⟨h11, hF⟩
    · cases hF
      simp (maxSteps := 999999) (disch := first | exact D (by decide) | exact K (by kernel_rfl)) only [E, EE, ↓reduceIte, simprocAttr, xk B24 [2, 2, 2, 2, 1, 2, 2, 1, 2, 2, 2, 2, 1, 2, 2, 1, 2, 2, 1, 2] .sq rfl, show (nav B24 [1, 2, 2, 2, 2, 1, 2, 2, 1, 2, 2, 2, 2, 1, 2, 2, 1, 2, 2, 1, 2]) = Code.region 8 _ false from rfl, hk_24_8, hz_24_8, hs_24_8, xk B24 [2, 2, 2, 2, 2, 1, 2, 2, 1, 2, 2, 2, 2, 1, 2, 2, 1, 2, 2, 1, 2] .rt rfl, R24_r_l1_l2.st, h1, h3, h4, h6, hc9, h11]
    · have hJ := f24_r_l1_l2_j2_ok k x0 x3 x6 x7 x11 x12 false _ hF
      simp (maxSteps := 999999) (disch := first | exact D (by decide) | exact K (by kernel_rfl)) only [E, EE, ↓reduceIte, simprocAttr, xk B24 [3, 2, 2, 2, 1, 2, 2, 1, 2, 2, 2, 2, 1, 2, 2, 1, 2, 2, 1, 2] .sk rfl, h1, h3, h4, h6, hc9, h11]
      try simp only [NM, EE] at hJ
      exact hJ
noncomputable def f24_r_l1_l2_b (k : Nat) (x0 : List T25) (x3 x6 x7 x11 x12 : Int) : Option R24_r_l1_l2 :=
  cond ((decide (x12 < x11)))
    (f24_r_l1_l2_j1 k x0 x3 x6 x7 x11 x12 true)
    (some (R24_r_l1_l2.o2 x0 x3 x6 x7 x11 x12 false))
theorem f24_r_l1_l2_b_ok (k : Nat) (x0 : List T25) (x3 x6 x7 x11 x12 : Int) (r : R24_r_l1_l2) (hF : f24_r_l1_l2_b k x0 x3 x6 x7 x11 x12 = some r) : EX 24 k (nav B24 [1, 2, 2, 2, 2, 1, 2, 2, 1, 2, 2, 1, 2]) ({ n := 30, F := [(0, V.sl 11 (rowsOf encT25 x0)), (3, V.p (Value.int .i64 x3)), (6, V.p (Value.int .i64 x6)), (7, V.p (Value.int .i64 x7)), (11, V.p (Value.int .i64 x11)), (12, V.p (Value.int .i64 x12))], M := [] } : St) = some r.st := by
  unfold f24_r_l1_l2_b at hF
  simp (maxSteps := 999999) (disch := first | exact D (by decide) | exact K (by kernel_rfl)) only [E, EE, ↓reduceIte, simprocAttr, xk B24 [1, 2, 2, 2, 2, 1, 2, 2, 1, 2, 2, 1, 2] .sq rfl, show (nav B24 [1, 1, 2, 2, 2, 2, 1, 2, 2, 1, 2, 2, 1, 2]) = Code.region 5 _ false from rfl, hk_24_5, hz_24_5, hs_24_5, xk B24 [2, 1, 2, 2, 2, 2, 1, 2, 2, 1, 2, 2, 1, 2] .sq rfl, xk B24 [1, 2, 1, 2, 2, 2, 2, 1, 2, 2, 1, 2, 2, 1, 2] (.cd 13) rfl]
  replace hF := cond_some hF
  rcases hF with ⟨h1, hF⟩ | ⟨h1, hF⟩
  · have hJ := f24_r_l1_l2_j1_ok k x0 x3 x6 x7 x11 x12 true _ hF
    simp (maxSteps := 999999) (disch := first | exact D (by decide) | exact K (by kernel_rfl)) only [E, EE, ↓reduceIte, simprocAttr, xk B24 [2, 1, 2, 1, 2, 2, 2, 2, 1, 2, 2, 1, 2, 2, 1, 2] .sk rfl, h1]
    try simp only [NM, EE] at hJ
    exact hJ
  · cases hF
    simp (maxSteps := 999999) (disch := first | exact D (by decide) | exact K (by kernel_rfl)) only [E, EE, ↓reduceIte, simprocAttr, xk B24 [3, 1, 2, 1, 2, 2, 2, 2, 1, 2, 2, 1, 2, 2, 1, 2] (.ex 2) rfl, R24_r_l1_l2.st, h1]
noncomputable def f24_r_l1_l2 (k : Nat) : Nat → (List T25) → Int → Int → Int → Int → Int → Option R24_r_l1_l2
  | 0, _, _, _, _, _, _ => none
  | n + 1, x0, x3, x6, x7, x11, x12 => Option.bind (f24_r_l1_l2_b k x0 x3 x6 x7 x11 x12) fun o =>
    match o with
    | .o0 y => some (.o0 y)
    | .o1 y y_1 y_2 y_3 y_4 y_5 => f24_r_l1_l2 k n y y_1 y_2 y_3 y_4 y_5
    | .o2 y y_1 y_2 y_3 y_4 y_5 y_6 => some (.o2 y y_1 y_2 y_3 y_4 y_5 y_6)
theorem f24_r_l1_l2_ok (k n : Nat) : ∀ (x0 : List T25) (x3 x6 x7 x11 x12 : Int) (r : R24_r_l1_l2) (hF : f24_r_l1_l2 k n x0 x3 x6 x7 x11 x12 = some r) (σ : St) (hσ : headR (hints.head 24 5) (hints.canon 24 5) σ = some ({ n := 30, F := [(0, V.sl 11 (rowsOf encT25 x0)), (3, V.p (Value.int .i64 x3)), (6, V.p (Value.int .i64 x6)), (7, V.p (Value.int .i64 x7)), (11, V.p (Value.int .i64 x11)), (12, V.p (Value.int .i64 x12))], M := [] } : St)), LP 24 k (nav B24 [1, 2, 2, 2, 2, 1, 2, 2, 1, 2, 2, 1, 2]) n σ = some r.st := by
  induction n with
  | zero => intro x0 x3 x6 x7 x11 x12 r hF; cases hF
  | succ n ih =>
    intro x0 x3 x6 x7 x11 x12 r hF σ hσ
    rw [f24_r_l1_l2] at hF
    obtain ⟨o, h, hF⟩ := Option.bind_eq_some_iff.1 hF
    have hB := f24_r_l1_l2_b_ok k x0 x3 x6 x7 x11 x12 o h
    unfold LP at ih ⊢
    unfold EX at hB
    rw [loopK_succ, show firstReg (nav B24 [1, 2, 2, 2, 2, 1, 2, 2, 1, 2, 2, 1, 2]) = 5 from rfl, hσ, headK_some, hB]
    cases o with
    | o0 y => cases hF; rfl
    | o1 y y_1 y_2 y_3 y_4 y_5 =>
      refine ih y y_1 y_2 y_3 y_4 y_5 r hF _ ?_
      simp (maxSteps := 999999) (disch := first | exact D (by decide) | exact K (by kernel_rfl)) only [E, EE, ↓reduceIte, simprocAttr, hh_24_5, hc_24_5]
    | o2 y y_1 y_2 y_3 y_4 y_5 y_6 => cases hF; rfl
inductive R24_r_l1 where
  | o0 (y : Bool)
  | o1 (y : List T25) (y_1 y_2 : Int)
  | o2 (y : List T25) (y_1 y_2 : Int) (y_3 : Bool)
noncomputable def R24_r_l1.st : R24_r_l1 → Out × St
  | .o0 y => (.ret, ({ n := 30, F := [(2, V.p (Value.bool y))], M := [] } : St))
  | .o1 y y_1 y_2 => (.norm, ({ n := 30, F := [(0, V.sl 11 (rowsOf encT25 y)), (6, V.p (Value.int .i64 y_1)), (7, V.p (Value.int .i64 y_2))], M := [] } : St))
  | .o2 y y_1 y_2 y_3 => (.exit 0, ({ n := 30, F := [(0, V.sl 11 (rowsOf encT25 y)), (6, V.p (Value.int .i64 y_1)), (7, V.p (Value.int .i64 y_2)), (8, V.p (Value.bool y_3))], M := [] } : St))
noncomputable def f24_r_l1_j3 (k : Nat) (x0 : List T25) (x3 x6 x7 x11 x12 : Int) (x13 : Bool) : Option R24_r_l1 :=
  some (R24_r_l1.o1 x0 x6 (IntKind.i64.wrap (x7 + (1 : Int))))
theorem f24_r_l1_j3_ok (k : Nat) (x0 : List T25) (x3 x6 x7 x11 x12 : Int) (x13 : Bool) (r : R24_r_l1) (hF : f24_r_l1_j3 k x0 x3 x6 x7 x11 x12 x13 = some r) : EX 24 k (nav B24 [2, 2, 2, 1, 2, 2, 1, 2]) ({ n := 30, F := [(0, V.sl 11 (rowsOf encT25 x0)), (3, V.p (Value.int .i64 x3)), (6, V.p (Value.int .i64 x6)), (7, V.p (Value.int .i64 x7)), (11, V.p (Value.int .i64 x11)), (12, V.p (Value.int .i64 x12)), (13, V.p (Value.bool x13))], M := [] } : St) = some r.st := by
  unfold f24_r_l1_j3 at hF
  cases hF
  simp (maxSteps := 999999) (disch := first | exact D (by decide) | exact K (by kernel_rfl)) only [E, EE, ↓reduceIte, simprocAttr, show (nav B24 [2, 2, 2, 1, 2, 2, 1, 2]) = Code.region 10 _ false from rfl, hk_24_10, hz_24_10, hs_24_10, R24_r_l1.st]
noncomputable def f24_r_l1_j1 (k : Nat) (x0 : List T25) (x6 x7 : Int) (x8 : Bool) : Option R24_r_l1 :=
  Option.bind (f24_r_l1_l2 k k x0 x7 x6 x7 (IntKind.i64.wrap (x7 + (1 : Int))) 0) fun o1 =>
    match o1 with
    | .o0 v4 =>
      some (R24_r_l1.o0 v4)
    | .o1 _ _ _ _ _ _ =>
      none
    | .o2 v5 v6 v7 v8 v9 v10 v11 =>
      f24_r_l1_j3 k v5 v6 v7 v8 v9 v10 v11
theorem f24_r_l1_j1_ok (k : Nat) (x0 : List T25) (x6 x7 : Int) (x8 : Bool) (r : R24_r_l1) (hF : f24_r_l1_j1 k x0 x6 x7 x8 = some r) : EX 24 k (nav B24 [2, 2, 1, 2, 2, 1, 2]) ({ n := 30, F := [(0, V.sl 11 (rowsOf encT25 x0)), (6, V.p (Value.int .i64 x6)), (7, V.p (Value.int .i64 x7)), (8, V.p (Value.bool x8))], M := [] } : St) = some r.st := by
  unfold f24_r_l1_j1 at hF
  replace hF := Option.bind_eq_some_iff.1 hF
  obtain ⟨o1, h2, hF⟩ := hF
  have hc3 := f24_r_l1_l2_ok k k x0 x7 x6 x7 (IntKind.i64.wrap (x7 + (1 : Int))) 0 _ h2
  simp (maxSteps := 999999) (disch := first | exact D (by decide) | exact K (by kernel_rfl)) only [E, EE, ↓reduceIte, simprocAttr, xk B24 [2, 2, 1, 2, 2, 1, 2] .sq rfl, xk B24 [1, 2, 2, 1, 2, 2, 1, 2] (.bk 1) rfl, xk B24 [2, 1, 2, 2, 1, 2, 2, 1, 2] .sq rfl, show (nav B24 [1, 2, 1, 2, 2, 1, 2, 2, 1, 2]) = Code.region 3 _ false from rfl, hk_24_3, hz_24_3, hs_24_3, xk B24 [2, 2, 1, 2, 2, 1, 2, 2, 1, 2] .sq rfl, show (nav B24 [1, 2, 2, 1, 2, 2, 1, 2, 2, 1, 2]) = Code.region 4 _ false from rfl, hk_24_4, hz_24_4, hs_24_4, xk B24 [2, 2, 2, 1, 2, 2, 1, 2, 2, 1, 2] (.bk 2) rfl, xk B24 [2, 2, 2, 2, 1, 2, 2, 1, 2, 2, 1, 2] .lp rfl, hh_24_5, hc_24_5]
  (try simp only [NM, EE] at hc3)
  rw [hc3 _ (by simp (maxSteps := 999999) (disch := first | exact D (by decide) | exact K (by kernel_rfl)) only [E, EE, ↓reduceIte, simprocAttr, hh_24_5, hc_24_5])]
  clear hc3
  cases o1 with
  | o0 v4 =>
    (try dsimp only at hF)
    cases hF
    simp (maxSteps := 999999) (disch := first | exact D (by decide) | exact K (by kernel_rfl)) only [E, EE, ↓reduceIte, simprocAttr, R24_r_l1_l2.st, R24_r_l1.st]
  | o1 _ _ _ _ _ _ =>
    (try dsimp only at hF)
    cases hF
  | o2 v5 v6 v7 v8 v9 v10 v11 =>
    (try dsimp only at hF)
    have hJ := f24_r_l1_j3_ok k v5 v6 v7 v8 v9 v10 v11 _ hF
    simp (maxSteps := 999999) (disch := first | exact D (by decide) | exact K (by kernel_rfl)) only [E, EE, ↓reduceIte, simprocAttr, R24_r_l1_l2.st]
    try simp only [NM, EE] at hJ
    exact hJ
noncomputable def f24_r_l1_b (k : Nat) (x0 : List T25) (x6 x7 : Int) : Option R24_r_l1 :=
  cond ((decide (x7 < x6)))
    (f24_r_l1_j1 k x0 x6 x7 true)
    (some (R24_r_l1.o2 x0 x6 x7 false))
theorem f24_r_l1_b_ok (k : Nat) (x0 : List T25) (x6 x7 : Int) (r : R24_r_l1) (hF : f24_r_l1_b k x0 x6 x7 = some r) : EX 24 k (nav B24 [1, 2, 2, 1, 2]) ({ n := 30, F := [(0, V.sl 11 (rowsOf encT25 x0)), (6, V.p (Value.int .i64 x6)), (7, V.p (Value.int .i64 x7))], M := [] } : St) = some r.st := by
  unfold f24_r_l1_b at hF
  simp (maxSteps := 999999) (disch := first | exact D (by decide) | exact K (by kernel_rfl)) only [E, EE, ↓reduceIte, simprocAttr, xk B24 [1, 2, 2, 1, 2] .sq rfl, show (nav B24 [1, 1, 2, 2, 1, 2]) = Code.region 2 _ false from rfl, hk_24_2, hz_24_2, hs_24_2, xk B24 [2, 1, 2, 2, 1, 2] .sq rfl, xk B24 [1, 2, 1, 2, 2, 1, 2] (.cd 8) rfl]
  replace hF := cond_some hF
  rcases hF with ⟨h1, hF⟩ | ⟨h1, hF⟩
  · have hJ := f24_r_l1_j1_ok k x0 x6 x7 true _ hF
    simp (maxSteps := 999999) (disch := first | exact D (by decide) | exact K (by kernel_rfl)) only [E, EE, ↓reduceIte, simprocAttr, xk B24 [2, 1, 2, 1, 2, 2, 1, 2] .sk rfl, h1]
    try simp only [NM, EE] at hJ
    exact hJ
  · cases hF
    simp (maxSteps := 999999) (disch := first | exact D (by decide) | exact K (by kernel_rfl)) only [E, EE, ↓reduceIte, simprocAttr, xk B24 [3, 1, 2, 1, 2, 2, 1, 2] (.ex 0) rfl, R24_r_l1.st, h1]
noncomputable def f24_r_l1 (k : Nat) : Nat → (List T25) → Int → Int → Option R24_r_l1
  | 0, _, _, _ => none
  | n + 1, x0, x6, x7 => Option.bind (f24_r_l1_b k x0 x6 x7) fun o =>
    match o with
    | .o0 y => some (.o0 y)
    | .o1 y y_1 y_2 => f24_r_l1 k n y y_1 y_2
    | .o2 y y_1 y_2 y_3 => some (.o2 y y_1 y_2 y_3)
theorem f24_r_l1_ok (k n : Nat) : ∀ (x0 : List T25) (x6 x7 : Int) (r : R24_r_l1) (hF : f24_r_l1 k n x0 x6 x7 = some r) (σ : St) (hσ : headR (hints.head 24 2) (hints.canon 24 2) σ = some ({ n := 30, F := [(0, V.sl 11 (rowsOf encT25 x0)), (6, V.p (Value.int .i64 x6)), (7, V.p (Value.int .i64 x7))], M := [] } : St)), LP 24 k (nav B24 [1, 2, 2, 1, 2]) n σ = some r.st := by
  induction n with
  | zero => intro x0 x6 x7 r hF; cases hF
  | succ n ih =>
    intro x0 x6 x7 r hF σ hσ
    rw [f24_r_l1] at hF
    obtain ⟨o, h, hF⟩ := Option.bind_eq_some_iff.1 hF
    have hB := f24_r_l1_b_ok k x0 x6 x7 o h
    unfold LP at ih ⊢
    unfold EX at hB
    rw [loopK_succ, show firstReg (nav B24 [1, 2, 2, 1, 2]) = 2 from rfl, hσ, headK_some, hB]
    cases o with
    | o0 y => cases hF; rfl
    | o1 y y_1 y_2 =>
      refine ih y y_1 y_2 r hF _ ?_
      simp (maxSteps := 999999) (disch := first | exact D (by decide) | exact K (by kernel_rfl)) only [E, EE, ↓reduceIte, simprocAttr, hh_24_2, hc_24_2]
    | o2 y y_1 y_2 y_3 => cases hF; rfl
noncomputable def f24_r_j2 (k : Nat) (x0 : List T25) (x6 x7 : Int) (x8 : Bool) : Option R24_r :=
  some (R24_r.o0 (decide (((List.length x0) : Int) > 0)))
theorem f24_r_j2_ok (k : Nat) (x0 : List T25) (x6 x7 : Int) (x8 : Bool) (r : R24_r) (hF : f24_r_j2 k x0 x6 x7 x8 = some r) : finK Try.prog Try.f24 0 (EX 24 k (nav B24 [2, 2]) ({ n := 30, F := [(0, V.sl 11 (rowsOf encT25 x0)), (6, V.p (Value.int .i64 x6)), (7, V.p (Value.int .i64 x7)), (8, V.p (Value.bool x8))], M := [] } : St)) = some r.st := by
  unfold f24_r_j2 at hF
  cases hF
  simp (maxSteps := 999999) (disch := first | exact D (by decide) | exact K (by kernel_rfl)) only [E, EE, ↓reduceIte, simprocAttr, xk B24 [2, 2] .sq rfl, show (nav B24 [1, 2, 2]) = Code.region 11 _ false from rfl, hk_24_11, hz_24_11, hs_24_11, u_28, i_28, is_28, ib_28, iz_28, xk B24 [2, 2, 2] .rt rfl, finK_norm, finK_ret, fin24, R24_r.st]
noncomputable def f24_r_e (k : Nat) (a0 : List T25) : Option R24_r :=
  Option.bind (f24_r_l1 k k a0 ((List.length a0) : Int) 0) fun o1 =>
    match o1 with
    | .o0 v4 =>
      some (R24_r.o0 v4)
    | .o1 _ _ _ =>
      none
    | .o2 v5 v6 v7 v8 =>
      f24_r_j2 k v5 v6 v7 v8
theorem f24_r_e_ok (k : Nat) (a0 : List T25) (r : R24_r) (hF : f24_r_e k a0 = some r) : finK Try.prog Try.f24 0 (EX 24 k (nav B24 []) ({ n := 30, F := [(0, V.sl 11 (rowsOf encT25 a0))], M := [] } : St)) = some r.st := by
  unfold f24_r_e at hF
  replace hF := Option.bind_eq_some_iff.1 hF
  obtain ⟨o1, h2, hF⟩ := hF
  have hc3 := f24_r_l1_ok k k a0 ((List.length a0) : Int) 0 _ h2
  simp (maxSteps := 999999) (disch := first | exact D (by decide) | exact K (by kernel_rfl)) only [E, EE, ↓reduceIte, simprocAttr, xk B24 [] .sq rfl, show (nav B24 [1]) = Code.region 0 _ false from rfl, hk_24_0, hz_24_0, hs_24_0, xk B24 [2] .sq rfl, xk B24 [1, 2] .sq rfl, show (nav B24 [1, 1, 2]) = Code.region 1 _ false from rfl, hk_24_1, hz_24_1, hs_24_1, u_28, i_28, is_28, ib_28, iz_28, xk B24 [2, 1, 2] (.bk 0) rfl, xk B24 [2, 2, 1, 2] .lp rfl, hh_24_2, hc_24_2]
  (try simp only [NM, EE] at hc3)
  rw [hc3 _ (by simp (maxSteps := 999999) (disch := first | exact D (by decide) | exact K (by kernel_rfl)) only [E, EE, ↓reduceIte, simprocAttr, hh_24_2, hc_24_2])]
  clear hc3
  cases o1 with
  | o0 v4 =>
    (try dsimp only at hF)
    cases hF
    simp (maxSteps := 999999) (disch := first | exact D (by decide) | exact K (by kernel_rfl)) only [E, EE, ↓reduceIte, simprocAttr, R24_r_l1.st, finK_norm, finK_ret, fin24, R24_r.st]
  | o1 _ _ _ =>
    (try dsimp only at hF)
    cases hF
  | o2 v5 v6 v7 v8 =>
    (try dsimp only at hF)
    have hJ := f24_r_j2_ok k v5 v6 v7 v8 _ hF
    simp (maxSteps := 999999) (disch := first | exact D (by decide) | exact K (by kernel_rfl)) only [E, EE, ↓reduceIte, simprocAttr, R24_r_l1.st]
    try simp only [NM, EE] at hJ
    exact hJ
noncomputable def f24_r (k : Nat) (a0 : List T25) : Option R24_r := match k with | 0 => none | k + 1 => f24_r_e k a0
theorem f24_r_ok (k : Nat) (a0 : List T25) (r : R24_r) (hF : f24_r k a0 = some r) : CV k 24 [V.sl 11 (rowsOf encT25 a0)] [] = some r.st := by
  cases k with
  | zero => cases hF
  | succ k =>
    unfold CV
    rw [ev_call (F := Try.f24) (c := (nav B24 [])) rfl Try.func24 rfl rfl rfl rfl]
    exact f24_r_e_ok k a0 r hF
end Go.Proofs.YteggcokgkcfliaaV
