/- What the program's functions answer: plain functions, and that the interpreter answers what they do. Written by a program of this session, out of the translation. -/
import Derived.Test.YtbnnmplkbpgcaaaDoorVP5
namespace Go.Proofs.YtbnnmplkbpgcaaaDoorV
open Go
set_option linter.unusedVariables false
set_option linter.unusedSimpArgs false
set_option maxRecDepth 8000
set_option maxHeartbeats 4000000
-- f4_ai10rzi: f4 heliograph/heliographlaw09.BundleHops
inductive R4_ai10rzi where
  | o0 (y : Bool)
noncomputable def R4_ai10rzi.st : R4_ai10rzi → V × List O × List O
  | .o0 y => (V.p (Value.bool y), [], [])
inductive R4_ai10rzi_l4 where
  | o0 (y : Int) (y_1 y_2 : List Int) (y_3 y_4 y_5 y_6 y_7 y_8 y_9 y_10 y_11 y_12 y_13 y_14 y_15 : Int) (y_16 : List Int)
  | o1 (y : Int) (y_1 y_2 : List Int) (y_3 y_4 y_5 : Int) (y_6 : Bool) (y_7 y_8 y_9 y_10 y_11 y_12 y_13 y_14 y_15 y_16 : Int) (y_17 : List Int)
noncomputable def R4_ai10rzi_l4.st : R4_ai10rzi_l4 → Out × St
  | .o0 y y_1 y_2 y_3 y_4 y_5 y_6 y_7 y_8 y_9 y_10 y_11 y_12 y_13 y_14 y_15 y_16 => (.norm, ({ n := 79, F := [(1, V.p (Value.int .i64 y)), (2, V.ptr 30000 0), (6, V.sl 1 (rowsOf (encI .u8) y_1)), (8, V.sl 1 (rowsOf (encI .u8) y_2)), (10, V.p (Value.int .i64 y_3)), (39, V.p (Value.int .i64 y_4)), (40, V.p (Value.int .i64 y_5))], M := [(30000, O.box 26 [V.p (Value.int .i64 y_6), V.p (Value.int .i64 y_7), V.p (Value.int .u32 y_8), V.p (Value.int .i64 y_9), V.p (Value.int .i64 y_10), V.p (Value.int .i64 y_11), V.p (Value.int .i64 y_12), V.p (Value.int .i64 y_13), V.p (Value.int .i64 y_14), V.p (Value.int .i64 y_15), V.sl 1 (rowsOf (encI .u8) y_16)])] } : St))
  | .o1 y y_1 y_2 y_3 y_4 y_5 y_6 y_7 y_8 y_9 y_10 y_11 y_12 y_13 y_14 y_15 y_16 y_17 => (.exit 0, ({ n := 79, F := [(1, V.p (Value.int .i64 y)), (2, V.ptr 30000 0), (6, V.sl 1 (rowsOf (encI .u8) y_1)), (8, V.sl 1 (rowsOf (encI .u8) y_2)), (10, V.p (Value.int .i64 y_3)), (39, V.p (Value.int .i64 y_4)), (40, V.p (Value.int .i64 y_5)), (41, V.p (Value.bool y_6))], M := [(30000, O.box 26 [V.p (Value.int .i64 y_7), V.p (Value.int .i64 y_8), V.p (Value.int .u32 y_9), V.p (Value.int .i64 y_10), V.p (Value.int .i64 y_11), V.p (Value.int .i64 y_12), V.p (Value.int .i64 y_13), V.p (Value.int .i64 y_14), V.p (Value.int .i64 y_15), V.p (Value.int .i64 y_16), V.sl 1 (rowsOf (encI .u8) y_17)])] } : St))
noncomputable def f4_ai10rzi_l4_j2 (k : Nat) (x1 : Int) (x6 x8 : List Int) (x10 x39 x40 h0_ h0__1 h0__2 h0__3 h0__4 h0__5 h0__6 h0__7 h0__8 h0__9 : Int) (h0__10 : List Int) : Option R4_ai10rzi_l4 :=
  some (R4_ai10rzi_l4.o0 x1 x6 x8 x10 x39 (IntKind.i64.wrap (x40 + (1 : Int))) h0_ h0__1 h0__2 h0__3 h0__4 h0__5 h0__6 h0__7 h0__8 h0__9 h0__10)
theorem f4_ai10rzi_l4_j2_ok (k : Nat) (x1 : Int) (x6 x8 : List Int) (x10 x39 x40 h0_ h0__1 h0__2 h0__3 h0__4 h0__5 h0__6 h0__7 h0__8 h0__9 : Int) (h0__10 : List Int) (r : R4_ai10rzi_l4) (hF : f4_ai10rzi_l4_j2 k x1 x6 x8 x10 x39 x40 h0_ h0__1 h0__2 h0__3 h0__4 h0__5 h0__6 h0__7 h0__8 h0__9 h0__10 = some r) : EX 4 k (nav B4 [2, 2, 2, 1, 2, 2, 1, 2, 2, 2, 2, 2, 2, 2, 2, 2]) ({ n := 79, F := [(1, V.p (Value.int .i64 x1)), (2, V.ptr 30000 0), (6, V.sl 1 (rowsOf (encI .u8) x6)), (8, V.sl 1 (rowsOf (encI .u8) x8)), (10, V.p (Value.int .i64 x10)), (39, V.p (Value.int .i64 x39)), (40, V.p (Value.int .i64 x40))], M := [(30000, O.box 26 [V.p (Value.int .i64 h0_), V.p (Value.int .i64 h0__1), V.p (Value.int .u32 h0__2), V.p (Value.int .i64 h0__3), V.p (Value.int .i64 h0__4), V.p (Value.int .i64 h0__5), V.p (Value.int .i64 h0__6), V.p (Value.int .i64 h0__7), V.p (Value.int .i64 h0__8), V.p (Value.int .i64 h0__9), V.sl 1 (rowsOf (encI .u8) h0__10)])] } : St) = some r.st := by
  unfold f4_ai10rzi_l4_j2 at hF
  cases hF
  simp (maxSteps := 999999) (disch := first | exact D (by decide) | exact K (by kernel_rfl)) only [E, EE, ↓reduceIte, simprocAttr, show (nav B4 [2, 2, 2, 1, 2, 2, 1, 2, 2, 2, 2, 2, 2, 2, 2, 2]) = Code.region 17 _ false from rfl, hk_4_17, hz_4_17, hs_4_17, R4_ai10rzi_l4.st]
noncomputable def f4_ai10rzi_l4_j3 (k : Nat) (x1 : Int) (x6 x8 : List Int) (x10 x39 x40 : Int) (x57 : Bool) (h0_ h0__1 h0__2 h0__3 h0__4 h0__5 h0__6 h0__7 h0__8 h0__9 : Int) (h0__10 : List Int) : Option R4_ai10rzi_l4 :=
  some (R4_ai10rzi_l4.o0 x1 x6 x8 x10 x39 (IntKind.i64.wrap (x40 + (1 : Int))) h0_ h0__1 h0__2 h0__3 h0__4 h0__5 h0__6 h0__7 h0__8 h0__9 h0__10)
theorem f4_ai10rzi_l4_j3_ok (k : Nat) (x1 : Int) (x6 x8 : List Int) (x10 x39 x40 : Int) (x57 : Bool) (h0_ h0__1 h0__2 h0__3 h0__4 h0__5 h0__6 h0__7 h0__8 h0__9 : Int) (h0__10 : List Int) (r : R4_ai10rzi_l4) (hF : f4_ai10rzi_l4_j3 k x1 x6 x8 x10 x39 x40 x57 h0_ h0__1 h0__2 h0__3 h0__4 h0__5 h0__6 h0__7 h0__8 h0__9 h0__10 = some r) : EX 4 k (nav B4 [2, 2, 2, 1, 2, 2, 1, 2, 2, 2, 2, 2, 2, 2, 2, 2]) ({ n := 79, F := [(1, V.p (Value.int .i64 x1)), (2, V.ptr 30000 0), (6, V.sl 1 (rowsOf (encI .u8) x6)), (8, V.sl 1 (rowsOf (encI .u8) x8)), (10, V.p (Value.int .i64 x10)), (39, V.p (Value.int .i64 x39)), (40, V.p (Value.int .i64 x40)), (57, V.p (Value.bool x57))], M := [(30000, O.box 26 [V.p (Value.int .i64 h0_), V.p (Value.int .i64 h0__1), V.p (Value.int .u32 h0__2), V.p (Value.int .i64 h0__3), V.p (Value.int .i64 h0__4), V.p (Value.int .i64 h0__5), V.p (Value.int .i64 h0__6), V.p (Value.int .i64 h0__7), V.p (Value.int .i64 h0__8), V.p (Value.int .i64 h0__9), V.sl 1 (rowsOf (encI .u8) h0__10)])] } : St) = some r.st := by
  unfold f4_ai10rzi_l4_j3 at hF
  cases hF
  simp (maxSteps := 999999) (disch := first | exact D (by decide) | exact K (by kernel_rfl)) only [E, EE, ↓reduceIte, simprocAttr, show (nav B4 [2, 2, 2, 1, 2, 2, 1, 2, 2, 2, 2, 2, 2, 2, 2, 2]) = Code.region 17 _ false from rfl, hk_4_17, hz_4_17, hs_4_17, R4_ai10rzi_l4.st]
noncomputable def f4_ai10rzi_l4_j1 (k : Nat) (x1 : Int) (x6 x8 : List Int) (x10 x39 x40 : Int) (x41 : Bool) (h0_ h0__1 h0__2 h0__3 h0__4 h0__5 h0__6 h0__7 h0__8 h0__9 : Int) (h0__10 : List Int) : Option R4_ai10rzi_l4 :=
  cond ((decide (x40 ≥ ((List.length x8) : Int))))
    (f4_ai10rzi_l4_j2 k x1 x6 x8 (IntKind.i64.wrap (x10 + (1 : Int))) x39 x40 h0_ h0__1 h0__2 h0__3 h0__4 h0__5 h0__6 h0__7 h0__8 h0__9 h0__10)
    (
      ifE ((0 : Int) ≤ x40) (
        Option.bind (x6[(Int.toNat x40)]?) fun v3 =>
          Option.bind (x8[(Int.toNat x40)]?) fun v5 =>
            cond ((v3 != v5))
              (f4_ai10rzi_l4_j2 k x1 x6 x8 (IntKind.i64.wrap (x10 + (1 : Int))) x39 x40 h0_ h0__1 h0__2 h0__3 h0__4 h0__5 h0__6 h0__7 h0__8 h0__9 h0__10)
              (f4_ai10rzi_l4_j3 k x1 x6 x8 x10 x39 x40 false h0_ h0__1 h0__2 h0__3 h0__4 h0__5 h0__6 h0__7 h0__8 h0__9 h0__10)))
theorem f4_ai10rzi_l4_j1_ok (k : Nat) (x1 : Int) (x6 x8 : List Int) (x10 x39 x40 : Int) (x41 : Bool) (h0_ h0__1 h0__2 h0__3 h0__4 h0__5 h0__6 h0__7 h0__8 h0__9 : Int) (h0__10 : List Int) (r : R4_ai10rzi_l4) (hF : f4_ai10rzi_l4_j1 k x1 x6 x8 x10 x39 x40 x41 h0_ h0__1 h0__2 h0__3 h0__4 h0__5 h0__6 h0__7 h0__8 h0__9 h0__10 = some r) : EX 4 k (nav B4 [2, 2, 1, 2, 2, 1, 2, 2, 2, 2, 2, 2, 2, 2, 2]) ({ n := 79, F := [(1, V.p (Value.int .i64 x1)), (2, V.ptr 30000 0), (6, V.sl 1 (rowsOf (encI .u8) x6)), (8, V.sl 1 (rowsOf (encI .u8) x8)), (10, V.p (Value.int .i64 x10)), (39, V.p (Value.int .i64 x39)), (40, V.p (Value.int .i64 x40)), (41, V.p (Value.bool x41))], M := [(30000, O.box 26 [V.p (Value.int .i64 h0_), V.p (Value.int .i64 h0__1), V.p (Value.int .u32 h0__2), V.p (Value.int .i64 h0__3), V.p (Value.int .i64 h0__4), V.p (Value.int .i64 h0__5), V.p (Value.int .i64 h0__6), V.p (Value.int .i64 h0__7), V.p (Value.int .i64 h0__8), V.p (Value.int .i64 h0__9), V.sl 1 (rowsOf (encI .u8) h0__10)])] } : St) = some r.st := by
  unfold f4_ai10rzi_l4_j1 at hF
  simp (maxSteps := 999999) (disch := first | exact D (by decide) | exact K (by kernel_rfl)) only [E, EE, ↓reduceIte, simprocAttr, xk B4 [2, 2, 1, 2, 2, 1, 2, 2, 2, 2, 2, 2, 2, 2, 2] .sq rfl, xk B4 [1, 2, 2, 1, 2, 2, 1, 2, 2, 2, 2, 2, 2, 2, 2, 2] (.bk 1) rfl, xk B4 [2, 1, 2, 2, 1, 2, 2, 1, 2, 2, 2, 2, 2, 2, 2, 2, 2] .sq rfl, show (nav B4 [1, 2, 1, 2, 2, 1, 2, 2, 1, 2, 2, 2, 2, 2, 2, 2, 2, 2]) = Code.region 14 _ false from rfl, hk_4_14, hz_4_14, hs_4_14, xk B4 [2, 2, 1, 2, 2, 1, 2, 2, 1, 2, 2, 2, 2, 2, 2, 2, 2, 2] .sq rfl, show (nav B4 [1, 2, 2, 1, 2, 2, 1, 2, 2, 1, 2, 2, 2, 2, 2, 2, 2, 2, 2]) = Code.region 15 _ true from rfl, hk_4_15, hz_4_15, hs_4_15, u_22, i_22, is_22, ib_22, iz_22]
  replace hF := cond_some hF
  rcases hF with ⟨h1, hF⟩ | ⟨h1, hF⟩
  · have hJ := f4_ai10rzi_l4_j2_ok k x1 x6 x8 (IntKind.i64.wrap (x10 + (1 : Int))) x39 x40 h0_ h0__1 h0__2 h0__3 h0__4 h0__5 h0__6 h0__7 h0__8 h0__9 h0__10 _ hF
    simp (maxSteps := 999999) (disch := first | exact D (by decide) | exact K (by kernel_rfl)) only [E, EE, ↓reduceIte, simprocAttr, xk B4 [2, 2, 2, 1, 2, 2, 1, 2, 2, 1, 2, 2, 2, 2, 2, 2, 2, 2, 2] (.cd 57) rfl, show (nav B4 [2, 2, 2, 2, 1, 2, 2, 1, 2, 2, 1, 2, 2, 2, 2, 2, 2, 2, 2, 2]) = Code.region 16 _ false from rfl, hk_4_16, hz_4_16, hs_4_16, h1]
    try simp only [NM, EE] at hJ
    exact hJ
  · replace hF := ifE_some.1 hF
    obtain ⟨h2, hF⟩ := hF
    replace hF := Option.bind_eq_some_iff.1 hF
    obtain ⟨v3, h4, hF⟩ := hF
    replace hF := Option.bind_eq_some_iff.1 hF
    obtain ⟨v5, h6, hF⟩ := hF
    simp (maxSteps := 999999) (disch := first | exact D (by decide) | exact K (by kernel_rfl)) only [E, EE, ↓reduceIte, simprocAttr, indexAddrV, u_22, i_22, is_22, ib_22, iz_22, u_5, i_5, is_5, ib_5, iz_5, encI_eq, xk B4 [2, 2, 2, 1, 2, 2, 1, 2, 2, 1, 2, 2, 2, 2, 2, 2, 2, 2, 2] (.cd 57) rfl, h1, h2, h4, h6]
    replace hF := cond_some hF
    rcases hF with ⟨h7, hF⟩ | ⟨h7, hF⟩
    · have hJ := f4_ai10rzi_l4_j2_ok k x1 x6 x8 (IntKind.i64.wrap (x10 + (1 : Int))) x39 x40 h0_ h0__1 h0__2 h0__3 h0__4 h0__5 h0__6 h0__7 h0__8 h0__9 h0__10 _ hF
      simp (maxSteps := 999999) (disch := first | exact D (by decide) | exact K (by kernel_rfl)) only [E, EE, ↓reduceIte, simprocAttr, show (nav B4 [2, 2, 2, 2, 1, 2, 2, 1, 2, 2, 1, 2, 2, 2, 2, 2, 2, 2, 2, 2]) = Code.region 16 _ false from rfl, hk_4_16, hz_4_16, hs_4_16, h1, h2, h4, h6, h7]
      try simp only [NM, EE] at hJ
      exact hJ
    · have hJ := f4_ai10rzi_l4_j3_ok k x1 x6 x8 x10 x39 x40 false h0_ h0__1 h0__2 h0__3 h0__4 h0__5 h0__6 h0__7 h0__8 h0__9 h0__10 _ hF
      simp (maxSteps := 999999) (disch := first | exact D (by decide) | exact K (by kernel_rfl)) only [E, EE, ↓reduceIte, simprocAttr, xk B4 [3, 2, 2, 2, 1, 2, 2, 1, 2, 2, 1, 2, 2, 2, 2, 2, 2, 2, 2, 2] .sk rfl, h1, h2, h4, h6, h7]
      try simp only [NM, EE] at hJ
      exact hJ
noncomputable def f4_ai10rzi_l4_b (k : Nat) (x1 : Int) (x6 x8 : List Int) (x10 x39 x40 h0_ h0__1 h0__2 h0__3 h0__4 h0__5 h0__6 h0__7 h0__8 h0__9 : Int) (h0__10 : List Int) : Option R4_ai10rzi_l4 :=
  cond ((decide (x40 < x39)))
    (f4_ai10rzi_l4_j1 k x1 x6 x8 x10 x39 x40 true h0_ h0__1 h0__2 h0__3 h0__4 h0__5 h0__6 h0__7 h0__8 h0__9 h0__10)
    (some (R4_ai10rzi_l4.o1 x1 x6 x8 x10 x39 x40 false h0_ h0__1 h0__2 h0__3 h0__4 h0__5 h0__6 h0__7 h0__8 h0__9 h0__10))
theorem f4_ai10rzi_l4_b_ok (k : Nat) (x1 : Int) (x6 x8 : List Int) (x10 x39 x40 h0_ h0__1 h0__2 h0__3 h0__4 h0__5 h0__6 h0__7 h0__8 h0__9 : Int) (h0__10 : List Int) (r : R4_ai10rzi_l4) (hF : f4_ai10rzi_l4_b k x1 x6 x8 x10 x39 x40 h0_ h0__1 h0__2 h0__3 h0__4 h0__5 h0__6 h0__7 h0__8 h0__9 h0__10 = some r) : EX 4 k (nav B4 [1, 2, 2, 1, 2, 2, 2, 2, 2, 2, 2, 2, 2]) ({ n := 79, F := [(1, V.p (Value.int .i64 x1)), (2, V.ptr 30000 0), (6, V.sl 1 (rowsOf (encI .u8) x6)), (8, V.sl 1 (rowsOf (encI .u8) x8)), (10, V.p (Value.int .i64 x10)), (39, V.p (Value.int .i64 x39)), (40, V.p (Value.int .i64 x40))], M := [(30000, O.box 26 [V.p (Value.int .i64 h0_), V.p (Value.int .i64 h0__1), V.p (Value.int .u32 h0__2), V.p (Value.int .i64 h0__3), V.p (Value.int .i64 h0__4), V.p (Value.int .i64 h0__5), V.p (Value.int .i64 h0__6), V.p (Value.int .i64 h0__7), V.p (Value.int .i64 h0__8), V.p (Value.int .i64 h0__9), V.sl 1 (rowsOf (encI .u8) h0__10)])] } : St) = some r.st := by
  unfold f4_ai10rzi_l4_b at hF
  simp (maxSteps := 999999) (disch := first | exact D (by decide) | exact K (by kernel_rfl)) only [E, EE, ↓reduceIte, simprocAttr, xk B4 [1, 2, 2, 1, 2, 2, 2, 2, 2, 2, 2, 2, 2] .sq rfl, show (nav B4 [1, 1, 2, 2, 1, 2, 2, 2, 2, 2, 2, 2, 2, 2]) = Code.region 13 _ false from rfl, hk_4_13, hz_4_13, hs_4_13, xk B4 [2, 1, 2, 2, 1, 2, 2, 2, 2, 2, 2, 2, 2, 2] .sq rfl, xk B4 [1, 2, 1, 2, 2, 1, 2, 2, 2, 2, 2, 2, 2, 2, 2] (.cd 41) rfl]
  replace hF := cond_some hF
  rcases hF with ⟨h1, hF⟩ | ⟨h1, hF⟩
  · have hJ := f4_ai10rzi_l4_j1_ok k x1 x6 x8 x10 x39 x40 true h0_ h0__1 h0__2 h0__3 h0__4 h0__5 h0__6 h0__7 h0__8 h0__9 h0__10 _ hF
    simp (maxSteps := 999999) (disch := first | exact D (by decide) | exact K (by kernel_rfl)) only [E, EE, ↓reduceIte, simprocAttr, xk B4 [2, 1, 2, 1, 2, 2, 1, 2, 2, 2, 2, 2, 2, 2, 2, 2] .sk rfl, h1]
    try simp only [NM, EE] at hJ
    exact hJ
  · cases hF
    simp (maxSteps := 999999) (disch := first | exact D (by decide) | exact K (by kernel_rfl)) only [E, EE, ↓reduceIte, simprocAttr, xk B4 [3, 1, 2, 1, 2, 2, 1, 2, 2, 2, 2, 2, 2, 2, 2, 2] (.ex 0) rfl, R4_ai10rzi_l4.st, h1]
noncomputable def f4_ai10rzi_l4 (k : Nat) : Nat → Int → (List Int) → (List Int) → Int → Int → Int → Int → Int → Int → Int → Int → Int → Int → Int → Int → Int → (List Int) → Option R4_ai10rzi_l4
  | 0, _, _, _, _, _, _, _, _, _, _, _, _, _, _, _, _, _ => none
  | n + 1, x1, x6, x8, x10, x39, x40, h0_, h0__1, h0__2, h0__3, h0__4, h0__5, h0__6, h0__7, h0__8, h0__9, h0__10 => Option.bind (f4_ai10rzi_l4_b k x1 x6 x8 x10 x39 x40 h0_ h0__1 h0__2 h0__3 h0__4 h0__5 h0__6 h0__7 h0__8 h0__9 h0__10) fun o =>
    match o with
    | .o0 y y_1 y_2 y_3 y_4 y_5 y_6 y_7 y_8 y_9 y_10 y_11 y_12 y_13 y_14 y_15 y_16 => f4_ai10rzi_l4 k n y y_1 y_2 y_3 y_4 y_5 y_6 y_7 y_8 y_9 y_10 y_11 y_12 y_13 y_14 y_15 y_16
    | .o1 y y_1 y_2 y_3 y_4 y_5 y_6 y_7 y_8 y_9 y_10 y_11 y_12 y_13 y_14 y_15 y_16 y_17 => some (.o1 y y_1 y_2 y_3 y_4 y_5 y_6 y_7 y_8 y_9 y_10 y_11 y_12 y_13 y_14 y_15 y_16 y_17)
theorem f4_ai10rzi_l4_ok (k n : Nat) : ∀ (x1 : Int) (x6 x8 : List Int) (x10 x39 x40 h0_ h0__1 h0__2 h0__3 h0__4 h0__5 h0__6 h0__7 h0__8 h0__9 : Int) (h0__10 : List Int) (r : R4_ai10rzi_l4) (hF : f4_ai10rzi_l4 k n x1 x6 x8 x10 x39 x40 h0_ h0__1 h0__2 h0__3 h0__4 h0__5 h0__6 h0__7 h0__8 h0__9 h0__10 = some r) (σ : St) (hσ : headR (hints.head 4 13) (hints.canon 4 13) σ = some ({ n := 79, F := [(1, V.p (Value.int .i64 x1)), (2, V.ptr 30000 0), (6, V.sl 1 (rowsOf (encI .u8) x6)), (8, V.sl 1 (rowsOf (encI .u8) x8)), (10, V.p (Value.int .i64 x10)), (39, V.p (Value.int .i64 x39)), (40, V.p (Value.int .i64 x40))], M := [(30000, O.box 26 [V.p (Value.int .i64 h0_), V.p (Value.int .i64 h0__1), V.p (Value.int .u32 h0__2), V.p (Value.int .i64 h0__3), V.p (Value.int .i64 h0__4), V.p (Value.int .i64 h0__5), V.p (Value.int .i64 h0__6), V.p (Value.int .i64 h0__7), V.p (Value.int .i64 h0__8), V.p (Value.int .i64 h0__9), V.sl 1 (rowsOf (encI .u8) h0__10)])] } : St)), LP 4 k (nav B4 [1, 2, 2, 1, 2, 2, 2, 2, 2, 2, 2, 2, 2]) n σ = some r.st := by
  induction n with
  | zero => intro x1 x6 x8 x10 x39 x40 h0_ h0__1 h0__2 h0__3 h0__4 h0__5 h0__6 h0__7 h0__8 h0__9 h0__10 r hF; cases hF
  | succ n ih =>
    intro x1 x6 x8 x10 x39 x40 h0_ h0__1 h0__2 h0__3 h0__4 h0__5 h0__6 h0__7 h0__8 h0__9 h0__10 r hF σ hσ
    rw [f4_ai10rzi_l4] at hF
    obtain ⟨o, h, hF⟩ := Option.bind_eq_some_iff.1 hF
    have hB := f4_ai10rzi_l4_b_ok k x1 x6 x8 x10 x39 x40 h0_ h0__1 h0__2 h0__3 h0__4 h0__5 h0__6 h0__7 h0__8 h0__9 h0__10 o h
    unfold LP at ih ⊢
    unfold EX at hB
    rw [loopK_succ, show firstReg (nav B4 [1, 2, 2, 1, 2, 2, 2, 2, 2, 2, 2, 2, 2]) = 13 from rfl, hσ, headK_some, hB]
    cases o with
    | o0 y y_1 y_2 y_3 y_4 y_5 y_6 y_7 y_8 y_9 y_10 y_11 y_12 y_13 y_14 y_15 y_16 =>
      refine ih y y_1 y_2 y_3 y_4 y_5 y_6 y_7 y_8 y_9 y_10 y_11 y_12 y_13 y_14 y_15 y_16 r hF _ ?_
      simp (maxSteps := 999999) (disch := first | exact D (by decide) | exact K (by kernel_rfl)) only [E, EE, ↓reduceIte, simprocAttr, hh_4_13, hc_4_13]
    | o1 y y_1 y_2 y_3 y_4 y_5 y_6 y_7 y_8 y_9 y_10 y_11 y_12 y_13 y_14 y_15 y_16 y_17 => cases hF; rfl
noncomputable def f4_ai10rzi_j5 (k : Nat) (x1 : Int) (x6 x8 : List Int) (x10 x39 x40 : Int) (x41 : Bool) (h0_ h0__1 h0__2 h0__3 h0__4 h0__5 h0__6 h0__7 h0__8 h0__9 : Int) (h0__10 : List Int) : Option R4_ai10rzi :=
  cond ((((List.length x6) : Int) == ((List.length x8) : Int)))
    (
      cond (((x10 == 0) == (h0__6 == x1)))
        (some (R4_ai10rzi.o0 (decide (x10 ≤ 1))))
        (some (R4_ai10rzi.o0 false)))
    (some (R4_ai10rzi.o0 false))
theorem f4_ai10rzi_j5_ok (k : Nat) (x1 : Int) (x6 x8 : List Int) (x10 x39 x40 : Int) (x41 : Bool) (h0_ h0__1 h0__2 h0__3 h0__4 h0__5 h0__6 h0__7 h0__8 h0__9 : Int) (h0__10 : List Int) (r : R4_ai10rzi) (hF : f4_ai10rzi_j5 k x1 x6 x8 x10 x39 x40 x41 h0_ h0__1 h0__2 h0__3 h0__4 h0__5 h0__6 h0__7 h0__8 h0__9 h0__10 = some r) : finK Tryd.prog Tryd.f4 0 (EX 4 k (nav B4 [2, 2, 2, 2, 2, 2, 2, 2, 2, 2]) ({ n := 79, F := [(1, V.p (Value.int .i64 x1)), (2, V.ptr 30000 0), (6, V.sl 1 (rowsOf (encI .u8) x6)), (8, V.sl 1 (rowsOf (encI .u8) x8)), (10, V.p (Value.int .i64 x10)), (39, V.p (Value.int .i64 x39)), (40, V.p (Value.int .i64 x40)), (41, V.p (Value.bool x41))], M := [(30000, O.box 26 [V.p (Value.int .i64 h0_), V.p (Value.int .i64 h0__1), V.p (Value.int .u32 h0__2), V.p (Value.int .i64 h0__3), V.p (Value.int .i64 h0__4), V.p (Value.int .i64 h0__5), V.p (Value.int .i64 h0__6), V.p (Value.int .i64 h0__7), V.p (Value.int .i64 h0__8), V.p (Value.int .i64 h0__9), V.sl 1 (rowsOf (encI .u8) h0__10)])] } : St)) = some r.st := by
  unfold f4_ai10rzi_j5 at hF
  simp (maxSteps := 999999) (disch := first | exact D (by decide) | exact K (by kernel_rfl)) only [E, EE, ↓reduceIte, simprocAttr, xk B4 [2, 2, 2, 2, 2, 2, 2, 2, 2, 2] .sq rfl, show (nav B4 [1, 2, 2, 2, 2, 2, 2, 2, 2, 2, 2]) = Code.region 18 _ false from rfl, hk_4_18, hz_4_18, hs_4_18, u_22, i_22, is_22, ib_22, iz_22]
  replace hF := cond_some hF
  rcases hF with ⟨h1, hF⟩ | ⟨h1, hF⟩
  · simp (maxSteps := 999999) (disch := first | exact D (by decide) | exact K (by kernel_rfl)) only [E, EE, ↓reduceIte, simprocAttr, fieldAddrV, u_26, i_26, is_26, ib_26, iz_26, u_3, i_3, is_3, ib_3, iz_3, u_4, i_4, is_4, ib_4, iz_4, h1]
    replace hF := cond_some hF
    rcases hF with ⟨h2, hF⟩ | ⟨h2, hF⟩
    · cases hF
      simp (maxSteps := 999999) (disch := first | exact D (by decide) | exact K (by kernel_rfl)) only [E, EE, ↓reduceIte, simprocAttr, xk B4 [2, 2, 2, 2, 2, 2, 2, 2, 2, 2, 2] .rt rfl, finK_norm, finK_ret, fin4, R4_ai10rzi.st, h1, h2]
    · cases hF
      simp (maxSteps := 999999) (disch := first | exact D (by decide) | exact K (by kernel_rfl)) only [E, EE, ↓reduceIte, simprocAttr, xk B4 [2, 2, 2, 2, 2, 2, 2, 2, 2, 2, 2] .rt rfl, finK_norm, finK_ret, fin4, R4_ai10rzi.st, h1, h2]
  · cases hF
    simp (maxSteps := 999999) (disch := first | exact D (by decide) | exact K (by kernel_rfl)) only [E, EE, ↓reduceIte, simprocAttr, xk B4 [2, 2, 2, 2, 2, 2, 2, 2, 2, 2, 2] .rt rfl, finK_norm, finK_ret, fin4, R4_ai10rzi.st, h1]
noncomputable def f4_ai10rzi_j3 (k : Nat) (x1 : Int) (x6 x8 : List Int) (x37 : Bool) (m2 m2_1 m2_2 m2_3 m2_4 m2_5 m2_6 m2_7 m2_8 m2_9 : Int) (m2_10 : List Int) : Option R4_ai10rzi :=
  Option.bind (f4_ai10rzi_l4 k k x1 x6 x8 0 ((List.length x6) : Int) 0 m2 m2_1 m2_2 m2_3 m2_4 m2_5 m2_6 m2_7 m2_8 m2_9 m2_10) fun o1 =>
    match o1 with
    | .o0 _ _ _ _ _ _ _ _ _ _ _ _ _ _ _ _ _ =>
      none
    | .o1 v4 v5 v6 v7 v8 v9 v10 v11 v12 v13 v14 v15 v16 v17 v18 v19 v20 v21 =>
      f4_ai10rzi_j5 k v4 v5 v6 v7 v8 v9 v10 v11 v12 v13 v14 v15 v16 v17 v18 v19 v20 v21
theorem f4_ai10rzi_j3_ok (k : Nat) (x1 : Int) (x6 x8 : List Int) (x37 : Bool) (m2 m2_1 m2_2 m2_3 m2_4 m2_5 m2_6 m2_7 m2_8 m2_9 : Int) (m2_10 : List Int) (r : R4_ai10rzi) (hF : f4_ai10rzi_j3 k x1 x6 x8 x37 m2 m2_1 m2_2 m2_3 m2_4 m2_5 m2_6 m2_7 m2_8 m2_9 m2_10 = some r) : finK Tryd.prog Tryd.f4 0 (EX 4 k (nav B4 [2, 2, 2, 2, 2, 2, 2, 2]) ({ n := 79, F := [(1, V.p (Value.int .i64 x1)), (2, V.ptr 2 0), (6, V.sl 1 (rowsOf (encI .u8) x6)), (8, V.sl 1 (rowsOf (encI .u8) x8)), (37, V.p (Value.bool x37))], M := [(2, O.box 26 [V.p (Value.int .i64 m2), V.p (Value.int .i64 m2_1), V.p (Value.int .u32 m2_2), V.p (Value.int .i64 m2_3), V.p (Value.int .i64 m2_4), V.p (Value.int .i64 m2_5), V.p (Value.int .i64 m2_6), V.p (Value.int .i64 m2_7), V.p (Value.int .i64 m2_8), V.p (Value.int .i64 m2_9), V.sl 1 (rowsOf (encI .u8) m2_10)])] } : St)) = some r.st := by
  unfold f4_ai10rzi_j3 at hF
  replace hF := Option.bind_eq_some_iff.1 hF
  obtain ⟨o1, h2, hF⟩ := hF
  have hc3 := f4_ai10rzi_l4_ok k k x1 x6 x8 0 ((List.length x6) : Int) 0 m2 m2_1 m2_2 m2_3 m2_4 m2_5 m2_6 m2_7 m2_8 m2_9 m2_10 _ h2
  simp (maxSteps := 999999) (disch := first | exact D (by decide) | exact K (by kernel_rfl)) only [E, EE, ↓reduceIte, simprocAttr, xk B4 [2, 2, 2, 2, 2, 2, 2, 2] .sq rfl, show (nav B4 [1, 2, 2, 2, 2, 2, 2, 2, 2]) = Code.region 11 _ false from rfl, hk_4_11, hz_4_11, hs_4_11, xk B4 [2, 2, 2, 2, 2, 2, 2, 2, 2] .sq rfl, xk B4 [1, 2, 2, 2, 2, 2, 2, 2, 2, 2] .sq rfl, show (nav B4 [1, 1, 2, 2, 2, 2, 2, 2, 2, 2, 2]) = Code.region 12 _ false from rfl, hk_4_12, hz_4_12, hs_4_12, u_22, i_22, is_22, ib_22, iz_22, xk B4 [2, 1, 2, 2, 2, 2, 2, 2, 2, 2, 2] (.bk 0) rfl, xk B4 [2, 2, 1, 2, 2, 2, 2, 2, 2, 2, 2, 2] .lp rfl, hh_4_13, hc_4_13]
  (try simp only [NM, EE] at hc3)
  rw [hc3 _ (by simp (maxSteps := 999999) (disch := first | exact D (by decide) | exact K (by kernel_rfl)) only [E, EE, ↓reduceIte, simprocAttr, hh_4_13, hc_4_13])]
  clear hc3
  cases o1 with
  | o0 _ _ _ _ _ _ _ _ _ _ _ _ _ _ _ _ _ =>
    (try dsimp only at hF)
    cases hF
  | o1 v4 v5 v6 v7 v8 v9 v10 v11 v12 v13 v14 v15 v16 v17 v18 v19 v20 v21 =>
    (try dsimp only at hF)
    have hJ := f4_ai10rzi_j5_ok k v4 v5 v6 v7 v8 v9 v10 v11 v12 v13 v14 v15 v16 v17 v18 v19 v20 v21 _ hF
    simp (maxSteps := 999999) (disch := first | exact D (by decide) | exact K (by kernel_rfl)) only [E, EE, ↓reduceIte, simprocAttr, R4_ai10rzi_l4.st]
    try simp only [NM, EE] at hJ
    exact hJ
inductive R4_ai10rzi_l7 where
  | o0 (y : Int) (y_1 : List Int) (y_2 y_3 y_4 y_5 y_6 y_7 y_8 y_9 y_10 y_11 y_12 y_13 y_14 : Int) (y_15 y_16 : List Int)
  | o1 (y : Int) (y_1 : List Int) (y_2 y_3 y_4 : Int) (y_5 : Bool) (y_6 y_7 y_8 y_9 y_10 y_11 y_12 y_13 y_14 y_15 : Int) (y_16 y_17 : List Int)
noncomputable def R4_ai10rzi_l7.st : R4_ai10rzi_l7 → Out × St
  | .o0 y y_1 y_2 y_3 y_4 y_5 y_6 y_7 y_8 y_9 y_10 y_11 y_12 y_13 y_14 y_15 y_16 => (.norm, ({ n := 79, F := [(1, V.p (Value.int .i64 y)), (2, V.ptr 30000 0), (6, V.sl 1 (rowsOf (encI .u8) y_1)), (8, V.own 30001), (10, V.p (Value.int .i64 y_2)), (39, V.p (Value.int .i64 y_3)), (40, V.p (Value.int .i64 y_4))], M := [(30000, O.box 26 [V.p (Value.int .i64 y_5), V.p (Value.int .i64 y_6), V.p (Value.int .u32 y_7), V.p (Value.int .i64 y_8), V.p (Value.int .i64 y_9), V.p (Value.int .i64 y_10), V.p (Value.int .i64 y_11), V.p (Value.int .i64 y_12), V.p (Value.int .i64 y_13), V.p (Value.int .i64 y_14), V.sl 1 (rowsOf (encI .u8) y_15)]), (30001, O.row true 1 5 (rowsOf (encI .u8) y_16))] } : St))
  | .o1 y y_1 y_2 y_3 y_4 y_5 y_6 y_7 y_8 y_9 y_10 y_11 y_12 y_13 y_14 y_15 y_16 y_17 => (.exit 0, ({ n := 79, F := [(1, V.p (Value.int .i64 y)), (2, V.ptr 30000 0), (6, V.sl 1 (rowsOf (encI .u8) y_1)), (8, V.own 30001), (10, V.p (Value.int .i64 y_2)), (39, V.p (Value.int .i64 y_3)), (40, V.p (Value.int .i64 y_4)), (41, V.p (Value.bool y_5))], M := [(30000, O.box 26 [V.p (Value.int .i64 y_6), V.p (Value.int .i64 y_7), V.p (Value.int .u32 y_8), V.p (Value.int .i64 y_9), V.p (Value.int .i64 y_10), V.p (Value.int .i64 y_11), V.p (Value.int .i64 y_12), V.p (Value.int .i64 y_13), V.p (Value.int .i64 y_14), V.p (Value.int .i64 y_15), V.sl 1 (rowsOf (encI .u8) y_16)]), (30001, O.row true 1 5 (rowsOf (encI .u8) y_17))] } : St))
noncomputable def f4_ai10rzi_l7_j2 (k : Nat) (x1 : Int) (x6 : List Int) (x10 x39 x40 h0_ h0__1 h0__2 h0__3 h0__4 h0__5 h0__6 h0__7 h0__8 h0__9 : Int) (h0__10 h1_ : List Int) : Option R4_ai10rzi_l7 :=
  some (R4_ai10rzi_l7.o0 x1 x6 x10 x39 (IntKind.i64.wrap (x40 + (1 : Int))) h0_ h0__1 h0__2 h0__3 h0__4 h0__5 h0__6 h0__7 h0__8 h0__9 h0__10 h1_)
theorem f4_ai10rzi_l7_j2_ok (k : Nat) (x1 : Int) (x6 : List Int) (x10 x39 x40 h0_ h0__1 h0__2 h0__3 h0__4 h0__5 h0__6 h0__7 h0__8 h0__9 : Int) (h0__10 h1_ : List Int) (r : R4_ai10rzi_l7) (hF : f4_ai10rzi_l7_j2 k x1 x6 x10 x39 x40 h0_ h0__1 h0__2 h0__3 h0__4 h0__5 h0__6 h0__7 h0__8 h0__9 h0__10 h1_ = some r) : EX 4 k (nav B4 [2, 2, 2, 1, 2, 2, 1, 2, 2, 2, 2, 2, 2, 2, 2, 2]) ({ n := 79, F := [(1, V.p (Value.int .i64 x1)), (2, V.ptr 30000 0), (6, V.sl 1 (rowsOf (encI .u8) x6)), (8, V.own 30001), (10, V.p (Value.int .i64 x10)), (39, V.p (Value.int .i64 x39)), (40, V.p (Value.int .i64 x40))], M := [(30000, O.box 26 [V.p (Value.int .i64 h0_), V.p (Value.int .i64 h0__1), V.p (Value.int .u32 h0__2), V.p (Value.int .i64 h0__3), V.p (Value.int .i64 h0__4), V.p (Value.int .i64 h0__5), V.p (Value.int .i64 h0__6), V.p (Value.int .i64 h0__7), V.p (Value.int .i64 h0__8), V.p (Value.int .i64 h0__9), V.sl 1 (rowsOf (encI .u8) h0__10)]), (30001, O.row true 1 5 (rowsOf (encI .u8) h1_))] } : St) = some r.st := by
  unfold f4_ai10rzi_l7_j2 at hF
  cases hF
  simp (maxSteps := 999999) (disch := first | exact D (by decide) | exact K (by kernel_rfl)) only [E, EE, ↓reduceIte, simprocAttr, show (nav B4 [2, 2, 2, 1, 2, 2, 1, 2, 2, 2, 2, 2, 2, 2, 2, 2]) = Code.region 17 _ false from rfl, hk_4_17, hz_4_17, hs_4_17, R4_ai10rzi_l7.st]
noncomputable def f4_ai10rzi_l7_j3 (k : Nat) (x1 : Int) (x6 : List Int) (x10 x39 x40 : Int) (x57 : Bool) (h0_ h0__1 h0__2 h0__3 h0__4 h0__5 h0__6 h0__7 h0__8 h0__9 : Int) (h0__10 h1_ : List Int) : Option R4_ai10rzi_l7 :=
  some (R4_ai10rzi_l7.o0 x1 x6 x10 x39 (IntKind.i64.wrap (x40 + (1 : Int))) h0_ h0__1 h0__2 h0__3 h0__4 h0__5 h0__6 h0__7 h0__8 h0__9 h0__10 h1_)
theorem f4_ai10rzi_l7_j3_ok (k : Nat) (x1 : Int) (x6 : List Int) (x10 x39 x40 : Int) (x57 : Bool) (h0_ h0__1 h0__2 h0__3 h0__4 h0__5 h0__6 h0__7 h0__8 h0__9 : Int) (h0__10 h1_ : List Int) (r : R4_ai10rzi_l7) (hF : f4_ai10rzi_l7_j3 k x1 x6 x10 x39 x40 x57 h0_ h0__1 h0__2 h0__3 h0__4 h0__5 h0__6 h0__7 h0__8 h0__9 h0__10 h1_ = some r) : EX 4 k (nav B4 [2, 2, 2, 1, 2, 2, 1, 2, 2, 2, 2, 2, 2, 2, 2, 2]) ({ n := 79, F := [(1, V.p (Value.int .i64 x1)), (2, V.ptr 30000 0), (6, V.sl 1 (rowsOf (encI .u8) x6)), (8, V.own 30001), (10, V.p (Value.int .i64 x10)), (39, V.p (Value.int .i64 x39)), (40, V.p (Value.int .i64 x40)), (57, V.p (Value.bool x57))], M := [(30000, O.box 26 [V.p (Value.int .i64 h0_), V.p (Value.int .i64 h0__1), V.p (Value.int .u32 h0__2), V.p (Value.int .i64 h0__3), V.p (Value.int .i64 h0__4), V.p (Value.int .i64 h0__5), V.p (Value.int .i64 h0__6), V.p (Value.int .i64 h0__7), V.p (Value.int .i64 h0__8), V.p (Value.int .i64 h0__9), V.sl 1 (rowsOf (encI .u8) h0__10)]), (30001, O.row true 1 5 (rowsOf (encI .u8) h1_))] } : St) = some r.st := by
  unfold f4_ai10rzi_l7_j3 at hF
  cases hF
  simp (maxSteps := 999999) (disch := first | exact D (by decide) | exact K (by kernel_rfl)) only [E, EE, ↓reduceIte, simprocAttr, show (nav B4 [2, 2, 2, 1, 2, 2, 1, 2, 2, 2, 2, 2, 2, 2, 2, 2]) = Code.region 17 _ false from rfl, hk_4_17, hz_4_17, hs_4_17, R4_ai10rzi_l7.st]
noncomputable def f4_ai10rzi_l7_j1 (k : Nat) (x1 : Int) (x6 : List Int) (x10 x39 x40 : Int) (x41 : Bool) (h0_ h0__1 h0__2 h0__3 h0__4 h0__5 h0__6 h0__7 h0__8 h0__9 : Int) (h0__10 h1_ : List Int) : Option R4_ai10rzi_l7 :=
  cond ((decide (x40 ≥ ((List.length h1_) : Int))))
    (f4_ai10rzi_l7_j2 k x1 x6 (IntKind.i64.wrap (x10 + (1 : Int))) x39 x40 h0_ h0__1 h0__2 h0__3 h0__4 h0__5 h0__6 h0__7 h0__8 h0__9 h0__10 h1_)
    (
      ifE ((0 : Int) ≤ x40) (
        Option.bind (x6[(Int.toNat x40)]?) fun v3 =>
          ifE (x40 < ((List.length h1_) : Int)) (
            Option.bind (h1_[(Int.toNat x40)]?) fun v6 =>
              cond ((v3 != v6))
                (f4_ai10rzi_l7_j2 k x1 x6 (IntKind.i64.wrap (x10 + (1 : Int))) x39 x40 h0_ h0__1 h0__2 h0__3 h0__4 h0__5 h0__6 h0__7 h0__8 h0__9 h0__10 h1_)
                (f4_ai10rzi_l7_j3 k x1 x6 x10 x39 x40 false h0_ h0__1 h0__2 h0__3 h0__4 h0__5 h0__6 h0__7 h0__8 h0__9 h0__10 h1_))))
theorem f4_ai10rzi_l7_j1_ok (k : Nat) (x1 : Int) (x6 : List Int) (x10 x39 x40 : Int) (x41 : Bool) (h0_ h0__1 h0__2 h0__3 h0__4 h0__5 h0__6 h0__7 h0__8 h0__9 : Int) (h0__10 h1_ : List Int) (r : R4_ai10rzi_l7) (hF : f4_ai10rzi_l7_j1 k x1 x6 x10 x39 x40 x41 h0_ h0__1 h0__2 h0__3 h0__4 h0__5 h0__6 h0__7 h0__8 h0__9 h0__10 h1_ = some r) : EX 4 k (nav B4 [2, 2, 1, 2, 2, 1, 2, 2, 2, 2, 2, 2, 2, 2, 2]) ({ n := 79, F := [(1, V.p (Value.int .i64 x1)), (2, V.ptr 30000 0), (6, V.sl 1 (rowsOf (encI .u8) x6)), (8, V.own 30001), (10, V.p (Value.int .i64 x10)), (39, V.p (Value.int .i64 x39)), (40, V.p (Value.int .i64 x40)), (41, V.p (Value.bool x41))], M := [(30000, O.box 26 [V.p (Value.int .i64 h0_), V.p (Value.int .i64 h0__1), V.p (Value.int .u32 h0__2), V.p (Value.int .i64 h0__3), V.p (Value.int .i64 h0__4), V.p (Value.int .i64 h0__5), V.p (Value.int .i64 h0__6), V.p (Value.int .i64 h0__7), V.p (Value.int .i64 h0__8), V.p (Value.int .i64 h0__9), V.sl 1 (rowsOf (encI .u8) h0__10)]), (30001, O.row true 1 5 (rowsOf (encI .u8) h1_))] } : St) = some r.st := by
  unfold f4_ai10rzi_l7_j1 at hF
  simp (maxSteps := 999999) (disch := first | exact D (by decide) | exact K (by kernel_rfl)) only [E, EE, ↓reduceIte, simprocAttr, xk B4 [2, 2, 1, 2, 2, 1, 2, 2, 2, 2, 2, 2, 2, 2, 2] .sq rfl, xk B4 [1, 2, 2, 1, 2, 2, 1, 2, 2, 2, 2, 2, 2, 2, 2, 2] (.bk 1) rfl, xk B4 [2, 1, 2, 2, 1, 2, 2, 1, 2, 2, 2, 2, 2, 2, 2, 2, 2] .sq rfl, show (nav B4 [1, 2, 1, 2, 2, 1, 2, 2, 1, 2, 2, 2, 2, 2, 2, 2, 2, 2]) = Code.region 14 _ false from rfl, hk_4_14, hz_4_14, hs_4_14, xk B4 [2, 2, 1, 2, 2, 1, 2, 2, 1, 2, 2, 2, 2, 2, 2, 2, 2, 2] .sq rfl, show (nav B4 [1, 2, 2, 1, 2, 2, 1, 2, 2, 1, 2, 2, 2, 2, 2, 2, 2, 2, 2]) = Code.region 15 _ true from rfl, hk_4_15, hz_4_15, hs_4_15, u_22, i_22, is_22, ib_22, iz_22]
  replace hF := cond_some hF
  rcases hF with ⟨h1, hF⟩ | ⟨h1, hF⟩
  · have hJ := f4_ai10rzi_l7_j2_ok k x1 x6 (IntKind.i64.wrap (x10 + (1 : Int))) x39 x40 h0_ h0__1 h0__2 h0__3 h0__4 h0__5 h0__6 h0__7 h0__8 h0__9 h0__10 h1_ _ hF
    simp (maxSteps := 999999) (disch := first | exact D (by decide) | exact K (by kernel_rfl)) only [E, EE, ↓reduceIte, simprocAttr, xk B4 [2, 2, 2, 1, 2, 2, 1, 2, 2, 1, 2, 2, 2, 2, 2, 2, 2, 2, 2] (.cd 57) rfl, show (nav B4 [2, 2, 2, 2, 1, 2, 2, 1, 2, 2, 1, 2, 2, 2, 2, 2, 2, 2, 2, 2]) = Code.region 16 _ false from rfl, hk_4_16, hz_4_16, hs_4_16, h1]
    try simp only [NM, EE] at hJ
    exact hJ
  · replace hF := ifE_some.1 hF
    obtain ⟨h2, hF⟩ := hF
    replace hF := Option.bind_eq_some_iff.1 hF
    obtain ⟨v3, h4, hF⟩ := hF
    replace hF := ifE_some.1 hF
    obtain ⟨h5, hF⟩ := hF
    replace hF := Option.bind_eq_some_iff.1 hF
    obtain ⟨v6, h7, hF⟩ := hF
    simp (maxSteps := 999999) (disch := first | exact D (by decide) | exact K (by kernel_rfl)) only [E, EE, ↓reduceIte, simprocAttr, indexAddrV, u_22, i_22, is_22, ib_22, iz_22, u_5, i_5, is_5, ib_5, iz_5, encI_eq, xk B4 [2, 2, 2, 1, 2, 2, 1, 2, 2, 1, 2, 2, 2, 2, 2, 2, 2, 2, 2] (.cd 57) rfl, h1, h2, h4, h5, h7]
    replace hF := cond_some hF
    rcases hF with ⟨h8, hF⟩ | ⟨h8, hF⟩
    · have hJ := f4_ai10rzi_l7_j2_ok k x1 x6 (IntKind.i64.wrap (x10 + (1 : Int))) x39 x40 h0_ h0__1 h0__2 h0__3 h0__4 h0__5 h0__6 h0__7 h0__8 h0__9 h0__10 h1_ _ hF
      simp (maxSteps := 999999) (disch := first | exact D (by decide) | exact K (by kernel_rfl)) only [E, EE, ↓reduceIte, simprocAttr, show (nav B4 [2, 2, 2, 2, 1, 2, 2, 1, 2, 2, 1, 2, 2, 2, 2, 2, 2, 2, 2, 2]) = Code.region 16 _ false from rfl, hk_4_16, hz_4_16, hs_4_16, h1, h2, h4, h5, h7, h8]
      try simp only [NM, EE] at hJ
      exact hJ
    · have hJ := f4_ai10rzi_l7_j3_ok k x1 x6 x10 x39 x40 false h0_ h0__1 h0__2 h0__3 h0__4 h0__5 h0__6 h0__7 h0__8 h0__9 h0__10 h1_ _ hF
      simp (maxSteps := 999999) (disch := first | exact D (by decide) | exact K (by kernel_rfl)) only [E, EE, ↓reduceIte, simprocAttr, xk B4 [3, 2, 2, 2, 1, 2, 2, 1, 2, 2, 1, 2, 2, 2, 2, 2, 2, 2, 2, 2] .sk rfl, h1, h2, h4, h5, h7, h8]
      try simp only [NM, EE] at hJ
      exact hJ
noncomputable def f4_ai10rzi_l7_b (k : Nat) (x1 : Int) (x6 : List Int) (x10 x39 x40 h0_ h0__1 h0__2 h0__3 h0__4 h0__5 h0__6 h0__7 h0__8 h0__9 : Int) (h0__10 h1_ : List Int) : Option R4_ai10rzi_l7 :=
  cond ((decide (x40 < x39)))
    (f4_ai10rzi_l7_j1 k x1 x6 x10 x39 x40 true h0_ h0__1 h0__2 h0__3 h0__4 h0__5 h0__6 h0__7 h0__8 h0__9 h0__10 h1_)
    (some (R4_ai10rzi_l7.o1 x1 x6 x10 x39 x40 false h0_ h0__1 h0__2 h0__3 h0__4 h0__5 h0__6 h0__7 h0__8 h0__9 h0__10 h1_))
theorem f4_ai10rzi_l7_b_ok (k : Nat) (x1 : Int) (x6 : List Int) (x10 x39 x40 h0_ h0__1 h0__2 h0__3 h0__4 h0__5 h0__6 h0__7 h0__8 h0__9 : Int) (h0__10 h1_ : List Int) (r : R4_ai10rzi_l7) (hF : f4_ai10rzi_l7_b k x1 x6 x10 x39 x40 h0_ h0__1 h0__2 h0__3 h0__4 h0__5 h0__6 h0__7 h0__8 h0__9 h0__10 h1_ = some r) : EX 4 k (nav B4 [1, 2, 2, 1, 2, 2, 2, 2, 2, 2, 2, 2, 2]) ({ n := 79, F := [(1, V.p (Value.int .i64 x1)), (2, V.ptr 30000 0), (6, V.sl 1 (rowsOf (encI .u8) x6)), (8, V.own 30001), (10, V.p (Value.int .i64 x10)), (39, V.p (Value.int .i64 x39)), (40, V.p (Value.int .i64 x40))], M := [(30000, O.box 26 [V.p (Value.int .i64 h0_), V.p (Value.int .i64 h0__1), V.p (Value.int .u32 h0__2), V.p (Value.int .i64 h0__3), V.p (Value.int .i64 h0__4), V.p (Value.int .i64 h0__5), V.p (Value.int .i64 h0__6), V.p (Value.int .i64 h0__7), V.p (Value.int .i64 h0__8), V.p (Value.int .i64 h0__9), V.sl 1 (rowsOf (encI .u8) h0__10)]), (30001, O.row true 1 5 (rowsOf (encI .u8) h1_))] } : St) = some r.st := by
  unfold f4_ai10rzi_l7_b at hF
  simp (maxSteps := 999999) (disch := first | exact D (by decide) | exact K (by kernel_rfl)) only [E, EE, ↓reduceIte, simprocAttr, xk B4 [1, 2, 2, 1, 2, 2, 2, 2, 2, 2, 2, 2, 2] .sq rfl, show (nav B4 [1, 1, 2, 2, 1, 2, 2, 2, 2, 2, 2, 2, 2, 2]) = Code.region 13 _ false from rfl, hk_4_13, hz_4_13, hs_4_13, xk B4 [2, 1, 2, 2, 1, 2, 2, 2, 2, 2, 2, 2, 2, 2] .sq rfl, xk B4 [1, 2, 1, 2, 2, 1, 2, 2, 2, 2, 2, 2, 2, 2, 2] (.cd 41) rfl]
  replace hF := cond_some hF
  rcases hF with ⟨h1, hF⟩ | ⟨h1, hF⟩
  · have hJ := f4_ai10rzi_l7_j1_ok k x1 x6 x10 x39 x40 true h0_ h0__1 h0__2 h0__3 h0__4 h0__5 h0__6 h0__7 h0__8 h0__9 h0__10 h1_ _ hF
    simp (maxSteps := 999999) (disch := first | exact D (by decide) | exact K (by kernel_rfl)) only [E, EE, ↓reduceIte, simprocAttr, xk B4 [2, 1, 2, 1, 2, 2, 1, 2, 2, 2, 2, 2, 2, 2, 2, 2] .sk rfl, h1]
    try simp only [NM, EE] at hJ
    exact hJ
  · cases hF
    simp (maxSteps := 999999) (disch := first | exact D (by decide) | exact K (by kernel_rfl)) only [E, EE, ↓reduceIte, simprocAttr, xk B4 [3, 1, 2, 1, 2, 2, 1, 2, 2, 2, 2, 2, 2, 2, 2, 2] (.ex 0) rfl, R4_ai10rzi_l7.st, h1]
noncomputable def f4_ai10rzi_l7 (k : Nat) : Nat → Int → (List Int) → Int → Int → Int → Int → Int → Int → Int → Int → Int → Int → Int → Int → Int → (List Int) → (List Int) → Option R4_ai10rzi_l7
  | 0, _, _, _, _, _, _, _, _, _, _, _, _, _, _, _, _, _ => none
  | n + 1, x1, x6, x10, x39, x40, h0_, h0__1, h0__2, h0__3, h0__4, h0__5, h0__6, h0__7, h0__8, h0__9, h0__10, h1_ => Option.bind (f4_ai10rzi_l7_b k x1 x6 x10 x39 x40 h0_ h0__1 h0__2 h0__3 h0__4 h0__5 h0__6 h0__7 h0__8 h0__9 h0__10 h1_) fun o =>
    match o with
    | .o0 y y_1 y_2 y_3 y_4 y_5 y_6 y_7 y_8 y_9 y_10 y_11 y_12 y_13 y_14 y_15 y_16 => f4_ai10rzi_l7 k n y y_1 y_2 y_3 y_4 y_5 y_6 y_7 y_8 y_9 y_10 y_11 y_12 y_13 y_14 y_15 y_16
    | .o1 y y_1 y_2 y_3 y_4 y_5 y_6 y_7 y_8 y_9 y_10 y_11 y_12 y_13 y_14 y_15 y_16 y_17 => some (.o1 y y_1 y_2 y_3 y_4 y_5 y_6 y_7 y_8 y_9 y_10 y_11 y_12 y_13 y_14 y_15 y_16 y_17)
theorem f4_ai10rzi_l7_ok (k n : Nat) : ∀ (x1 : Int) (x6 : List Int) (x10 x39 x40 h0_ h0__1 h0__2 h0__3 h0__4 h0__5 h0__6 h0__7 h0__8 h0__9 : Int) (h0__10 h1_ : List Int) (r : R4_ai10rzi_l7) (hF : f4_ai10rzi_l7 k n x1 x6 x10 x39 x40 h0_ h0__1 h0__2 h0__3 h0__4 h0__5 h0__6 h0__7 h0__8 h0__9 h0__10 h1_ = some r) (σ : St) (hσ : headR (hints.head 4 13) (hints.canon 4 13) σ = some ({ n := 79, F := [(1, V.p (Value.int .i64 x1)), (2, V.ptr 30000 0), (6, V.sl 1 (rowsOf (encI .u8) x6)), (8, V.own 30001), (10, V.p (Value.int .i64 x10)), (39, V.p (Value.int .i64 x39)), (40, V.p (Value.int .i64 x40))], M := [(30000, O.box 26 [V.p (Value.int .i64 h0_), V.p (Value.int .i64 h0__1), V.p (Value.int .u32 h0__2), V.p (Value.int .i64 h0__3), V.p (Value.int .i64 h0__4), V.p (Value.int .i64 h0__5), V.p (Value.int .i64 h0__6), V.p (Value.int .i64 h0__7), V.p (Value.int .i64 h0__8), V.p (Value.int .i64 h0__9), V.sl 1 (rowsOf (encI .u8) h0__10)]), (30001, O.row true 1 5 (rowsOf (encI .u8) h1_))] } : St)), LP 4 k (nav B4 [1, 2, 2, 1, 2, 2, 2, 2, 2, 2, 2, 2, 2]) n σ = some r.st := by
  induction n with
  | zero => intro x1 x6 x10 x39 x40 h0_ h0__1 h0__2 h0__3 h0__4 h0__5 h0__6 h0__7 h0__8 h0__9 h0__10 h1_ r hF; cases hF
  | succ n ih =>
    intro x1 x6 x10 x39 x40 h0_ h0__1 h0__2 h0__3 h0__4 h0__5 h0__6 h0__7 h0__8 h0__9 h0__10 h1_ r hF σ hσ
    rw [f4_ai10rzi_l7] at hF
    obtain ⟨o, h, hF⟩ := Option.bind_eq_some_iff.1 hF
    have hB := f4_ai10rzi_l7_b_ok k x1 x6 x10 x39 x40 h0_ h0__1 h0__2 h0__3 h0__4 h0__5 h0__6 h0__7 h0__8 h0__9 h0__10 h1_ o h
    unfold LP at ih ⊢
    unfold EX at hB
    rw [loopK_succ, show firstReg (nav B4 [1, 2, 2, 1, 2, 2, 2, 2, 2, 2, 2, 2, 2]) = 13 from rfl, hσ, headK_some, hB]
    cases o with
    | o0 y y_1 y_2 y_3 y_4 y_5 y_6 y_7 y_8 y_9 y_10 y_11 y_12 y_13 y_14 y_15 y_16 =>
      refine ih y y_1 y_2 y_3 y_4 y_5 y_6 y_7 y_8 y_9 y_10 y_11 y_12 y_13 y_14 y_15 y_16 r hF _ ?_
      simp (maxSteps := 999999) (disch := first | exact D (by decide) | exact K (by kernel_rfl)) only [E, EE, ↓reduceIte, simprocAttr, hh_4_13, hc_4_13]
    | o1 y y_1 y_2 y_3 y_4 y_5 y_6 y_7 y_8 y_9 y_10 y_11 y_12 y_13 y_14 y_15 y_16 y_17 => cases hF; rfl
noncomputable def f4_ai10rzi_j8 (k : Nat) (x1 : Int) (x6 : List Int) (x10 x39 x40 : Int) (x41 : Bool) (h0_ h0__1 h0__2 h0__3 h0__4 h0__5 h0__6 h0__7 h0__8 h0__9 : Int) (h0__10 h1_ : List Int) : Option R4_ai10rzi :=
  cond ((((List.length x6) : Int) == ((List.length h1_) : Int)))
    (
      cond (((x10 == 0) == (h0__6 == x1)))
        (some (R4_ai10rzi.o0 (decide (x10 ≤ 1))))
        (some (R4_ai10rzi.o0 false)))
    (some (R4_ai10rzi.o0 false))
theorem f4_ai10rzi_j8_ok (k : Nat) (x1 : Int) (x6 : List Int) (x10 x39 x40 : Int) (x41 : Bool) (h0_ h0__1 h0__2 h0__3 h0__4 h0__5 h0__6 h0__7 h0__8 h0__9 : Int) (h0__10 h1_ : List Int) (r : R4_ai10rzi) (hF : f4_ai10rzi_j8 k x1 x6 x10 x39 x40 x41 h0_ h0__1 h0__2 h0__3 h0__4 h0__5 h0__6 h0__7 h0__8 h0__9 h0__10 h1_ = some r) : finK Tryd.prog Tryd.f4 0 (EX 4 k (nav B4 [2, 2, 2, 2, 2, 2, 2, 2, 2, 2]) ({ n := 79, F := [(1, V.p (Value.int .i64 x1)), (2, V.ptr 30000 0), (6, V.sl 1 (rowsOf (encI .u8) x6)), (8, V.own 30001), (10, V.p (Value.int .i64 x10)), (39, V.p (Value.int .i64 x39)), (40, V.p (Value.int .i64 x40)), (41, V.p (Value.bool x41))], M := [(30000, O.box 26 [V.p (Value.int .i64 h0_), V.p (Value.int .i64 h0__1), V.p (Value.int .u32 h0__2), V.p (Value.int .i64 h0__3), V.p (Value.int .i64 h0__4), V.p (Value.int .i64 h0__5), V.p (Value.int .i64 h0__6), V.p (Value.int .i64 h0__7), V.p (Value.int .i64 h0__8), V.p (Value.int .i64 h0__9), V.sl 1 (rowsOf (encI .u8) h0__10)]), (30001, O.row true 1 5 (rowsOf (encI .u8) h1_))] } : St)) = some r.st := by
  unfold f4_ai10rzi_j8 at hF
  simp (maxSteps := 999999) (disch := first | exact D (by decide) | exact K (by kernel_rfl)) only [E, EE, ↓reduceIte, simprocAttr, xk B4 [2, 2, 2, 2, 2, 2, 2, 2, 2, 2] .sq rfl, show (nav B4 [1, 2, 2, 2, 2, 2, 2, 2, 2, 2, 2]) = Code.region 18 _ false from rfl, hk_4_18, hz_4_18, hs_4_18, u_22, i_22, is_22, ib_22, iz_22]
  replace hF := cond_some hF
  rcases hF with ⟨h1, hF⟩ | ⟨h1, hF⟩
  · simp (maxSteps := 999999) (disch := first | exact D (by decide) | exact K (by kernel_rfl)) only [E, EE, ↓reduceIte, simprocAttr, fieldAddrV, u_26, i_26, is_26, ib_26, iz_26, u_3, i_3, is_3, ib_3, iz_3, u_4, i_4, is_4, ib_4, iz_4, h1]
    replace hF := cond_some hF
    rcases hF with ⟨h2, hF⟩ | ⟨h2, hF⟩
    · cases hF
      simp (maxSteps := 999999) (disch := first | exact D (by decide) | exact K (by kernel_rfl)) only [E, EE, ↓reduceIte, simprocAttr, xk B4 [2, 2, 2, 2, 2, 2, 2, 2, 2, 2, 2] .rt rfl, finK_norm, finK_ret, fin4, R4_ai10rzi.st, h1, h2]
    · cases hF
      simp (maxSteps := 999999) (disch := first | exact D (by decide) | exact K (by kernel_rfl)) only [E, EE, ↓reduceIte, simprocAttr, xk B4 [2, 2, 2, 2, 2, 2, 2, 2, 2, 2, 2] .rt rfl, finK_norm, finK_ret, fin4, R4_ai10rzi.st, h1, h2]
  · cases hF
    simp (maxSteps := 999999) (disch := first | exact D (by decide) | exact K (by kernel_rfl)) only [E, EE, ↓reduceIte, simprocAttr, xk B4 [2, 2, 2, 2, 2, 2, 2, 2, 2, 2, 2] .rt rfl, finK_norm, finK_ret, fin4, R4_ai10rzi.st, h1]
noncomputable def f4_ai10rzi_j6 (k : Nat) (x1 : Int) (x6 : List Int) (x37 : Bool) (m2 m2_1 m2_2 m2_3 m2_4 m2_5 m2_6 m2_7 m2_8 m2_9 : Int) (m2_10 m29 : List Int) : Option R4_ai10rzi :=
  Option.bind (f4_ai10rzi_l7 k k x1 x6 0 ((List.length x6) : Int) 0 m2 m2_1 m2_2 m2_3 m2_4 m2_5 m2_6 m2_7 m2_8 m2_9 m2_10 m29) fun o1 =>
    match o1 with
    | .o0 _ _ _ _ _ _ _ _ _ _ _ _ _ _ _ _ _ =>
      none
    | .o1 v4 v5 v6 v7 v8 v9 v10 v11 v12 v13 v14 v15 v16 v17 v18 v19 v20 v21 =>
      f4_ai10rzi_j8 k v4 v5 v6 v7 v8 v9 v10 v11 v12 v13 v14 v15 v16 v17 v18 v19 v20 v21
theorem f4_ai10rzi_j6_ok (k : Nat) (x1 : Int) (x6 : List Int) (x37 : Bool) (m2 m2_1 m2_2 m2_3 m2_4 m2_5 m2_6 m2_7 m2_8 m2_9 : Int) (m2_10 m29 : List Int) (r : R4_ai10rzi) (hF : f4_ai10rzi_j6 k x1 x6 x37 m2 m2_1 m2_2 m2_3 m2_4 m2_5 m2_6 m2_7 m2_8 m2_9 m2_10 m29 = some r) : finK Tryd.prog Tryd.f4 0 (EX 4 k (nav B4 [2, 2, 2, 2, 2, 2, 2, 2]) ({ n := 79, F := [(1, V.p (Value.int .i64 x1)), (2, V.ptr 2 0), (6, V.sl 1 (rowsOf (encI .u8) x6)), (8, V.own 29), (37, V.p (Value.bool x37))], M := [(2, O.box 26 [V.p (Value.int .i64 m2), V.p (Value.int .i64 m2_1), V.p (Value.int .u32 m2_2), V.p (Value.int .i64 m2_3), V.p (Value.int .i64 m2_4), V.p (Value.int .i64 m2_5), V.p (Value.int .i64 m2_6), V.p (Value.int .i64 m2_7), V.p (Value.int .i64 m2_8), V.p (Value.int .i64 m2_9), V.sl 1 (rowsOf (encI .u8) m2_10)]), (29, O.row true 1 5 (rowsOf (encI .u8) m29))] } : St)) = some r.st := by
  unfold f4_ai10rzi_j6 at hF
  replace hF := Option.bind_eq_some_iff.1 hF
  obtain ⟨o1, h2, hF⟩ := hF
  have hc3 := f4_ai10rzi_l7_ok k k x1 x6 0 ((List.length x6) : Int) 0 m2 m2_1 m2_2 m2_3 m2_4 m2_5 m2_6 m2_7 m2_8 m2_9 m2_10 m29 _ h2
  simp (maxSteps := 999999) (disch := first | exact D (by decide) | exact K (by kernel_rfl)) only [E, EE, ↓reduceIte, simprocAttr, xk B4 [2, 2, 2, 2, 2, 2, 2, 2] .sq rfl, show (nav B4 [1, 2, 2, 2, 2, 2, 2, 2, 2]) = Code.region 11 _ false from rfl, hk_4_11, hz_4_11, hs_4_11, xk B4 [2, 2, 2, 2, 2, 2, 2, 2, 2] .sq rfl, xk B4 [1, 2, 2, 2, 2, 2, 2, 2, 2, 2] .sq rfl, show (nav B4 [1, 1, 2, 2, 2, 2, 2, 2, 2, 2, 2]) = Code.region 12 _ false from rfl, hk_4_12, hz_4_12, hs_4_12, u_22, i_22, is_22, ib_22, iz_22, xk B4 [2, 1, 2, 2, 2, 2, 2, 2, 2, 2, 2] (.bk 0) rfl, xk B4 [2, 2, 1, 2, 2, 2, 2, 2, 2, 2, 2, 2] .lp rfl, hh_4_13, hc_4_13]
  (try simp only [NM, EE] at hc3)
  rw [hc3 _ (by simp (maxSteps := 999999) (disch := first | exact D (by decide) | exact K (by kernel_rfl)) only [E, EE, ↓reduceIte, simprocAttr, hh_4_13, hc_4_13])]
  clear hc3
  cases o1 with
  | o0 _ _ _ _ _ _ _ _ _ _ _ _ _ _ _ _ _ =>
    (try dsimp only at hF)
    cases hF
  | o1 v4 v5 v6 v7 v8 v9 v10 v11 v12 v13 v14 v15 v16 v17 v18 v19 v20 v21 =>
    (try dsimp only at hF)
    have hJ := f4_ai10rzi_j8_ok k v4 v5 v6 v7 v8 v9 v10 v11 v12 v13 v14 v15 v16 v17 v18 v19 v20 v21 _ hF
    simp (maxSteps := 999999) (disch := first | exact D (by decide) | exact K (by kernel_rfl)) only [E, EE, ↓reduceIte, simprocAttr, R4_ai10rzi_l7.st]
    try simp only [NM, EE] at hJ
    exact hJ
inductive R4_ai10rzi_l10 where
  | o0 (y : Int) (y_1 : List Int) (y_2 y_3 y_4 y_5 y_6 y_7 y_8 y_9 y_10 y_11 y_12 y_13 y_14 : Int) (y_15 y_16 : List Int)
  | o1 (y : Int) (y_1 : List Int) (y_2 y_3 y_4 : Int) (y_5 : Bool) (y_6 y_7 y_8 y_9 y_10 y_11 y_12 y_13 y_14 y_15 : Int) (y_16 y_17 : List Int)
noncomputable def R4_ai10rzi_l10.st : R4_ai10rzi_l10 → Out × St
  | .o0 y y_1 y_2 y_3 y_4 y_5 y_6 y_7 y_8 y_9 y_10 y_11 y_12 y_13 y_14 y_15 y_16 => (.norm, ({ n := 79, F := [(1, V.p (Value.int .i64 y)), (2, V.ptr 30000 0), (6, V.own 30001), (8, V.sl 1 (rowsOf (encI .u8) y_1)), (10, V.p (Value.int .i64 y_2)), (39, V.p (Value.int .i64 y_3)), (40, V.p (Value.int .i64 y_4))], M := [(30000, O.box 26 [V.p (Value.int .i64 y_5), V.p (Value.int .i64 y_6), V.p (Value.int .u32 y_7), V.p (Value.int .i64 y_8), V.p (Value.int .i64 y_9), V.p (Value.int .i64 y_10), V.p (Value.int .i64 y_11), V.p (Value.int .i64 y_12), V.p (Value.int .i64 y_13), V.p (Value.int .i64 y_14), V.sl 1 (rowsOf (encI .u8) y_15)]), (30001, O.row true 1 5 (rowsOf (encI .u8) y_16))] } : St))
  | .o1 y y_1 y_2 y_3 y_4 y_5 y_6 y_7 y_8 y_9 y_10 y_11 y_12 y_13 y_14 y_15 y_16 y_17 => (.exit 0, ({ n := 79, F := [(1, V.p (Value.int .i64 y)), (2, V.ptr 30000 0), (6, V.own 30001), (8, V.sl 1 (rowsOf (encI .u8) y_1)), (10, V.p (Value.int .i64 y_2)), (39, V.p (Value.int .i64 y_3)), (40, V.p (Value.int .i64 y_4)), (41, V.p (Value.bool y_5))], M := [(30000, O.box 26 [V.p (Value.int .i64 y_6), V.p (Value.int .i64 y_7), V.p (Value.int .u32 y_8), V.p (Value.int .i64 y_9), V.p (Value.int .i64 y_10), V.p (Value.int .i64 y_11), V.p (Value.int .i64 y_12), V.p (Value.int .i64 y_13), V.p (Value.int .i64 y_14), V.p (Value.int .i64 y_15), V.sl 1 (rowsOf (encI .u8) y_16)]), (30001, O.row true 1 5 (rowsOf (encI .u8) y_17))] } : St))
noncomputable def f4_ai10rzi_l10_j2 (k : Nat) (x1 : Int) (x8 : List Int) (x10 x39 x40 h0_ h0__1 h0__2 h0__3 h0__4 h0__5 h0__6 h0__7 h0__8 h0__9 : Int) (h0__10 h1_ : List Int) : Option R4_ai10rzi_l10 :=
  some (R4_ai10rzi_l10.o0 x1 x8 x10 x39 (IntKind.i64.wrap (x40 + (1 : Int))) h0_ h0__1 h0__2 h0__3 h0__4 h0__5 h0__6 h0__7 h0__8 h0__9 h0__10 h1_)
theorem f4_ai10rzi_l10_j2_ok (k : Nat) (x1 : Int) (x8 : List Int) (x10 x39 x40 h0_ h0__1 h0__2 h0__3 h0__4 h0__5 h0__6 h0__7 h0__8 h0__9 : Int) (h0__10 h1_ : List Int) (r : R4_ai10rzi_l10) (hF : f4_ai10rzi_l10_j2 k x1 x8 x10 x39 x40 h0_ h0__1 h0__2 h0__3 h0__4 h0__5 h0__6 h0__7 h0__8 h0__9 h0__10 h1_ = some r) : EX 4 k (nav B4 [2, 2, 2, 1, 2, 2, 1, 2, 2, 2, 2, 2, 2, 2, 2, 2]) ({ n := 79, F := [(1, V.p (Value.int .i64 x1)), (2, V.ptr 30000 0), (6, V.own 30001), (8, V.sl 1 (rowsOf (encI .u8) x8)), (10, V.p (Value.int .i64 x10)), (39, V.p (Value.int .i64 x39)), (40, V.p (Value.int .i64 x40))], M := [(30000, O.box 26 [V.p (Value.int .i64 h0_), V.p (Value.int .i64 h0__1), V.p (Value.int .u32 h0__2), V.p (Value.int .i64 h0__3), V.p (Value.int .i64 h0__4), V.p (Value.int .i64 h0__5), V.p (Value.int .i64 h0__6), V.p (Value.int .i64 h0__7), V.p (Value.int .i64 h0__8), V.p (Value.int .i64 h0__9), V.sl 1 (rowsOf (encI .u8) h0__10)]), (30001, O.row true 1 5 (rowsOf (encI .u8) h1_))] } : St) = some r.st := by
  unfold f4_ai10rzi_l10_j2 at hF
  cases hF
  simp (maxSteps := 999999) (disch := first | exact D (by decide) | exact K (by kernel_rfl)) only [E, EE, ↓reduceIte, simprocAttr, show (nav B4 [2, 2, 2, 1, 2, 2, 1, 2, 2, 2, 2, 2, 2, 2, 2, 2]) = Code.region 17 _ false from rfl, hk_4_17, hz_4_17, hs_4_17, R4_ai10rzi_l10.st]
noncomputable def f4_ai10rzi_l10_j3 (k : Nat) (x1 : Int) (x8 : List Int) (x10 x39 x40 : Int) (x57 : Bool) (h0_ h0__1 h0__2 h0__3 h0__4 h0__5 h0__6 h0__7 h0__8 h0__9 : Int) (h0__10 h1_ : List Int) : Option R4_ai10rzi_l10 :=
  some (R4_ai10rzi_l10.o0 x1 x8 x10 x39 (IntKind.i64.wrap (x40 + (1 : Int))) h0_ h0__1 h0__2 h0__3 h0__4 h0__5 h0__6 h0__7 h0__8 h0__9 h0__10 h1_)
theorem f4_ai10rzi_l10_j3_ok (k : Nat) (x1 : Int) (x8 : List Int) (x10 x39 x40 : Int) (x57 : Bool) (h0_ h0__1 h0__2 h0__3 h0__4 h0__5 h0__6 h0__7 h0__8 h0__9 : Int) (h0__10 h1_ : List Int) (r : R4_ai10rzi_l10) (hF : f4_ai10rzi_l10_j3 k x1 x8 x10 x39 x40 x57 h0_ h0__1 h0__2 h0__3 h0__4 h0__5 h0__6 h0__7 h0__8 h0__9 h0__10 h1_ = some r) : EX 4 k (nav B4 [2, 2, 2, 1, 2, 2, 1, 2, 2, 2, 2, 2, 2, 2, 2, 2]) ({ n := 79, F := [(1, V.p (Value.int .i64 x1)), (2, V.ptr 30000 0), (6, V.own 30001), (8, V.sl 1 (rowsOf (encI .u8) x8)), (10, V.p (Value.int .i64 x10)), (39, V.p (Value.int .i64 x39)), (40, V.p (Value.int .i64 x40)), (57, V.p (Value.bool x57))], M := [(30000, O.box 26 [V.p (Value.int .i64 h0_), V.p (Value.int .i64 h0__1), V.p (Value.int .u32 h0__2), V.p (Value.int .i64 h0__3), V.p (Value.int .i64 h0__4), V.p (Value.int .i64 h0__5), V.p (Value.int .i64 h0__6), V.p (Value.int .i64 h0__7), V.p (Value.int .i64 h0__8), V.p (Value.int .i64 h0__9), V.sl 1 (rowsOf (encI .u8) h0__10)]), (30001, O.row true 1 5 (rowsOf (encI .u8) h1_))] } : St) = some r.st := by
  unfold f4_ai10rzi_l10_j3 at hF
  cases hF
  simp (maxSteps := 999999) (disch := first | exact D (by decide) | exact K (by kernel_rfl)) only [E, EE, ↓reduceIte, simprocAttr, show (nav B4 [2, 2, 2, 1, 2, 2, 1, 2, 2, 2, 2, 2, 2, 2, 2, 2]) = Code.region 17 _ false from rfl, hk_4_17, hz_4_17, hs_4_17, R4_ai10rzi_l10.st]
noncomputable def f4_ai10rzi_l10_j1 (k : Nat) (x1 : Int) (x8 : List Int) (x10 x39 x40 : Int) (x41 : Bool) (h0_ h0__1 h0__2 h0__3 h0__4 h0__5 h0__6 h0__7 h0__8 h0__9 : Int) (h0__10 h1_ : List Int) : Option R4_ai10rzi_l10 :=
  cond ((decide (x40 ≥ ((List.length x8) : Int))))
    (f4_ai10rzi_l10_j2 k x1 x8 (IntKind.i64.wrap (x10 + (1 : Int))) x39 x40 h0_ h0__1 h0__2 h0__3 h0__4 h0__5 h0__6 h0__7 h0__8 h0__9 h0__10 h1_)
    (
      ifE ((0 : Int) ≤ x40) (
        ifE (x40 < ((List.length h1_) : Int)) (
          Option.bind (h1_[(Int.toNat x40)]?) fun v4 =>
            Option.bind (x8[(Int.toNat x40)]?) fun v6 =>
              cond ((v4 != v6))
                (f4_ai10rzi_l10_j2 k x1 x8 (IntKind.i64.wrap (x10 + (1 : Int))) x39 x40 h0_ h0__1 h0__2 h0__3 h0__4 h0__5 h0__6 h0__7 h0__8 h0__9 h0__10 h1_)
                (f4_ai10rzi_l10_j3 k x1 x8 x10 x39 x40 false h0_ h0__1 h0__2 h0__3 h0__4 h0__5 h0__6 h0__7 h0__8 h0__9 h0__10 h1_))))
theorem f4_ai10rzi_l10_j1_ok (k : Nat) (x1 : Int) (x8 : List Int) (x10 x39 x40 : Int) (x41 : Bool) (h0_ h0__1 h0__2 h0__3 h0__4 h0__5 h0__6 h0__7 h0__8 h0__9 : Int) (h0__10 h1_ : List Int) (r : R4_ai10rzi_l10) (hF : f4_ai10rzi_l10_j1 k x1 x8 x10 x39 x40 x41 h0_ h0__1 h0__2 h0__3 h0__4 h0__5 h0__6 h0__7 h0__8 h0__9 h0__10 h1_ = some r) : EX 4 k (nav B4 [2, 2, 1, 2, 2, 1, 2, 2, 2, 2, 2, 2, 2, 2, 2]) ({ n := 79, F := [(1, V.p (Value.int .i64 x1)), (2, V.ptr 30000 0), (6, V.own 30001), (8, V.sl 1 (rowsOf (encI .u8) x8)), (10, V.p (Value.int .i64 x10)), (39, V.p (Value.int .i64 x39)), (40, V.p (Value.int .i64 x40)), (41, V.p (Value.bool x41))], M := [(30000, O.box 26 [V.p (Value.int .i64 h0_), V.p (Value.int .i64 h0__1), V.p (Value.int .u32 h0__2), V.p (Value.int .i64 h0__3), V.p (Value.int .i64 h0__4), V.p (Value.int .i64 h0__5), V.p (Value.int .i64 h0__6), V.p (Value.int .i64 h0__7), V.p (Value.int .i64 h0__8), V.p (Value.int .i64 h0__9), V.sl 1 (rowsOf (encI .u8) h0__10)]), (30001, O.row true 1 5 (rowsOf (encI .u8) h1_))] } : St) = some r.st := by
  unfold f4_ai10rzi_l10_j1 at hF
  simp (maxSteps := 999999) (disch := first | exact D (by decide) | exact K (by kernel_rfl)) only [E, EE, ↓reduceIte, simprocAttr, xk B4 [2, 2, 1, 2, 2, 1, 2, 2, 2, 2, 2, 2, 2, 2, 2] .sq rfl, xk B4 [1, 2, 2, 1, 2, 2, 1, 2, 2, 2, 2, 2, 2, 2, 2, 2] (.bk 1) rfl, xk B4 [2, 1, 2, 2, 1, 2, 2, 1, 2, 2, 2, 2, 2, 2, 2, 2, 2] .sq rfl, show (nav B4 [1, 2, 1, 2, 2, 1, 2, 2, 1, 2, 2, 2, 2, 2, 2, 2, 2, 2]) = Code.region 14 _ false from rfl, hk_4_14, hz_4_14, hs_4_14, xk B4 [2, 2, 1, 2, 2, 1, 2, 2, 1, 2, 2, 2, 2, 2, 2, 2, 2, 2] .sq rfl, show (nav B4 [1, 2, 2, 1, 2, 2, 1, 2, 2, 1, 2, 2, 2, 2, 2, 2, 2, 2, 2]) = Code.region 15 _ true from rfl, hk_4_15, hz_4_15, hs_4_15, u_22, i_22, is_22, ib_22, iz_22]
  replace hF := cond_some hF
  rcases hF with ⟨h1, hF⟩ | ⟨h1, hF⟩
  · have hJ := f4_ai10rzi_l10_j2_ok k x1 x8 (IntKind.i64.wrap (x10 + (1 : Int))) x39 x40 h0_ h0__1 h0__2 h0__3 h0__4 h0__5 h0__6 h0__7 h0__8 h0__9 h0__10 h1_ _ hF
    simp (maxSteps := 999999) (disch := first | exact D (by decide) | exact K (by kernel_rfl)) only [E, EE, ↓reduceIte, simprocAttr, xk B4 [2, 2, 2, 1, 2, 2, 1, 2, 2, 1, 2, 2, 2, 2, 2, 2, 2, 2, 2] (.cd 57) rfl, show (nav B4 [2, 2, 2, 2, 1, 2, 2, 1, 2, 2, 1, 2, 2, 2, 2, 2, 2, 2, 2, 2]) = Code.region 16 _ false from rfl, hk_4_16, hz_4_16, hs_4_16, h1]
    try simp only [NM, EE] at hJ
    exact hJ
  · replace hF := ifE_some.1 hF
    obtain ⟨h2, hF⟩ := hF
    replace hF := ifE_some.1 hF
    obtain ⟨h3, hF⟩ := hF
    replace hF := Option.bind_eq_some_iff.1 hF
    obtain ⟨v4, h5, hF⟩ := hF
    replace hF := Option.bind_eq_some_iff.1 hF
    obtain ⟨v6, h7, hF⟩ := hF
    simp (maxSteps := 999999) (disch := first | exact D (by decide) | exact K (by kernel_rfl)) only [E, EE, ↓reduceIte, simprocAttr, indexAddrV, u_22, i_22, is_22, ib_22, iz_22, u_5, i_5, is_5, ib_5, iz_5, encI_eq, xk B4 [2, 2, 2, 1, 2, 2, 1, 2, 2, 1, 2, 2, 2, 2, 2, 2, 2, 2, 2] (.cd 57) rfl, h1, h2, h3, h5, h7]
    replace hF := cond_some hF
    rcases hF with ⟨h8, hF⟩ | ⟨h8, hF⟩
    · have hJ := f4_ai10rzi_l10_j2_ok k x1 x8 (IntKind.i64.wrap (x10 + (1 : Int))) x39 x40 h0_ h0__1 h0__2 h0__3 h0__4 h0__5 h0__6 h0__7 h0__8 h0__9 h0__10 h1_ _ hF
      simp (maxSteps := 999999) (disch := first | exact D (by decide) | exact K (by kernel_rfl)) only [E, EE, ↓reduceIte, simprocAttr, show (nav B4 [2, 2, 2, 2, 1, 2, 2, 1, 2, 2, 1, 2, 2, 2, 2, 2, 2, 2, 2, 2]) = Code.region 16 _ false from rfl, hk_4_16, hz_4_16, hs_4_16, h1, h2, h3, h5, h7, h8]
      try simp only [NM, EE] at hJ
      exact hJ
    · have hJ := f4_ai10rzi_l10_j3_ok k x1 x8 x10 x39 x40 false h0_ h0__1 h0__2 h0__3 h0__4 h0__5 h0__6 h0__7 h0__8 h0__9 h0__10 h1_ _ hF
      simp (maxSteps := 999999) (disch := first | exact D (by decide) | exact K (by kernel_rfl)) only [E, EE, ↓reduceIte, simprocAttr, xk B4 [3, 2, 2, 2, 1, 2, 2, 1, 2, 2, 1, 2, 2, 2, 2, 2, 2, 2, 2, 2] .sk rfl, h1, h2, h3, h5, h7, h8]
      try simp only [NM, EE] at hJ
      exact hJ
noncomputable def f4_ai10rzi_l10_b (k : Nat) (x1 : Int) (x8 : List Int) (x10 x39 x40 h0_ h0__1 h0__2 h0__3 h0__4 h0__5 h0__6 h0__7 h0__8 h0__9 : Int) (h0__10 h1_ : List Int) : Option R4_ai10rzi_l10 :=
  cond ((decide (x40 < x39)))
    (f4_ai10rzi_l10_j1 k x1 x8 x10 x39 x40 true h0_ h0__1 h0__2 h0__3 h0__4 h0__5 h0__6 h0__7 h0__8 h0__9 h0__10 h1_)
    (some (R4_ai10rzi_l10.o1 x1 x8 x10 x39 x40 false h0_ h0__1 h0__2 h0__3 h0__4 h0__5 h0__6 h0__7 h0__8 h0__9 h0__10 h1_))
theorem f4_ai10rzi_l10_b_ok (k : Nat) (x1 : Int) (x8 : List Int) (x10 x39 x40 h0_ h0__1 h0__2 h0__3 h0__4 h0__5 h0__6 h0__7 h0__8 h0__9 : Int) (h0__10 h1_ : List Int) (r : R4_ai10rzi_l10) (hF : f4_ai10rzi_l10_b k x1 x8 x10 x39 x40 h0_ h0__1 h0__2 h0__3 h0__4 h0__5 h0__6 h0__7 h0__8 h0__9 h0__10 h1_ = some r) : EX 4 k (nav B4 [1, 2, 2, 1, 2, 2, 2, 2, 2, 2, 2, 2, 2]) ({ n := 79, F := [(1, V.p (Value.int .i64 x1)), (2, V.ptr 30000 0), (6, V.own 30001), (8, V.sl 1 (rowsOf (encI .u8) x8)), (10, V.p (Value.int .i64 x10)), (39, V.p (Value.int .i64 x39)), (40, V.p (Value.int .i64 x40))], M := [(30000, O.box 26 [V.p (Value.int .i64 h0_), V.p (Value.int .i64 h0__1), V.p (Value.int .u32 h0__2), V.p (Value.int .i64 h0__3), V.p (Value.int .i64 h0__4), V.p (Value.int .i64 h0__5), V.p (Value.int .i64 h0__6), V.p (Value.int .i64 h0__7), V.p (Value.int .i64 h0__8), V.p (Value.int .i64 h0__9), V.sl 1 (rowsOf (encI .u8) h0__10)]), (30001, O.row true 1 5 (rowsOf (encI .u8) h1_))] } : St) = some r.st := by
  unfold f4_ai10rzi_l10_b at hF
  simp (maxSteps := 999999) (disch := first | exact D (by decide) | exact K (by kernel_rfl)) only [E, EE, ↓reduceIte, simprocAttr, xk B4 [1, 2, 2, 1, 2, 2, 2, 2, 2, 2, 2, 2, 2] .sq rfl, show (nav B4 [1, 1, 2, 2, 1, 2, 2, 2, 2, 2, 2, 2, 2, 2]) = Code.region 13 _ false from rfl, hk_4_13, hz_4_13, hs_4_13, xk B4 [2, 1, 2, 2, 1, 2, 2, 2, 2, 2, 2, 2, 2, 2] .sq rfl, xk B4 [1, 2, 1, 2, 2, 1, 2, 2, 2, 2, 2, 2, 2, 2, 2] (.cd 41) rfl]
  replace hF := cond_some hF
  rcases hF with ⟨h1, hF⟩ | ⟨h1, hF⟩
  · have hJ := f4_ai10rzi_l10_j1_ok k x1 x8 x10 x39 x40 true h0_ h0__1 h0__2 h0__3 h0__4 h0__5 h0__6 h0__7 h0__8 h0__9 h0__10 h1_ _ hF
    simp (maxSteps := 999999) (disch := first | exact D (by decide) | exact K (by kernel_rfl)) only [E, EE, ↓reduceIte, simprocAttr, xk B4 [2, 1, 2, 1, 2, 2, 1, 2, 2, 2, 2, 2, 2, 2, 2, 2] .sk rfl, h1]
    try simp only [NM, EE] at hJ
    exact hJ
  · cases hF
    simp (maxSteps := 999999) (disch := first | exact D (by decide) | exact K (by kernel_rfl)) only [E, EE, ↓reduceIte, simprocAttr, xk B4 [3, 1, 2, 1, 2, 2, 1, 2, 2, 2, 2, 2, 2, 2, 2, 2] (.ex 0) rfl, R4_ai10rzi_l10.st, h1]
noncomputable def f4_ai10rzi_l10 (k : Nat) : Nat → Int → (List Int) → Int → Int → Int → Int → Int → Int → Int → Int → Int → Int → Int → Int → Int → (List Int) → (List Int) → Option R4_ai10rzi_l10
  | 0, _, _, _, _, _, _, _, _, _, _, _, _, _, _, _, _, _ => none
  | n + 1, x1, x8, x10, x39, x40, h0_, h0__1, h0__2, h0__3, h0__4, h0__5, h0__6, h0__7, h0__8, h0__9, h0__10, h1_ => Option.bind (f4_ai10rzi_l10_b k x1 x8 x10 x39 x40 h0_ h0__1 h0__2 h0__3 h0__4 h0__5 h0__6 h0__7 h0__8 h0__9 h0__10 h1_) fun o =>
    match o with
    | .o0 y y_1 y_2 y_3 y_4 y_5 y_6 y_7 y_8 y_9 y_10 y_11 y_12 y_13 y_14 y_15 y_16 => f4_ai10rzi_l10 k n y y_1 y_2 y_3 y_4 y_5 y_6 y_7 y_8 y_9 y_10 y_11 y_12 y_13 y_14 y_15 y_16
    | .o1 y y_1 y_2 y_3 y_4 y_5 y_6 y_7 y_8 y_9 y_10 y_11 y_12 y_13 y_14 y_15 y_16 y_17 => some (.o1 y y_1 y_2 y_3 y_4 y_5 y_6 y_7 y_8 y_9 y_10 y_11 y_12 y_13 y_14 y_15 y_16 y_17)
theorem f4_ai10rzi_l10_ok (k n : Nat) : ∀ (x1 : Int) (x8 : List Int) (x10 x39 x40 h0_ h0__1 h0__2 h0__3 h0__4 h0__5 h0__6 h0__7 h0__8 h0__9 : Int) (h0__10 h1_ : List Int) (r : R4_ai10rzi_l10) (hF : f4_ai10rzi_l10 k n x1 x8 x10 x39 x40 h0_ h0__1 h0__2 h0__3 h0__4 h0__5 h0__6 h0__7 h0__8 h0__9 h0__10 h1_ = some r) (σ : St) (hσ : headR (hints.head 4 13) (hints.canon 4 13) σ = some ({ n := 79, F := [(1, V.p (Value.int .i64 x1)), (2, V.ptr 30000 0), (6, V.own 30001), (8, V.sl 1 (rowsOf (encI .u8) x8)), (10, V.p (Value.int .i64 x10)), (39, V.p (Value.int .i64 x39)), (40, V.p (Value.int .i64 x40))], M := [(30000, O.box 26 [V.p (Value.int .i64 h0_), V.p (Value.int .i64 h0__1), V.p (Value.int .u32 h0__2), V.p (Value.int .i64 h0__3), V.p (Value.int .i64 h0__4), V.p (Value.int .i64 h0__5), V.p (Value.int .i64 h0__6), V.p (Value.int .i64 h0__7), V.p (Value.int .i64 h0__8), V.p (Value.int .i64 h0__9), V.sl 1 (rowsOf (encI .u8) h0__10)]), (30001, O.row true 1 5 (rowsOf (encI .u8) h1_))] } : St)), LP 4 k (nav B4 [1, 2, 2, 1, 2, 2, 2, 2, 2, 2, 2, 2, 2]) n σ = some r.st := by
  induction n with
  | zero => intro x1 x8 x10 x39 x40 h0_ h0__1 h0__2 h0__3 h0__4 h0__5 h0__6 h0__7 h0__8 h0__9 h0__10 h1_ r hF; cases hF
  | succ n ih =>
    intro x1 x8 x10 x39 x40 h0_ h0__1 h0__2 h0__3 h0__4 h0__5 h0__6 h0__7 h0__8 h0__9 h0__10 h1_ r hF σ hσ
    rw [f4_ai10rzi_l10] at hF
    obtain ⟨o, h, hF⟩ := Option.bind_eq_some_iff.1 hF
    have hB := f4_ai10rzi_l10_b_ok k x1 x8 x10 x39 x40 h0_ h0__1 h0__2 h0__3 h0__4 h0__5 h0__6 h0__7 h0__8 h0__9 h0__10 h1_ o h
    unfold LP at ih ⊢
    unfold EX at hB
    rw [loopK_succ, show firstReg (nav B4 [1, 2, 2, 1, 2, 2, 2, 2, 2, 2, 2, 2, 2]) = 13 from rfl, hσ, headK_some, hB]
    cases o with
    | o0 y y_1 y_2 y_3 y_4 y_5 y_6 y_7 y_8 y_9 y_10 y_11 y_12 y_13 y_14 y_15 y_16 =>
      refine ih y y_1 y_2 y_3 y_4 y_5 y_6 y_7 y_8 y_9 y_10 y_11 y_12 y_13 y_14 y_15 y_16 r hF _ ?_
      simp (maxSteps := 999999) (disch := first | exact D (by decide) | exact K (by kernel_rfl)) only [E, EE, ↓reduceIte, simprocAttr, hh_4_13, hc_4_13]
    | o1 y y_1 y_2 y_3 y_4 y_5 y_6 y_7 y_8 y_9 y_10 y_11 y_12 y_13 y_14 y_15 y_16 y_17 => cases hF; rfl
noncomputable def f4_ai10rzi_j11 (k : Nat) (x1 : Int) (x8 : List Int) (x10 x39 x40 : Int) (x41 : Bool) (h0_ h0__1 h0__2 h0__3 h0__4 h0__5 h0__6 h0__7 h0__8 h0__9 : Int) (h0__10 h1_ : List Int) : Option R4_ai10rzi :=
  cond ((((List.length h1_) : Int) == ((List.length x8) : Int)))
    (
      cond (((x10 == 0) == (h0__6 == x1)))
        (some (R4_ai10rzi.o0 (decide (x10 ≤ 1))))
        (some (R4_ai10rzi.o0 false)))
    (some (R4_ai10rzi.o0 false))
theorem f4_ai10rzi_j11_ok (k : Nat) (x1 : Int) (x8 : List Int) (x10 x39 x40 : Int) (x41 : Bool) (h0_ h0__1 h0__2 h0__3 h0__4 h0__5 h0__6 h0__7 h0__8 h0__9 : Int) (h0__10 h1_ : List Int) (r : R4_ai10rzi) (hF : f4_ai10rzi_j11 k x1 x8 x10 x39 x40 x41 h0_ h0__1 h0__2 h0__3 h0__4 h0__5 h0__6 h0__7 h0__8 h0__9 h0__10 h1_ = some r) : finK Tryd.prog Tryd.f4 0 (EX 4 k (nav B4 [2, 2, 2, 2, 2, 2, 2, 2, 2, 2]) ({ n := 79, F := [(1, V.p (Value.int .i64 x1)), (2, V.ptr 30000 0), (6, V.own 30001), (8, V.sl 1 (rowsOf (encI .u8) x8)), (10, V.p (Value.int .i64 x10)), (39, V.p (Value.int .i64 x39)), (40, V.p (Value.int .i64 x40)), (41, V.p (Value.bool x41))], M := [(30000, O.box 26 [V.p (Value.int .i64 h0_), V.p (Value.int .i64 h0__1), V.p (Value.int .u32 h0__2), V.p (Value.int .i64 h0__3), V.p (Value.int .i64 h0__4), V.p (Value.int .i64 h0__5), V.p (Value.int .i64 h0__6), V.p (Value.int .i64 h0__7), V.p (Value.int .i64 h0__8), V.p (Value.int .i64 h0__9), V.sl 1 (rowsOf (encI .u8) h0__10)]), (30001, O.row true 1 5 (rowsOf (encI .u8) h1_))] } : St)) = some r.st := by
  unfold f4_ai10rzi_j11 at hF
  simp (maxSteps := 999999) (disch := first | exact D (by decide) | exact K (by kernel_rfl)) only [E, EE, ↓reduceIte, simprocAttr, xk B4 [2, 2, 2, 2, 2, 2, 2, 2, 2, 2] .sq rfl, show (nav B4 [1, 2, 2, 2, 2, 2, 2, 2, 2, 2, 2]) = Code.region 18 _ false from rfl, hk_4_18, hz_4_18, hs_4_18, u_22, i_22, is_22, ib_22, iz_22]
  replace hF := cond_some hF
  rcases hF with ⟨h1, hF⟩ | ⟨h1, hF⟩
  · simp (maxSteps := 999999) (disch := first | exact D (by decide) | exact K (by kernel_rfl)) only [E, EE, ↓reduceIte, simprocAttr, fieldAddrV, u_26, i_26, is_26, ib_26, iz_26, u_3, i_3, is_3, ib_3, iz_3, u_4, i_4, is_4, ib_4, iz_4, h1]
    replace hF := cond_some hF
    rcases hF with ⟨h2, hF⟩ | ⟨h2, hF⟩
    · cases hF
      simp (maxSteps := 999999) (disch := first | exact D (by decide) | exact K (by kernel_rfl)) only [E, EE, ↓reduceIte, simprocAttr, xk B4 [2, 2, 2, 2, 2, 2, 2, 2, 2, 2, 2] .rt rfl, finK_norm, finK_ret, fin4, R4_ai10rzi.st, h1, h2]
    · cases hF
      simp (maxSteps := 999999) (disch := first | exact D (by decide) | exact K (by kernel_rfl)) only [E, EE, ↓reduceIte, simprocAttr, xk B4 [2, 2, 2, 2, 2, 2, 2, 2, 2, 2, 2] .rt rfl, finK_norm, finK_ret, fin4, R4_ai10rzi.st, h1, h2]
  · cases hF
    simp (maxSteps := 999999) (disch := first | exact D (by decide) | exact K (by kernel_rfl)) only [E, EE, ↓reduceIte, simprocAttr, xk B4 [2, 2, 2, 2, 2, 2, 2, 2, 2, 2, 2] .rt rfl, finK_norm, finK_ret, fin4, R4_ai10rzi.st, h1]
noncomputable def f4_ai10rzi_j9 (k : Nat) (x1 : Int) (x8 : List Int) (x37 : Bool) (m2 m2_1 m2_2 m2_3 m2_4 m2_5 m2_6 m2_7 m2_8 m2_9 : Int) (m2_10 m24 : List Int) : Option R4_ai10rzi :=
  Option.bind (f4_ai10rzi_l10 k k x1 x8 0 ((List.length m24) : Int) 0 m2 m2_1 m2_2 m2_3 m2_4 m2_5 m2_6 m2_7 m2_8 m2_9 m2_10 m24) fun o1 =>
    match o1 with
    | .o0 _ _ _ _ _ _ _ _ _ _ _ _ _ _ _ _ _ =>
      none
    | .o1 v4 v5 v6 v7 v8 v9 v10 v11 v12 v13 v14 v15 v16 v17 v18 v19 v20 v21 =>
      f4_ai10rzi_j11 k v4 v5 v6 v7 v8 v9 v10 v11 v12 v13 v14 v15 v16 v17 v18 v19 v20 v21
theorem f4_ai10rzi_j9_ok (k : Nat) (x1 : Int) (x8 : List Int) (x37 : Bool) (m2 m2_1 m2_2 m2_3 m2_4 m2_5 m2_6 m2_7 m2_8 m2_9 : Int) (m2_10 m24 : List Int) (r : R4_ai10rzi) (hF : f4_ai10rzi_j9 k x1 x8 x37 m2 m2_1 m2_2 m2_3 m2_4 m2_5 m2_6 m2_7 m2_8 m2_9 m2_10 m24 = some r) : finK Tryd.prog Tryd.f4 0 (EX 4 k (nav B4 [2, 2, 2, 2, 2, 2, 2, 2]) ({ n := 79, F := [(1, V.p (Value.int .i64 x1)), (2, V.ptr 2 0), (6, V.own 24), (8, V.sl 1 (rowsOf (encI .u8) x8)), (37, V.p (Value.bool x37))], M := [(2, O.box 26 [V.p (Value.int .i64 m2), V.p (Value.int .i64 m2_1), V.p (Value.int .u32 m2_2), V.p (Value.int .i64 m2_3), V.p (Value.int .i64 m2_4), V.p (Value.int .i64 m2_5), V.p (Value.int .i64 m2_6), V.p (Value.int .i64 m2_7), V.p (Value.int .i64 m2_8), V.p (Value.int .i64 m2_9), V.sl 1 (rowsOf (encI .u8) m2_10)]), (24, O.row true 1 5 (rowsOf (encI .u8) m24))] } : St)) = some r.st := by
  unfold f4_ai10rzi_j9 at hF
  replace hF := Option.bind_eq_some_iff.1 hF
  obtain ⟨o1, h2, hF⟩ := hF
  have hc3 := f4_ai10rzi_l10_ok k k x1 x8 0 ((List.length m24) : Int) 0 m2 m2_1 m2_2 m2_3 m2_4 m2_5 m2_6 m2_7 m2_8 m2_9 m2_10 m24 _ h2
  simp (maxSteps := 999999) (disch := first | exact D (by decide) | exact K (by kernel_rfl)) only [E, EE, ↓reduceIte, simprocAttr, xk B4 [2, 2, 2, 2, 2, 2, 2, 2] .sq rfl, show (nav B4 [1, 2, 2, 2, 2, 2, 2, 2, 2]) = Code.region 11 _ false from rfl, hk_4_11, hz_4_11, hs_4_11, xk B4 [2, 2, 2, 2, 2, 2, 2, 2, 2] .sq rfl, xk B4 [1, 2, 2, 2, 2, 2, 2, 2, 2, 2] .sq rfl, show (nav B4 [1, 1, 2, 2, 2, 2, 2, 2, 2, 2, 2]) = Code.region 12 _ false from rfl, hk_4_12, hz_4_12, hs_4_12, u_22, i_22, is_22, ib_22, iz_22, xk B4 [2, 1, 2, 2, 2, 2, 2, 2, 2, 2, 2] (.bk 0) rfl, xk B4 [2, 2, 1, 2, 2, 2, 2, 2, 2, 2, 2, 2] .lp rfl, hh_4_13, hc_4_13]
  (try simp only [NM, EE] at hc3)
  rw [hc3 _ (by simp (maxSteps := 999999) (disch := first | exact D (by decide) | exact K (by kernel_rfl)) only [E, EE, ↓reduceIte, simprocAttr, hh_4_13, hc_4_13])]
  clear hc3
  cases o1 with
  | o0 _ _ _ _ _ _ _ _ _ _ _ _ _ _ _ _ _ =>
    (try dsimp only at hF)
    cases hF
  | o1 v4 v5 v6 v7 v8 v9 v10 v11 v12 v13 v14 v15 v16 v17 v18 v19 v20 v21 =>
    (try dsimp only at hF)
    have hJ := f4_ai10rzi_j11_ok k v4 v5 v6 v7 v8 v9 v10 v11 v12 v13 v14 v15 v16 v17 v18 v19 v20 v21 _ hF
    simp (maxSteps := 999999) (disch := first | exact D (by decide) | exact K (by kernel_rfl)) only [E, EE, ↓reduceIte, simprocAttr, R4_ai10rzi_l10.st]
    try simp only [NM, EE] at hJ
    exact hJ
inductive R4_ai10rzi_l13 where
  | o0 (y y_1 y_2 y_3 y_4 y_5 y_6 y_7 y_8 y_9 y_10 y_11 y_12 y_13 : Int) (y_14 y_15 y_16 : List Int)
  | o1 (y y_1 y_2 y_3 : Int) (y_4 : Bool) (y_5 y_6 y_7 y_8 y_9 y_10 y_11 y_12 y_13 y_14 : Int) (y_15 y_16 y_17 : List Int)
noncomputable def R4_ai10rzi_l13.st : R4_ai10rzi_l13 → Out × St
  | .o0 y y_1 y_2 y_3 y_4 y_5 y_6 y_7 y_8 y_9 y_10 y_11 y_12 y_13 y_14 y_15 y_16 => (.norm, ({ n := 79, F := [(1, V.p (Value.int .i64 y)), (2, V.ptr 30000 0), (6, V.own 30001), (8, V.own 30002), (10, V.p (Value.int .i64 y_1)), (39, V.p (Value.int .i64 y_2)), (40, V.p (Value.int .i64 y_3))], M := [(30000, O.box 26 [V.p (Value.int .i64 y_4), V.p (Value.int .i64 y_5), V.p (Value.int .u32 y_6), V.p (Value.int .i64 y_7), V.p (Value.int .i64 y_8), V.p (Value.int .i64 y_9), V.p (Value.int .i64 y_10), V.p (Value.int .i64 y_11), V.p (Value.int .i64 y_12), V.p (Value.int .i64 y_13), V.sl 1 (rowsOf (encI .u8) y_14)]), (30001, O.row true 1 5 (rowsOf (encI .u8) y_15)), (30002, O.row true 1 5 (rowsOf (encI .u8) y_16))] } : St))
  | .o1 y y_1 y_2 y_3 y_4 y_5 y_6 y_7 y_8 y_9 y_10 y_11 y_12 y_13 y_14 y_15 y_16 y_17 => (.exit 0, ({ n := 79, F := [(1, V.p (Value.int .i64 y)), (2, V.ptr 30000 0), (6, V.own 30001), (8, V.own 30002), (10, V.p (Value.int .i64 y_1)), (39, V.p (Value.int .i64 y_2)), (40, V.p (Value.int .i64 y_3)), (41, V.p (Value.bool y_4))], M := [(30000, O.box 26 [V.p (Value.int .i64 y_5), V.p (Value.int .i64 y_6), V.p (Value.int .u32 y_7), V.p (Value.int .i64 y_8), V.p (Value.int .i64 y_9), V.p (Value.int .i64 y_10), V.p (Value.int .i64 y_11), V.p (Value.int .i64 y_12), V.p (Value.int .i64 y_13), V.p (Value.int .i64 y_14), V.sl 1 (rowsOf (encI .u8) y_15)]), (30001, O.row true 1 5 (rowsOf (encI .u8) y_16)), (30002, O.row true 1 5 (rowsOf (encI .u8) y_17))] } : St))
noncomputable def f4_ai10rzi_l13_j2 (k : Nat) (x1 x10 x39 x40 h0_ h0__1 h0__2 h0__3 h0__4 h0__5 h0__6 h0__7 h0__8 h0__9 : Int) (h0__10 h1_ h2_ : List Int) : Option R4_ai10rzi_l13 :=
  some (R4_ai10rzi_l13.o0 x1 x10 x39 (IntKind.i64.wrap (x40 + (1 : Int))) h0_ h0__1 h0__2 h0__3 h0__4 h0__5 h0__6 h0__7 h0__8 h0__9 h0__10 h1_ h2_)
theorem f4_ai10rzi_l13_j2_ok (k : Nat) (x1 x10 x39 x40 h0_ h0__1 h0__2 h0__3 h0__4 h0__5 h0__6 h0__7 h0__8 h0__9 : Int) (h0__10 h1_ h2_ : List Int) (r : R4_ai10rzi_l13) (hF : f4_ai10rzi_l13_j2 k x1 x10 x39 x40 h0_ h0__1 h0__2 h0__3 h0__4 h0__5 h0__6 h0__7 h0__8 h0__9 h0__10 h1_ h2_ = some r) : EX 4 k (nav B4 [2, 2, 2, 1, 2, 2, 1, 2, 2, 2, 2, 2, 2, 2, 2, 2]) ({ n := 79, F := [(1, V.p (Value.int .i64 x1)), (2, V.ptr 30000 0), (6, V.own 30001), (8, V.own 30002), (10, V.p (Value.int .i64 x10)), (39, V.p (Value.int .i64 x39)), (40, V.p (Value.int .i64 x40))], M := [(30000, O.box 26 [V.p (Value.int .i64 h0_), V.p (Value.int .i64 h0__1), V.p (Value.int .u32 h0__2), V.p (Value.int .i64 h0__3), V.p (Value.int .i64 h0__4), V.p (Value.int .i64 h0__5), V.p (Value.int .i64 h0__6), V.p (Value.int .i64 h0__7), V.p (Value.int .i64 h0__8), V.p (Value.int .i64 h0__9), V.sl 1 (rowsOf (encI .u8) h0__10)]), (30001, O.row true 1 5 (rowsOf (encI .u8) h1_)), (30002, O.row true 1 5 (rowsOf (encI .u8) h2_))] } : St) = some r.st := by
  unfold f4_ai10rzi_l13_j2 at hF
  cases hF
  simp (maxSteps := 999999) (disch := first | exact D (by decide) | exact K (by kernel_rfl)) only [E, EE, ↓reduceIte, simprocAttr, show (nav B4 [2, 2, 2, 1, 2, 2, 1, 2, 2, 2, 2, 2, 2, 2, 2, 2]) = Code.region 17 _ false from rfl, hk_4_17, hz_4_17, hs_4_17, R4_ai10rzi_l13.st]
noncomputable def f4_ai10rzi_l13_j3 (k : Nat) (x1 x10 x39 x40 : Int) (x57 : Bool) (h0_ h0__1 h0__2 h0__3 h0__4 h0__5 h0__6 h0__7 h0__8 h0__9 : Int) (h0__10 h1_ h2_ : List Int) : Option R4_ai10rzi_l13 :=
  some (R4_ai10rzi_l13.o0 x1 x10 x39 (IntKind.i64.wrap (x40 + (1 : Int))) h0_ h0__1 h0__2 h0__3 h0__4 h0__5 h0__6 h0__7 h0__8 h0__9 h0__10 h1_ h2_)
theorem f4_ai10rzi_l13_j3_ok (k : Nat) (x1 x10 x39 x40 : Int) (x57 : Bool) (h0_ h0__1 h0__2 h0__3 h0__4 h0__5 h0__6 h0__7 h0__8 h0__9 : Int) (h0__10 h1_ h2_ : List Int) (r : R4_ai10rzi_l13) (hF : f4_ai10rzi_l13_j3 k x1 x10 x39 x40 x57 h0_ h0__1 h0__2 h0__3 h0__4 h0__5 h0__6 h0__7 h0__8 h0__9 h0__10 h1_ h2_ = some r) : EX 4 k (nav B4 [2, 2, 2, 1, 2, 2, 1, 2, 2, 2, 2, 2, 2, 2, 2, 2]) ({ n := 79, F := [(1, V.p (Value.int .i64 x1)), (2, V.ptr 30000 0), (6, V.own 30001), (8, V.own 30002), (10, V.p (Value.int .i64 x10)), (39, V.p (Value.int .i64 x39)), (40, V.p (Value.int .i64 x40)), (57, V.p (Value.bool x57))], M := [(30000, O.box 26 [V.p (Value.int .i64 h0_), V.p (Value.int .i64 h0__1), V.p (Value.int .u32 h0__2), V.p (Value.int .i64 h0__3), V.p (Value.int .i64 h0__4), V.p (Value.int .i64 h0__5), V.p (Value.int .i64 h0__6), V.p (Value.int .i64 h0__7), V.p (Value.int .i64 h0__8), V.p (Value.int .i64 h0__9), V.sl 1 (rowsOf (encI .u8) h0__10)]), (30001, O.row true 1 5 (rowsOf (encI .u8) h1_)), (30002, O.row true 1 5 (rowsOf (encI .u8) h2_))] } : St) = some r.st := by
  unfold f4_ai10rzi_l13_j3 at hF
  cases hF
  simp (maxSteps := 999999) (disch := first | exact D (by decide) | exact K (by kernel_rfl)) only [E, EE, ↓reduceIte, simprocAttr, show (nav B4 [2, 2, 2, 1, 2, 2, 1, 2, 2, 2, 2, 2, 2, 2, 2, 2]) = Code.region 17 _ false from rfl, hk_4_17, hz_4_17, hs_4_17, R4_ai10rzi_l13.st]
noncomputable def f4_ai10rzi_l13_j1 (k : Nat) (x1 x10 x39 x40 : Int) (x41 : Bool) (h0_ h0__1 h0__2 h0__3 h0__4 h0__5 h0__6 h0__7 h0__8 h0__9 : Int) (h0__10 h1_ h2_ : List Int) : Option R4_ai10rzi_l13 :=
  cond ((decide (x40 ≥ ((List.length h2_) : Int))))
    (f4_ai10rzi_l13_j2 k x1 (IntKind.i64.wrap (x10 + (1 : Int))) x39 x40 h0_ h0__1 h0__2 h0__3 h0__4 h0__5 h0__6 h0__7 h0__8 h0__9 h0__10 h1_ h2_)
    (
      ifE ((0 : Int) ≤ x40) (
        ifE (x40 < ((List.length h1_) : Int)) (
          Option.bind (h1_[(Int.toNat x40)]?) fun v4 =>
            ifE (x40 < ((List.length h2_) : Int)) (
              Option.bind (h2_[(Int.toNat x40)]?) fun v7 =>
                cond ((v4 != v7))
                  (f4_ai10rzi_l13_j2 k x1 (IntKind.i64.wrap (x10 + (1 : Int))) x39 x40 h0_ h0__1 h0__2 h0__3 h0__4 h0__5 h0__6 h0__7 h0__8 h0__9 h0__10 h1_ h2_)
                  (f4_ai10rzi_l13_j3 k x1 x10 x39 x40 false h0_ h0__1 h0__2 h0__3 h0__4 h0__5 h0__6 h0__7 h0__8 h0__9 h0__10 h1_ h2_)))))
theorem f4_ai10rzi_l13_j1_ok (k : Nat) (x1 x10 x39 x40 : Int) (x41 : Bool) (h0_ h0__1 h0__2 h0__3 h0__4 h0__5 h0__6 h0__7 h0__8 h0__9 : Int) (h0__10 h1_ h2_ : List Int) (r : R4_ai10rzi_l13) (hF : f4_ai10rzi_l13_j1 k x1 x10 x39 x40 x41 h0_ h0__1 h0__2 h0__3 h0__4 h0__5 h0__6 h0__7 h0__8 h0__9 h0__10 h1_ h2_ = some r) : EX 4 k (nav B4 [2, 2, 1, 2, 2, 1, 2, 2, 2, 2, 2, 2, 2, 2, 2]) ({ n := 79, F := [(1, V.p (Value.int .i64 x1)), (2, V.ptr 30000 0), (6, V.own 30001), (8, V.own 30002), (10, V.p (Value.int .i64 x10)), (39, V.p (Value.int .i64 x39)), (40, V.p (Value.int .i64 x40)), (41, V.p (Value.bool x41))], M := [(30000, O.box 26 [V.p (Value.int .i64 h0_), V.p (Value.int .i64 h0__1), V.p (Value.int .u32 h0__2), V.p (Value.int .i64 h0__3), V.p (Value.int .i64 h0__4), V.p (Value.int .i64 h0__5), V.p (Value.int .i64 h0__6), V.p (Value.int .i64 h0__7), V.p (Value.int .i64 h0__8), V.p (Value.int .i64 h0__9), V.sl 1 (rowsOf (encI .u8) h0__10)]), (30001, O.row true 1 5 (rowsOf (encI .u8) h1_)), (30002, O.row true 1 5 (rowsOf (encI .u8) h2_))] } : St) = some r.st := by
  unfold f4_ai10rzi_l13_j1 at hF
  simp (maxSteps := 999999) (disch := first | exact D (by decide) | exact K (by kernel_rfl)) only [E, EE, ↓reduceIte, simprocAttr, xk B4 [2, 2, 1, 2, 2, 1, 2, 2, 2, 2, 2, 2, 2, 2, 2] .sq rfl, xk B4 [1, 2, 2, 1, 2, 2, 1, 2, 2, 2, 2, 2, 2, 2, 2, 2] (.bk 1) rfl, xk B4 [2, 1, 2, 2, 1, 2, 2, 1, 2, 2, 2, 2, 2, 2, 2, 2, 2] .sq rfl, show (nav B4 [1, 2, 1, 2, 2, 1, 2, 2, 1, 2, 2, 2, 2, 2, 2, 2, 2, 2]) = Code.region 14 _ false from rfl, hk_4_14, hz_4_14, hs_4_14, xk B4 [2, 2, 1, 2, 2, 1, 2, 2, 1, 2, 2, 2, 2, 2, 2, 2, 2, 2] .sq rfl, show (nav B4 [1, 2, 2, 1, 2, 2, 1, 2, 2, 1, 2, 2, 2, 2, 2, 2, 2, 2, 2]) = Code.region 15 _ true from rfl, hk_4_15, hz_4_15, hs_4_15, u_22, i_22, is_22, ib_22, iz_22]
  replace hF := cond_some hF
  rcases hF with ⟨h1, hF⟩ | ⟨h1, hF⟩
  · have hJ := f4_ai10rzi_l13_j2_ok k x1 (IntKind.i64.wrap (x10 + (1 : Int))) x39 x40 h0_ h0__1 h0__2 h0__3 h0__4 h0__5 h0__6 h0__7 h0__8 h0__9 h0__10 h1_ h2_ _ hF
    simp (maxSteps := 999999) (disch := first | exact D (by decide) | exact K (by kernel_rfl)) only [E, EE, ↓reduceIte, simprocAttr, xk B4 [2, 2, 2, 1, 2, 2, 1, 2, 2, 1, 2, 2, 2, 2, 2, 2, 2, 2, 2] (.cd 57) rfl, show (nav B4 [2, 2, 2, 2, 1, 2, 2, 1, 2, 2, 1, 2, 2, 2, 2, 2, 2, 2, 2, 2]) = Code.region 16 _ false from rfl, hk_4_16, hz_4_16, hs_4_16, h1]
    try simp only [NM, EE] at hJ
    exact hJ
  · replace hF := ifE_some.1 hF
    obtain ⟨h2, hF⟩ := hF
    replace hF := ifE_some.1 hF
    obtain ⟨h3, hF⟩ := hF
    replace hF := Option.bind_eq_some_iff.1 hF
    obtain ⟨v4, h5, hF⟩ := hF
    replace hF := ifE_some.1 hF
    obtain ⟨h6, hF⟩ := hF
    replace hF := Option.bind_eq_some_iff.1 hF
    obtain ⟨v7, h8, hF⟩ := hF
    simp (maxSteps := 999999) (disch := first | exact D (by decide) | exact K (by kernel_rfl)) only [E, EE, ↓reduceIte, simprocAttr, indexAddrV, u_22, i_22, is_22, ib_22, iz_22, u_5, i_5, is_5, ib_5, iz_5, encI_eq, xk B4 [2, 2, 2, 1, 2, 2, 1, 2, 2, 1, 2, 2, 2, 2, 2, 2, 2, 2, 2] (.cd 57) rfl, h1, h2, h3, h5, h6, h8]
    replace hF := cond_some hF
    rcases hF with ⟨h9, hF⟩ | ⟨h9, hF⟩
    · have hJ := f4_ai10rzi_l13_j2_ok k x1 (IntKind.i64.wrap (x10 + (1 : Int))) x39 x40 h0_ h0__1 h0__2 h0__3 h0__4 h0__5 h0__6 h0__7 h0__8 h0__9 h0__10 h1_ h2_ _ hF
      simp (maxSteps := 999999) (disch := first | exact D (by decide) | exact K (by kernel_rfl)) only [E, EE, ↓reduceIte, simprocAttr, show (nav B4 [2, 2, 2, 2, 1, 2, 2, 1, 2, 2, 1, 2, 2, 2, 2, 2, 2, 2, 2, 2]) = Code.region 16 _ false from rfl, hk_4_16, hz_4_16, hs_4_16, h1, h2, h3, h5, h6, h8, h9]
      try simp only [NM, EE] at hJ
      exact hJ
    · have hJ := f4_ai10rzi_l13_j3_ok k x1 x10 x39 x40 false h0_ h0__1 h0__2 h0__3 h0__4 h0__5 h0__6 h0__7 h0__8 h0__9 h0__10 h1_ h2_ _ hF
      simp (maxSteps := 999999) (disch := first | exact D (by decide) | exact K (by kernel_rfl)) only [E, EE, ↓reduceIte, simprocAttr, xk B4 [3, 2, 2, 2, 1, 2, 2, 1, 2, 2, 1, 2, 2, 2, 2, 2, 2, 2, 2, 2] .sk rfl, h1, h2, h3, h5, h6, h8, h9]
      try simp only [NM, EE] at hJ
      exact hJ
noncomputable def f4_ai10rzi_l13_b (k : Nat) (x1 x10 x39 x40 h0_ h0__1 h0__2 h0__3 h0__4 h0__5 h0__6 h0__7 h0__8 h0__9 : Int) (h0__10 h1_ h2_ : List Int) : Option R4_ai10rzi_l13 :=
  cond ((decide (x40 < x39)))
    (f4_ai10rzi_l13_j1 k x1 x10 x39 x40 true h0_ h0__1 h0__2 h0__3 h0__4 h0__5 h0__6 h0__7 h0__8 h0__9 h0__10 h1_ h2_)
    (some (R4_ai10rzi_l13.o1 x1 x10 x39 x40 false h0_ h0__1 h0__2 h0__3 h0__4 h0__5 h0__6 h0__7 h0__8 h0__9 h0__10 h1_ h2_))
theorem f4_ai10rzi_l13_b_ok (k : Nat) (x1 x10 x39 x40 h0_ h0__1 h0__2 h0__3 h0__4 h0__5 h0__6 h0__7 h0__8 h0__9 : Int) (h0__10 h1_ h2_ : List Int) (r : R4_ai10rzi_l13) (hF : f4_ai10rzi_l13_b k x1 x10 x39 x40 h0_ h0__1 h0__2 h0__3 h0__4 h0__5 h0__6 h0__7 h0__8 h0__9 h0__10 h1_ h2_ = some r) : EX 4 k (nav B4 [1, 2, 2, 1, 2, 2, 2, 2, 2, 2, 2, 2, 2]) ({ n := 79, F := [(1, V.p (Value.int .i64 x1)), (2, V.ptr 30000 0), (6, V.own 30001), (8, V.own 30002), (10, V.p (Value.int .i64 x10)), (39, V.p (Value.int .i64 x39)), (40, V.p (Value.int .i64 x40))], M := [(30000, O.box 26 [V.p (Value.int .i64 h0_), V.p (Value.int .i64 h0__1), V.p (Value.int .u32 h0__2), V.p (Value.int .i64 h0__3), V.p (Value.int .i64 h0__4), V.p (Value.int .i64 h0__5), V.p (Value.int .i64 h0__6), V.p (Value.int .i64 h0__7), V.p (Value.int .i64 h0__8), V.p (Value.int .i64 h0__9), V.sl 1 (rowsOf (encI .u8) h0__10)]), (30001, O.row true 1 5 (rowsOf (encI .u8) h1_)), (30002, O.row true 1 5 (rowsOf (encI .u8) h2_))] } : St) = some r.st := by
  unfold f4_ai10rzi_l13_b at hF
  simp (maxSteps := 999999) (disch := first | exact D (by decide) | exact K (by kernel_rfl)) only [E, EE, ↓reduceIte, simprocAttr, xk B4 [1, 2, 2, 1, 2, 2, 2, 2, 2, 2, 2, 2, 2] .sq rfl, show (nav B4 [1, 1, 2, 2, 1, 2, 2, 2, 2, 2, 2, 2, 2, 2]) = Code.region 13 _ false from rfl, hk_4_13, hz_4_13, hs_4_13, xk B4 [2, 1, 2, 2, 1, 2, 2, 2, 2, 2, 2, 2, 2, 2] .sq rfl, xk B4 [1, 2, 1, 2, 2, 1, 2, 2, 2, 2, 2, 2, 2, 2, 2] (.cd 41) rfl]
  replace hF := cond_some hF
  rcases hF with ⟨h1, hF⟩ | ⟨h1, hF⟩
  · have hJ := f4_ai10rzi_l13_j1_ok k x1 x10 x39 x40 true h0_ h0__1 h0__2 h0__3 h0__4 h0__5 h0__6 h0__7 h0__8 h0__9 h0__10 h1_ h2_ _ hF
    simp (maxSteps := 999999) (disch := first | exact D (by decide) | exact K (by kernel_rfl)) only [E, EE, ↓reduceIte, simprocAttr, xk B4 [2, 1, 2, 1, 2, 2, 1, 2, 2, 2, 2, 2, 2, 2, 2, 2] .sk rfl, h1]
    try simp only [NM, EE] at hJ
    exact hJ
  · cases hF
    simp (maxSteps := 999999) (disch := first | exact D (by decide) | exact K (by kernel_rfl)) only [E, EE, ↓reduceIte, simprocAttr, xk B4 [3, 1, 2, 1, 2, 2, 1, 2, 2, 2, 2, 2, 2, 2, 2, 2] (.ex 0) rfl, R4_ai10rzi_l13.st, h1]
noncomputable def f4_ai10rzi_l13 (k : Nat) : Nat → Int → Int → Int → Int → Int → Int → Int → Int → Int → Int → Int → Int → Int → Int → (List Int) → (List Int) → (List Int) → Option R4_ai10rzi_l13
  | 0, _, _, _, _, _, _, _, _, _, _, _, _, _, _, _, _, _ => none
  | n + 1, x1, x10, x39, x40, h0_, h0__1, h0__2, h0__3, h0__4, h0__5, h0__6, h0__7, h0__8, h0__9, h0__10, h1_, h2_ => Option.bind (f4_ai10rzi_l13_b k x1 x10 x39 x40 h0_ h0__1 h0__2 h0__3 h0__4 h0__5 h0__6 h0__7 h0__8 h0__9 h0__10 h1_ h2_) fun o =>
    match o with
    | .o0 y y_1 y_2 y_3 y_4 y_5 y_6 y_7 y_8 y_9 y_10 y_11 y_12 y_13 y_14 y_15 y_16 => f4_ai10rzi_l13 k n y y_1 y_2 y_3 y_4 y_5 y_6 y_7 y_8 y_9 y_10 y_11 y_12 y_13 y_14 y_15 y_16
    | .o1 y y_1 y_2 y_3 y_4 y_5 y_6 y_7 y_8 y_9 y_10 y_11 y_12 y_13 y_14 y_15 y_16 y_17 => some (.o1 y y_1 y_2 y_3 y_4 y_5 y_6 y_7 y_8 y_9 y_10 y_11 y_12 y_13 y_14 y_15 y_16 y_17)
theorem f4_ai10rzi_l13_ok (k n : Nat) : ∀ (x1 x10 x39 x40 h0_ h0__1 h0__2 h0__3 h0__4 h0__5 h0__6 h0__7 h0__8 h0__9 : Int) (h0__10 h1_ h2_ : List Int) (r : R4_ai10rzi_l13) (hF : f4_ai10rzi_l13 k n x1 x10 x39 x40 h0_ h0__1 h0__2 h0__3 h0__4 h0__5 h0__6 h0__7 h0__8 h0__9 h0__10 h1_ h2_ = some r) (σ : St) (hσ : headR (hints.head 4 13) (hints.canon 4 13) σ = some ({ n := 79, F := [(1, V.p (Value.int .i64 x1)), (2, V.ptr 30000 0), (6, V.own 30001), (8, V.own 30002), (10, V.p (Value.int .i64 x10)), (39, V.p (Value.int .i64 x39)), (40, V.p (Value.int .i64 x40))], M := [(30000, O.box 26 [V.p (Value.int .i64 h0_), V.p (Value.int .i64 h0__1), V.p (Value.int .u32 h0__2), V.p (Value.int .i64 h0__3), V.p (Value.int .i64 h0__4), V.p (Value.int .i64 h0__5), V.p (Value.int .i64 h0__6), V.p (Value.int .i64 h0__7), V.p (Value.int .i64 h0__8), V.p (Value.int .i64 h0__9), V.sl 1 (rowsOf (encI .u8) h0__10)]), (30001, O.row true 1 5 (rowsOf (encI .u8) h1_)), (30002, O.row true 1 5 (rowsOf (encI .u8) h2_))] } : St)), LP 4 k (nav B4 [1, 2, 2, 1, 2, 2, 2, 2, 2, 2, 2, 2, 2]) n σ = some r.st := by
  induction n with
  | zero => intro x1 x10 x39 x40 h0_ h0__1 h0__2 h0__3 h0__4 h0__5 h0__6 h0__7 h0__8 h0__9 h0__10 h1_ h2_ r hF; cases hF
  | succ n ih =>
    intro x1 x10 x39 x40 h0_ h0__1 h0__2 h0__3 h0__4 h0__5 h0__6 h0__7 h0__8 h0__9 h0__10 h1_ h2_ r hF σ hσ
    rw [f4_ai10rzi_l13] at hF
    obtain ⟨o, h, hF⟩ := Option.bind_eq_some_iff.1 hF
    have hB := f4_ai10rzi_l13_b_ok k x1 x10 x39 x40 h0_ h0__1 h0__2 h0__3 h0__4 h0__5 h0__6 h0__7 h0__8 h0__9 h0__10 h1_ h2_ o h
    unfold LP at ih ⊢
    unfold EX at hB
    rw [loopK_succ, show firstReg (nav B4 [1, 2, 2, 1, 2, 2, 2, 2, 2, 2, 2, 2, 2]) = 13 from rfl, hσ, headK_some, hB]
    cases o with
    | o0 y y_1 y_2 y_3 y_4 y_5 y_6 y_7 y_8 y_9 y_10 y_11 y_12 y_13 y_14 y_15 y_16 =>
      refine ih y y_1 y_2 y_3 y_4 y_5 y_6 y_7 y_8 y_9 y_10 y_11 y_12 y_13 y_14 y_15 y_16 r hF _ ?_
      simp (maxSteps := 999999) (disch := first | exact D (by decide) | exact K (by kernel_rfl)) only [E, EE, ↓reduceIte, simprocAttr, hh_4_13, hc_4_13]
    | o1 y y_1 y_2 y_3 y_4 y_5 y_6 y_7 y_8 y_9 y_10 y_11 y_12 y_13 y_14 y_15 y_16 y_17 => cases hF; rfl
noncomputable def f4_ai10rzi_j14 (k : Nat) (x1 x10 x39 x40 : Int) (x41 : Bool) (h0_ h0__1 h0__2 h0__3 h0__4 h0__5 h0__6 h0__7 h0__8 h0__9 : Int) (h0__10 h1_ h2_ : List Int) : Option R4_ai10rzi :=
  cond ((((List.length h1_) : Int) == ((List.length h2_) : Int)))
    (
      cond (((x10 == 0) == (h0__6 == x1)))
        (some (R4_ai10rzi.o0 (decide (x10 ≤ 1))))
        (some (R4_ai10rzi.o0 false)))
    (some (R4_ai10rzi.o0 false))
theorem f4_ai10rzi_j14_ok (k : Nat) (x1 x10 x39 x40 : Int) (x41 : Bool) (h0_ h0__1 h0__2 h0__3 h0__4 h0__5 h0__6 h0__7 h0__8 h0__9 : Int) (h0__10 h1_ h2_ : List Int) (r : R4_ai10rzi) (hF : f4_ai10rzi_j14 k x1 x10 x39 x40 x41 h0_ h0__1 h0__2 h0__3 h0__4 h0__5 h0__6 h0__7 h0__8 h0__9 h0__10 h1_ h2_ = some r) : finK Tryd.prog Tryd.f4 0 (EX 4 k (nav B4 [2, 2, 2, 2, 2, 2, 2, 2, 2, 2]) ({ n := 79, F := [(1, V.p (Value.int .i64 x1)), (2, V.ptr 30000 0), (6, V.own 30001), (8, V.own 30002), (10, V.p (Value.int .i64 x10)), (39, V.p (Value.int .i64 x39)), (40, V.p (Value.int .i64 x40)), (41, V.p (Value.bool x41))], M := [(30000, O.box 26 [V.p (Value.int .i64 h0_), V.p (Value.int .i64 h0__1), V.p (Value.int .u32 h0__2), V.p (Value.int .i64 h0__3), V.p (Value.int .i64 h0__4), V.p (Value.int .i64 h0__5), V.p (Value.int .i64 h0__6), V.p (Value.int .i64 h0__7), V.p (Value.int .i64 h0__8), V.p (Value.int .i64 h0__9), V.sl 1 (rowsOf (encI .u8) h0__10)]), (30001, O.row true 1 5 (rowsOf (encI .u8) h1_)), (30002, O.row true 1 5 (rowsOf (encI .u8) h2_))] } : St)) = some r.st := by
  unfold f4_ai10rzi_j14 at hF
  simp (maxSteps := 999999) (disch := first | exact D (by decide) | exact K (by kernel_rfl)) only [E, EE, ↓reduceIte, simprocAttr, xk B4 [2, 2, 2, 2, 2, 2, 2, 2, 2, 2] .sq rfl, show (nav B4 [1, 2, 2, 2, 2, 2, 2, 2, 2, 2, 2]) = Code.region 18 _ false from rfl, hk_4_18, hz_4_18, hs_4_18, u_22, i_22, is_22, ib_22, iz_22]
  replace hF := cond_some hF
  rcases hF with ⟨h1, hF⟩ | ⟨h1, hF⟩
  · simp (maxSteps := 999999) (disch := first | exact D (by decide) | exact K (by kernel_rfl)) only [E, EE, ↓reduceIte, simprocAttr, fieldAddrV, u_26, i_26, is_26, ib_26, iz_26, u_3, i_3, is_3, ib_3, iz_3, u_4, i_4, is_4, ib_4, iz_4, h1]
    replace hF := cond_some hF
    rcases hF with ⟨h2, hF⟩ | ⟨h2, hF⟩
    · cases hF
      simp (maxSteps := 999999) (disch := first | exact D (by decide) | exact K (by kernel_rfl)) only [E, EE, ↓reduceIte, simprocAttr, xk B4 [2, 2, 2, 2, 2, 2, 2, 2, 2, 2, 2] .rt rfl, finK_norm, finK_ret, fin4, R4_ai10rzi.st, h1, h2]
    · cases hF
      simp (maxSteps := 999999) (disch := first | exact D (by decide) | exact K (by kernel_rfl)) only [E, EE, ↓reduceIte, simprocAttr, xk B4 [2, 2, 2, 2, 2, 2, 2, 2, 2, 2, 2] .rt rfl, finK_norm, finK_ret, fin4, R4_ai10rzi.st, h1, h2]
  · cases hF
    simp (maxSteps := 999999) (disch := first | exact D (by decide) | exact K (by kernel_rfl)) only [E, EE, ↓reduceIte, simprocAttr, xk B4 [2, 2, 2, 2, 2, 2, 2, 2, 2, 2, 2] .rt rfl, finK_norm, finK_ret, fin4, R4_ai10rzi.st, h1]
noncomputable def f4_ai10rzi_j12 (k : Nat) (x1 : Int) (x37 : Bool) (m2 m2_1 m2_2 m2_3 m2_4 m2_5 m2_6 m2_7 m2_8 m2_9 : Int) (m2_10 m24 m29 : List Int) : Option R4_ai10rzi :=
  Option.bind (f4_ai10rzi_l13 k k x1 0 ((List.length m24) : Int) 0 m2 m2_1 m2_2 m2_3 m2_4 m2_5 m2_6 m2_7 m2_8 m2_9 m2_10 m24 m29) fun o1 =>
    match o1 with
    | .o0 _ _ _ _ _ _ _ _ _ _ _ _ _ _ _ _ _ =>
      none
    | .o1 v4 v5 v6 v7 v8 v9 v10 v11 v12 v13 v14 v15 v16 v17 v18 v19 v20 v21 =>
      f4_ai10rzi_j14 k v4 v5 v6 v7 v8 v9 v10 v11 v12 v13 v14 v15 v16 v17 v18 v19 v20 v21
theorem f4_ai10rzi_j12_ok (k : Nat) (x1 : Int) (x37 : Bool) (m2 m2_1 m2_2 m2_3 m2_4 m2_5 m2_6 m2_7 m2_8 m2_9 : Int) (m2_10 m24 m29 : List Int) (r : R4_ai10rzi) (hF : f4_ai10rzi_j12 k x1 x37 m2 m2_1 m2_2 m2_3 m2_4 m2_5 m2_6 m2_7 m2_8 m2_9 m2_10 m24 m29 = some r) : finK Tryd.prog Tryd.f4 0 (EX 4 k (nav B4 [2, 2, 2, 2, 2, 2, 2, 2]) ({ n := 79, F := [(1, V.p (Value.int .i64 x1)), (2, V.ptr 2 0), (6, V.own 24), (8, V.own 29), (37, V.p (Value.bool x37))], M := [(2, O.box 26 [V.p (Value.int .i64 m2), V.p (Value.int .i64 m2_1), V.p (Value.int .u32 m2_2), V.p (Value.int .i64 m2_3), V.p (Value.int .i64 m2_4), V.p (Value.int .i64 m2_5), V.p (Value.int .i64 m2_6), V.p (Value.int .i64 m2_7), V.p (Value.int .i64 m2_8), V.p (Value.int .i64 m2_9), V.sl 1 (rowsOf (encI .u8) m2_10)]), (24, O.row true 1 5 (rowsOf (encI .u8) m24)), (29, O.row true 1 5 (rowsOf (encI .u8) m29))] } : St)) = some r.st := by
  unfold f4_ai10rzi_j12 at hF
  replace hF := Option.bind_eq_some_iff.1 hF
  obtain ⟨o1, h2, hF⟩ := hF
  have hc3 := f4_ai10rzi_l13_ok k k x1 0 ((List.length m24) : Int) 0 m2 m2_1 m2_2 m2_3 m2_4 m2_5 m2_6 m2_7 m2_8 m2_9 m2_10 m24 m29 _ h2
  simp (maxSteps := 999999) (disch := first | exact D (by decide) | exact K (by kernel_rfl)) only [E, EE, ↓reduceIte, simprocAttr, xk B4 [2, 2, 2, 2, 2, 2, 2, 2] .sq rfl, show (nav B4 [1, 2, 2, 2, 2, 2, 2, 2, 2]) = Code.region 11 _ false from rfl, hk_4_11, hz_4_11, hs_4_11, xk B4 [2, 2, 2, 2, 2, 2, 2, 2, 2] .sq rfl, xk B4 [1, 2, 2, 2, 2, 2, 2, 2, 2, 2] .sq rfl, show (nav B4 [1, 1, 2, 2, 2, 2, 2, 2, 2, 2, 2]) = Code.region 12 _ false from rfl, hk_4_12, hz_4_12, hs_4_12, u_22, i_22, is_22, ib_22, iz_22, xk B4 [2, 1, 2, 2, 2, 2, 2, 2, 2, 2, 2] (.bk 0) rfl, xk B4 [2, 2, 1, 2, 2, 2, 2, 2, 2, 2, 2, 2] .lp rfl, hh_4_13, hc_4_13]
  (try simp only [NM, EE] at hc3)
  rw [hc3 _ (by simp (maxSteps := 999999) (disch := first | exact D (by decide) | exact K (by kernel_rfl)) only [E, EE, ↓reduceIte, simprocAttr, hh_4_13, hc_4_13])]
  clear hc3
  cases o1 with
  | o0 _ _ _ _ _ _ _ _ _ _ _ _ _ _ _ _ _ =>
    (try dsimp only at hF)
    cases hF
  | o1 v4 v5 v6 v7 v8 v9 v10 v11 v12 v13 v14 v15 v16 v17 v18 v19 v20 v21 =>
    (try dsimp only at hF)
    have hJ := f4_ai10rzi_j14_ok k v4 v5 v6 v7 v8 v9 v10 v11 v12 v13 v14 v15 v16 v17 v18 v19 v20 v21 _ hF
    simp (maxSteps := 999999) (disch := first | exact D (by decide) | exact K (by kernel_rfl)) only [E, EE, ↓reduceIte, simprocAttr, R4_ai10rzi_l13.st]
    try simp only [NM, EE] at hJ
    exact hJ
noncomputable def f4_ai10rzi_j2 (k : Nat) (x1 : Int) (x17 : Bool) (m2 m2_1 m2_2 m2_3 m2_4 m2_5 m2_6 m2_7 m2_8 m2_9 : Int) (m2_10 : List Int) : Option R4_ai10rzi :=
  Option.bind (f13_ai10rz k m2 m2_1 m2_2 m2_3 m2_4 m2_5 m2_6 m2_7 m2_8 m2_9 m2_10) fun o1 =>
    match o1 with
    | .o0 v4 v5 v6 v7 v8 v9 v10 v11 v12 v13 v14 =>
      Option.bind (f14_ai10rz k m2 m2_1 m2_2 m2_3 m2_4 m2_5 m2_6 m2_7 m2_8 m2_9 m2_10) fun o15 =>
        match o15 with
        | .o0 v18 v19 =>
          Option.bind (f14_ai10rz k v4 v5 v6 v7 v8 v9 x1 v11 v12 v13 v14) fun o20 =>
            match o20 with
            | .o0 v23 v24 =>
              cond ((v19 != 0))
                (some (R4_ai10rzi.o0 true))
                (
                  cond ((v24 != 0))
                    (some (R4_ai10rzi.o0 true))
                    (f4_ai10rzi_j3 k x1 v18 v23 false m2 m2_1 m2_2 m2_3 m2_4 m2_5 m2_6 m2_7 m2_8 m2_9 m2_10))
            | .o1 v27 v28 =>
              cond ((v19 != 0))
                (some (R4_ai10rzi.o0 true))
                (
                  cond ((v27 != 0))
                    (some (R4_ai10rzi.o0 true))
                    (f4_ai10rzi_j6 k x1 v18 false m2 m2_1 m2_2 m2_3 m2_4 m2_5 m2_6 m2_7 m2_8 m2_9 m2_10 v28))
        | .o1 v31 v32 =>
          Option.bind (f14_ai10rz k v4 v5 v6 v7 v8 v9 x1 v11 v12 v13 v14) fun o33 =>
            match o33 with
            | .o0 v36 v37 =>
              cond ((v31 != 0))
                (some (R4_ai10rzi.o0 true))
                (
                  cond ((v37 != 0))
                    (some (R4_ai10rzi.o0 true))
                    (f4_ai10rzi_j9 k x1 v36 false m2 m2_1 m2_2 m2_3 m2_4 m2_5 m2_6 m2_7 m2_8 m2_9 m2_10 v32))
            | .o1 v40 v41 =>
              cond ((v31 != 0))
                (some (R4_ai10rzi.o0 true))
                (
                  cond ((v40 != 0))
                    (some (R4_ai10rzi.o0 true))
                    (f4_ai10rzi_j12 k x1 false m2 m2_1 m2_2 m2_3 m2_4 m2_5 m2_6 m2_7 m2_8 m2_9 m2_10 v32 v41))
theorem f4_ai10rzi_j2_ok (k : Nat) (x1 : Int) (x17 : Bool) (m2 m2_1 m2_2 m2_3 m2_4 m2_5 m2_6 m2_7 m2_8 m2_9 : Int) (m2_10 : List Int) (r : R4_ai10rzi) (hF : f4_ai10rzi_j2 k x1 x17 m2 m2_1 m2_2 m2_3 m2_4 m2_5 m2_6 m2_7 m2_8 m2_9 m2_10 = some r) : finK Tryd.prog Tryd.f4 0 (EX 4 k (nav B4 [2, 2, 2]) ({ n := 79, F := [(1, V.p (Value.int .i64 x1)), (2, V.ptr 2 0), (17, V.p (Value.bool x17))], M := [(2, O.box 26 [V.p (Value.int .i64 m2), V.p (Value.int .i64 m2_1), V.p (Value.int .u32 m2_2), V.p (Value.int .i64 m2_3), V.p (Value.int .i64 m2_4), V.p (Value.int .i64 m2_5), V.p (Value.int .i64 m2_6), V.p (Value.int .i64 m2_7), V.p (Value.int .i64 m2_8), V.p (Value.int .i64 m2_9), V.sl 1 (rowsOf (encI .u8) m2_10)])] } : St)) = some r.st := by
  unfold f4_ai10rzi_j2 at hF
  replace hF := Option.bind_eq_some_iff.1 hF
  obtain ⟨o1, h2, hF⟩ := hF
  have hc3 := f13_ai10rz_ok k m2 m2_1 m2_2 m2_3 m2_4 m2_5 m2_6 m2_7 m2_8 m2_9 m2_10 _ h2
  cases o1 with
  | o0 v4 v5 v6 v7 v8 v9 v10 v11 v12 v13 v14 =>
    (try dsimp only at hF)
    (try simp only [NM, EE, R13_ai10rz.st] at hc3)
    simp (maxSteps := 999999) (disch := first | exact D (by decide) | exact K (by kernel_rfl)) only [E, EE, ↓reduceIte, simprocAttr, xk B4 [2, 2, 2] .sq rfl, show (nav B4 [1, 2, 2, 2]) = Code.region 5 _ false from rfl, hk_4_5, hz_4_5, hs_4_5, u_26, i_26, is_26, ib_26, iz_26, callStep, CL, gv, List.contains, xk B4 [2, 2, 2, 2] .sq rfl, show (nav B4 [1, 2, 2, 2, 2]) = Code.region 6 _ false from rfl, hk_4_6, hz_4_6, hs_4_6, fieldAddrV, u_3, i_3, is_3, ib_3, iz_3, xk B4 [2, 2, 2, 2, 2] .sq rfl, show (nav B4 [1, 2, 2, 2, 2, 2]) = Code.region 7 _ false from rfl, hk_4_7, hz_4_7, hs_4_7, hc3]
    replace hF := Option.bind_eq_some_iff.1 hF
    obtain ⟨o15, h16, hF⟩ := hF
    have hc17 := f14_ai10rz_ok k m2 m2_1 m2_2 m2_3 m2_4 m2_5 m2_6 m2_7 m2_8 m2_9 m2_10 _ h16
    cases o15 with
    | o0 v18 v19 =>
      (try dsimp only at hF)
      (try simp only [NM, EE, R14_ai10rz.st] at hc17)
      simp (maxSteps := 999999) (disch := first | exact D (by decide) | exact K (by kernel_rfl)) only [E, EE, ↓reduceIte, simprocAttr, xk B4 [2, 2, 2, 2, 2, 2] .sq rfl, show (nav B4 [1, 2, 2, 2, 2, 2, 2]) = Code.region 8 _ false from rfl, hk_4_8, hz_4_8, hs_4_8, u_26, i_26, is_26, ib_26, iz_26, callStep, CL, gv, List.contains, hc3, hc17]
      replace hF := Option.bind_eq_some_iff.1 hF
      obtain ⟨o20, h21, hF⟩ := hF
      have hc22 := f14_ai10rz_ok k v4 v5 v6 v7 v8 v9 x1 v11 v12 v13 v14 _ h21
      cases o20 with
      | o0 v23 v24 =>
        (try dsimp only at hF)
        (try simp only [NM, EE, R14_ai10rz.st] at hc22)
        simp (maxSteps := 999999) (disch := first | exact D (by decide) | exact K (by kernel_rfl)) only [E, EE, ↓reduceIte, simprocAttr, xk B4 [2, 2, 2, 2, 2, 2, 2] .sq rfl, xk B4 [1, 2, 2, 2, 2, 2, 2, 2] .sq rfl, show (nav B4 [1, 1, 2, 2, 2, 2, 2, 2, 2]) = Code.region 9 _ false from rfl, hk_4_9, hz_4_9, hs_4_9, hc3, hc17, hc22]
        replace hF := cond_some hF
        rcases hF with ⟨h25, hF⟩ | ⟨h25, hF⟩
        · cases hF
          simp (maxSteps := 999999) (disch := first | exact D (by decide) | exact K (by kernel_rfl)) only [E, EE, ↓reduceIte, simprocAttr, xk B4 [2, 1, 2, 2, 2, 2, 2, 2, 2] (.cd 37) rfl, xk B4 [2, 2, 1, 2, 2, 2, 2, 2, 2, 2] .sq rfl, show (nav B4 [1, 2, 2, 1, 2, 2, 2, 2, 2, 2, 2]) = Code.region 10 _ false from rfl, hk_4_10, hz_4_10, hs_4_10, xk B4 [2, 2, 2, 1, 2, 2, 2, 2, 2, 2, 2] .rt rfl, finK_norm, finK_ret, fin4, R4_ai10rzi.st, hc3, hc17, hc22, h25]
        · simp (maxSteps := 999999) (disch := first | exact D (by decide) | exact K (by kernel_rfl)) only [E, EE, ↓reduceIte, simprocAttr, xk B4 [2, 1, 2, 2, 2, 2, 2, 2, 2] (.cd 37) rfl, hc3, hc17, hc22, h25]
          replace hF := cond_some hF
          rcases hF with ⟨h26, hF⟩ | ⟨h26, hF⟩
          · cases hF
            simp (maxSteps := 999999) (disch := first | exact D (by decide) | exact K (by kernel_rfl)) only [E, EE, ↓reduceIte, simprocAttr, xk B4 [2, 2, 1, 2, 2, 2, 2, 2, 2, 2] .sq rfl, show (nav B4 [1, 2, 2, 1, 2, 2, 2, 2, 2, 2, 2]) = Code.region 10 _ false from rfl, hk_4_10, hz_4_10, hs_4_10, xk B4 [2, 2, 2, 1, 2, 2, 2, 2, 2, 2, 2] .rt rfl, finK_norm, finK_ret, fin4, R4_ai10rzi.st, hc3, hc17, hc22, h25, h26]
          · have hJ := f4_ai10rzi_j3_ok k x1 v18 v23 false m2 m2_1 m2_2 m2_3 m2_4 m2_5 m2_6 m2_7 m2_8 m2_9 m2_10 _ hF
            simp (maxSteps := 999999) (disch := first | exact D (by decide) | exact K (by kernel_rfl)) only [E, EE, ↓reduceIte, simprocAttr, xk B4 [3, 2, 1, 2, 2, 2, 2, 2, 2, 2] .sk rfl, hc3, hc17, hc22, h25, h26]
            try simp only [NM, EE] at hJ
            exact hJ
      | o1 v27 v28 =>
        (try dsimp only at hF)
        (try simp only [NM, EE, R14_ai10rz.st] at hc22)
        simp (maxSteps := 999999) (disch := first | exact D (by decide) | exact K (by kernel_rfl)) only [E, EE, ↓reduceIte, simprocAttr, xk B4 [2, 2, 2, 2, 2, 2, 2] .sq rfl, xk B4 [1, 2, 2, 2, 2, 2, 2, 2] .sq rfl, show (nav B4 [1, 1, 2, 2, 2, 2, 2, 2, 2]) = Code.region 9 _ false from rfl, hk_4_9, hz_4_9, hs_4_9, hc3, hc17, hc22]
        replace hF := cond_some hF
        rcases hF with ⟨h29, hF⟩ | ⟨h29, hF⟩
        · cases hF
          simp (maxSteps := 999999) (disch := first | exact D (by decide) | exact K (by kernel_rfl)) only [E, EE, ↓reduceIte, simprocAttr, xk B4 [2, 1, 2, 2, 2, 2, 2, 2, 2] (.cd 37) rfl, xk B4 [2, 2, 1, 2, 2, 2, 2, 2, 2, 2] .sq rfl, show (nav B4 [1, 2, 2, 1, 2, 2, 2, 2, 2, 2, 2]) = Code.region 10 _ false from rfl, hk_4_10, hz_4_10, hs_4_10, xk B4 [2, 2, 2, 1, 2, 2, 2, 2, 2, 2, 2] .rt rfl, finK_norm, finK_ret, fin4, R4_ai10rzi.st, hc3, hc17, hc22, h29]
        · simp (maxSteps := 999999) (disch := first | exact D (by decide) | exact K (by kernel_rfl)) only [E, EE, ↓reduceIte, simprocAttr, xk B4 [2, 1, 2, 2, 2, 2, 2, 2, 2] (.cd 37) rfl, hc3, hc17, hc22, h29]
          replace hF := cond_some hF
          rcases hF with ⟨h30, hF⟩ | ⟨h30, hF⟩
          · cases hF
            simp (maxSteps := 999999) (disch := first | exact D (by decide) | exact K (by kernel_rfl)) only [E, EE, ↓reduceIte, simprocAttr, xk B4 [2, 2, 1, 2, 2, 2, 2, 2, 2, 2] .sq rfl, show (nav B4 [1, 2, 2, 1, 2, 2, 2, 2, 2, 2, 2]) = Code.region 10 _ false from rfl, hk_4_10, hz_4_10, hs_4_10, xk B4 [2, 2, 2, 1, 2, 2, 2, 2, 2, 2, 2] .rt rfl, finK_norm, finK_ret, fin4, R4_ai10rzi.st, hc3, hc17, hc22, h29, h30]
          · have hJ := f4_ai10rzi_j6_ok k x1 v18 false m2 m2_1 m2_2 m2_3 m2_4 m2_5 m2_6 m2_7 m2_8 m2_9 m2_10 v28 _ hF
            simp (maxSteps := 999999) (disch := first | exact D (by decide) | exact K (by kernel_rfl)) only [E, EE, ↓reduceIte, simprocAttr, xk B4 [3, 2, 1, 2, 2, 2, 2, 2, 2, 2] .sk rfl, hc3, hc17, hc22, h29, h30]
            try simp only [NM, EE] at hJ
            exact hJ
    | o1 v31 v32 =>
      (try dsimp only at hF)
      (try simp only [NM, EE, R14_ai10rz.st] at hc17)
      simp (maxSteps := 999999) (disch := first | exact D (by decide) | exact K (by kernel_rfl)) only [E, EE, ↓reduceIte, simprocAttr, xk B4 [2, 2, 2, 2, 2, 2] .sq rfl, show (nav B4 [1, 2, 2, 2, 2, 2, 2]) = Code.region 8 _ false from rfl, hk_4_8, hz_4_8, hs_4_8, u_26, i_26, is_26, ib_26, iz_26, callStep, CL, gv, List.contains, hc3, hc17]
      replace hF := Option.bind_eq_some_iff.1 hF
      obtain ⟨o33, h34, hF⟩ := hF
      have hc35 := f14_ai10rz_ok k v4 v5 v6 v7 v8 v9 x1 v11 v12 v13 v14 _ h34
      cases o33 with
      | o0 v36 v37 =>
        (try dsimp only at hF)
        (try simp only [NM, EE, R14_ai10rz.st] at hc35)
        simp (maxSteps := 999999) (disch := first | exact D (by decide) | exact K (by kernel_rfl)) only [E, EE, ↓reduceIte, simprocAttr, xk B4 [2, 2, 2, 2, 2, 2, 2] .sq rfl, xk B4 [1, 2, 2, 2, 2, 2, 2, 2] .sq rfl, show (nav B4 [1, 1, 2, 2, 2, 2, 2, 2, 2]) = Code.region 9 _ false from rfl, hk_4_9, hz_4_9, hs_4_9, hc3, hc17, hc35]
        replace hF := cond_some hF
        rcases hF with ⟨h38, hF⟩ | ⟨h38, hF⟩
        · cases hF
          simp (maxSteps := 999999) (disch := first | exact D (by decide) | exact K (by kernel_rfl)) only [E, EE, ↓reduceIte, simprocAttr, xk B4 [2, 1, 2, 2, 2, 2, 2, 2, 2] (.cd 37) rfl, xk B4 [2, 2, 1, 2, 2, 2, 2, 2, 2, 2] .sq rfl, show (nav B4 [1, 2, 2, 1, 2, 2, 2, 2, 2, 2, 2]) = Code.region 10 _ false from rfl, hk_4_10, hz_4_10, hs_4_10, xk B4 [2, 2, 2, 1, 2, 2, 2, 2, 2, 2, 2] .rt rfl, finK_norm, finK_ret, fin4, R4_ai10rzi.st, hc3, hc17, hc35, h38]
        · simp (maxSteps := 999999) (disch := first | exact D (by decide) | exact K (by kernel_rfl)) only [E, EE, ↓reduceIte, simprocAttr, xk B4 [2, 1, 2, 2, 2, 2, 2, 2, 2] (.cd 37) rfl, hc3, hc17, hc35, h38]
          replace hF := cond_some hF
          rcases hF with ⟨h39, hF⟩ | ⟨h39, hF⟩
          · cases hF
            simp (maxSteps := 999999) (disch := first | exact D (by decide) | exact K (by kernel_rfl)) only [E, EE, ↓reduceIte, simprocAttr, xk B4 [2, 2, 1, 2, 2, 2, 2, 2, 2, 2] .sq rfl, show (nav B4 [1, 2, 2, 1, 2, 2, 2, 2, 2, 2, 2]) = Code.region 10 _ false from rfl, hk_4_10, hz_4_10, hs_4_10, xk B4 [2, 2, 2, 1, 2, 2, 2, 2, 2, 2, 2] .rt rfl, finK_norm, finK_ret, fin4, R4_ai10rzi.st, hc3, hc17, hc35, h38, h39]
          · have hJ := f4_ai10rzi_j9_ok k x1 v36 false m2 m2_1 m2_2 m2_3 m2_4 m2_5 m2_6 m2_7 m2_8 m2_9 m2_10 v32 _ hF
            simp (maxSteps := 999999) (disch := first | exact D (by decide) | exact K (by kernel_rfl)) only [E, EE, ↓reduceIte, simprocAttr, xk B4 [3, 2, 1, 2, 2, 2, 2, 2, 2, 2] .sk rfl, hc3, hc17, hc35, h38, h39]
            try simp only [NM, EE] at hJ
            exact hJ
      | o1 v40 v41 =>
        (try dsimp only at hF)
        (try simp only [NM, EE, R14_ai10rz.st] at hc35)
        simp (maxSteps := 999999) (disch := first | exact D (by decide) | exact K (by kernel_rfl)) only [E, EE, ↓reduceIte, simprocAttr, xk B4 [2, 2, 2, 2, 2, 2, 2] .sq rfl, xk B4 [1, 2, 2, 2, 2, 2, 2, 2] .sq rfl, show (nav B4 [1, 1, 2, 2, 2, 2, 2, 2, 2]) = Code.region 9 _ false from rfl, hk_4_9, hz_4_9, hs_4_9, hc3, hc17, hc35]
        replace hF := cond_some hF
        rcases hF with ⟨h42, hF⟩ | ⟨h42, hF⟩
        · cases hF
          simp (maxSteps := 999999) (disch := first | exact D (by decide) | exact K (by kernel_rfl)) only [E, EE, ↓reduceIte, simprocAttr, xk B4 [2, 1, 2, 2, 2, 2, 2, 2, 2] (.cd 37) rfl, xk B4 [2, 2, 1, 2, 2, 2, 2, 2, 2, 2] .sq rfl, show (nav B4 [1, 2, 2, 1, 2, 2, 2, 2, 2, 2, 2]) = Code.region 10 _ false from rfl, hk_4_10, hz_4_10, hs_4_10, xk B4 [2, 2, 2, 1, 2, 2, 2, 2, 2, 2, 2] .rt rfl, finK_norm, finK_ret, fin4, R4_ai10rzi.st, hc3, hc17, hc35, h42]
        · simp (maxSteps := 999999) (disch := first | exact D (by decide) | exact K (by kernel_rfl)) only [E, EE, ↓reduceIte, simprocAttr, xk B4 [2, 1, 2, 2, 2, 2, 2, 2, 2] (.cd 37) rfl, hc3, hc17, hc35, h42]
          replace hF := cond_some hF
          rcases hF with ⟨h43, hF⟩ | ⟨h43, hF⟩
          · cases hF
            simp (maxSteps := 999999) (disch := first | exact D (by decide) | exact K (by kernel_rfl)) only [E, EE, ↓reduceIte, simprocAttr, xk B4 [2, 2, 1, 2, 2, 2, 2, 2, 2, 2] .sq rfl, show (nav B4 [1, 2, 2, 1, 2, 2, 2, 2, 2, 2, 2]) = Code.region 10 _ false from rfl, hk_4_10, hz_4_10, hs_4_10, xk B4 [2, 2, 2, 1, 2, 2, 2, 2, 2, 2, 2] .rt rfl, finK_norm, finK_ret, fin4, R4_ai10rzi.st, hc3, hc17, hc35, h42, h43]
          · have hJ := f4_ai10rzi_j12_ok k x1 false m2 m2_1 m2_2 m2_3 m2_4 m2_5 m2_6 m2_7 m2_8 m2_9 m2_10 v32 v41 _ hF
            simp (maxSteps := 999999) (disch := first | exact D (by decide) | exact K (by kernel_rfl)) only [E, EE, ↓reduceIte, simprocAttr, xk B4 [3, 2, 1, 2, 2, 2, 2, 2, 2, 2] .sk rfl, hc3, hc17, hc35, h42, h43]
            try simp only [NM, EE] at hJ
            exact hJ
noncomputable def f4_ai10rzi_j1 (k : Nat) (x1 : Int) (x13 : Bool) (m2 m2_1 m2_2 m2_3 m2_4 m2_5 m2_6 m2_7 m2_8 m2_9 : Int) (m2_10 : List Int) : Option R4_ai10rzi :=
  cond ((decide (((List.length m2_10) : Int) > 5000)))
    (some (R4_ai10rzi.o0 true))
    (f4_ai10rzi_j2 k x1 false m2 m2_1 m2_2 m2_3 m2_4 m2_5 m2_6 m2_7 m2_8 m2_9 m2_10)
theorem f4_ai10rzi_j1_ok (k : Nat) (x1 : Int) (x13 : Bool) (m2 m2_1 m2_2 m2_3 m2_4 m2_5 m2_6 m2_7 m2_8 m2_9 : Int) (m2_10 : List Int) (r : R4_ai10rzi) (hF : f4_ai10rzi_j1 k x1 x13 m2 m2_1 m2_2 m2_3 m2_4 m2_5 m2_6 m2_7 m2_8 m2_9 m2_10 = some r) : finK Tryd.prog Tryd.f4 0 (EX 4 k (nav B4 [2, 2]) ({ n := 79, F := [(1, V.p (Value.int .i64 x1)), (2, V.ptr 2 0), (13, V.p (Value.bool x13))], M := [(2, O.box 26 [V.p (Value.int .i64 m2), V.p (Value.int .i64 m2_1), V.p (Value.int .u32 m2_2), V.p (Value.int .i64 m2_3), V.p (Value.int .i64 m2_4), V.p (Value.int .i64 m2_5), V.p (Value.int .i64 m2_6), V.p (Value.int .i64 m2_7), V.p (Value.int .i64 m2_8), V.p (Value.int .i64 m2_9), V.sl 1 (rowsOf (encI .u8) m2_10)])] } : St)) = some r.st := by
  unfold f4_ai10rzi_j1 at hF
  simp (maxSteps := 999999) (disch := first | exact D (by decide) | exact K (by kernel_rfl)) only [E, EE, ↓reduceIte, simprocAttr, xk B4 [2, 2] .sq rfl, xk B4 [1, 2, 2] .sq rfl, show (nav B4 [1, 1, 2, 2]) = Code.region 3 _ false from rfl, hk_4_3, hz_4_3, hs_4_3, fieldAddrV, u_26, i_26, is_26, ib_26, iz_26, u_22, i_22, is_22, ib_22, iz_22, xk B4 [2, 1, 2, 2] (.cd 17) rfl]
  replace hF := cond_some hF
  rcases hF with ⟨h1, hF⟩ | ⟨h1, hF⟩
  · cases hF
    simp (maxSteps := 999999) (disch := first | exact D (by decide) | exact K (by kernel_rfl)) only [E, EE, ↓reduceIte, simprocAttr, xk B4 [2, 2, 1, 2, 2] .sq rfl, show (nav B4 [1, 2, 2, 1, 2, 2]) = Code.region 4 _ false from rfl, hk_4_4, hz_4_4, hs_4_4, xk B4 [2, 2, 2, 1, 2, 2] .rt rfl, finK_norm, finK_ret, fin4, R4_ai10rzi.st, h1]
  · have hJ := f4_ai10rzi_j2_ok k x1 false m2 m2_1 m2_2 m2_3 m2_4 m2_5 m2_6 m2_7 m2_8 m2_9 m2_10 _ hF
    simp (maxSteps := 999999) (disch := first | exact D (by decide) | exact K (by kernel_rfl)) only [E, EE, ↓reduceIte, simprocAttr, xk B4 [3, 2, 1, 2, 2] .sk rfl, h1]
    try simp only [NM, EE] at hJ
    exact hJ
noncomputable def f4_ai10rzi_e (k : Nat) (a0 a0_1 a0_2 a0_3 a0_4 a0_5 a0_6 a0_7 a0_8 a0_9 : Int) (a0_10 : List Int) (a1 : Int) : Option R4_ai10rzi :=
  Option.bind (f9_ k) fun o1 =>
    match o1 with
    | .o0 v4 =>
      cond ((!v4))
        (some (R4_ai10rzi.o0 false))
        (f4_ai10rzi_j1 k a1 false a0 a0_1 a0_2 a0_3 a0_4 a0_5 a0_6 a0_7 a0_8 a0_9 a0_10)
theorem f4_ai10rzi_e_ok (k : Nat) (a0 a0_1 a0_2 a0_3 a0_4 a0_5 a0_6 a0_7 a0_8 a0_9 : Int) (a0_10 : List Int) (a1 : Int) (r : R4_ai10rzi) (hF : f4_ai10rzi_e k a0 a0_1 a0_2 a0_3 a0_4 a0_5 a0_6 a0_7 a0_8 a0_9 a0_10 a1 = some r) : finK Tryd.prog Tryd.f4 0 (EX 4 k (nav B4 []) ({ n := 79, F := [(0, V.agg [V.p (Value.int .i64 a0), V.p (Value.int .i64 a0_1), V.p (Value.int .u32 a0_2), V.p (Value.int .i64 a0_3), V.p (Value.int .i64 a0_4), V.p (Value.int .i64 a0_5), V.p (Value.int .i64 a0_6), V.p (Value.int .i64 a0_7), V.p (Value.int .i64 a0_8), V.p (Value.int .i64 a0_9), V.sl 1 (rowsOf (encI .u8) a0_10)]), (1, V.p (Value.int .i64 a1))], M := [] } : St)) = some r.st := by
  unfold f4_ai10rzi_e at hF
  replace hF := Option.bind_eq_some_iff.1 hF
  obtain ⟨o1, h2, hF⟩ := hF
  have hc3 := f9__ok k _ h2
  cases o1 with
  | o0 v4 =>
    (try dsimp only at hF)
    (try simp only [NM, EE, R9_.st] at hc3)
    simp (maxSteps := 999999) (disch := first | exact D (by decide) | exact K (by kernel_rfl)) only [E, EE, ↓reduceIte, simprocAttr, xk B4 [] .sq rfl, show (nav B4 [1]) = Code.region 0 _ false from rfl, hk_4_0, hz_4_0, hs_4_0, xk B4 [2] .sq rfl, xk B4 [1, 2] .sq rfl, show (nav B4 [1, 1, 2]) = Code.region 1 _ false from rfl, hk_4_1, hz_4_1, hs_4_1, callStep, CL, gv, List.contains, xk B4 [2, 1, 2] (.cd 13) rfl, hc3]
    replace hF := cond_some hF
    rcases hF with ⟨h5, hF⟩ | ⟨h5, hF⟩
    · cases hF
      simp (maxSteps := 999999) (disch := first | exact D (by decide) | exact K (by kernel_rfl)) only [E, EE, ↓reduceIte, simprocAttr, xk B4 [2, 2, 1, 2] .sq rfl, show (nav B4 [1, 2, 2, 1, 2]) = Code.region 2 _ false from rfl, hk_4_2, hz_4_2, hs_4_2, xk B4 [2, 2, 2, 1, 2] .rt rfl, finK_norm, finK_ret, fin4, R4_ai10rzi.st, hc3, h5]
    · have hJ := f4_ai10rzi_j1_ok k a1 false a0 a0_1 a0_2 a0_3 a0_4 a0_5 a0_6 a0_7 a0_8 a0_9 a0_10 _ hF
      simp (maxSteps := 999999) (disch := first | exact D (by decide) | exact K (by kernel_rfl)) only [E, EE, ↓reduceIte, simprocAttr, xk B4 [3, 2, 1, 2] .sk rfl, hc3, h5]
      try simp only [NM, EE] at hJ
      exact hJ
noncomputable def f4_ai10rzi (k : Nat) (a0 a0_1 a0_2 a0_3 a0_4 a0_5 a0_6 a0_7 a0_8 a0_9 : Int) (a0_10 : List Int) (a1 : Int) : Option R4_ai10rzi := match k with | 0 => none | k + 1 => f4_ai10rzi_e k a0 a0_1 a0_2 a0_3 a0_4 a0_5 a0_6 a0_7 a0_8 a0_9 a0_10 a1
theorem f4_ai10rzi_ok (k : Nat) (a0 a0_1 a0_2 a0_3 a0_4 a0_5 a0_6 a0_7 a0_8 a0_9 : Int) (a0_10 : List Int) (a1 : Int) (r : R4_ai10rzi) (hF : f4_ai10rzi k a0 a0_1 a0_2 a0_3 a0_4 a0_5 a0_6 a0_7 a0_8 a0_9 a0_10 a1 = some r) : CV k 4 [V.agg [V.p (Value.int .i64 a0), V.p (Value.int .i64 a0_1), V.p (Value.int .u32 a0_2), V.p (Value.int .i64 a0_3), V.p (Value.int .i64 a0_4), V.p (Value.int .i64 a0_5), V.p (Value.int .i64 a0_6), V.p (Value.int .i64 a0_7), V.p (Value.int .i64 a0_8), V.p (Value.int .i64 a0_9), V.sl 1 (rowsOf (encI .u8) a0_10)], V.p (Value.int .i64 a1)] [] = some r.st := by
  cases k with
  | zero => cases hF
  | succ k =>
    unfold CV
    rw [ev_call (F := Tryd.f4) (c := (nav B4 [])) rfl Tryd.func4 rfl rfl rfl rfl]
    exact f4_ai10rzi_e_ok k a0 a0_1 a0_2 a0_3 a0_4 a0_5 a0_6 a0_7 a0_8 a0_9 a0_10 a1 r hF
end Go.Proofs.YtbnnmplkbpgcaaaDoorV
