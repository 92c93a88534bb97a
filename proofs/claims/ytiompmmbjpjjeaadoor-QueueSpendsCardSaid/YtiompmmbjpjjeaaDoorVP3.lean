/- What the program's functions answer: plain functions, and that the interpreter answers what they do. Written by a program of this session, out of the translation. -/
import Derived.Test.YtiompmmbjpjjeaaDoorVP2
namespace Go.Proofs.YtiompmmbjpjjeaaDoorV
open Go
set_option linter.unusedVariables false
set_option linter.unusedSimpArgs false
set_option maxRecDepth 8000
set_option maxHeartbeats 4000000
-- f17_aiirririzaiirririz: f17 heliograph/heliographlaw20.whole
inductive R17_aiirririzaiirririz where
  | o0 (y : Bool)
noncomputable def R17_aiirririzaiirririz.st : R17_aiirririzaiirririz → V × List O × List O
  | .o0 y => (V.p (Value.bool y), [], [])
inductive R17_aiirririzaiirririz_l1 where
  | o0 (y : Bool)
  | o1 (y y_1 y_2 y_3 : Int) (y_4 : List T54) (y_5 : List Int) (y_6 : Int) (y_7 : List T44) (y_8 y_9 y_10 : Int) (y_11 : List T54) (y_12 : List Int) (y_13 : Int) (y_14 : List T44) (y_15 : Int)
  | o2 (y y_1 : Int) (y_2 : Bool) (y_3 y_4 : Int) (y_5 : List T54) (y_6 : List Int) (y_7 : Int) (y_8 : List T44) (y_9 y_10 y_11 : Int) (y_12 : List T54) (y_13 : List Int) (y_14 : Int) (y_15 : List T44) (y_16 : Int)
noncomputable def R17_aiirririzaiirririz_l1.st : R17_aiirririzaiirririz_l1 → Out × St
  | .o0 y => (.ret, ({ n := 65, F := [(4, V.p (Value.bool y))], M := [] } : St))
  | .o1 y y_1 y_2 y_3 y_4 y_5 y_6 y_7 y_8 y_9 y_10 y_11 y_12 y_13 y_14 y_15 => (.norm, ({ n := 65, F := [(2, V.ptr 30000 0), (3, V.ptr 30001 0), (10, V.p (Value.int .i64 y)), (11, V.p (Value.int .i64 y_1))], M := [(30000, O.box 28 [V.p (Value.int .i64 y_2), V.p (Value.int .i64 y_3), V.sl 6 (rowsOf encT54 y_4), V.sl 1 (rowsOf (encI .i64) y_5), V.p (Value.int .i64 y_6), V.sl 3 (rowsOf encT44 y_7), V.p (Value.int .i64 y_8)]), (30001, O.box 28 [V.p (Value.int .i64 y_9), V.p (Value.int .i64 y_10), V.sl 6 (rowsOf encT54 y_11), V.sl 1 (rowsOf (encI .i64) y_12), V.p (Value.int .i64 y_13), V.sl 3 (rowsOf encT44 y_14), V.p (Value.int .i64 y_15)])] } : St))
  | .o2 y y_1 y_2 y_3 y_4 y_5 y_6 y_7 y_8 y_9 y_10 y_11 y_12 y_13 y_14 y_15 y_16 => (.exit 0, ({ n := 65, F := [(2, V.ptr 30000 0), (3, V.ptr 30001 0), (10, V.p (Value.int .i64 y)), (11, V.p (Value.int .i64 y_1)), (12, V.p (Value.bool y_2))], M := [(30000, O.box 28 [V.p (Value.int .i64 y_3), V.p (Value.int .i64 y_4), V.sl 6 (rowsOf encT54 y_5), V.sl 1 (rowsOf (encI .i64) y_6), V.p (Value.int .i64 y_7), V.sl 3 (rowsOf encT44 y_8), V.p (Value.int .i64 y_9)]), (30001, O.box 28 [V.p (Value.int .i64 y_10), V.p (Value.int .i64 y_11), V.sl 6 (rowsOf encT54 y_12), V.sl 1 (rowsOf (encI .i64) y_13), V.p (Value.int .i64 y_14), V.sl 3 (rowsOf encT44 y_15), V.p (Value.int .i64 y_16)])] } : St))
noncomputable def f17_aiirririzaiirririz_l1_j2 (k : Nat) (x10 x11 : Int) (x24 : Bool) (h0_ h0__1 : Int) (h0__2 : List T54) (h0__3 : List Int) (h0__4 : Int) (h0__5 : List T44) (h0__6 h1_ h1__1 : Int) (h1__2 : List T54) (h1__3 : List Int) (h1__4 : Int) (h1__5 : List T44) (h1__6 : Int) : Option R17_aiirririzaiirririz_l1 :=
  some (R17_aiirririzaiirririz_l1.o1 x10 (IntKind.i64.wrap (x11 + (1 : Int))) h0_ h0__1 h0__2 h0__3 h0__4 h0__5 h0__6 h1_ h1__1 h1__2 h1__3 h1__4 h1__5 h1__6)
theorem f17_aiirririzaiirririz_l1_j2_ok (k : Nat) (x10 x11 : Int) (x24 : Bool) (h0_ h0__1 : Int) (h0__2 : List T54) (h0__3 : List Int) (h0__4 : Int) (h0__5 : List T44) (h0__6 h1_ h1__1 : Int) (h1__2 : List T54) (h1__3 : List Int) (h1__4 : Int) (h1__5 : List T44) (h1__6 : Int) (r : R17_aiirririzaiirririz_l1) (hF : f17_aiirririzaiirririz_l1_j2 k x10 x11 x24 h0_ h0__1 h0__2 h0__3 h0__4 h0__5 h0__6 h1_ h1__1 h1__2 h1__3 h1__4 h1__5 h1__6 = some r) : EX 17 k (nav B17 [2, 2, 2, 1, 2, 2, 1, 2]) ({ n := 65, F := [(2, V.ptr 30000 0), (3, V.ptr 30001 0), (10, V.p (Value.int .i64 x10)), (11, V.p (Value.int .i64 x11)), (24, V.p (Value.bool x24))], M := [(30000, O.box 28 [V.p (Value.int .i64 h0_), V.p (Value.int .i64 h0__1), V.sl 6 (rowsOf encT54 h0__2), V.sl 1 (rowsOf (encI .i64) h0__3), V.p (Value.int .i64 h0__4), V.sl 3 (rowsOf encT44 h0__5), V.p (Value.int .i64 h0__6)]), (30001, O.box 28 [V.p (Value.int .i64 h1_), V.p (Value.int .i64 h1__1), V.sl 6 (rowsOf encT54 h1__2), V.sl 1 (rowsOf (encI .i64) h1__3), V.p (Value.int .i64 h1__4), V.sl 3 (rowsOf encT44 h1__5), V.p (Value.int .i64 h1__6)])] } : St) = some r.st := by
  unfold f17_aiirririzaiirririz_l1_j2 at hF
  cases hF
  simp (maxSteps := 999999) (disch := first | exact D (by decide) | exact K (by kernel_rfl)) only [E, EE, ↓reduceIte, simprocAttr, show (nav B17 [2, 2, 2, 1, 2, 2, 1, 2]) = Code.region 6 _ false from rfl, hk_17_6, hz_17_6, hs_17_6, R17_aiirririzaiirririz_l1.st]
noncomputable def f17_aiirririzaiirririz_l1_j1 (k : Nat) (x10 x11 : Int) (x12 : Bool) (h0_ h0__1 : Int) (h0__2 : List T54) (h0__3 : List Int) (h0__4 : Int) (h0__5 : List T44) (h0__6 h1_ h1__1 : Int) (h1__2 : List T54) (h1__3 : List Int) (h1__4 : Int) (h1__5 : List T44) (h1__6 : Int) : Option R17_aiirririzaiirririz_l1 :=
  ifE ((0 : Int) ≤ x11) (
    Option.bind (h0__3[(Int.toNat x11)]?) fun v2 =>
      Option.bind (h1__3[(Int.toNat x11)]?) fun v4 =>
        cond ((v2 != v4))
          (some (R17_aiirririzaiirririz_l1.o0 false))
          (f17_aiirririzaiirririz_l1_j2 k x10 x11 false h0_ h0__1 h0__2 h0__3 h0__4 h0__5 h0__6 h1_ h1__1 h1__2 h1__3 h1__4 h1__5 h1__6))
theorem f17_aiirririzaiirririz_l1_j1_ok (k : Nat) (x10 x11 : Int) (x12 : Bool) (h0_ h0__1 : Int) (h0__2 : List T54) (h0__3 : List Int) (h0__4 : Int) (h0__5 : List T44) (h0__6 h1_ h1__1 : Int) (h1__2 : List T54) (h1__3 : List Int) (h1__4 : Int) (h1__5 : List T44) (h1__6 : Int) (r : R17_aiirririzaiirririz_l1) (hF : f17_aiirririzaiirririz_l1_j1 k x10 x11 x12 h0_ h0__1 h0__2 h0__3 h0__4 h0__5 h0__6 h1_ h1__1 h1__2 h1__3 h1__4 h1__5 h1__6 = some r) : EX 17 k (nav B17 [2, 2, 1, 2, 2, 1, 2]) ({ n := 65, F := [(2, V.ptr 30000 0), (3, V.ptr 30001 0), (10, V.p (Value.int .i64 x10)), (11, V.p (Value.int .i64 x11)), (12, V.p (Value.bool x12))], M := [(30000, O.box 28 [V.p (Value.int .i64 h0_), V.p (Value.int .i64 h0__1), V.sl 6 (rowsOf encT54 h0__2), V.sl 1 (rowsOf (encI .i64) h0__3), V.p (Value.int .i64 h0__4), V.sl 3 (rowsOf encT44 h0__5), V.p (Value.int .i64 h0__6)]), (30001, O.box 28 [V.p (Value.int .i64 h1_), V.p (Value.int .i64 h1__1), V.sl 6 (rowsOf encT54 h1__2), V.sl 1 (rowsOf (encI .i64) h1__3), V.p (Value.int .i64 h1__4), V.sl 3 (rowsOf encT44 h1__5), V.p (Value.int .i64 h1__6)])] } : St) = some r.st := by
  unfold f17_aiirririzaiirririz_l1_j1 at hF
  replace hF := ifE_some.1 hF
  obtain ⟨h1, hF⟩ := hF
  replace hF := Option.bind_eq_some_iff.1 hF
  obtain ⟨v2, h3, hF⟩ := hF
  replace hF := Option.bind_eq_some_iff.1 hF
  obtain ⟨v4, h5, hF⟩ := hF
  simp (maxSteps := 999999) (disch := first | exact D (by decide) | exact K (by kernel_rfl)) only [E, EE, ↓reduceIte, simprocAttr, xk B17 [2, 2, 1, 2, 2, 1, 2] .sq rfl, xk B17 [1, 2, 2, 1, 2, 2, 1, 2] (.bk 1) rfl, xk B17 [2, 1, 2, 2, 1, 2, 2, 1, 2] .sq rfl, show (nav B17 [1, 2, 1, 2, 2, 1, 2, 2, 1, 2]) = Code.region 3 _ false from rfl, hk_17_3, hz_17_3, hs_17_3, xk B17 [2, 2, 1, 2, 2, 1, 2, 2, 1, 2] .sq rfl, show (nav B17 [1, 2, 2, 1, 2, 2, 1, 2, 2, 1, 2]) = Code.region 4 _ true from rfl, hk_17_4, hz_17_4, hs_17_4, fieldAddrV, u_28, i_28, is_28, ib_28, iz_28, u_25, i_25, is_25, ib_25, iz_25, indexAddrV, u_3, i_3, is_3, ib_3, iz_3, encI_eq, xk B17 [2, 2, 2, 1, 2, 2, 1, 2, 2, 1, 2] (.cd 24) rfl, h1, h3, h5]
  replace hF := cond_some hF
  rcases hF with ⟨h6, hF⟩ | ⟨h6, hF⟩
  · cases hF
    simp (maxSteps := 999999) (disch := first | exact D (by decide) | exact K (by kernel_rfl)) only [E, EE, ↓reduceIte, simprocAttr, xk B17 [2, 2, 2, 2, 1, 2, 2, 1, 2, 2, 1, 2] .sq rfl, show (nav B17 [1, 2, 2, 2, 2, 1, 2, 2, 1, 2, 2, 1, 2]) = Code.region 5 _ false from rfl, hk_17_5, hz_17_5, hs_17_5, xk B17 [2, 2, 2, 2, 2, 1, 2, 2, 1, 2, 2, 1, 2] .rt rfl, R17_aiirririzaiirririz_l1.st, h1, h3, h5, h6]
  · have hJ := f17_aiirririzaiirririz_l1_j2_ok k x10 x11 false h0_ h0__1 h0__2 h0__3 h0__4 h0__5 h0__6 h1_ h1__1 h1__2 h1__3 h1__4 h1__5 h1__6 _ hF
    simp (maxSteps := 999999) (disch := first | exact D (by decide) | exact K (by kernel_rfl)) only [E, EE, ↓reduceIte, simprocAttr, xk B17 [3, 2, 2, 2, 1, 2, 2, 1, 2, 2, 1, 2] .sk rfl, h1, h3, h5, h6]
    try simp only [NM, EE] at hJ
    exact hJ
noncomputable def f17_aiirririzaiirririz_l1_b (k : Nat) (x10 x11 h0_ h0__1 : Int) (h0__2 : List T54) (h0__3 : List Int) (h0__4 : Int) (h0__5 : List T44) (h0__6 h1_ h1__1 : Int) (h1__2 : List T54) (h1__3 : List Int) (h1__4 : Int) (h1__5 : List T44) (h1__6 : Int) : Option R17_aiirririzaiirririz_l1 :=
  cond ((decide (x11 < x10)))
    (f17_aiirririzaiirririz_l1_j1 k x10 x11 true h0_ h0__1 h0__2 h0__3 h0__4 h0__5 h0__6 h1_ h1__1 h1__2 h1__3 h1__4 h1__5 h1__6)
    (some (R17_aiirririzaiirririz_l1.o2 x10 x11 false h0_ h0__1 h0__2 h0__3 h0__4 h0__5 h0__6 h1_ h1__1 h1__2 h1__3 h1__4 h1__5 h1__6))
theorem f17_aiirririzaiirririz_l1_b_ok (k : Nat) (x10 x11 h0_ h0__1 : Int) (h0__2 : List T54) (h0__3 : List Int) (h0__4 : Int) (h0__5 : List T44) (h0__6 h1_ h1__1 : Int) (h1__2 : List T54) (h1__3 : List Int) (h1__4 : Int) (h1__5 : List T44) (h1__6 : Int) (r : R17_aiirririzaiirririz_l1) (hF : f17_aiirririzaiirririz_l1_b k x10 x11 h0_ h0__1 h0__2 h0__3 h0__4 h0__5 h0__6 h1_ h1__1 h1__2 h1__3 h1__4 h1__5 h1__6 = some r) : EX 17 k (nav B17 [1, 2, 2, 1, 2]) ({ n := 65, F := [(2, V.ptr 30000 0), (3, V.ptr 30001 0), (10, V.p (Value.int .i64 x10)), (11, V.p (Value.int .i64 x11))], M := [(30000, O.box 28 [V.p (Value.int .i64 h0_), V.p (Value.int .i64 h0__1), V.sl 6 (rowsOf encT54 h0__2), V.sl 1 (rowsOf (encI .i64) h0__3), V.p (Value.int .i64 h0__4), V.sl 3 (rowsOf encT44 h0__5), V.p (Value.int .i64 h0__6)]), (30001, O.box 28 [V.p (Value.int .i64 h1_), V.p (Value.int .i64 h1__1), V.sl 6 (rowsOf encT54 h1__2), V.sl 1 (rowsOf (encI .i64) h1__3), V.p (Value.int .i64 h1__4), V.sl 3 (rowsOf encT44 h1__5), V.p (Value.int .i64 h1__6)])] } : St) = some r.st := by
  unfold f17_aiirririzaiirririz_l1_b at hF
  simp (maxSteps := 999999) (disch := first | exact D (by decide) | exact K (by kernel_rfl)) only [E, EE, ↓reduceIte, simprocAttr, xk B17 [1, 2, 2, 1, 2] .sq rfl, show (nav B17 [1, 1, 2, 2, 1, 2]) = Code.region 2 _ false from rfl, hk_17_2, hz_17_2, hs_17_2, xk B17 [2, 1, 2, 2, 1, 2] .sq rfl, xk B17 [1, 2, 1, 2, 2, 1, 2] (.cd 12) rfl]
  replace hF := cond_some hF
  rcases hF with ⟨h1, hF⟩ | ⟨h1, hF⟩
  · have hJ := f17_aiirririzaiirririz_l1_j1_ok k x10 x11 true h0_ h0__1 h0__2 h0__3 h0__4 h0__5 h0__6 h1_ h1__1 h1__2 h1__3 h1__4 h1__5 h1__6 _ hF
    simp (maxSteps := 999999) (disch := first | exact D (by decide) | exact K (by kernel_rfl)) only [E, EE, ↓reduceIte, simprocAttr, xk B17 [2, 1, 2, 1, 2, 2, 1, 2] .sk rfl, h1]
    try simp only [NM, EE] at hJ
    exact hJ
  · cases hF
    simp (maxSteps := 999999) (disch := first | exact D (by decide) | exact K (by kernel_rfl)) only [E, EE, ↓reduceIte, simprocAttr, xk B17 [3, 1, 2, 1, 2, 2, 1, 2] (.ex 0) rfl, R17_aiirririzaiirririz_l1.st, h1]
noncomputable def f17_aiirririzaiirririz_l1 (k : Nat) : Nat → Int → Int → Int → Int → (List T54) → (List Int) → Int → (List T44) → Int → Int → Int → (List T54) → (List Int) → Int → (List T44) → Int → Option R17_aiirririzaiirririz_l1
  | 0, _, _, _, _, _, _, _, _, _, _, _, _, _, _, _, _ => none
  | n + 1, x10, x11, h0_, h0__1, h0__2, h0__3, h0__4, h0__5, h0__6, h1_, h1__1, h1__2, h1__3, h1__4, h1__5, h1__6 => Option.bind (f17_aiirririzaiirririz_l1_b k x10 x11 h0_ h0__1 h0__2 h0__3 h0__4 h0__5 h0__6 h1_ h1__1 h1__2 h1__3 h1__4 h1__5 h1__6) fun o =>
    match o with
    | .o0 y => some (.o0 y)
    | .o1 y y_1 y_2 y_3 y_4 y_5 y_6 y_7 y_8 y_9 y_10 y_11 y_12 y_13 y_14 y_15 => f17_aiirririzaiirririz_l1 k n y y_1 y_2 y_3 y_4 y_5 y_6 y_7 y_8 y_9 y_10 y_11 y_12 y_13 y_14 y_15
    | .o2 y y_1 y_2 y_3 y_4 y_5 y_6 y_7 y_8 y_9 y_10 y_11 y_12 y_13 y_14 y_15 y_16 => some (.o2 y y_1 y_2 y_3 y_4 y_5 y_6 y_7 y_8 y_9 y_10 y_11 y_12 y_13 y_14 y_15 y_16)
theorem f17_aiirririzaiirririz_l1_ok (k n : Nat) : ∀ (x10 x11 h0_ h0__1 : Int) (h0__2 : List T54) (h0__3 : List Int) (h0__4 : Int) (h0__5 : List T44) (h0__6 h1_ h1__1 : Int) (h1__2 : List T54) (h1__3 : List Int) (h1__4 : Int) (h1__5 : List T44) (h1__6 : Int) (r : R17_aiirririzaiirririz_l1) (hF : f17_aiirririzaiirririz_l1 k n x10 x11 h0_ h0__1 h0__2 h0__3 h0__4 h0__5 h0__6 h1_ h1__1 h1__2 h1__3 h1__4 h1__5 h1__6 = some r) (σ : St) (hσ : headR (hints.head 17 2) (hints.canon 17 2) σ = some ({ n := 65, F := [(2, V.ptr 30000 0), (3, V.ptr 30001 0), (10, V.p (Value.int .i64 x10)), (11, V.p (Value.int .i64 x11))], M := [(30000, O.box 28 [V.p (Value.int .i64 h0_), V.p (Value.int .i64 h0__1), V.sl 6 (rowsOf encT54 h0__2), V.sl 1 (rowsOf (encI .i64) h0__3), V.p (Value.int .i64 h0__4), V.sl 3 (rowsOf encT44 h0__5), V.p (Value.int .i64 h0__6)]), (30001, O.box 28 [V.p (Value.int .i64 h1_), V.p (Value.int .i64 h1__1), V.sl 6 (rowsOf encT54 h1__2), V.sl 1 (rowsOf (encI .i64) h1__3), V.p (Value.int .i64 h1__4), V.sl 3 (rowsOf encT44 h1__5), V.p (Value.int .i64 h1__6)])] } : St)), LP 17 k (nav B17 [1, 2, 2, 1, 2]) n σ = some r.st := by
  induction n with
  | zero => intro x10 x11 h0_ h0__1 h0__2 h0__3 h0__4 h0__5 h0__6 h1_ h1__1 h1__2 h1__3 h1__4 h1__5 h1__6 r hF; cases hF
  | succ n ih =>
    intro x10 x11 h0_ h0__1 h0__2 h0__3 h0__4 h0__5 h0__6 h1_ h1__1 h1__2 h1__3 h1__4 h1__5 h1__6 r hF σ hσ
    rw [f17_aiirririzaiirririz_l1] at hF
    obtain ⟨o, h, hF⟩ := Option.bind_eq_some_iff.1 hF
    have hB := f17_aiirririzaiirririz_l1_b_ok k x10 x11 h0_ h0__1 h0__2 h0__3 h0__4 h0__5 h0__6 h1_ h1__1 h1__2 h1__3 h1__4 h1__5 h1__6 o h
    unfold LP at ih ⊢
    unfold EX at hB
    rw [loopK_succ, show firstReg (nav B17 [1, 2, 2, 1, 2]) = 2 from rfl, hσ, headK_some, hB]
    cases o with
    | o0 y => cases hF; rfl
    | o1 y y_1 y_2 y_3 y_4 y_5 y_6 y_7 y_8 y_9 y_10 y_11 y_12 y_13 y_14 y_15 =>
      refine ih y y_1 y_2 y_3 y_4 y_5 y_6 y_7 y_8 y_9 y_10 y_11 y_12 y_13 y_14 y_15 r hF _ ?_
      simp (maxSteps := 999999) (disch := first | exact D (by decide) | exact K (by kernel_rfl)) only [E, EE, ↓reduceIte, simprocAttr, hh_17_2, hc_17_2]
    | o2 y y_1 y_2 y_3 y_4 y_5 y_6 y_7 y_8 y_9 y_10 y_11 y_12 y_13 y_14 y_15 y_16 => cases hF; rfl
inductive R17_aiirririzaiirririz_l3 where
  | o0 (y : Bool)
  | o1 (y y_1 y_2 y_3 : Int) (y_4 : List T54) (y_5 : List Int) (y_6 : Int) (y_7 : List T44) (y_8 y_9 y_10 : Int) (y_11 : List T54) (y_12 : List Int) (y_13 : Int) (y_14 : List T44) (y_15 : Int)
  | o2 (y y_1 : Int) (y_2 : Bool) (y_3 y_4 : Int) (y_5 : List T54) (y_6 : List Int) (y_7 : Int) (y_8 : List T44) (y_9 y_10 y_11 : Int) (y_12 : List T54) (y_13 : List Int) (y_14 : Int) (y_15 : List T44) (y_16 : Int)
noncomputable def R17_aiirririzaiirririz_l3.st : R17_aiirririzaiirririz_l3 → Out × St
  | .o0 y => (.ret, ({ n := 65, F := [(4, V.p (Value.bool y))], M := [] } : St))
  | .o1 y y_1 y_2 y_3 y_4 y_5 y_6 y_7 y_8 y_9 y_10 y_11 y_12 y_13 y_14 y_15 => (.norm, ({ n := 65, F := [(2, V.ptr 30000 0), (3, V.ptr 30001 0), (28, V.p (Value.int .i64 y)), (29, V.p (Value.int .i64 y_1))], M := [(30000, O.box 28 [V.p (Value.int .i64 y_2), V.p (Value.int .i64 y_3), V.sl 6 (rowsOf encT54 y_4), V.sl 1 (rowsOf (encI .i64) y_5), V.p (Value.int .i64 y_6), V.sl 3 (rowsOf encT44 y_7), V.p (Value.int .i64 y_8)]), (30001, O.box 28 [V.p (Value.int .i64 y_9), V.p (Value.int .i64 y_10), V.sl 6 (rowsOf encT54 y_11), V.sl 1 (rowsOf (encI .i64) y_12), V.p (Value.int .i64 y_13), V.sl 3 (rowsOf encT44 y_14), V.p (Value.int .i64 y_15)])] } : St))
  | .o2 y y_1 y_2 y_3 y_4 y_5 y_6 y_7 y_8 y_9 y_10 y_11 y_12 y_13 y_14 y_15 y_16 => (.exit 2, ({ n := 65, F := [(2, V.ptr 30000 0), (3, V.ptr 30001 0), (28, V.p (Value.int .i64 y)), (29, V.p (Value.int .i64 y_1)), (30, V.p (Value.bool y_2))], M := [(30000, O.box 28 [V.p (Value.int .i64 y_3), V.p (Value.int .i64 y_4), V.sl 6 (rowsOf encT54 y_5), V.sl 1 (rowsOf (encI .i64) y_6), V.p (Value.int .i64 y_7), V.sl 3 (rowsOf encT44 y_8), V.p (Value.int .i64 y_9)]), (30001, O.box 28 [V.p (Value.int .i64 y_10), V.p (Value.int .i64 y_11), V.sl 6 (rowsOf encT54 y_12), V.sl 1 (rowsOf (encI .i64) y_13), V.p (Value.int .i64 y_14), V.sl 3 (rowsOf encT44 y_15), V.p (Value.int .i64 y_16)])] } : St))
noncomputable def f17_aiirririzaiirririz_l3_j2 (k : Nat) (x28 x29 : Int) (x42 : Bool) (h0_ h0__1 : Int) (h0__2 : List T54) (h0__3 : List Int) (h0__4 : Int) (h0__5 : List T44) (h0__6 h1_ h1__1 : Int) (h1__2 : List T54) (h1__3 : List Int) (h1__4 : Int) (h1__5 : List T44) (h1__6 : Int) : Option R17_aiirririzaiirririz_l3 :=
  some (R17_aiirririzaiirririz_l3.o1 x28 (IntKind.i64.wrap (x29 + (1 : Int))) h0_ h0__1 h0__2 h0__3 h0__4 h0__5 h0__6 h1_ h1__1 h1__2 h1__3 h1__4 h1__5 h1__6)
theorem f17_aiirririzaiirririz_l3_j2_ok (k : Nat) (x28 x29 : Int) (x42 : Bool) (h0_ h0__1 : Int) (h0__2 : List T54) (h0__3 : List Int) (h0__4 : Int) (h0__5 : List T44) (h0__6 h1_ h1__1 : Int) (h1__2 : List T54) (h1__3 : List Int) (h1__4 : Int) (h1__5 : List T44) (h1__6 : Int) (r : R17_aiirririzaiirririz_l3) (hF : f17_aiirririzaiirririz_l3_j2 k x28 x29 x42 h0_ h0__1 h0__2 h0__3 h0__4 h0__5 h0__6 h1_ h1__1 h1__2 h1__3 h1__4 h1__5 h1__6 = some r) : EX 17 k (nav B17 [2, 2, 2, 1, 2, 2, 1, 2, 2]) ({ n := 65, F := [(2, V.ptr 30000 0), (3, V.ptr 30001 0), (28, V.p (Value.int .i64 x28)), (29, V.p (Value.int .i64 x29)), (42, V.p (Value.bool x42))], M := [(30000, O.box 28 [V.p (Value.int .i64 h0_), V.p (Value.int .i64 h0__1), V.sl 6 (rowsOf encT54 h0__2), V.sl 1 (rowsOf (encI .i64) h0__3), V.p (Value.int .i64 h0__4), V.sl 3 (rowsOf encT44 h0__5), V.p (Value.int .i64 h0__6)]), (30001, O.box 28 [V.p (Value.int .i64 h1_), V.p (Value.int .i64 h1__1), V.sl 6 (rowsOf encT54 h1__2), V.sl 1 (rowsOf (encI .i64) h1__3), V.p (Value.int .i64 h1__4), V.sl 3 (rowsOf encT44 h1__5), V.p (Value.int .i64 h1__6)])] } : St) = some r.st := by
  unfold f17_aiirririzaiirririz_l3_j2 at hF
  cases hF
  simp (maxSteps := 999999) (disch := first | exact D (by decide) | exact K (by kernel_rfl)) only [E, EE, ↓reduceIte, simprocAttr, show (nav B17 [2, 2, 2, 1, 2, 2, 1, 2, 2]) = Code.region 12 _ false from rfl, hk_17_12, hz_17_12, hs_17_12, R17_aiirririzaiirririz_l3.st]
noncomputable def f17_aiirririzaiirririz_l3_j1 (k : Nat) (x28 x29 : Int) (x30 : Bool) (h0_ h0__1 : Int) (h0__2 : List T54) (h0__3 : List Int) (h0__4 : Int) (h0__5 : List T44) (h0__6 h1_ h1__1 : Int) (h1__2 : List T54) (h1__3 : List Int) (h1__4 : Int) (h1__5 : List T44) (h1__6 : Int) : Option R17_aiirririzaiirririz_l3 :=
  ifE ((0 : Int) ≤ x29) (
    Option.bind (h0__5[(Int.toNat x29)]?) fun v2 =>
      Option.bind (h1__5[(Int.toNat x29)]?) fun v4 =>
        cond ((!((v2.Source == v4.Source) && ((v2.Seq == v4.Seq) && (v2.Offset == v4.Offset)))))
          (some (R17_aiirririzaiirririz_l3.o0 false))
          (f17_aiirririzaiirririz_l3_j2 k x28 x29 false h0_ h0__1 h0__2 h0__3 h0__4 h0__5 h0__6 h1_ h1__1 h1__2 h1__3 h1__4 h1__5 h1__6))
theorem f17_aiirririzaiirririz_l3_j1_ok (k : Nat) (x28 x29 : Int) (x30 : Bool) (h0_ h0__1 : Int) (h0__2 : List T54) (h0__3 : List Int) (h0__4 : Int) (h0__5 : List T44) (h0__6 h1_ h1__1 : Int) (h1__2 : List T54) (h1__3 : List Int) (h1__4 : Int) (h1__5 : List T44) (h1__6 : Int) (r : R17_aiirririzaiirririz_l3) (hF : f17_aiirririzaiirririz_l3_j1 k x28 x29 x30 h0_ h0__1 h0__2 h0__3 h0__4 h0__5 h0__6 h1_ h1__1 h1__2 h1__3 h1__4 h1__5 h1__6 = some r) : EX 17 k (nav B17 [2, 2, 1, 2, 2, 1, 2, 2]) ({ n := 65, F := [(2, V.ptr 30000 0), (3, V.ptr 30001 0), (28, V.p (Value.int .i64 x28)), (29, V.p (Value.int .i64 x29)), (30, V.p (Value.bool x30))], M := [(30000, O.box 28 [V.p (Value.int .i64 h0_), V.p (Value.int .i64 h0__1), V.sl 6 (rowsOf encT54 h0__2), V.sl 1 (rowsOf (encI .i64) h0__3), V.p (Value.int .i64 h0__4), V.sl 3 (rowsOf encT44 h0__5), V.p (Value.int .i64 h0__6)]), (30001, O.box 28 [V.p (Value.int .i64 h1_), V.p (Value.int .i64 h1__1), V.sl 6 (rowsOf encT54 h1__2), V.sl 1 (rowsOf (encI .i64) h1__3), V.p (Value.int .i64 h1__4), V.sl 3 (rowsOf encT44 h1__5), V.p (Value.int .i64 h1__6)])] } : St) = some r.st := by
  unfold f17_aiirririzaiirririz_l3_j1 at hF
  replace hF := ifE_some.1 hF
  obtain ⟨h1, hF⟩ := hF
  replace hF := Option.bind_eq_some_iff.1 hF
  obtain ⟨v2, h3, hF⟩ := hF
  replace hF := Option.bind_eq_some_iff.1 hF
  obtain ⟨v4, h5, hF⟩ := hF
  simp (maxSteps := 999999) (disch := first | exact D (by decide) | exact K (by kernel_rfl)) only [E, EE, ↓reduceIte, simprocAttr, xk B17 [2, 2, 1, 2, 2, 1, 2, 2] .sq rfl, xk B17 [1, 2, 2, 1, 2, 2, 1, 2, 2] (.bk 3) rfl, xk B17 [2, 1, 2, 2, 1, 2, 2, 1, 2, 2] .sq rfl, show (nav B17 [1, 2, 1, 2, 2, 1, 2, 2, 1, 2, 2]) = Code.region 9 _ false from rfl, hk_17_9, hz_17_9, hs_17_9, xk B17 [2, 2, 1, 2, 2, 1, 2, 2, 1, 2, 2] .sq rfl, show (nav B17 [1, 2, 2, 1, 2, 2, 1, 2, 2, 1, 2, 2]) = Code.region 10 _ true from rfl, hk_17_10, hz_17_10, hs_17_10, fieldAddrV, u_28, i_28, is_28, ib_28, iz_28, u_26, i_26, is_26, ib_26, iz_26, indexAddrV, u_44, i_44, is_44, ib_44, iz_44, encT44_eq, ag_44, u_3, i_3, is_3, ib_3, iz_3, u_42, i_42, is_42, ib_42, iz_42, xk B17 [2, 2, 2, 1, 2, 2, 1, 2, 2, 1, 2, 2] (.cd 42) rfl, h1, h3, h5]
  replace hF := cond_some hF
  rcases hF with ⟨h6, hF⟩ | ⟨h6, hF⟩
  · cases hF
    simp (maxSteps := 999999) (disch := first | exact D (by decide) | exact K (by kernel_rfl)) only [E, EE, ↓reduceIte, simprocAttr, xk B17 [2, 2, 2, 2, 1, 2, 2, 1, 2, 2, 1, 2, 2] .sq rfl, show (nav B17 [1, 2, 2, 2, 2, 1, 2, 2, 1, 2, 2, 1, 2, 2]) = Code.region 11 _ false from rfl, hk_17_11, hz_17_11, hs_17_11, xk B17 [2, 2, 2, 2, 2, 1, 2, 2, 1, 2, 2, 1, 2, 2] .rt rfl, R17_aiirririzaiirririz_l3.st, h1, h3, h5, h6]
  · have hJ := f17_aiirririzaiirririz_l3_j2_ok k x28 x29 false h0_ h0__1 h0__2 h0__3 h0__4 h0__5 h0__6 h1_ h1__1 h1__2 h1__3 h1__4 h1__5 h1__6 _ hF
    simp (maxSteps := 999999) (disch := first | exact D (by decide) | exact K (by kernel_rfl)) only [E, EE, ↓reduceIte, simprocAttr, xk B17 [3, 2, 2, 2, 1, 2, 2, 1, 2, 2, 1, 2, 2] .sk rfl, h1, h3, h5, h6]
    try simp only [NM, EE] at hJ
    exact hJ
noncomputable def f17_aiirririzaiirririz_l3_b (k : Nat) (x28 x29 h0_ h0__1 : Int) (h0__2 : List T54) (h0__3 : List Int) (h0__4 : Int) (h0__5 : List T44) (h0__6 h1_ h1__1 : Int) (h1__2 : List T54) (h1__3 : List Int) (h1__4 : Int) (h1__5 : List T44) (h1__6 : Int) : Option R17_aiirririzaiirririz_l3 :=
  cond ((decide (x29 < x28)))
    (f17_aiirririzaiirririz_l3_j1 k x28 x29 true h0_ h0__1 h0__2 h0__3 h0__4 h0__5 h0__6 h1_ h1__1 h1__2 h1__3 h1__4 h1__5 h1__6)
    (some (R17_aiirririzaiirririz_l3.o2 x28 x29 false h0_ h0__1 h0__2 h0__3 h0__4 h0__5 h0__6 h1_ h1__1 h1__2 h1__3 h1__4 h1__5 h1__6))
theorem f17_aiirririzaiirririz_l3_b_ok (k : Nat) (x28 x29 h0_ h0__1 : Int) (h0__2 : List T54) (h0__3 : List Int) (h0__4 : Int) (h0__5 : List T44) (h0__6 h1_ h1__1 : Int) (h1__2 : List T54) (h1__3 : List Int) (h1__4 : Int) (h1__5 : List T44) (h1__6 : Int) (r : R17_aiirririzaiirririz_l3) (hF : f17_aiirririzaiirririz_l3_b k x28 x29 h0_ h0__1 h0__2 h0__3 h0__4 h0__5 h0__6 h1_ h1__1 h1__2 h1__3 h1__4 h1__5 h1__6 = some r) : EX 17 k (nav B17 [1, 2, 2, 1, 2, 2]) ({ n := 65, F := [(2, V.ptr 30000 0), (3, V.ptr 30001 0), (28, V.p (Value.int .i64 x28)), (29, V.p (Value.int .i64 x29))], M := [(30000, O.box 28 [V.p (Value.int .i64 h0_), V.p (Value.int .i64 h0__1), V.sl 6 (rowsOf encT54 h0__2), V.sl 1 (rowsOf (encI .i64) h0__3), V.p (Value.int .i64 h0__4), V.sl 3 (rowsOf encT44 h0__5), V.p (Value.int .i64 h0__6)]), (30001, O.box 28 [V.p (Value.int .i64 h1_), V.p (Value.int .i64 h1__1), V.sl 6 (rowsOf encT54 h1__2), V.sl 1 (rowsOf (encI .i64) h1__3), V.p (Value.int .i64 h1__4), V.sl 3 (rowsOf encT44 h1__5), V.p (Value.int .i64 h1__6)])] } : St) = some r.st := by
  unfold f17_aiirririzaiirririz_l3_b at hF
  simp (maxSteps := 999999) (disch := first | exact D (by decide) | exact K (by kernel_rfl)) only [E, EE, ↓reduceIte, simprocAttr, xk B17 [1, 2, 2, 1, 2, 2] .sq rfl, show (nav B17 [1, 1, 2, 2, 1, 2, 2]) = Code.region 8 _ false from rfl, hk_17_8, hz_17_8, hs_17_8, xk B17 [2, 1, 2, 2, 1, 2, 2] .sq rfl, xk B17 [1, 2, 1, 2, 2, 1, 2, 2] (.cd 30) rfl]
  replace hF := cond_some hF
  rcases hF with ⟨h1, hF⟩ | ⟨h1, hF⟩
  · have hJ := f17_aiirririzaiirririz_l3_j1_ok k x28 x29 true h0_ h0__1 h0__2 h0__3 h0__4 h0__5 h0__6 h1_ h1__1 h1__2 h1__3 h1__4 h1__5 h1__6 _ hF
    simp (maxSteps := 999999) (disch := first | exact D (by decide) | exact K (by kernel_rfl)) only [E, EE, ↓reduceIte, simprocAttr, xk B17 [2, 1, 2, 1, 2, 2, 1, 2, 2] .sk rfl, h1]
    try simp only [NM, EE] at hJ
    exact hJ
  · cases hF
    simp (maxSteps := 999999) (disch := first | exact D (by decide) | exact K (by kernel_rfl)) only [E, EE, ↓reduceIte, simprocAttr, xk B17 [3, 1, 2, 1, 2, 2, 1, 2, 2] (.ex 2) rfl, R17_aiirririzaiirririz_l3.st, h1]
noncomputable def f17_aiirririzaiirririz_l3 (k : Nat) : Nat → Int → Int → Int → Int → (List T54) → (List Int) → Int → (List T44) → Int → Int → Int → (List T54) → (List Int) → Int → (List T44) → Int → Option R17_aiirririzaiirririz_l3
  | 0, _, _, _, _, _, _, _, _, _, _, _, _, _, _, _, _ => none
  | n + 1, x28, x29, h0_, h0__1, h0__2, h0__3, h0__4, h0__5, h0__6, h1_, h1__1, h1__2, h1__3, h1__4, h1__5, h1__6 => Option.bind (f17_aiirririzaiirririz_l3_b k x28 x29 h0_ h0__1 h0__2 h0__3 h0__4 h0__5 h0__6 h1_ h1__1 h1__2 h1__3 h1__4 h1__5 h1__6) fun o =>
    match o with
    | .o0 y => some (.o0 y)
    | .o1 y y_1 y_2 y_3 y_4 y_5 y_6 y_7 y_8 y_9 y_10 y_11 y_12 y_13 y_14 y_15 => f17_aiirririzaiirririz_l3 k n y y_1 y_2 y_3 y_4 y_5 y_6 y_7 y_8 y_9 y_10 y_11 y_12 y_13 y_14 y_15
    | .o2 y y_1 y_2 y_3 y_4 y_5 y_6 y_7 y_8 y_9 y_10 y_11 y_12 y_13 y_14 y_15 y_16 => some (.o2 y y_1 y_2 y_3 y_4 y_5 y_6 y_7 y_8 y_9 y_10 y_11 y_12 y_13 y_14 y_15 y_16)
theorem f17_aiirririzaiirririz_l3_ok (k n : Nat) : ∀ (x28 x29 h0_ h0__1 : Int) (h0__2 : List T54) (h0__3 : List Int) (h0__4 : Int) (h0__5 : List T44) (h0__6 h1_ h1__1 : Int) (h1__2 : List T54) (h1__3 : List Int) (h1__4 : Int) (h1__5 : List T44) (h1__6 : Int) (r : R17_aiirririzaiirririz_l3) (hF : f17_aiirririzaiirririz_l3 k n x28 x29 h0_ h0__1 h0__2 h0__3 h0__4 h0__5 h0__6 h1_ h1__1 h1__2 h1__3 h1__4 h1__5 h1__6 = some r) (σ : St) (hσ : headR (hints.head 17 8) (hints.canon 17 8) σ = some ({ n := 65, F := [(2, V.ptr 30000 0), (3, V.ptr 30001 0), (28, V.p (Value.int .i64 x28)), (29, V.p (Value.int .i64 x29))], M := [(30000, O.box 28 [V.p (Value.int .i64 h0_), V.p (Value.int .i64 h0__1), V.sl 6 (rowsOf encT54 h0__2), V.sl 1 (rowsOf (encI .i64) h0__3), V.p (Value.int .i64 h0__4), V.sl 3 (rowsOf encT44 h0__5), V.p (Value.int .i64 h0__6)]), (30001, O.box 28 [V.p (Value.int .i64 h1_), V.p (Value.int .i64 h1__1), V.sl 6 (rowsOf encT54 h1__2), V.sl 1 (rowsOf (encI .i64) h1__3), V.p (Value.int .i64 h1__4), V.sl 3 (rowsOf encT44 h1__5), V.p (Value.int .i64 h1__6)])] } : St)), LP 17 k (nav B17 [1, 2, 2, 1, 2, 2]) n σ = some r.st := by
  induction n with
  | zero => intro x28 x29 h0_ h0__1 h0__2 h0__3 h0__4 h0__5 h0__6 h1_ h1__1 h1__2 h1__3 h1__4 h1__5 h1__6 r hF; cases hF
  | succ n ih =>
    intro x28 x29 h0_ h0__1 h0__2 h0__3 h0__4 h0__5 h0__6 h1_ h1__1 h1__2 h1__3 h1__4 h1__5 h1__6 r hF σ hσ
    rw [f17_aiirririzaiirririz_l3] at hF
    obtain ⟨o, h, hF⟩ := Option.bind_eq_some_iff.1 hF
    have hB := f17_aiirririzaiirririz_l3_b_ok k x28 x29 h0_ h0__1 h0__2 h0__3 h0__4 h0__5 h0__6 h1_ h1__1 h1__2 h1__3 h1__4 h1__5 h1__6 o h
    unfold LP at ih ⊢
    unfold EX at hB
    rw [loopK_succ, show firstReg (nav B17 [1, 2, 2, 1, 2, 2]) = 8 from rfl, hσ, headK_some, hB]
    cases o with
    | o0 y => cases hF; rfl
    | o1 y y_1 y_2 y_3 y_4 y_5 y_6 y_7 y_8 y_9 y_10 y_11 y_12 y_13 y_14 y_15 =>
      refine ih y y_1 y_2 y_3 y_4 y_5 y_6 y_7 y_8 y_9 y_10 y_11 y_12 y_13 y_14 y_15 r hF _ ?_
      simp (maxSteps := 999999) (disch := first | exact D (by decide) | exact K (by kernel_rfl)) only [E, EE, ↓reduceIte, simprocAttr, hh_17_8, hc_17_8]
    | o2 y y_1 y_2 y_3 y_4 y_5 y_6 y_7 y_8 y_9 y_10 y_11 y_12 y_13 y_14 y_15 y_16 => cases hF; rfl
inductive R17_aiirririzaiirririz_l5 where
  | o0 (y : Bool)
  | o1 (y y_1 y_2 y_3 : Int) (y_4 : List T54) (y_5 : List Int) (y_6 : Int) (y_7 : List T44) (y_8 y_9 y_10 : Int) (y_11 : List T54) (y_12 : List Int) (y_13 : Int) (y_14 : List T44) (y_15 : Int)
  | o2 (y y_1 : Int) (y_2 : Bool) (y_3 y_4 : Int) (y_5 : List T54) (y_6 : List Int) (y_7 : Int) (y_8 : List T44) (y_9 y_10 y_11 : Int) (y_12 : List T54) (y_13 : List Int) (y_14 : Int) (y_15 : List T44) (y_16 : Int)
noncomputable def R17_aiirririzaiirririz_l5.st : R17_aiirririzaiirririz_l5 → Out × St
  | .o0 y => (.ret, ({ n := 65, F := [(4, V.p (Value.bool y))], M := [] } : St))
  | .o1 y y_1 y_2 y_3 y_4 y_5 y_6 y_7 y_8 y_9 y_10 y_11 y_12 y_13 y_14 y_15 => (.norm, ({ n := 65, F := [(2, V.ptr 30000 0), (3, V.ptr 30001 0), (47, V.p (Value.int .i64 y)), (48, V.p (Value.int .i64 y_1))], M := [(30000, O.box 28 [V.p (Value.int .i64 y_2), V.p (Value.int .i64 y_3), V.sl 6 (rowsOf encT54 y_4), V.sl 1 (rowsOf (encI .i64) y_5), V.p (Value.int .i64 y_6), V.sl 3 (rowsOf encT44 y_7), V.p (Value.int .i64 y_8)]), (30001, O.box 28 [V.p (Value.int .i64 y_9), V.p (Value.int .i64 y_10), V.sl 6 (rowsOf encT54 y_11), V.sl 1 (rowsOf (encI .i64) y_12), V.p (Value.int .i64 y_13), V.sl 3 (rowsOf encT44 y_14), V.p (Value.int .i64 y_15)])] } : St))
  | .o2 y y_1 y_2 y_3 y_4 y_5 y_6 y_7 y_8 y_9 y_10 y_11 y_12 y_13 y_14 y_15 y_16 => (.exit 4, ({ n := 65, F := [(2, V.ptr 30000 0), (3, V.ptr 30001 0), (47, V.p (Value.int .i64 y)), (48, V.p (Value.int .i64 y_1)), (49, V.p (Value.bool y_2))], M := [(30000, O.box 28 [V.p (Value.int .i64 y_3), V.p (Value.int .i64 y_4), V.sl 6 (rowsOf encT54 y_5), V.sl 1 (rowsOf (encI .i64) y_6), V.p (Value.int .i64 y_7), V.sl 3 (rowsOf encT44 y_8), V.p (Value.int .i64 y_9)]), (30001, O.box 28 [V.p (Value.int .i64 y_10), V.p (Value.int .i64 y_11), V.sl 6 (rowsOf encT54 y_12), V.sl 1 (rowsOf (encI .i64) y_13), V.p (Value.int .i64 y_14), V.sl 3 (rowsOf encT44 y_15), V.p (Value.int .i64 y_16)])] } : St))
noncomputable def f17_aiirririzaiirririz_l5_j2 (k : Nat) (x47 x48 : Int) (x63 : Bool) (h0_ h0__1 : Int) (h0__2 : List T54) (h0__3 : List Int) (h0__4 : Int) (h0__5 : List T44) (h0__6 h1_ h1__1 : Int) (h1__2 : List T54) (h1__3 : List Int) (h1__4 : Int) (h1__5 : List T44) (h1__6 : Int) : Option R17_aiirririzaiirririz_l5 :=
  some (R17_aiirririzaiirririz_l5.o1 x47 (IntKind.i64.wrap (x48 + (1 : Int))) h0_ h0__1 h0__2 h0__3 h0__4 h0__5 h0__6 h1_ h1__1 h1__2 h1__3 h1__4 h1__5 h1__6)
theorem f17_aiirririzaiirririz_l5_j2_ok (k : Nat) (x47 x48 : Int) (x63 : Bool) (h0_ h0__1 : Int) (h0__2 : List T54) (h0__3 : List Int) (h0__4 : Int) (h0__5 : List T44) (h0__6 h1_ h1__1 : Int) (h1__2 : List T54) (h1__3 : List Int) (h1__4 : Int) (h1__5 : List T44) (h1__6 : Int) (r : R17_aiirririzaiirririz_l5) (hF : f17_aiirririzaiirririz_l5_j2 k x47 x48 x63 h0_ h0__1 h0__2 h0__3 h0__4 h0__5 h0__6 h1_ h1__1 h1__2 h1__3 h1__4 h1__5 h1__6 = some r) : EX 17 k (nav B17 [2, 2, 2, 1, 2, 2, 1, 2, 2, 2]) ({ n := 65, F := [(2, V.ptr 30000 0), (3, V.ptr 30001 0), (47, V.p (Value.int .i64 x47)), (48, V.p (Value.int .i64 x48)), (63, V.p (Value.bool x63))], M := [(30000, O.box 28 [V.p (Value.int .i64 h0_), V.p (Value.int .i64 h0__1), V.sl 6 (rowsOf encT54 h0__2), V.sl 1 (rowsOf (encI .i64) h0__3), V.p (Value.int .i64 h0__4), V.sl 3 (rowsOf encT44 h0__5), V.p (Value.int .i64 h0__6)]), (30001, O.box 28 [V.p (Value.int .i64 h1_), V.p (Value.int .i64 h1__1), V.sl 6 (rowsOf encT54 h1__2), V.sl 1 (rowsOf (encI .i64) h1__3), V.p (Value.int .i64 h1__4), V.sl 3 (rowsOf encT44 h1__5), V.p (Value.int .i64 h1__6)])] } : St) = some r.st := by
  unfold f17_aiirririzaiirririz_l5_j2 at hF
  cases hF
  simp (maxSteps := 999999) (disch := first | exact D (by decide) | exact K (by kernel_rfl)) only [E, EE, ↓reduceIte, simprocAttr, show (nav B17 [2, 2, 2, 1, 2, 2, 1, 2, 2, 2]) = Code.region 18 _ false from rfl, hk_17_18, hz_17_18, hs_17_18, R17_aiirririzaiirririz_l5.st]
noncomputable def f17_aiirririzaiirririz_l5_j1 (k : Nat) (x47 x48 : Int) (x49 : Bool) (h0_ h0__1 : Int) (h0__2 : List T54) (h0__3 : List Int) (h0__4 : Int) (h0__5 : List T44) (h0__6 h1_ h1__1 : Int) (h1__2 : List T54) (h1__3 : List Int) (h1__4 : Int) (h1__5 : List T44) (h1__6 : Int) : Option R17_aiirririzaiirririz_l5 :=
  ifE ((0 : Int) ≤ x48) (
    Option.bind (h0__2[(Int.toNat x48)]?) fun v2 =>
      Option.bind (h1__2[(Int.toNat x48)]?) fun v4 =>
        cond ((!((v2.From == v4.From) && ((v2.To == v4.To) && ((v2.Start == v4.Start) && ((v2.End == v4.End) && ((v2.Rate == v4.Rate) && (v2.Delay == v4.Delay))))))))
          (some (R17_aiirririzaiirririz_l5.o0 false))
          (f17_aiirririzaiirririz_l5_j2 k x47 x48 false h0_ h0__1 h0__2 h0__3 h0__4 h0__5 h0__6 h1_ h1__1 h1__2 h1__3 h1__4 h1__5 h1__6))
theorem f17_aiirririzaiirririz_l5_j1_ok (k : Nat) (x47 x48 : Int) (x49 : Bool) (h0_ h0__1 : Int) (h0__2 : List T54) (h0__3 : List Int) (h0__4 : Int) (h0__5 : List T44) (h0__6 h1_ h1__1 : Int) (h1__2 : List T54) (h1__3 : List Int) (h1__4 : Int) (h1__5 : List T44) (h1__6 : Int) (r : R17_aiirririzaiirririz_l5) (hF : f17_aiirririzaiirririz_l5_j1 k x47 x48 x49 h0_ h0__1 h0__2 h0__3 h0__4 h0__5 h0__6 h1_ h1__1 h1__2 h1__3 h1__4 h1__5 h1__6 = some r) : EX 17 k (nav B17 [2, 2, 1, 2, 2, 1, 2, 2, 2]) ({ n := 65, F := [(2, V.ptr 30000 0), (3, V.ptr 30001 0), (47, V.p (Value.int .i64 x47)), (48, V.p (Value.int .i64 x48)), (49, V.p (Value.bool x49))], M := [(30000, O.box 28 [V.p (Value.int .i64 h0_), V.p (Value.int .i64 h0__1), V.sl 6 (rowsOf encT54 h0__2), V.sl 1 (rowsOf (encI .i64) h0__3), V.p (Value.int .i64 h0__4), V.sl 3 (rowsOf encT44 h0__5), V.p (Value.int .i64 h0__6)]), (30001, O.box 28 [V.p (Value.int .i64 h1_), V.p (Value.int .i64 h1__1), V.sl 6 (rowsOf encT54 h1__2), V.sl 1 (rowsOf (encI .i64) h1__3), V.p (Value.int .i64 h1__4), V.sl 3 (rowsOf encT44 h1__5), V.p (Value.int .i64 h1__6)])] } : St) = some r.st := by
  unfold f17_aiirririzaiirririz_l5_j1 at hF
  replace hF := ifE_some.1 hF
  obtain ⟨h1, hF⟩ := hF
  replace hF := Option.bind_eq_some_iff.1 hF
  obtain ⟨v2, h3, hF⟩ := hF
  replace hF := Option.bind_eq_some_iff.1 hF
  obtain ⟨v4, h5, hF⟩ := hF
  simp (maxSteps := 999999) (disch := first | exact D (by decide) | exact K (by kernel_rfl)) only [E, EE, ↓reduceIte, simprocAttr, xk B17 [2, 2, 1, 2, 2, 1, 2, 2, 2] .sq rfl, xk B17 [1, 2, 2, 1, 2, 2, 1, 2, 2, 2] (.bk 5) rfl, xk B17 [2, 1, 2, 2, 1, 2, 2, 1, 2, 2, 2] .sq rfl, show (nav B17 [1, 2, 1, 2, 2, 1, 2, 2, 1, 2, 2, 2]) = Code.region 15 _ false from rfl, hk_17_15, hz_17_15, hs_17_15, xk B17 [2, 2, 1, 2, 2, 1, 2, 2, 1, 2, 2, 2] .sq rfl, show (nav B17 [1, 2, 2, 1, 2, 2, 1, 2, 2, 1, 2, 2, 2]) = Code.region 16 _ true from rfl, hk_17_16, hz_17_16, hs_17_16, fieldAddrV, u_28, i_28, is_28, ib_28, iz_28, u_24, i_24, is_24, ib_24, iz_24, u_22, i_22, is_22, ib_22, iz_22, indexAddrV, u_54, i_54, is_54, ib_54, iz_54, encT54_eq, ag_54, u_3, i_3, is_3, ib_3, iz_3, xk B17 [2, 2, 2, 1, 2, 2, 1, 2, 2, 1, 2, 2, 2] (.cd 63) rfl, h1, h3, h5]
  replace hF := cond_some hF
  rcases hF with ⟨h6, hF⟩ | ⟨h6, hF⟩
  · cases hF
    simp (maxSteps := 999999) (disch := first | exact D (by decide) | exact K (by kernel_rfl)) only [E, EE, ↓reduceIte, simprocAttr, xk B17 [2, 2, 2, 2, 1, 2, 2, 1, 2, 2, 1, 2, 2, 2] .sq rfl, show (nav B17 [1, 2, 2, 2, 2, 1, 2, 2, 1, 2, 2, 1, 2, 2, 2]) = Code.region 17 _ false from rfl, hk_17_17, hz_17_17, hs_17_17, xk B17 [2, 2, 2, 2, 2, 1, 2, 2, 1, 2, 2, 1, 2, 2, 2] .rt rfl, R17_aiirririzaiirririz_l5.st, h1, h3, h5, h6]
  · have hJ := f17_aiirririzaiirririz_l5_j2_ok k x47 x48 false h0_ h0__1 h0__2 h0__3 h0__4 h0__5 h0__6 h1_ h1__1 h1__2 h1__3 h1__4 h1__5 h1__6 _ hF
    simp (maxSteps := 999999) (disch := first | exact D (by decide) | exact K (by kernel_rfl)) only [E, EE, ↓reduceIte, simprocAttr, xk B17 [3, 2, 2, 2, 1, 2, 2, 1, 2, 2, 1, 2, 2, 2] .sk rfl, h1, h3, h5, h6]
    try simp only [NM, EE] at hJ
    exact hJ
noncomputable def f17_aiirririzaiirririz_l5_b (k : Nat) (x47 x48 h0_ h0__1 : Int) (h0__2 : List T54) (h0__3 : List Int) (h0__4 : Int) (h0__5 : List T44) (h0__6 h1_ h1__1 : Int) (h1__2 : List T54) (h1__3 : List Int) (h1__4 : Int) (h1__5 : List T44) (h1__6 : Int) : Option R17_aiirririzaiirririz_l5 :=
  cond ((decide (x48 < x47)))
    (f17_aiirririzaiirririz_l5_j1 k x47 x48 true h0_ h0__1 h0__2 h0__3 h0__4 h0__5 h0__6 h1_ h1__1 h1__2 h1__3 h1__4 h1__5 h1__6)
    (some (R17_aiirririzaiirririz_l5.o2 x47 x48 false h0_ h0__1 h0__2 h0__3 h0__4 h0__5 h0__6 h1_ h1__1 h1__2 h1__3 h1__4 h1__5 h1__6))
theorem f17_aiirririzaiirririz_l5_b_ok (k : Nat) (x47 x48 h0_ h0__1 : Int) (h0__2 : List T54) (h0__3 : List Int) (h0__4 : Int) (h0__5 : List T44) (h0__6 h1_ h1__1 : Int) (h1__2 : List T54) (h1__3 : List Int) (h1__4 : Int) (h1__5 : List T44) (h1__6 : Int) (r : R17_aiirririzaiirririz_l5) (hF : f17_aiirririzaiirririz_l5_b k x47 x48 h0_ h0__1 h0__2 h0__3 h0__4 h0__5 h0__6 h1_ h1__1 h1__2 h1__3 h1__4 h1__5 h1__6 = some r) : EX 17 k (nav B17 [1, 2, 2, 1, 2, 2, 2]) ({ n := 65, F := [(2, V.ptr 30000 0), (3, V.ptr 30001 0), (47, V.p (Value.int .i64 x47)), (48, V.p (Value.int .i64 x48))], M := [(30000, O.box 28 [V.p (Value.int .i64 h0_), V.p (Value.int .i64 h0__1), V.sl 6 (rowsOf encT54 h0__2), V.sl 1 (rowsOf (encI .i64) h0__3), V.p (Value.int .i64 h0__4), V.sl 3 (rowsOf encT44 h0__5), V.p (Value.int .i64 h0__6)]), (30001, O.box 28 [V.p (Value.int .i64 h1_), V.p (Value.int .i64 h1__1), V.sl 6 (rowsOf encT54 h1__2), V.sl 1 (rowsOf (encI .i64) h1__3), V.p (Value.int .i64 h1__4), V.sl 3 (rowsOf encT44 h1__5), V.p (Value.int .i64 h1__6)])] } : St) = some r.st := by
  unfold f17_aiirririzaiirririz_l5_b at hF
  simp (maxSteps := 999999) (disch := first | exact D (by decide) | exact K (by kernel_rfl)) only [E, EE, ↓reduceIte, simprocAttr, xk B17 [1, 2, 2, 1, 2, 2, 2] .sq rfl, show (nav B17 [1, 1, 2, 2, 1, 2, 2, 2]) = Code.region 14 _ false from rfl, hk_17_14, hz_17_14, hs_17_14, xk B17 [2, 1, 2, 2, 1, 2, 2, 2] .sq rfl, xk B17 [1, 2, 1, 2, 2, 1, 2, 2, 2] (.cd 49) rfl]
  replace hF := cond_some hF
  rcases hF with ⟨h1, hF⟩ | ⟨h1, hF⟩
  · have hJ := f17_aiirririzaiirririz_l5_j1_ok k x47 x48 true h0_ h0__1 h0__2 h0__3 h0__4 h0__5 h0__6 h1_ h1__1 h1__2 h1__3 h1__4 h1__5 h1__6 _ hF
    simp (maxSteps := 999999) (disch := first | exact D (by decide) | exact K (by kernel_rfl)) only [E, EE, ↓reduceIte, simprocAttr, xk B17 [2, 1, 2, 1, 2, 2, 1, 2, 2, 2] .sk rfl, h1]
    try simp only [NM, EE] at hJ
    exact hJ
  · cases hF
    simp (maxSteps := 999999) (disch := first | exact D (by decide) | exact K (by kernel_rfl)) only [E, EE, ↓reduceIte, simprocAttr, xk B17 [3, 1, 2, 1, 2, 2, 1, 2, 2, 2] (.ex 4) rfl, R17_aiirririzaiirririz_l5.st, h1]
noncomputable def f17_aiirririzaiirririz_l5 (k : Nat) : Nat → Int → Int → Int → Int → (List T54) → (List Int) → Int → (List T44) → Int → Int → Int → (List T54) → (List Int) → Int → (List T44) → Int → Option R17_aiirririzaiirririz_l5
  | 0, _, _, _, _, _, _, _, _, _, _, _, _, _, _, _, _ => none
  | n + 1, x47, x48, h0_, h0__1, h0__2, h0__3, h0__4, h0__5, h0__6, h1_, h1__1, h1__2, h1__3, h1__4, h1__5, h1__6 => Option.bind (f17_aiirririzaiirririz_l5_b k x47 x48 h0_ h0__1 h0__2 h0__3 h0__4 h0__5 h0__6 h1_ h1__1 h1__2 h1__3 h1__4 h1__5 h1__6) fun o =>
    match o with
    | .o0 y => some (.o0 y)
    | .o1 y y_1 y_2 y_3 y_4 y_5 y_6 y_7 y_8 y_9 y_10 y_11 y_12 y_13 y_14 y_15 => f17_aiirririzaiirririz_l5 k n y y_1 y_2 y_3 y_4 y_5 y_6 y_7 y_8 y_9 y_10 y_11 y_12 y_13 y_14 y_15
    | .o2 y y_1 y_2 y_3 y_4 y_5 y_6 y_7 y_8 y_9 y_10 y_11 y_12 y_13 y_14 y_15 y_16 => some (.o2 y y_1 y_2 y_3 y_4 y_5 y_6 y_7 y_8 y_9 y_10 y_11 y_12 y_13 y_14 y_15 y_16)
theorem f17_aiirririzaiirririz_l5_ok (k n : Nat) : ∀ (x47 x48 h0_ h0__1 : Int) (h0__2 : List T54) (h0__3 : List Int) (h0__4 : Int) (h0__5 : List T44) (h0__6 h1_ h1__1 : Int) (h1__2 : List T54) (h1__3 : List Int) (h1__4 : Int) (h1__5 : List T44) (h1__6 : Int) (r : R17_aiirririzaiirririz_l5) (hF : f17_aiirririzaiirririz_l5 k n x47 x48 h0_ h0__1 h0__2 h0__3 h0__4 h0__5 h0__6 h1_ h1__1 h1__2 h1__3 h1__4 h1__5 h1__6 = some r) (σ : St) (hσ : headR (hints.head 17 14) (hints.canon 17 14) σ = some ({ n := 65, F := [(2, V.ptr 30000 0), (3, V.ptr 30001 0), (47, V.p (Value.int .i64 x47)), (48, V.p (Value.int .i64 x48))], M := [(30000, O.box 28 [V.p (Value.int .i64 h0_), V.p (Value.int .i64 h0__1), V.sl 6 (rowsOf encT54 h0__2), V.sl 1 (rowsOf (encI .i64) h0__3), V.p (Value.int .i64 h0__4), V.sl 3 (rowsOf encT44 h0__5), V.p (Value.int .i64 h0__6)]), (30001, O.box 28 [V.p (Value.int .i64 h1_), V.p (Value.int .i64 h1__1), V.sl 6 (rowsOf encT54 h1__2), V.sl 1 (rowsOf (encI .i64) h1__3), V.p (Value.int .i64 h1__4), V.sl 3 (rowsOf encT44 h1__5), V.p (Value.int .i64 h1__6)])] } : St)), LP 17 k (nav B17 [1, 2, 2, 1, 2, 2, 2]) n σ = some r.st := by
  induction n with
  | zero => intro x47 x48 h0_ h0__1 h0__2 h0__3 h0__4 h0__5 h0__6 h1_ h1__1 h1__2 h1__3 h1__4 h1__5 h1__6 r hF; cases hF
  | succ n ih =>
    intro x47 x48 h0_ h0__1 h0__2 h0__3 h0__4 h0__5 h0__6 h1_ h1__1 h1__2 h1__3 h1__4 h1__5 h1__6 r hF σ hσ
    rw [f17_aiirririzaiirririz_l5] at hF
    obtain ⟨o, h, hF⟩ := Option.bind_eq_some_iff.1 hF
    have hB := f17_aiirririzaiirririz_l5_b_ok k x47 x48 h0_ h0__1 h0__2 h0__3 h0__4 h0__5 h0__6 h1_ h1__1 h1__2 h1__3 h1__4 h1__5 h1__6 o h
    unfold LP at ih ⊢
    unfold EX at hB
    rw [loopK_succ, show firstReg (nav B17 [1, 2, 2, 1, 2, 2, 2]) = 14 from rfl, hσ, headK_some, hB]
    cases o with
    | o0 y => cases hF; rfl
    | o1 y y_1 y_2 y_3 y_4 y_5 y_6 y_7 y_8 y_9 y_10 y_11 y_12 y_13 y_14 y_15 =>
      refine ih y y_1 y_2 y_3 y_4 y_5 y_6 y_7 y_8 y_9 y_10 y_11 y_12 y_13 y_14 y_15 r hF _ ?_
      simp (maxSteps := 999999) (disch := first | exact D (by decide) | exact K (by kernel_rfl)) only [E, EE, ↓reduceIte, simprocAttr, hh_17_14, hc_17_14]
    | o2 y y_1 y_2 y_3 y_4 y_5 y_6 y_7 y_8 y_9 y_10 y_11 y_12 y_13 y_14 y_15 y_16 => cases hF; rfl
noncomputable def f17_aiirririzaiirririz_j6 (k : Nat) (x47 x48 : Int) (x49 : Bool) (h0_ h0__1 : Int) (h0__2 : List T54) (h0__3 : List Int) (h0__4 : Int) (h0__5 : List T44) (h0__6 h1_ h1__1 : Int) (h1__2 : List T54) (h1__3 : List Int) (h1__4 : Int) (h1__5 : List T44) (h1__6 : Int) : Option R17_aiirririzaiirririz :=
  some (R17_aiirririzaiirririz.o0 true)
theorem f17_aiirririzaiirririz_j6_ok (k : Nat) (x47 x48 : Int) (x49 : Bool) (h0_ h0__1 : Int) (h0__2 : List T54) (h0__3 : List Int) (h0__4 : Int) (h0__5 : List T44) (h0__6 h1_ h1__1 : Int) (h1__2 : List T54) (h1__3 : List Int) (h1__4 : Int) (h1__5 : List T44) (h1__6 : Int) (r : R17_aiirririzaiirririz) (hF : f17_aiirririzaiirririz_j6 k x47 x48 x49 h0_ h0__1 h0__2 h0__3 h0__4 h0__5 h0__6 h1_ h1__1 h1__2 h1__3 h1__4 h1__5 h1__6 = some r) : finK Tryd.prog Tryd.f17 0 (EX 17 k (nav B17 [2, 2, 2, 2]) ({ n := 65, F := [(2, V.ptr 30000 0), (3, V.ptr 30001 0), (47, V.p (Value.int .i64 x47)), (48, V.p (Value.int .i64 x48)), (49, V.p (Value.bool x49))], M := [(30000, O.box 28 [V.p (Value.int .i64 h0_), V.p (Value.int .i64 h0__1), V.sl 6 (rowsOf encT54 h0__2), V.sl 1 (rowsOf (encI .i64) h0__3), V.p (Value.int .i64 h0__4), V.sl 3 (rowsOf encT44 h0__5), V.p (Value.int .i64 h0__6)]), (30001, O.box 28 [V.p (Value.int .i64 h1_), V.p (Value.int .i64 h1__1), V.sl 6 (rowsOf encT54 h1__2), V.sl 1 (rowsOf (encI .i64) h1__3), V.p (Value.int .i64 h1__4), V.sl 3 (rowsOf encT44 h1__5), V.p (Value.int .i64 h1__6)])] } : St)) = some r.st := by
  unfold f17_aiirririzaiirririz_j6 at hF
  cases hF
  simp (maxSteps := 999999) (disch := first | exact D (by decide) | exact K (by kernel_rfl)) only [E, EE, ↓reduceIte, simprocAttr, xk B17 [2, 2, 2, 2] .sq rfl, show (nav B17 [1, 2, 2, 2, 2]) = Code.region 19 _ false from rfl, hk_17_19, hz_17_19, hs_17_19, xk B17 [2, 2, 2, 2, 2] .rt rfl, finK_norm, finK_ret, fin17, R17_aiirririzaiirririz.st]
noncomputable def f17_aiirririzaiirririz_j4 (k : Nat) (x28 x29 : Int) (x30 : Bool) (h0_ h0__1 : Int) (h0__2 : List T54) (h0__3 : List Int) (h0__4 : Int) (h0__5 : List T44) (h0__6 h1_ h1__1 : Int) (h1__2 : List T54) (h1__3 : List Int) (h1__4 : Int) (h1__5 : List T44) (h1__6 : Int) : Option R17_aiirririzaiirririz :=
  Option.bind (f17_aiirririzaiirririz_l5 k k ((List.length h0__2) : Int) 0 h0_ h0__1 h0__2 h0__3 h0__4 h0__5 h0__6 h1_ h1__1 h1__2 h1__3 h1__4 h1__5 h1__6) fun o1 =>
    match o1 with
    | .o0 v4 =>
      some (R17_aiirririzaiirririz.o0 v4)
    | .o1 _ _ _ _ _ _ _ _ _ _ _ _ _ _ _ _ =>
      none
    | .o2 v5 v6 v7 v8 v9 v10 v11 v12 v13 v14 v15 v16 v17 v18 v19 v20 v21 =>
      f17_aiirririzaiirririz_j6 k v5 v6 v7 v8 v9 v10 v11 v12 v13 v14 v15 v16 v17 v18 v19 v20 v21
theorem f17_aiirririzaiirririz_j4_ok (k : Nat) (x28 x29 : Int) (x30 : Bool) (h0_ h0__1 : Int) (h0__2 : List T54) (h0__3 : List Int) (h0__4 : Int) (h0__5 : List T44) (h0__6 h1_ h1__1 : Int) (h1__2 : List T54) (h1__3 : List Int) (h1__4 : Int) (h1__5 : List T44) (h1__6 : Int) (r : R17_aiirririzaiirririz) (hF : f17_aiirririzaiirririz_j4 k x28 x29 x30 h0_ h0__1 h0__2 h0__3 h0__4 h0__5 h0__6 h1_ h1__1 h1__2 h1__3 h1__4 h1__5 h1__6 = some r) : finK Tryd.prog Tryd.f17 0 (EX 17 k (nav B17 [2, 2, 2]) ({ n := 65, F := [(2, V.ptr 30000 0), (3, V.ptr 30001 0), (28, V.p (Value.int .i64 x28)), (29, V.p (Value.int .i64 x29)), (30, V.p (Value.bool x30))], M := [(30000, O.box 28 [V.p (Value.int .i64 h0_), V.p (Value.int .i64 h0__1), V.sl 6 (rowsOf encT54 h0__2), V.sl 1 (rowsOf (encI .i64) h0__3), V.p (Value.int .i64 h0__4), V.sl 3 (rowsOf encT44 h0__5), V.p (Value.int .i64 h0__6)]), (30001, O.box 28 [V.p (Value.int .i64 h1_), V.p (Value.int .i64 h1__1), V.sl 6 (rowsOf encT54 h1__2), V.sl 1 (rowsOf (encI .i64) h1__3), V.p (Value.int .i64 h1__4), V.sl 3 (rowsOf encT44 h1__5), V.p (Value.int .i64 h1__6)])] } : St)) = some r.st := by
  unfold f17_aiirririzaiirririz_j4 at hF
  replace hF := Option.bind_eq_some_iff.1 hF
  obtain ⟨o1, h2, hF⟩ := hF
  have hc3 := f17_aiirririzaiirririz_l5_ok k k ((List.length h0__2) : Int) 0 h0_ h0__1 h0__2 h0__3 h0__4 h0__5 h0__6 h1_ h1__1 h1__2 h1__3 h1__4 h1__5 h1__6 _ h2
  simp (maxSteps := 999999) (disch := first | exact D (by decide) | exact K (by kernel_rfl)) only [E, EE, ↓reduceIte, simprocAttr, xk B17 [2, 2, 2] .sq rfl, xk B17 [1, 2, 2, 2] .sq rfl, show (nav B17 [1, 1, 2, 2, 2]) = Code.region 13 _ false from rfl, hk_17_13, hz_17_13, hs_17_13, fieldAddrV, u_28, i_28, is_28, ib_28, iz_28, u_24, i_24, is_24, ib_24, iz_24, u_22, i_22, is_22, ib_22, iz_22, xk B17 [2, 1, 2, 2, 2] (.bk 4) rfl, xk B17 [2, 2, 1, 2, 2, 2] .lp rfl, hh_17_14, hc_17_14]
  (try simp only [NM, EE] at hc3)
  rw [hc3 _ (by simp (maxSteps := 999999) (disch := first | exact D (by decide) | exact K (by kernel_rfl)) only [E, EE, ↓reduceIte, simprocAttr, hh_17_14, hc_17_14])]
  clear hc3
  cases o1 with
  | o0 v4 =>
    (try dsimp only at hF)
    cases hF
    simp (maxSteps := 999999) (disch := first | exact D (by decide) | exact K (by kernel_rfl)) only [E, EE, ↓reduceIte, simprocAttr, R17_aiirririzaiirririz_l5.st, finK_norm, finK_ret, fin17, R17_aiirririzaiirririz.st]
  | o1 _ _ _ _ _ _ _ _ _ _ _ _ _ _ _ _ =>
    (try dsimp only at hF)
    cases hF
  | o2 v5 v6 v7 v8 v9 v10 v11 v12 v13 v14 v15 v16 v17 v18 v19 v20 v21 =>
    (try dsimp only at hF)
    have hJ := f17_aiirririzaiirririz_j6_ok k v5 v6 v7 v8 v9 v10 v11 v12 v13 v14 v15 v16 v17 v18 v19 v20 v21 _ hF
    simp (maxSteps := 999999) (disch := first | exact D (by decide) | exact K (by kernel_rfl)) only [E, EE, ↓reduceIte, simprocAttr, R17_aiirririzaiirririz_l5.st]
    try simp only [NM, EE] at hJ
    exact hJ
noncomputable def f17_aiirririzaiirririz_j2 (k : Nat) (x10 x11 : Int) (x12 : Bool) (h0_ h0__1 : Int) (h0__2 : List T54) (h0__3 : List Int) (h0__4 : Int) (h0__5 : List T44) (h0__6 h1_ h1__1 : Int) (h1__2 : List T54) (h1__3 : List Int) (h1__4 : Int) (h1__5 : List T44) (h1__6 : Int) : Option R17_aiirririzaiirririz :=
  Option.bind (f17_aiirririzaiirririz_l3 k k ((List.length h0__5) : Int) 0 h0_ h0__1 h0__2 h0__3 h0__4 h0__5 h0__6 h1_ h1__1 h1__2 h1__3 h1__4 h1__5 h1__6) fun o1 =>
    match o1 with
    | .o0 v4 =>
      some (R17_aiirririzaiirririz.o0 v4)
    | .o1 _ _ _ _ _ _ _ _ _ _ _ _ _ _ _ _ =>
      none
    | .o2 v5 v6 v7 v8 v9 v10 v11 v12 v13 v14 v15 v16 v17 v18 v19 v20 v21 =>
      f17_aiirririzaiirririz_j4 k v5 v6 v7 v8 v9 v10 v11 v12 v13 v14 v15 v16 v17 v18 v19 v20 v21
theorem f17_aiirririzaiirririz_j2_ok (k : Nat) (x10 x11 : Int) (x12 : Bool) (h0_ h0__1 : Int) (h0__2 : List T54) (h0__3 : List Int) (h0__4 : Int) (h0__5 : List T44) (h0__6 h1_ h1__1 : Int) (h1__2 : List T54) (h1__3 : List Int) (h1__4 : Int) (h1__5 : List T44) (h1__6 : Int) (r : R17_aiirririzaiirririz) (hF : f17_aiirririzaiirririz_j2 k x10 x11 x12 h0_ h0__1 h0__2 h0__3 h0__4 h0__5 h0__6 h1_ h1__1 h1__2 h1__3 h1__4 h1__5 h1__6 = some r) : finK Tryd.prog Tryd.f17 0 (EX 17 k (nav B17 [2, 2]) ({ n := 65, F := [(2, V.ptr 30000 0), (3, V.ptr 30001 0), (10, V.p (Value.int .i64 x10)), (11, V.p (Value.int .i64 x11)), (12, V.p (Value.bool x12))], M := [(30000, O.box 28 [V.p (Value.int .i64 h0_), V.p (Value.int .i64 h0__1), V.sl 6 (rowsOf encT54 h0__2), V.sl 1 (rowsOf (encI .i64) h0__3), V.p (Value.int .i64 h0__4), V.sl 3 (rowsOf encT44 h0__5), V.p (Value.int .i64 h0__6)]), (30001, O.box 28 [V.p (Value.int .i64 h1_), V.p (Value.int .i64 h1__1), V.sl 6 (rowsOf encT54 h1__2), V.sl 1 (rowsOf (encI .i64) h1__3), V.p (Value.int .i64 h1__4), V.sl 3 (rowsOf encT44 h1__5), V.p (Value.int .i64 h1__6)])] } : St)) = some r.st := by
  unfold f17_aiirririzaiirririz_j2 at hF
  replace hF := Option.bind_eq_some_iff.1 hF
  obtain ⟨o1, h2, hF⟩ := hF
  have hc3 := f17_aiirririzaiirririz_l3_ok k k ((List.length h0__5) : Int) 0 h0_ h0__1 h0__2 h0__3 h0__4 h0__5 h0__6 h1_ h1__1 h1__2 h1__3 h1__4 h1__5 h1__6 _ h2
  simp (maxSteps := 999999) (disch := first | exact D (by decide) | exact K (by kernel_rfl)) only [E, EE, ↓reduceIte, simprocAttr, xk B17 [2, 2] .sq rfl, xk B17 [1, 2, 2] .sq rfl, show (nav B17 [1, 1, 2, 2]) = Code.region 7 _ false from rfl, hk_17_7, hz_17_7, hs_17_7, fieldAddrV, u_28, i_28, is_28, ib_28, iz_28, u_26, i_26, is_26, ib_26, iz_26, xk B17 [2, 1, 2, 2] (.bk 2) rfl, xk B17 [2, 2, 1, 2, 2] .lp rfl, hh_17_8, hc_17_8]
  (try simp only [NM, EE] at hc3)
  rw [hc3 _ (by simp (maxSteps := 999999) (disch := first | exact D (by decide) | exact K (by kernel_rfl)) only [E, EE, ↓reduceIte, simprocAttr, hh_17_8, hc_17_8])]
  clear hc3
  cases o1 with
  | o0 v4 =>
    (try dsimp only at hF)
    cases hF
    simp (maxSteps := 999999) (disch := first | exact D (by decide) | exact K (by kernel_rfl)) only [E, EE, ↓reduceIte, simprocAttr, R17_aiirririzaiirririz_l3.st, finK_norm, finK_ret, fin17, R17_aiirririzaiirririz.st]
  | o1 _ _ _ _ _ _ _ _ _ _ _ _ _ _ _ _ =>
    (try dsimp only at hF)
    cases hF
  | o2 v5 v6 v7 v8 v9 v10 v11 v12 v13 v14 v15 v16 v17 v18 v19 v20 v21 =>
    (try dsimp only at hF)
    have hJ := f17_aiirririzaiirririz_j4_ok k v5 v6 v7 v8 v9 v10 v11 v12 v13 v14 v15 v16 v17 v18 v19 v20 v21 _ hF
    simp (maxSteps := 999999) (disch := first | exact D (by decide) | exact K (by kernel_rfl)) only [E, EE, ↓reduceIte, simprocAttr, R17_aiirririzaiirririz_l3.st]
    try simp only [NM, EE] at hJ
    exact hJ
noncomputable def f17_aiirririzaiirririz_e (k : Nat) (a0 a0_1 : Int) (a0_2 : List T54) (a0_3 : List Int) (a0_4 : Int) (a0_5 : List T44) (a0_6 a1 a1_1 : Int) (a1_2 : List T54) (a1_3 : List Int) (a1_4 : Int) (a1_5 : List T44) (a1_6 : Int) : Option R17_aiirririzaiirririz :=
  Option.bind (f17_aiirririzaiirririz_l1 k k ((List.length a0_3) : Int) 0 a0 a0_1 a0_2 a0_3 a0_4 a0_5 a0_6 a1 a1_1 a1_2 a1_3 a1_4 a1_5 a1_6) fun o1 =>
    match o1 with
    | .o0 v4 =>
      some (R17_aiirririzaiirririz.o0 v4)
    | .o1 _ _ _ _ _ _ _ _ _ _ _ _ _ _ _ _ =>
      none
    | .o2 v5 v6 v7 v8 v9 v10 v11 v12 v13 v14 v15 v16 v17 v18 v19 v20 v21 =>
      f17_aiirririzaiirririz_j2 k v5 v6 v7 v8 v9 v10 v11 v12 v13 v14 v15 v16 v17 v18 v19 v20 v21
theorem f17_aiirririzaiirririz_e_ok (k : Nat) (a0 a0_1 : Int) (a0_2 : List T54) (a0_3 : List Int) (a0_4 : Int) (a0_5 : List T44) (a0_6 a1 a1_1 : Int) (a1_2 : List T54) (a1_3 : List Int) (a1_4 : Int) (a1_5 : List T44) (a1_6 : Int) (r : R17_aiirririzaiirririz) (hF : f17_aiirririzaiirririz_e k a0 a0_1 a0_2 a0_3 a0_4 a0_5 a0_6 a1 a1_1 a1_2 a1_3 a1_4 a1_5 a1_6 = some r) : finK Tryd.prog Tryd.f17 0 (EX 17 k (nav B17 []) ({ n := 65, F := [(0, V.agg [V.p (Value.int .i64 a0), V.p (Value.int .i64 a0_1), V.sl 6 (rowsOf encT54 a0_2), V.sl 1 (rowsOf (encI .i64) a0_3), V.p (Value.int .i64 a0_4), V.sl 3 (rowsOf encT44 a0_5), V.p (Value.int .i64 a0_6)]), (1, V.agg [V.p (Value.int .i64 a1), V.p (Value.int .i64 a1_1), V.sl 6 (rowsOf encT54 a1_2), V.sl 1 (rowsOf (encI .i64) a1_3), V.p (Value.int .i64 a1_4), V.sl 3 (rowsOf encT44 a1_5), V.p (Value.int .i64 a1_6)])], M := [] } : St)) = some r.st := by
  unfold f17_aiirririzaiirririz_e at hF
  replace hF := Option.bind_eq_some_iff.1 hF
  obtain ⟨o1, h2, hF⟩ := hF
  have hc3 := f17_aiirririzaiirririz_l1_ok k k ((List.length a0_3) : Int) 0 a0 a0_1 a0_2 a0_3 a0_4 a0_5 a0_6 a1 a1_1 a1_2 a1_3 a1_4 a1_5 a1_6 _ h2
  simp (maxSteps := 999999) (disch := first | exact D (by decide) | exact K (by kernel_rfl)) only [E, EE, ↓reduceIte, simprocAttr, xk B17 [] .sq rfl, show (nav B17 [1]) = Code.region 0 _ false from rfl, hk_17_0, hz_17_0, hs_17_0, xk B17 [2] .sq rfl, xk B17 [1, 2] .sq rfl, show (nav B17 [1, 1, 2]) = Code.region 1 _ false from rfl, hk_17_1, hz_17_1, hs_17_1, fieldAddrV, u_28, i_28, is_28, ib_28, iz_28, u_25, i_25, is_25, ib_25, iz_25, xk B17 [2, 1, 2] (.bk 0) rfl, xk B17 [2, 2, 1, 2] .lp rfl, hh_17_2, hc_17_2]
  (try simp only [NM, EE] at hc3)
  rw [hc3 _ (by simp (maxSteps := 999999) (disch := first | exact D (by decide) | exact K (by kernel_rfl)) only [E, EE, ↓reduceIte, simprocAttr, hh_17_2, hc_17_2])]
  clear hc3
  cases o1 with
  | o0 v4 =>
    (try dsimp only at hF)
    cases hF
    simp (maxSteps := 999999) (disch := first | exact D (by decide) | exact K (by kernel_rfl)) only [E, EE, ↓reduceIte, simprocAttr, R17_aiirririzaiirririz_l1.st, finK_norm, finK_ret, fin17, R17_aiirririzaiirririz.st]
  | o1 _ _ _ _ _ _ _ _ _ _ _ _ _ _ _ _ =>
    (try dsimp only at hF)
    cases hF
  | o2 v5 v6 v7 v8 v9 v10 v11 v12 v13 v14 v15 v16 v17 v18 v19 v20 v21 =>
    (try dsimp only at hF)
    have hJ := f17_aiirririzaiirririz_j2_ok k v5 v6 v7 v8 v9 v10 v11 v12 v13 v14 v15 v16 v17 v18 v19 v20 v21 _ hF
    simp (maxSteps := 999999) (disch := first | exact D (by decide) | exact K (by kernel_rfl)) only [E, EE, ↓reduceIte, simprocAttr, R17_aiirririzaiirririz_l1.st]
    try simp only [NM, EE] at hJ
    exact hJ
noncomputable def f17_aiirririzaiirririz (k : Nat) (a0 a0_1 : Int) (a0_2 : List T54) (a0_3 : List Int) (a0_4 : Int) (a0_5 : List T44) (a0_6 a1 a1_1 : Int) (a1_2 : List T54) (a1_3 : List Int) (a1_4 : Int) (a1_5 : List T44) (a1_6 : Int) : Option R17_aiirririzaiirririz := match k with | 0 => none | k + 1 => f17_aiirririzaiirririz_e k a0 a0_1 a0_2 a0_3 a0_4 a0_5 a0_6 a1 a1_1 a1_2 a1_3 a1_4 a1_5 a1_6
theorem f17_aiirririzaiirririz_ok (k : Nat) (a0 a0_1 : Int) (a0_2 : List T54) (a0_3 : List Int) (a0_4 : Int) (a0_5 : List T44) (a0_6 a1 a1_1 : Int) (a1_2 : List T54) (a1_3 : List Int) (a1_4 : Int) (a1_5 : List T44) (a1_6 : Int) (r : R17_aiirririzaiirririz) (hF : f17_aiirririzaiirririz k a0 a0_1 a0_2 a0_3 a0_4 a0_5 a0_6 a1 a1_1 a1_2 a1_3 a1_4 a1_5 a1_6 = some r) : CV k 17 [V.agg [V.p (Value.int .i64 a0), V.p (Value.int .i64 a0_1), V.sl 6 (rowsOf encT54 a0_2), V.sl 1 (rowsOf (encI .i64) a0_3), V.p (Value.int .i64 a0_4), V.sl 3 (rowsOf encT44 a0_5), V.p (Value.int .i64 a0_6)], V.agg [V.p (Value.int .i64 a1), V.p (Value.int .i64 a1_1), V.sl 6 (rowsOf encT54 a1_2), V.sl 1 (rowsOf (encI .i64) a1_3), V.p (Value.int .i64 a1_4), V.sl 3 (rowsOf encT44 a1_5), V.p (Value.int .i64 a1_6)]] [] = some r.st := by
  cases k with
  | zero => cases hF
  | succ k =>
    unfold CV
    rw [ev_call (F := Tryd.f17) (c := (nav B17 [])) rfl Tryd.func17 rfl rfl rfl rfl]
    exact f17_aiirririzaiirririz_e_ok k a0 a0_1 a0_2 a0_3 a0_4 a0_5 a0_6 a1 a1_1 a1_2 a1_3 a1_4 a1_5 a1_6 r hF
end Go.Proofs.YtiompmmbjpjjeaaDoorV
