/- What the program's functions answer: plain functions, and that the interpreter answers what they do. Written by a program of this session, out of the translation. -/
import Derived.Test.YtiompmmbjpjjeaaDoorVP1
namespace Go.Proofs.YtiompmmbjpjjeaaDoorV
open Go
set_option linter.unusedVariables false
set_option linter.unusedSimpArgs false
set_option maxRecDepth 8000
set_option maxHeartbeats 4000000
-- f23_arrrrzarrrrz: f23 heliograph/heliographref20.Same
inductive R23_arrrrzarrrrz where
  | o0 (y : Bool)
noncomputable def R23_arrrrzarrrrz.st : R23_arrrrzarrrrz → V × List O × List O
  | .o0 y => (V.p (Value.bool y), [], [])
inductive R23_arrrrzarrrrz_l2 where
  | o0 (y : Bool)
  | o1 (y y_1 : Int) (y_2 : List T56) (y_3 y_4 : List T44) (y_5 : List Int) (y_6 : List T56) (y_7 y_8 : List T44) (y_9 : List Int)
  | o2 (y y_1 : Int) (y_2 : Bool) (y_3 : List T56) (y_4 y_5 : List T44) (y_6 : List Int) (y_7 : List T56) (y_8 y_9 : List T44) (y_10 : List Int)
noncomputable def R23_arrrrzarrrrz_l2.st : R23_arrrrzarrrrz_l2 → Out × St
  | .o0 y => (.ret, ({ n := 115, F := [(4, V.p (Value.bool y))], M := [] } : St))
  | .o1 y y_1 y_2 y_3 y_4 y_5 y_6 y_7 y_8 y_9 => (.norm, ({ n := 115, F := [(2, V.ptr 30000 0), (3, V.ptr 30001 0), (45, V.p (Value.int .i64 y)), (46, V.p (Value.int .i64 y_1))], M := [(30000, O.box 37 [V.sl 5 (rowsOf encT56 y_2), V.sl 3 (rowsOf encT44 y_3), V.sl 3 (rowsOf encT44 y_4), V.sl 1 (rowsOf (encI .i64) y_5)]), (30001, O.box 37 [V.sl 5 (rowsOf encT56 y_6), V.sl 3 (rowsOf encT44 y_7), V.sl 3 (rowsOf encT44 y_8), V.sl 1 (rowsOf (encI .i64) y_9)])] } : St))
  | .o2 y y_1 y_2 y_3 y_4 y_5 y_6 y_7 y_8 y_9 y_10 => (.exit 0, ({ n := 115, F := [(2, V.ptr 30000 0), (3, V.ptr 30001 0), (45, V.p (Value.int .i64 y)), (46, V.p (Value.int .i64 y_1)), (47, V.p (Value.bool y_2))], M := [(30000, O.box 37 [V.sl 5 (rowsOf encT56 y_3), V.sl 3 (rowsOf encT44 y_4), V.sl 3 (rowsOf encT44 y_5), V.sl 1 (rowsOf (encI .i64) y_6)]), (30001, O.box 37 [V.sl 5 (rowsOf encT56 y_7), V.sl 3 (rowsOf encT44 y_8), V.sl 3 (rowsOf encT44 y_9), V.sl 1 (rowsOf (encI .i64) y_10)])] } : St))
noncomputable def f23_arrrrzarrrrz_l2_j2 (k : Nat) (x45 x46 : Int) (x59 : Bool) (h0_ : List T56) (h0__1 h0__2 : List T44) (h0__3 : List Int) (h1_ : List T56) (h1__1 h1__2 : List T44) (h1__3 : List Int) : Option R23_arrrrzarrrrz_l2 :=
  some (R23_arrrrzarrrrz_l2.o1 x45 (IntKind.i64.wrap (x46 + (1 : Int))) h0_ h0__1 h0__2 h0__3 h1_ h1__1 h1__2 h1__3)
theorem f23_arrrrzarrrrz_l2_j2_ok (k : Nat) (x45 x46 : Int) (x59 : Bool) (h0_ : List T56) (h0__1 h0__2 : List T44) (h0__3 : List Int) (h1_ : List T56) (h1__1 h1__2 : List T44) (h1__3 : List Int) (r : R23_arrrrzarrrrz_l2) (hF : f23_arrrrzarrrrz_l2_j2 k x45 x46 x59 h0_ h0__1 h0__2 h0__3 h1_ h1__1 h1__2 h1__3 = some r) : EX 23 k (nav B23 [2, 2, 2, 1, 2, 2, 1, 2, 2]) ({ n := 115, F := [(2, V.ptr 30000 0), (3, V.ptr 30001 0), (45, V.p (Value.int .i64 x45)), (46, V.p (Value.int .i64 x46)), (59, V.p (Value.bool x59))], M := [(30000, O.box 37 [V.sl 5 (rowsOf encT56 h0_), V.sl 3 (rowsOf encT44 h0__1), V.sl 3 (rowsOf encT44 h0__2), V.sl 1 (rowsOf (encI .i64) h0__3)]), (30001, O.box 37 [V.sl 5 (rowsOf encT56 h1_), V.sl 3 (rowsOf encT44 h1__1), V.sl 3 (rowsOf encT44 h1__2), V.sl 1 (rowsOf (encI .i64) h1__3)])] } : St) = some r.st := by
  unfold f23_arrrrzarrrrz_l2_j2 at hF
  cases hF
  simp (maxSteps := 999999) (disch := first | exact D (by decide) | exact K (by kernel_rfl)) only [E, EE, ↓reduceIte, simprocAttr, show (nav B23 [2, 2, 2, 1, 2, 2, 1, 2, 2]) = Code.region 8 _ false from rfl, hk_23_8, hz_23_8, hs_23_8, R23_arrrrzarrrrz_l2.st]
noncomputable def f23_arrrrzarrrrz_l2_j1 (k : Nat) (x45 x46 : Int) (x47 : Bool) (h0_ : List T56) (h0__1 h0__2 : List T44) (h0__3 : List Int) (h1_ : List T56) (h1__1 h1__2 : List T44) (h1__3 : List Int) : Option R23_arrrrzarrrrz_l2 :=
  ifE ((0 : Int) ≤ x46) (
    Option.bind (h0_[(Int.toNat x46)]?) fun v2 =>
      Option.bind (h1_[(Int.toNat x46)]?) fun v4 =>
        cond ((!(((v2.Key_Source == v4.Key_Source) && ((v2.Key_Seq == v4.Key_Seq) && (v2.Key_Offset == v4.Key_Offset))) && ((v2.To == v4.To) && (v2.Contact == v4.Contact)))))
          (some (R23_arrrrzarrrrz_l2.o0 false))
          (f23_arrrrzarrrrz_l2_j2 k x45 x46 false h0_ h0__1 h0__2 h0__3 h1_ h1__1 h1__2 h1__3))
theorem f23_arrrrzarrrrz_l2_j1_ok (k : Nat) (x45 x46 : Int) (x47 : Bool) (h0_ : List T56) (h0__1 h0__2 : List T44) (h0__3 : List Int) (h1_ : List T56) (h1__1 h1__2 : List T44) (h1__3 : List Int) (r : R23_arrrrzarrrrz_l2) (hF : f23_arrrrzarrrrz_l2_j1 k x45 x46 x47 h0_ h0__1 h0__2 h0__3 h1_ h1__1 h1__2 h1__3 = some r) : EX 23 k (nav B23 [2, 2, 1, 2, 2, 1, 2, 2]) ({ n := 115, F := [(2, V.ptr 30000 0), (3, V.ptr 30001 0), (45, V.p (Value.int .i64 x45)), (46, V.p (Value.int .i64 x46)), (47, V.p (Value.bool x47))], M := [(30000, O.box 37 [V.sl 5 (rowsOf encT56 h0_), V.sl 3 (rowsOf encT44 h0__1), V.sl 3 (rowsOf encT44 h0__2), V.sl 1 (rowsOf (encI .i64) h0__3)]), (30001, O.box 37 [V.sl 5 (rowsOf encT56 h1_), V.sl 3 (rowsOf encT44 h1__1), V.sl 3 (rowsOf encT44 h1__2), V.sl 1 (rowsOf (encI .i64) h1__3)])] } : St) = some r.st := by
  unfold f23_arrrrzarrrrz_l2_j1 at hF
  replace hF := ifE_some.1 hF
  obtain ⟨h1, hF⟩ := hF
  replace hF := Option.bind_eq_some_iff.1 hF
  obtain ⟨v2, h3, hF⟩ := hF
  replace hF := Option.bind_eq_some_iff.1 hF
  obtain ⟨v4, h5, hF⟩ := hF
  simp (maxSteps := 999999) (disch := first | exact D (by decide) | exact K (by kernel_rfl)) only [E, EE, ↓reduceIte, simprocAttr, xk B23 [2, 2, 1, 2, 2, 1, 2, 2] .sq rfl, xk B23 [1, 2, 2, 1, 2, 2, 1, 2, 2] (.bk 1) rfl, xk B23 [2, 1, 2, 2, 1, 2, 2, 1, 2, 2] .sq rfl, show (nav B23 [1, 2, 1, 2, 2, 1, 2, 2, 1, 2, 2]) = Code.region 5 _ false from rfl, hk_23_5, hz_23_5, hs_23_5, xk B23 [2, 2, 1, 2, 2, 1, 2, 2, 1, 2, 2] .sq rfl, show (nav B23 [1, 2, 2, 1, 2, 2, 1, 2, 2, 1, 2, 2]) = Code.region 6 _ true from rfl, hk_23_6, hz_23_6, hs_23_6, fieldAddrV, u_37, i_37, is_37, ib_37, iz_37, u_35, i_35, is_35, ib_35, iz_35, indexAddrV, u_56, i_56, is_56, ib_56, iz_56, encT56_eq, ag_56, ag_44, u_44, i_44, is_44, ib_44, iz_44, u_3, i_3, is_3, ib_3, iz_3, u_42, i_42, is_42, ib_42, iz_42, xk B23 [2, 2, 2, 1, 2, 2, 1, 2, 2, 1, 2, 2] (.cd 59) rfl, h1, h3, h5]
  replace hF := cond_some hF
  rcases hF with ⟨h6, hF⟩ | ⟨h6, hF⟩
  · cases hF
    simp (maxSteps := 999999) (disch := first | exact D (by decide) | exact K (by kernel_rfl)) only [E, EE, ↓reduceIte, simprocAttr, xk B23 [2, 2, 2, 2, 1, 2, 2, 1, 2, 2, 1, 2, 2] .sq rfl, show (nav B23 [1, 2, 2, 2, 2, 1, 2, 2, 1, 2, 2, 1, 2, 2]) = Code.region 7 _ false from rfl, hk_23_7, hz_23_7, hs_23_7, xk B23 [2, 2, 2, 2, 2, 1, 2, 2, 1, 2, 2, 1, 2, 2] .rt rfl, R23_arrrrzarrrrz_l2.st, h1, h3, h5, h6]
  · have hJ := f23_arrrrzarrrrz_l2_j2_ok k x45 x46 false h0_ h0__1 h0__2 h0__3 h1_ h1__1 h1__2 h1__3 _ hF
    simp (maxSteps := 999999) (disch := first | exact D (by decide) | exact K (by kernel_rfl)) only [E, EE, ↓reduceIte, simprocAttr, xk B23 [3, 2, 2, 2, 1, 2, 2, 1, 2, 2, 1, 2, 2] .sk rfl, h1, h3, h5, h6]
    try simp only [NM, EE] at hJ
    exact hJ
noncomputable def f23_arrrrzarrrrz_l2_b (k : Nat) (x45 x46 : Int) (h0_ : List T56) (h0__1 h0__2 : List T44) (h0__3 : List Int) (h1_ : List T56) (h1__1 h1__2 : List T44) (h1__3 : List Int) : Option R23_arrrrzarrrrz_l2 :=
  cond ((decide (x46 < x45)))
    (f23_arrrrzarrrrz_l2_j1 k x45 x46 true h0_ h0__1 h0__2 h0__3 h1_ h1__1 h1__2 h1__3)
    (some (R23_arrrrzarrrrz_l2.o2 x45 x46 false h0_ h0__1 h0__2 h0__3 h1_ h1__1 h1__2 h1__3))
theorem f23_arrrrzarrrrz_l2_b_ok (k : Nat) (x45 x46 : Int) (h0_ : List T56) (h0__1 h0__2 : List T44) (h0__3 : List Int) (h1_ : List T56) (h1__1 h1__2 : List T44) (h1__3 : List Int) (r : R23_arrrrzarrrrz_l2) (hF : f23_arrrrzarrrrz_l2_b k x45 x46 h0_ h0__1 h0__2 h0__3 h1_ h1__1 h1__2 h1__3 = some r) : EX 23 k (nav B23 [1, 2, 2, 1, 2, 2]) ({ n := 115, F := [(2, V.ptr 30000 0), (3, V.ptr 30001 0), (45, V.p (Value.int .i64 x45)), (46, V.p (Value.int .i64 x46))], M := [(30000, O.box 37 [V.sl 5 (rowsOf encT56 h0_), V.sl 3 (rowsOf encT44 h0__1), V.sl 3 (rowsOf encT44 h0__2), V.sl 1 (rowsOf (encI .i64) h0__3)]), (30001, O.box 37 [V.sl 5 (rowsOf encT56 h1_), V.sl 3 (rowsOf encT44 h1__1), V.sl 3 (rowsOf encT44 h1__2), V.sl 1 (rowsOf (encI .i64) h1__3)])] } : St) = some r.st := by
  unfold f23_arrrrzarrrrz_l2_b at hF
  simp (maxSteps := 999999) (disch := first | exact D (by decide) | exact K (by kernel_rfl)) only [E, EE, ↓reduceIte, simprocAttr, xk B23 [1, 2, 2, 1, 2, 2] .sq rfl, show (nav B23 [1, 1, 2, 2, 1, 2, 2]) = Code.region 4 _ false from rfl, hk_23_4, hz_23_4, hs_23_4, xk B23 [2, 1, 2, 2, 1, 2, 2] .sq rfl, xk B23 [1, 2, 1, 2, 2, 1, 2, 2] (.cd 47) rfl]
  replace hF := cond_some hF
  rcases hF with ⟨h1, hF⟩ | ⟨h1, hF⟩
  · have hJ := f23_arrrrzarrrrz_l2_j1_ok k x45 x46 true h0_ h0__1 h0__2 h0__3 h1_ h1__1 h1__2 h1__3 _ hF
    simp (maxSteps := 999999) (disch := first | exact D (by decide) | exact K (by kernel_rfl)) only [E, EE, ↓reduceIte, simprocAttr, xk B23 [2, 1, 2, 1, 2, 2, 1, 2, 2] .sk rfl, h1]
    try simp only [NM, EE] at hJ
    exact hJ
  · cases hF
    simp (maxSteps := 999999) (disch := first | exact D (by decide) | exact K (by kernel_rfl)) only [E, EE, ↓reduceIte, simprocAttr, xk B23 [3, 1, 2, 1, 2, 2, 1, 2, 2] (.ex 0) rfl, R23_arrrrzarrrrz_l2.st, h1]
noncomputable def f23_arrrrzarrrrz_l2 (k : Nat) : Nat → Int → Int → (List T56) → (List T44) → (List T44) → (List Int) → (List T56) → (List T44) → (List T44) → (List Int) → Option R23_arrrrzarrrrz_l2
  | 0, _, _, _, _, _, _, _, _, _, _ => none
  | n + 1, x45, x46, h0_, h0__1, h0__2, h0__3, h1_, h1__1, h1__2, h1__3 => Option.bind (f23_arrrrzarrrrz_l2_b k x45 x46 h0_ h0__1 h0__2 h0__3 h1_ h1__1 h1__2 h1__3) fun o =>
    match o with
    | .o0 y => some (.o0 y)
    | .o1 y y_1 y_2 y_3 y_4 y_5 y_6 y_7 y_8 y_9 => f23_arrrrzarrrrz_l2 k n y y_1 y_2 y_3 y_4 y_5 y_6 y_7 y_8 y_9
    | .o2 y y_1 y_2 y_3 y_4 y_5 y_6 y_7 y_8 y_9 y_10 => some (.o2 y y_1 y_2 y_3 y_4 y_5 y_6 y_7 y_8 y_9 y_10)
theorem f23_arrrrzarrrrz_l2_ok (k n : Nat) : ∀ (x45 x46 : Int) (h0_ : List T56) (h0__1 h0__2 : List T44) (h0__3 : List Int) (h1_ : List T56) (h1__1 h1__2 : List T44) (h1__3 : List Int) (r : R23_arrrrzarrrrz_l2) (hF : f23_arrrrzarrrrz_l2 k n x45 x46 h0_ h0__1 h0__2 h0__3 h1_ h1__1 h1__2 h1__3 = some r) (σ : St) (hσ : headR (hints.head 23 4) (hints.canon 23 4) σ = some ({ n := 115, F := [(2, V.ptr 30000 0), (3, V.ptr 30001 0), (45, V.p (Value.int .i64 x45)), (46, V.p (Value.int .i64 x46))], M := [(30000, O.box 37 [V.sl 5 (rowsOf encT56 h0_), V.sl 3 (rowsOf encT44 h0__1), V.sl 3 (rowsOf encT44 h0__2), V.sl 1 (rowsOf (encI .i64) h0__3)]), (30001, O.box 37 [V.sl 5 (rowsOf encT56 h1_), V.sl 3 (rowsOf encT44 h1__1), V.sl 3 (rowsOf encT44 h1__2), V.sl 1 (rowsOf (encI .i64) h1__3)])] } : St)), LP 23 k (nav B23 [1, 2, 2, 1, 2, 2]) n σ = some r.st := by
  induction n with
  | zero => intro x45 x46 h0_ h0__1 h0__2 h0__3 h1_ h1__1 h1__2 h1__3 r hF; cases hF
  | succ n ih =>
    intro x45 x46 h0_ h0__1 h0__2 h0__3 h1_ h1__1 h1__2 h1__3 r hF σ hσ
    rw [f23_arrrrzarrrrz_l2] at hF
    obtain ⟨o, h, hF⟩ := Option.bind_eq_some_iff.1 hF
    have hB := f23_arrrrzarrrrz_l2_b_ok k x45 x46 h0_ h0__1 h0__2 h0__3 h1_ h1__1 h1__2 h1__3 o h
    unfold LP at ih ⊢
    unfold EX at hB
    rw [loopK_succ, show firstReg (nav B23 [1, 2, 2, 1, 2, 2]) = 4 from rfl, hσ, headK_some, hB]
    cases o with
    | o0 y => cases hF; rfl
    | o1 y y_1 y_2 y_3 y_4 y_5 y_6 y_7 y_8 y_9 =>
      refine ih y y_1 y_2 y_3 y_4 y_5 y_6 y_7 y_8 y_9 r hF _ ?_
      simp (maxSteps := 999999) (disch := first | exact D (by decide) | exact K (by kernel_rfl)) only [E, EE, ↓reduceIte, simprocAttr, hh_23_4, hc_23_4]
    | o2 y y_1 y_2 y_3 y_4 y_5 y_6 y_7 y_8 y_9 y_10 => cases hF; rfl
inductive R23_arrrrzarrrrz_l4 where
  | o0 (y : Bool)
  | o1 (y y_1 : Int) (y_2 : List T56) (y_3 y_4 : List T44) (y_5 : List Int) (y_6 : List T56) (y_7 y_8 : List T44) (y_9 : List Int)
  | o2 (y y_1 : Int) (y_2 : Bool) (y_3 : List T56) (y_4 y_5 : List T44) (y_6 : List Int) (y_7 : List T56) (y_8 y_9 : List T44) (y_10 : List Int)
noncomputable def R23_arrrrzarrrrz_l4.st : R23_arrrrzarrrrz_l4 → Out × St
  | .o0 y => (.ret, ({ n := 115, F := [(4, V.p (Value.bool y))], M := [] } : St))
  | .o1 y y_1 y_2 y_3 y_4 y_5 y_6 y_7 y_8 y_9 => (.norm, ({ n := 115, F := [(2, V.ptr 30000 0), (3, V.ptr 30001 0), (63, V.p (Value.int .i64 y)), (64, V.p (Value.int .i64 y_1))], M := [(30000, O.box 37 [V.sl 5 (rowsOf encT56 y_2), V.sl 3 (rowsOf encT44 y_3), V.sl 3 (rowsOf encT44 y_4), V.sl 1 (rowsOf (encI .i64) y_5)]), (30001, O.box 37 [V.sl 5 (rowsOf encT56 y_6), V.sl 3 (rowsOf encT44 y_7), V.sl 3 (rowsOf encT44 y_8), V.sl 1 (rowsOf (encI .i64) y_9)])] } : St))
  | .o2 y y_1 y_2 y_3 y_4 y_5 y_6 y_7 y_8 y_9 y_10 => (.exit 2, ({ n := 115, F := [(2, V.ptr 30000 0), (3, V.ptr 30001 0), (63, V.p (Value.int .i64 y)), (64, V.p (Value.int .i64 y_1)), (65, V.p (Value.bool y_2))], M := [(30000, O.box 37 [V.sl 5 (rowsOf encT56 y_3), V.sl 3 (rowsOf encT44 y_4), V.sl 3 (rowsOf encT44 y_5), V.sl 1 (rowsOf (encI .i64) y_6)]), (30001, O.box 37 [V.sl 5 (rowsOf encT56 y_7), V.sl 3 (rowsOf encT44 y_8), V.sl 3 (rowsOf encT44 y_9), V.sl 1 (rowsOf (encI .i64) y_10)])] } : St))
noncomputable def f23_arrrrzarrrrz_l4_j2 (k : Nat) (x63 x64 : Int) (x77 : Bool) (h0_ : List T56) (h0__1 h0__2 : List T44) (h0__3 : List Int) (h1_ : List T56) (h1__1 h1__2 : List T44) (h1__3 : List Int) : Option R23_arrrrzarrrrz_l4 :=
  some (R23_arrrrzarrrrz_l4.o1 x63 (IntKind.i64.wrap (x64 + (1 : Int))) h0_ h0__1 h0__2 h0__3 h1_ h1__1 h1__2 h1__3)
theorem f23_arrrrzarrrrz_l4_j2_ok (k : Nat) (x63 x64 : Int) (x77 : Bool) (h0_ : List T56) (h0__1 h0__2 : List T44) (h0__3 : List Int) (h1_ : List T56) (h1__1 h1__2 : List T44) (h1__3 : List Int) (r : R23_arrrrzarrrrz_l4) (hF : f23_arrrrzarrrrz_l4_j2 k x63 x64 x77 h0_ h0__1 h0__2 h0__3 h1_ h1__1 h1__2 h1__3 = some r) : EX 23 k (nav B23 [2, 2, 2, 1, 2, 2, 1, 2, 2, 2]) ({ n := 115, F := [(2, V.ptr 30000 0), (3, V.ptr 30001 0), (63, V.p (Value.int .i64 x63)), (64, V.p (Value.int .i64 x64)), (77, V.p (Value.bool x77))], M := [(30000, O.box 37 [V.sl 5 (rowsOf encT56 h0_), V.sl 3 (rowsOf encT44 h0__1), V.sl 3 (rowsOf encT44 h0__2), V.sl 1 (rowsOf (encI .i64) h0__3)]), (30001, O.box 37 [V.sl 5 (rowsOf encT56 h1_), V.sl 3 (rowsOf encT44 h1__1), V.sl 3 (rowsOf encT44 h1__2), V.sl 1 (rowsOf (encI .i64) h1__3)])] } : St) = some r.st := by
  unfold f23_arrrrzarrrrz_l4_j2 at hF
  cases hF
  simp (maxSteps := 999999) (disch := first | exact D (by decide) | exact K (by kernel_rfl)) only [E, EE, ↓reduceIte, simprocAttr, show (nav B23 [2, 2, 2, 1, 2, 2, 1, 2, 2, 2]) = Code.region 14 _ false from rfl, hk_23_14, hz_23_14, hs_23_14, R23_arrrrzarrrrz_l4.st]
noncomputable def f23_arrrrzarrrrz_l4_j1 (k : Nat) (x63 x64 : Int) (x65 : Bool) (h0_ : List T56) (h0__1 h0__2 : List T44) (h0__3 : List Int) (h1_ : List T56) (h1__1 h1__2 : List T44) (h1__3 : List Int) : Option R23_arrrrzarrrrz_l4 :=
  ifE ((0 : Int) ≤ x64) (
    Option.bind (h0__1[(Int.toNat x64)]?) fun v2 =>
      Option.bind (h1__1[(Int.toNat x64)]?) fun v4 =>
        cond ((!((v2.Source == v4.Source) && ((v2.Seq == v4.Seq) && (v2.Offset == v4.Offset)))))
          (some (R23_arrrrzarrrrz_l4.o0 false))
          (f23_arrrrzarrrrz_l4_j2 k x63 x64 false h0_ h0__1 h0__2 h0__3 h1_ h1__1 h1__2 h1__3))
theorem f23_arrrrzarrrrz_l4_j1_ok (k : Nat) (x63 x64 : Int) (x65 : Bool) (h0_ : List T56) (h0__1 h0__2 : List T44) (h0__3 : List Int) (h1_ : List T56) (h1__1 h1__2 : List T44) (h1__3 : List Int) (r : R23_arrrrzarrrrz_l4) (hF : f23_arrrrzarrrrz_l4_j1 k x63 x64 x65 h0_ h0__1 h0__2 h0__3 h1_ h1__1 h1__2 h1__3 = some r) : EX 23 k (nav B23 [2, 2, 1, 2, 2, 1, 2, 2, 2]) ({ n := 115, F := [(2, V.ptr 30000 0), (3, V.ptr 30001 0), (63, V.p (Value.int .i64 x63)), (64, V.p (Value.int .i64 x64)), (65, V.p (Value.bool x65))], M := [(30000, O.box 37 [V.sl 5 (rowsOf encT56 h0_), V.sl 3 (rowsOf encT44 h0__1), V.sl 3 (rowsOf encT44 h0__2), V.sl 1 (rowsOf (encI .i64) h0__3)]), (30001, O.box 37 [V.sl 5 (rowsOf encT56 h1_), V.sl 3 (rowsOf encT44 h1__1), V.sl 3 (rowsOf encT44 h1__2), V.sl 1 (rowsOf (encI .i64) h1__3)])] } : St) = some r.st := by
  unfold f23_arrrrzarrrrz_l4_j1 at hF
  replace hF := ifE_some.1 hF
  obtain ⟨h1, hF⟩ := hF
  replace hF := Option.bind_eq_some_iff.1 hF
  obtain ⟨v2, h3, hF⟩ := hF
  replace hF := Option.bind_eq_some_iff.1 hF
  obtain ⟨v4, h5, hF⟩ := hF
  simp (maxSteps := 999999) (disch := first | exact D (by decide) | exact K (by kernel_rfl)) only [E, EE, ↓reduceIte, simprocAttr, xk B23 [2, 2, 1, 2, 2, 1, 2, 2, 2] .sq rfl, xk B23 [1, 2, 2, 1, 2, 2, 1, 2, 2, 2] (.bk 3) rfl, xk B23 [2, 1, 2, 2, 1, 2, 2, 1, 2, 2, 2] .sq rfl, show (nav B23 [1, 2, 1, 2, 2, 1, 2, 2, 1, 2, 2, 2]) = Code.region 11 _ false from rfl, hk_23_11, hz_23_11, hs_23_11, xk B23 [2, 2, 1, 2, 2, 1, 2, 2, 1, 2, 2, 2] .sq rfl, show (nav B23 [1, 2, 2, 1, 2, 2, 1, 2, 2, 1, 2, 2, 2]) = Code.region 12 _ true from rfl, hk_23_12, hz_23_12, hs_23_12, fieldAddrV, u_37, i_37, is_37, ib_37, iz_37, u_26, i_26, is_26, ib_26, iz_26, indexAddrV, u_44, i_44, is_44, ib_44, iz_44, encT44_eq, ag_44, u_3, i_3, is_3, ib_3, iz_3, u_42, i_42, is_42, ib_42, iz_42, xk B23 [2, 2, 2, 1, 2, 2, 1, 2, 2, 1, 2, 2, 2] (.cd 77) rfl, h1, h3, h5]
  replace hF := cond_some hF
  rcases hF with ⟨h6, hF⟩ | ⟨h6, hF⟩
  · cases hF
    simp (maxSteps := 999999) (disch := first | exact D (by decide) | exact K (by kernel_rfl)) only [E, EE, ↓reduceIte, simprocAttr, xk B23 [2, 2, 2, 2, 1, 2, 2, 1, 2, 2, 1, 2, 2, 2] .sq rfl, show (nav B23 [1, 2, 2, 2, 2, 1, 2, 2, 1, 2, 2, 1, 2, 2, 2]) = Code.region 13 _ false from rfl, hk_23_13, hz_23_13, hs_23_13, xk B23 [2, 2, 2, 2, 2, 1, 2, 2, 1, 2, 2, 1, 2, 2, 2] .rt rfl, R23_arrrrzarrrrz_l4.st, h1, h3, h5, h6]
  · have hJ := f23_arrrrzarrrrz_l4_j2_ok k x63 x64 false h0_ h0__1 h0__2 h0__3 h1_ h1__1 h1__2 h1__3 _ hF
    simp (maxSteps := 999999) (disch := first | exact D (by decide) | exact K (by kernel_rfl)) only [E, EE, ↓reduceIte, simprocAttr, xk B23 [3, 2, 2, 2, 1, 2, 2, 1, 2, 2, 1, 2, 2, 2] .sk rfl, h1, h3, h5, h6]
    try simp only [NM, EE] at hJ
    exact hJ
noncomputable def f23_arrrrzarrrrz_l4_b (k : Nat) (x63 x64 : Int) (h0_ : List T56) (h0__1 h0__2 : List T44) (h0__3 : List Int) (h1_ : List T56) (h1__1 h1__2 : List T44) (h1__3 : List Int) : Option R23_arrrrzarrrrz_l4 :=
  cond ((decide (x64 < x63)))
    (f23_arrrrzarrrrz_l4_j1 k x63 x64 true h0_ h0__1 h0__2 h0__3 h1_ h1__1 h1__2 h1__3)
    (some (R23_arrrrzarrrrz_l4.o2 x63 x64 false h0_ h0__1 h0__2 h0__3 h1_ h1__1 h1__2 h1__3))
theorem f23_arrrrzarrrrz_l4_b_ok (k : Nat) (x63 x64 : Int) (h0_ : List T56) (h0__1 h0__2 : List T44) (h0__3 : List Int) (h1_ : List T56) (h1__1 h1__2 : List T44) (h1__3 : List Int) (r : R23_arrrrzarrrrz_l4) (hF : f23_arrrrzarrrrz_l4_b k x63 x64 h0_ h0__1 h0__2 h0__3 h1_ h1__1 h1__2 h1__3 = some r) : EX 23 k (nav B23 [1, 2, 2, 1, 2, 2, 2]) ({ n := 115, F := [(2, V.ptr 30000 0), (3, V.ptr 30001 0), (63, V.p (Value.int .i64 x63)), (64, V.p (Value.int .i64 x64))], M := [(30000, O.box 37 [V.sl 5 (rowsOf encT56 h0_), V.sl 3 (rowsOf encT44 h0__1), V.sl 3 (rowsOf encT44 h0__2), V.sl 1 (rowsOf (encI .i64) h0__3)]), (30001, O.box 37 [V.sl 5 (rowsOf encT56 h1_), V.sl 3 (rowsOf encT44 h1__1), V.sl 3 (rowsOf encT44 h1__2), V.sl 1 (rowsOf (encI .i64) h1__3)])] } : St) = some r.st := by
  unfold f23_arrrrzarrrrz_l4_b at hF
  simp (maxSteps := 999999) (disch := first | exact D (by decide) | exact K (by kernel_rfl)) only [E, EE, ↓reduceIte, simprocAttr, xk B23 [1, 2, 2, 1, 2, 2, 2] .sq rfl, show (nav B23 [1, 1, 2, 2, 1, 2, 2, 2]) = Code.region 10 _ false from rfl, hk_23_10, hz_23_10, hs_23_10, xk B23 [2, 1, 2, 2, 1, 2, 2, 2] .sq rfl, xk B23 [1, 2, 1, 2, 2, 1, 2, 2, 2] (.cd 65) rfl]
  replace hF := cond_some hF
  rcases hF with ⟨h1, hF⟩ | ⟨h1, hF⟩
  · have hJ := f23_arrrrzarrrrz_l4_j1_ok k x63 x64 true h0_ h0__1 h0__2 h0__3 h1_ h1__1 h1__2 h1__3 _ hF
    simp (maxSteps := 999999) (disch := first | exact D (by decide) | exact K (by kernel_rfl)) only [E, EE, ↓reduceIte, simprocAttr, xk B23 [2, 1, 2, 1, 2, 2, 1, 2, 2, 2] .sk rfl, h1]
    try simp only [NM, EE] at hJ
    exact hJ
  · cases hF
    simp (maxSteps := 999999) (disch := first | exact D (by decide) | exact K (by kernel_rfl)) only [E, EE, ↓reduceIte, simprocAttr, xk B23 [3, 1, 2, 1, 2, 2, 1, 2, 2, 2] (.ex 2) rfl, R23_arrrrzarrrrz_l4.st, h1]
noncomputable def f23_arrrrzarrrrz_l4 (k : Nat) : Nat → Int → Int → (List T56) → (List T44) → (List T44) → (List Int) → (List T56) → (List T44) → (List T44) → (List Int) → Option R23_arrrrzarrrrz_l4
  | 0, _, _, _, _, _, _, _, _, _, _ => none
  | n + 1, x63, x64, h0_, h0__1, h0__2, h0__3, h1_, h1__1, h1__2, h1__3 => Option.bind (f23_arrrrzarrrrz_l4_b k x63 x64 h0_ h0__1 h0__2 h0__3 h1_ h1__1 h1__2 h1__3) fun o =>
    match o with
    | .o0 y => some (.o0 y)
    | .o1 y y_1 y_2 y_3 y_4 y_5 y_6 y_7 y_8 y_9 => f23_arrrrzarrrrz_l4 k n y y_1 y_2 y_3 y_4 y_5 y_6 y_7 y_8 y_9
    | .o2 y y_1 y_2 y_3 y_4 y_5 y_6 y_7 y_8 y_9 y_10 => some (.o2 y y_1 y_2 y_3 y_4 y_5 y_6 y_7 y_8 y_9 y_10)
theorem f23_arrrrzarrrrz_l4_ok (k n : Nat) : ∀ (x63 x64 : Int) (h0_ : List T56) (h0__1 h0__2 : List T44) (h0__3 : List Int) (h1_ : List T56) (h1__1 h1__2 : List T44) (h1__3 : List Int) (r : R23_arrrrzarrrrz_l4) (hF : f23_arrrrzarrrrz_l4 k n x63 x64 h0_ h0__1 h0__2 h0__3 h1_ h1__1 h1__2 h1__3 = some r) (σ : St) (hσ : headR (hints.head 23 10) (hints.canon 23 10) σ = some ({ n := 115, F := [(2, V.ptr 30000 0), (3, V.ptr 30001 0), (63, V.p (Value.int .i64 x63)), (64, V.p (Value.int .i64 x64))], M := [(30000, O.box 37 [V.sl 5 (rowsOf encT56 h0_), V.sl 3 (rowsOf encT44 h0__1), V.sl 3 (rowsOf encT44 h0__2), V.sl 1 (rowsOf (encI .i64) h0__3)]), (30001, O.box 37 [V.sl 5 (rowsOf encT56 h1_), V.sl 3 (rowsOf encT44 h1__1), V.sl 3 (rowsOf encT44 h1__2), V.sl 1 (rowsOf (encI .i64) h1__3)])] } : St)), LP 23 k (nav B23 [1, 2, 2, 1, 2, 2, 2]) n σ = some r.st := by
  induction n with
  | zero => intro x63 x64 h0_ h0__1 h0__2 h0__3 h1_ h1__1 h1__2 h1__3 r hF; cases hF
  | succ n ih =>
    intro x63 x64 h0_ h0__1 h0__2 h0__3 h1_ h1__1 h1__2 h1__3 r hF σ hσ
    rw [f23_arrrrzarrrrz_l4] at hF
    obtain ⟨o, h, hF⟩ := Option.bind_eq_some_iff.1 hF
    have hB := f23_arrrrzarrrrz_l4_b_ok k x63 x64 h0_ h0__1 h0__2 h0__3 h1_ h1__1 h1__2 h1__3 o h
    unfold LP at ih ⊢
    unfold EX at hB
    rw [loopK_succ, show firstReg (nav B23 [1, 2, 2, 1, 2, 2, 2]) = 10 from rfl, hσ, headK_some, hB]
    cases o with
    | o0 y => cases hF; rfl
    | o1 y y_1 y_2 y_3 y_4 y_5 y_6 y_7 y_8 y_9 =>
      refine ih y y_1 y_2 y_3 y_4 y_5 y_6 y_7 y_8 y_9 r hF _ ?_
      simp (maxSteps := 999999) (disch := first | exact D (by decide) | exact K (by kernel_rfl)) only [E, EE, ↓reduceIte, simprocAttr, hh_23_10, hc_23_10]
    | o2 y y_1 y_2 y_3 y_4 y_5 y_6 y_7 y_8 y_9 y_10 => cases hF; rfl
inductive R23_arrrrzarrrrz_l6 where
  | o0 (y : Bool)
  | o1 (y y_1 : Int) (y_2 : List T56) (y_3 y_4 : List T44) (y_5 : List Int) (y_6 : List T56) (y_7 y_8 : List T44) (y_9 : List Int)
  | o2 (y y_1 : Int) (y_2 : Bool) (y_3 : List T56) (y_4 y_5 : List T44) (y_6 : List Int) (y_7 : List T56) (y_8 y_9 : List T44) (y_10 : List Int)
noncomputable def R23_arrrrzarrrrz_l6.st : R23_arrrrzarrrrz_l6 → Out × St
  | .o0 y => (.ret, ({ n := 115, F := [(4, V.p (Value.bool y))], M := [] } : St))
  | .o1 y y_1 y_2 y_3 y_4 y_5 y_6 y_7 y_8 y_9 => (.norm, ({ n := 115, F := [(2, V.ptr 30000 0), (3, V.ptr 30001 0), (81, V.p (Value.int .i64 y)), (82, V.p (Value.int .i64 y_1))], M := [(30000, O.box 37 [V.sl 5 (rowsOf encT56 y_2), V.sl 3 (rowsOf encT44 y_3), V.sl 3 (rowsOf encT44 y_4), V.sl 1 (rowsOf (encI .i64) y_5)]), (30001, O.box 37 [V.sl 5 (rowsOf encT56 y_6), V.sl 3 (rowsOf encT44 y_7), V.sl 3 (rowsOf encT44 y_8), V.sl 1 (rowsOf (encI .i64) y_9)])] } : St))
  | .o2 y y_1 y_2 y_3 y_4 y_5 y_6 y_7 y_8 y_9 y_10 => (.exit 4, ({ n := 115, F := [(2, V.ptr 30000 0), (3, V.ptr 30001 0), (81, V.p (Value.int .i64 y)), (82, V.p (Value.int .i64 y_1)), (83, V.p (Value.bool y_2))], M := [(30000, O.box 37 [V.sl 5 (rowsOf encT56 y_3), V.sl 3 (rowsOf encT44 y_4), V.sl 3 (rowsOf encT44 y_5), V.sl 1 (rowsOf (encI .i64) y_6)]), (30001, O.box 37 [V.sl 5 (rowsOf encT56 y_7), V.sl 3 (rowsOf encT44 y_8), V.sl 3 (rowsOf encT44 y_9), V.sl 1 (rowsOf (encI .i64) y_10)])] } : St))
noncomputable def f23_arrrrzarrrrz_l6_j2 (k : Nat) (x81 x82 : Int) (x95 : Bool) (h0_ : List T56) (h0__1 h0__2 : List T44) (h0__3 : List Int) (h1_ : List T56) (h1__1 h1__2 : List T44) (h1__3 : List Int) : Option R23_arrrrzarrrrz_l6 :=
  some (R23_arrrrzarrrrz_l6.o1 x81 (IntKind.i64.wrap (x82 + (1 : Int))) h0_ h0__1 h0__2 h0__3 h1_ h1__1 h1__2 h1__3)
theorem f23_arrrrzarrrrz_l6_j2_ok (k : Nat) (x81 x82 : Int) (x95 : Bool) (h0_ : List T56) (h0__1 h0__2 : List T44) (h0__3 : List Int) (h1_ : List T56) (h1__1 h1__2 : List T44) (h1__3 : List Int) (r : R23_arrrrzarrrrz_l6) (hF : f23_arrrrzarrrrz_l6_j2 k x81 x82 x95 h0_ h0__1 h0__2 h0__3 h1_ h1__1 h1__2 h1__3 = some r) : EX 23 k (nav B23 [2, 2, 2, 1, 2, 2, 1, 2, 2, 2, 2]) ({ n := 115, F := [(2, V.ptr 30000 0), (3, V.ptr 30001 0), (81, V.p (Value.int .i64 x81)), (82, V.p (Value.int .i64 x82)), (95, V.p (Value.bool x95))], M := [(30000, O.box 37 [V.sl 5 (rowsOf encT56 h0_), V.sl 3 (rowsOf encT44 h0__1), V.sl 3 (rowsOf encT44 h0__2), V.sl 1 (rowsOf (encI .i64) h0__3)]), (30001, O.box 37 [V.sl 5 (rowsOf encT56 h1_), V.sl 3 (rowsOf encT44 h1__1), V.sl 3 (rowsOf encT44 h1__2), V.sl 1 (rowsOf (encI .i64) h1__3)])] } : St) = some r.st := by
  unfold f23_arrrrzarrrrz_l6_j2 at hF
  cases hF
  simp (maxSteps := 999999) (disch := first | exact D (by decide) | exact K (by kernel_rfl)) only [E, EE, ↓reduceIte, simprocAttr, show (nav B23 [2, 2, 2, 1, 2, 2, 1, 2, 2, 2, 2]) = Code.region 20 _ false from rfl, hk_23_20, hz_23_20, hs_23_20, R23_arrrrzarrrrz_l6.st]
noncomputable def f23_arrrrzarrrrz_l6_j1 (k : Nat) (x81 x82 : Int) (x83 : Bool) (h0_ : List T56) (h0__1 h0__2 : List T44) (h0__3 : List Int) (h1_ : List T56) (h1__1 h1__2 : List T44) (h1__3 : List Int) : Option R23_arrrrzarrrrz_l6 :=
  ifE ((0 : Int) ≤ x82) (
    Option.bind (h0__2[(Int.toNat x82)]?) fun v2 =>
      Option.bind (h1__2[(Int.toNat x82)]?) fun v4 =>
        cond ((!((v2.Source == v4.Source) && ((v2.Seq == v4.Seq) && (v2.Offset == v4.Offset)))))
          (some (R23_arrrrzarrrrz_l6.o0 false))
          (f23_arrrrzarrrrz_l6_j2 k x81 x82 false h0_ h0__1 h0__2 h0__3 h1_ h1__1 h1__2 h1__3))
theorem f23_arrrrzarrrrz_l6_j1_ok (k : Nat) (x81 x82 : Int) (x83 : Bool) (h0_ : List T56) (h0__1 h0__2 : List T44) (h0__3 : List Int) (h1_ : List T56) (h1__1 h1__2 : List T44) (h1__3 : List Int) (r : R23_arrrrzarrrrz_l6) (hF : f23_arrrrzarrrrz_l6_j1 k x81 x82 x83 h0_ h0__1 h0__2 h0__3 h1_ h1__1 h1__2 h1__3 = some r) : EX 23 k (nav B23 [2, 2, 1, 2, 2, 1, 2, 2, 2, 2]) ({ n := 115, F := [(2, V.ptr 30000 0), (3, V.ptr 30001 0), (81, V.p (Value.int .i64 x81)), (82, V.p (Value.int .i64 x82)), (83, V.p (Value.bool x83))], M := [(30000, O.box 37 [V.sl 5 (rowsOf encT56 h0_), V.sl 3 (rowsOf encT44 h0__1), V.sl 3 (rowsOf encT44 h0__2), V.sl 1 (rowsOf (encI .i64) h0__3)]), (30001, O.box 37 [V.sl 5 (rowsOf encT56 h1_), V.sl 3 (rowsOf encT44 h1__1), V.sl 3 (rowsOf encT44 h1__2), V.sl 1 (rowsOf (encI .i64) h1__3)])] } : St) = some r.st := by
  unfold f23_arrrrzarrrrz_l6_j1 at hF
  replace hF := ifE_some.1 hF
  obtain ⟨h1, hF⟩ := hF
  replace hF := Option.bind_eq_some_iff.1 hF
  obtain ⟨v2, h3, hF⟩ := hF
  replace hF := Option.bind_eq_some_iff.1 hF
  obtain ⟨v4, h5, hF⟩ := hF
  simp (maxSteps := 999999) (disch := first | exact D (by decide) | exact K (by kernel_rfl)) only [E, EE, ↓reduceIte, simprocAttr, xk B23 [2, 2, 1, 2, 2, 1, 2, 2, 2, 2] .sq rfl, xk B23 [1, 2, 2, 1, 2, 2, 1, 2, 2, 2, 2] (.bk 5) rfl, xk B23 [2, 1, 2, 2, 1, 2, 2, 1, 2, 2, 2, 2] .sq rfl, show (nav B23 [1, 2, 1, 2, 2, 1, 2, 2, 1, 2, 2, 2, 2]) = Code.region 17 _ false from rfl, hk_23_17, hz_23_17, hs_23_17, xk B23 [2, 2, 1, 2, 2, 1, 2, 2, 1, 2, 2, 2, 2] .sq rfl, show (nav B23 [1, 2, 2, 1, 2, 2, 1, 2, 2, 1, 2, 2, 2, 2]) = Code.region 18 _ true from rfl, hk_23_18, hz_23_18, hs_23_18, fieldAddrV, u_37, i_37, is_37, ib_37, iz_37, u_26, i_26, is_26, ib_26, iz_26, indexAddrV, u_44, i_44, is_44, ib_44, iz_44, encT44_eq, ag_44, u_3, i_3, is_3, ib_3, iz_3, u_42, i_42, is_42, ib_42, iz_42, xk B23 [2, 2, 2, 1, 2, 2, 1, 2, 2, 1, 2, 2, 2, 2] (.cd 95) rfl, h1, h3, h5]
  replace hF := cond_some hF
  rcases hF with ⟨h6, hF⟩ | ⟨h6, hF⟩
  · cases hF
    simp (maxSteps := 999999) (disch := first | exact D (by decide) | exact K (by kernel_rfl)) only [E, EE, ↓reduceIte, simprocAttr, xk B23 [2, 2, 2, 2, 1, 2, 2, 1, 2, 2, 1, 2, 2, 2, 2] .sq rfl, show (nav B23 [1, 2, 2, 2, 2, 1, 2, 2, 1, 2, 2, 1, 2, 2, 2, 2]) = Code.region 19 _ false from rfl, hk_23_19, hz_23_19, hs_23_19, xk B23 [2, 2, 2, 2, 2, 1, 2, 2, 1, 2, 2, 1, 2, 2, 2, 2] .rt rfl, R23_arrrrzarrrrz_l6.st, h1, h3, h5, h6]
  · have hJ := f23_arrrrzarrrrz_l6_j2_ok k x81 x82 false h0_ h0__1 h0__2 h0__3 h1_ h1__1 h1__2 h1__3 _ hF
    simp (maxSteps := 999999) (disch := first | exact D (by decide) | exact K (by kernel_rfl)) only [E, EE, ↓reduceIte, simprocAttr, xk B23 [3, 2, 2, 2, 1, 2, 2, 1, 2, 2, 1, 2, 2, 2, 2] .sk rfl, h1, h3, h5, h6]
    try simp only [NM, EE] at hJ
    exact hJ
noncomputable def f23_arrrrzarrrrz_l6_b (k : Nat) (x81 x82 : Int) (h0_ : List T56) (h0__1 h0__2 : List T44) (h0__3 : List Int) (h1_ : List T56) (h1__1 h1__2 : List T44) (h1__3 : List Int) : Option R23_arrrrzarrrrz_l6 :=
  cond ((decide (x82 < x81)))
    (f23_arrrrzarrrrz_l6_j1 k x81 x82 true h0_ h0__1 h0__2 h0__3 h1_ h1__1 h1__2 h1__3)
    (some (R23_arrrrzarrrrz_l6.o2 x81 x82 false h0_ h0__1 h0__2 h0__3 h1_ h1__1 h1__2 h1__3))
theorem f23_arrrrzarrrrz_l6_b_ok (k : Nat) (x81 x82 : Int) (h0_ : List T56) (h0__1 h0__2 : List T44) (h0__3 : List Int) (h1_ : List T56) (h1__1 h1__2 : List T44) (h1__3 : List Int) (r : R23_arrrrzarrrrz_l6) (hF : f23_arrrrzarrrrz_l6_b k x81 x82 h0_ h0__1 h0__2 h0__3 h1_ h1__1 h1__2 h1__3 = some r) : EX 23 k (nav B23 [1, 2, 2, 1, 2, 2, 2, 2]) ({ n := 115, F := [(2, V.ptr 30000 0), (3, V.ptr 30001 0), (81, V.p (Value.int .i64 x81)), (82, V.p (Value.int .i64 x82))], M := [(30000, O.box 37 [V.sl 5 (rowsOf encT56 h0_), V.sl 3 (rowsOf encT44 h0__1), V.sl 3 (rowsOf encT44 h0__2), V.sl 1 (rowsOf (encI .i64) h0__3)]), (30001, O.box 37 [V.sl 5 (rowsOf encT56 h1_), V.sl 3 (rowsOf encT44 h1__1), V.sl 3 (rowsOf encT44 h1__2), V.sl 1 (rowsOf (encI .i64) h1__3)])] } : St) = some r.st := by
  unfold f23_arrrrzarrrrz_l6_b at hF
  simp (maxSteps := 999999) (disch := first | exact D (by decide) | exact K (by kernel_rfl)) only [E, EE, ↓reduceIte, simprocAttr, xk B23 [1, 2, 2, 1, 2, 2, 2, 2] .sq rfl, show (nav B23 [1, 1, 2, 2, 1, 2, 2, 2, 2]) = Code.region 16 _ false from rfl, hk_23_16, hz_23_16, hs_23_16, xk B23 [2, 1, 2, 2, 1, 2, 2, 2, 2] .sq rfl, xk B23 [1, 2, 1, 2, 2, 1, 2, 2, 2, 2] (.cd 83) rfl]
  replace hF := cond_some hF
  rcases hF with ⟨h1, hF⟩ | ⟨h1, hF⟩
  · have hJ := f23_arrrrzarrrrz_l6_j1_ok k x81 x82 true h0_ h0__1 h0__2 h0__3 h1_ h1__1 h1__2 h1__3 _ hF
    simp (maxSteps := 999999) (disch := first | exact D (by decide) | exact K (by kernel_rfl)) only [E, EE, ↓reduceIte, simprocAttr, xk B23 [2, 1, 2, 1, 2, 2, 1, 2, 2, 2, 2] .sk rfl, h1]
    try simp only [NM, EE] at hJ
    exact hJ
  · cases hF
    simp (maxSteps := 999999) (disch := first | exact D (by decide) | exact K (by kernel_rfl)) only [E, EE, ↓reduceIte, simprocAttr, xk B23 [3, 1, 2, 1, 2, 2, 1, 2, 2, 2, 2] (.ex 4) rfl, R23_arrrrzarrrrz_l6.st, h1]
noncomputable def f23_arrrrzarrrrz_l6 (k : Nat) : Nat → Int → Int → (List T56) → (List T44) → (List T44) → (List Int) → (List T56) → (List T44) → (List T44) → (List Int) → Option R23_arrrrzarrrrz_l6
  | 0, _, _, _, _, _, _, _, _, _, _ => none
  | n + 1, x81, x82, h0_, h0__1, h0__2, h0__3, h1_, h1__1, h1__2, h1__3 => Option.bind (f23_arrrrzarrrrz_l6_b k x81 x82 h0_ h0__1 h0__2 h0__3 h1_ h1__1 h1__2 h1__3) fun o =>
    match o with
    | .o0 y => some (.o0 y)
    | .o1 y y_1 y_2 y_3 y_4 y_5 y_6 y_7 y_8 y_9 => f23_arrrrzarrrrz_l6 k n y y_1 y_2 y_3 y_4 y_5 y_6 y_7 y_8 y_9
    | .o2 y y_1 y_2 y_3 y_4 y_5 y_6 y_7 y_8 y_9 y_10 => some (.o2 y y_1 y_2 y_3 y_4 y_5 y_6 y_7 y_8 y_9 y_10)
theorem f23_arrrrzarrrrz_l6_ok (k n : Nat) : ∀ (x81 x82 : Int) (h0_ : List T56) (h0__1 h0__2 : List T44) (h0__3 : List Int) (h1_ : List T56) (h1__1 h1__2 : List T44) (h1__3 : List Int) (r : R23_arrrrzarrrrz_l6) (hF : f23_arrrrzarrrrz_l6 k n x81 x82 h0_ h0__1 h0__2 h0__3 h1_ h1__1 h1__2 h1__3 = some r) (σ : St) (hσ : headR (hints.head 23 16) (hints.canon 23 16) σ = some ({ n := 115, F := [(2, V.ptr 30000 0), (3, V.ptr 30001 0), (81, V.p (Value.int .i64 x81)), (82, V.p (Value.int .i64 x82))], M := [(30000, O.box 37 [V.sl 5 (rowsOf encT56 h0_), V.sl 3 (rowsOf encT44 h0__1), V.sl 3 (rowsOf encT44 h0__2), V.sl 1 (rowsOf (encI .i64) h0__3)]), (30001, O.box 37 [V.sl 5 (rowsOf encT56 h1_), V.sl 3 (rowsOf encT44 h1__1), V.sl 3 (rowsOf encT44 h1__2), V.sl 1 (rowsOf (encI .i64) h1__3)])] } : St)), LP 23 k (nav B23 [1, 2, 2, 1, 2, 2, 2, 2]) n σ = some r.st := by
  induction n with
  | zero => intro x81 x82 h0_ h0__1 h0__2 h0__3 h1_ h1__1 h1__2 h1__3 r hF; cases hF
  | succ n ih =>
    intro x81 x82 h0_ h0__1 h0__2 h0__3 h1_ h1__1 h1__2 h1__3 r hF σ hσ
    rw [f23_arrrrzarrrrz_l6] at hF
    obtain ⟨o, h, hF⟩ := Option.bind_eq_some_iff.1 hF
    have hB := f23_arrrrzarrrrz_l6_b_ok k x81 x82 h0_ h0__1 h0__2 h0__3 h1_ h1__1 h1__2 h1__3 o h
    unfold LP at ih ⊢
    unfold EX at hB
    rw [loopK_succ, show firstReg (nav B23 [1, 2, 2, 1, 2, 2, 2, 2]) = 16 from rfl, hσ, headK_some, hB]
    cases o with
    | o0 y => cases hF; rfl
    | o1 y y_1 y_2 y_3 y_4 y_5 y_6 y_7 y_8 y_9 =>
      refine ih y y_1 y_2 y_3 y_4 y_5 y_6 y_7 y_8 y_9 r hF _ ?_
      simp (maxSteps := 999999) (disch := first | exact D (by decide) | exact K (by kernel_rfl)) only [E, EE, ↓reduceIte, simprocAttr, hh_23_16, hc_23_16]
    | o2 y y_1 y_2 y_3 y_4 y_5 y_6 y_7 y_8 y_9 y_10 => cases hF; rfl
inductive R23_arrrrzarrrrz_l8 where
  | o0 (y : Bool)
  | o1 (y y_1 : Int) (y_2 : List T56) (y_3 y_4 : List T44) (y_5 : List Int) (y_6 : List T56) (y_7 y_8 : List T44) (y_9 : List Int)
  | o2 (y y_1 : Int) (y_2 : Bool) (y_3 : List T56) (y_4 y_5 : List T44) (y_6 : List Int) (y_7 : List T56) (y_8 y_9 : List T44) (y_10 : List Int)
noncomputable def R23_arrrrzarrrrz_l8.st : R23_arrrrzarrrrz_l8 → Out × St
  | .o0 y => (.ret, ({ n := 115, F := [(4, V.p (Value.bool y))], M := [] } : St))
  | .o1 y y_1 y_2 y_3 y_4 y_5 y_6 y_7 y_8 y_9 => (.norm, ({ n := 115, F := [(2, V.ptr 30000 0), (3, V.ptr 30001 0), (99, V.p (Value.int .i64 y)), (100, V.p (Value.int .i64 y_1))], M := [(30000, O.box 37 [V.sl 5 (rowsOf encT56 y_2), V.sl 3 (rowsOf encT44 y_3), V.sl 3 (rowsOf encT44 y_4), V.sl 1 (rowsOf (encI .i64) y_5)]), (30001, O.box 37 [V.sl 5 (rowsOf encT56 y_6), V.sl 3 (rowsOf encT44 y_7), V.sl 3 (rowsOf encT44 y_8), V.sl 1 (rowsOf (encI .i64) y_9)])] } : St))
  | .o2 y y_1 y_2 y_3 y_4 y_5 y_6 y_7 y_8 y_9 y_10 => (.exit 6, ({ n := 115, F := [(2, V.ptr 30000 0), (3, V.ptr 30001 0), (99, V.p (Value.int .i64 y)), (100, V.p (Value.int .i64 y_1)), (101, V.p (Value.bool y_2))], M := [(30000, O.box 37 [V.sl 5 (rowsOf encT56 y_3), V.sl 3 (rowsOf encT44 y_4), V.sl 3 (rowsOf encT44 y_5), V.sl 1 (rowsOf (encI .i64) y_6)]), (30001, O.box 37 [V.sl 5 (rowsOf encT56 y_7), V.sl 3 (rowsOf encT44 y_8), V.sl 3 (rowsOf encT44 y_9), V.sl 1 (rowsOf (encI .i64) y_10)])] } : St))
noncomputable def f23_arrrrzarrrrz_l8_j2 (k : Nat) (x99 x100 : Int) (x113 : Bool) (h0_ : List T56) (h0__1 h0__2 : List T44) (h0__3 : List Int) (h1_ : List T56) (h1__1 h1__2 : List T44) (h1__3 : List Int) : Option R23_arrrrzarrrrz_l8 :=
  some (R23_arrrrzarrrrz_l8.o1 x99 (IntKind.i64.wrap (x100 + (1 : Int))) h0_ h0__1 h0__2 h0__3 h1_ h1__1 h1__2 h1__3)
theorem f23_arrrrzarrrrz_l8_j2_ok (k : Nat) (x99 x100 : Int) (x113 : Bool) (h0_ : List T56) (h0__1 h0__2 : List T44) (h0__3 : List Int) (h1_ : List T56) (h1__1 h1__2 : List T44) (h1__3 : List Int) (r : R23_arrrrzarrrrz_l8) (hF : f23_arrrrzarrrrz_l8_j2 k x99 x100 x113 h0_ h0__1 h0__2 h0__3 h1_ h1__1 h1__2 h1__3 = some r) : EX 23 k (nav B23 [2, 2, 2, 1, 2, 2, 1, 2, 2, 2, 2, 2]) ({ n := 115, F := [(2, V.ptr 30000 0), (3, V.ptr 30001 0), (99, V.p (Value.int .i64 x99)), (100, V.p (Value.int .i64 x100)), (113, V.p (Value.bool x113))], M := [(30000, O.box 37 [V.sl 5 (rowsOf encT56 h0_), V.sl 3 (rowsOf encT44 h0__1), V.sl 3 (rowsOf encT44 h0__2), V.sl 1 (rowsOf (encI .i64) h0__3)]), (30001, O.box 37 [V.sl 5 (rowsOf encT56 h1_), V.sl 3 (rowsOf encT44 h1__1), V.sl 3 (rowsOf encT44 h1__2), V.sl 1 (rowsOf (encI .i64) h1__3)])] } : St) = some r.st := by
  unfold f23_arrrrzarrrrz_l8_j2 at hF
  cases hF
  simp (maxSteps := 999999) (disch := first | exact D (by decide) | exact K (by kernel_rfl)) only [E, EE, ↓reduceIte, simprocAttr, show (nav B23 [2, 2, 2, 1, 2, 2, 1, 2, 2, 2, 2, 2]) = Code.region 26 _ false from rfl, hk_23_26, hz_23_26, hs_23_26, R23_arrrrzarrrrz_l8.st]
noncomputable def f23_arrrrzarrrrz_l8_j1 (k : Nat) (x99 x100 : Int) (x101 : Bool) (h0_ : List T56) (h0__1 h0__2 : List T44) (h0__3 : List Int) (h1_ : List T56) (h1__1 h1__2 : List T44) (h1__3 : List Int) : Option R23_arrrrzarrrrz_l8 :=
  ifE ((0 : Int) ≤ x100) (
    Option.bind (h0__3[(Int.toNat x100)]?) fun v2 =>
      Option.bind (h1__3[(Int.toNat x100)]?) fun v4 =>
        cond ((v2 != v4))
          (some (R23_arrrrzarrrrz_l8.o0 false))
          (f23_arrrrzarrrrz_l8_j2 k x99 x100 false h0_ h0__1 h0__2 h0__3 h1_ h1__1 h1__2 h1__3))
theorem f23_arrrrzarrrrz_l8_j1_ok (k : Nat) (x99 x100 : Int) (x101 : Bool) (h0_ : List T56) (h0__1 h0__2 : List T44) (h0__3 : List Int) (h1_ : List T56) (h1__1 h1__2 : List T44) (h1__3 : List Int) (r : R23_arrrrzarrrrz_l8) (hF : f23_arrrrzarrrrz_l8_j1 k x99 x100 x101 h0_ h0__1 h0__2 h0__3 h1_ h1__1 h1__2 h1__3 = some r) : EX 23 k (nav B23 [2, 2, 1, 2, 2, 1, 2, 2, 2, 2, 2]) ({ n := 115, F := [(2, V.ptr 30000 0), (3, V.ptr 30001 0), (99, V.p (Value.int .i64 x99)), (100, V.p (Value.int .i64 x100)), (101, V.p (Value.bool x101))], M := [(30000, O.box 37 [V.sl 5 (rowsOf encT56 h0_), V.sl 3 (rowsOf encT44 h0__1), V.sl 3 (rowsOf encT44 h0__2), V.sl 1 (rowsOf (encI .i64) h0__3)]), (30001, O.box 37 [V.sl 5 (rowsOf encT56 h1_), V.sl 3 (rowsOf encT44 h1__1), V.sl 3 (rowsOf encT44 h1__2), V.sl 1 (rowsOf (encI .i64) h1__3)])] } : St) = some r.st := by
  unfold f23_arrrrzarrrrz_l8_j1 at hF
  replace hF := ifE_some.1 hF
  obtain ⟨h1, hF⟩ := hF
  replace hF := Option.bind_eq_some_iff.1 hF
  obtain ⟨v2, h3, hF⟩ := hF
  replace hF := Option.bind_eq_some_iff.1 hF
  obtain ⟨v4, h5, hF⟩ := hF
  simp (maxSteps := 999999) (disch := first | exact D (by decide) | exact K (by kernel_rfl)) only [E, EE, ↓reduceIte, simprocAttr, xk B23 [2, 2, 1, 2, 2, 1, 2, 2, 2, 2, 2] .sq rfl, xk B23 [1, 2, 2, 1, 2, 2, 1, 2, 2, 2, 2, 2] (.bk 7) rfl, xk B23 [2, 1, 2, 2, 1, 2, 2, 1, 2, 2, 2, 2, 2] .sq rfl, show (nav B23 [1, 2, 1, 2, 2, 1, 2, 2, 1, 2, 2, 2, 2, 2]) = Code.region 23 _ false from rfl, hk_23_23, hz_23_23, hs_23_23, xk B23 [2, 2, 1, 2, 2, 1, 2, 2, 1, 2, 2, 2, 2, 2] .sq rfl, show (nav B23 [1, 2, 2, 1, 2, 2, 1, 2, 2, 1, 2, 2, 2, 2, 2]) = Code.region 24 _ true from rfl, hk_23_24, hz_23_24, hs_23_24, fieldAddrV, u_37, i_37, is_37, ib_37, iz_37, u_25, i_25, is_25, ib_25, iz_25, indexAddrV, u_3, i_3, is_3, ib_3, iz_3, encI_eq, xk B23 [2, 2, 2, 1, 2, 2, 1, 2, 2, 1, 2, 2, 2, 2, 2] (.cd 113) rfl, h1, h3, h5]
  replace hF := cond_some hF
  rcases hF with ⟨h6, hF⟩ | ⟨h6, hF⟩
  · cases hF
    simp (maxSteps := 999999) (disch := first | exact D (by decide) | exact K (by kernel_rfl)) only [E, EE, ↓reduceIte, simprocAttr, xk B23 [2, 2, 2, 2, 1, 2, 2, 1, 2, 2, 1, 2, 2, 2, 2, 2] .sq rfl, show (nav B23 [1, 2, 2, 2, 2, 1, 2, 2, 1, 2, 2, 1, 2, 2, 2, 2, 2]) = Code.region 25 _ false from rfl, hk_23_25, hz_23_25, hs_23_25, xk B23 [2, 2, 2, 2, 2, 1, 2, 2, 1, 2, 2, 1, 2, 2, 2, 2, 2] .rt rfl, R23_arrrrzarrrrz_l8.st, h1, h3, h5, h6]
  · have hJ := f23_arrrrzarrrrz_l8_j2_ok k x99 x100 false h0_ h0__1 h0__2 h0__3 h1_ h1__1 h1__2 h1__3 _ hF
    simp (maxSteps := 999999) (disch := first | exact D (by decide) | exact K (by kernel_rfl)) only [E, EE, ↓reduceIte, simprocAttr, xk B23 [3, 2, 2, 2, 1, 2, 2, 1, 2, 2, 1, 2, 2, 2, 2, 2] .sk rfl, h1, h3, h5, h6]
    try simp only [NM, EE] at hJ
    exact hJ
noncomputable def f23_arrrrzarrrrz_l8_b (k : Nat) (x99 x100 : Int) (h0_ : List T56) (h0__1 h0__2 : List T44) (h0__3 : List Int) (h1_ : List T56) (h1__1 h1__2 : List T44) (h1__3 : List Int) : Option R23_arrrrzarrrrz_l8 :=
  cond ((decide (x100 < x99)))
    (f23_arrrrzarrrrz_l8_j1 k x99 x100 true h0_ h0__1 h0__2 h0__3 h1_ h1__1 h1__2 h1__3)
    (some (R23_arrrrzarrrrz_l8.o2 x99 x100 false h0_ h0__1 h0__2 h0__3 h1_ h1__1 h1__2 h1__3))
theorem f23_arrrrzarrrrz_l8_b_ok (k : Nat) (x99 x100 : Int) (h0_ : List T56) (h0__1 h0__2 : List T44) (h0__3 : List Int) (h1_ : List T56) (h1__1 h1__2 : List T44) (h1__3 : List Int) (r : R23_arrrrzarrrrz_l8) (hF : f23_arrrrzarrrrz_l8_b k x99 x100 h0_ h0__1 h0__2 h0__3 h1_ h1__1 h1__2 h1__3 = some r) : EX 23 k (nav B23 [1, 2, 2, 1, 2, 2, 2, 2, 2]) ({ n := 115, F := [(2, V.ptr 30000 0), (3, V.ptr 30001 0), (99, V.p (Value.int .i64 x99)), (100, V.p (Value.int .i64 x100))], M := [(30000, O.box 37 [V.sl 5 (rowsOf encT56 h0_), V.sl 3 (rowsOf encT44 h0__1), V.sl 3 (rowsOf encT44 h0__2), V.sl 1 (rowsOf (encI .i64) h0__3)]), (30001, O.box 37 [V.sl 5 (rowsOf encT56 h1_), V.sl 3 (rowsOf encT44 h1__1), V.sl 3 (rowsOf encT44 h1__2), V.sl 1 (rowsOf (encI .i64) h1__3)])] } : St) = some r.st := by
  unfold f23_arrrrzarrrrz_l8_b at hF
  simp (maxSteps := 999999) (disch := first | exact D (by decide) | exact K (by kernel_rfl)) only [E, EE, ↓reduceIte, simprocAttr, xk B23 [1, 2, 2, 1, 2, 2, 2, 2, 2] .sq rfl, show (nav B23 [1, 1, 2, 2, 1, 2, 2, 2, 2, 2]) = Code.region 22 _ false from rfl, hk_23_22, hz_23_22, hs_23_22, xk B23 [2, 1, 2, 2, 1, 2, 2, 2, 2, 2] .sq rfl, xk B23 [1, 2, 1, 2, 2, 1, 2, 2, 2, 2, 2] (.cd 101) rfl]
  replace hF := cond_some hF
  rcases hF with ⟨h1, hF⟩ | ⟨h1, hF⟩
  · have hJ := f23_arrrrzarrrrz_l8_j1_ok k x99 x100 true h0_ h0__1 h0__2 h0__3 h1_ h1__1 h1__2 h1__3 _ hF
    simp (maxSteps := 999999) (disch := first | exact D (by decide) | exact K (by kernel_rfl)) only [E, EE, ↓reduceIte, simprocAttr, xk B23 [2, 1, 2, 1, 2, 2, 1, 2, 2, 2, 2, 2] .sk rfl, h1]
    try simp only [NM, EE] at hJ
    exact hJ
  · cases hF
    simp (maxSteps := 999999) (disch := first | exact D (by decide) | exact K (by kernel_rfl)) only [E, EE, ↓reduceIte, simprocAttr, xk B23 [3, 1, 2, 1, 2, 2, 1, 2, 2, 2, 2, 2] (.ex 6) rfl, R23_arrrrzarrrrz_l8.st, h1]
noncomputable def f23_arrrrzarrrrz_l8 (k : Nat) : Nat → Int → Int → (List T56) → (List T44) → (List T44) → (List Int) → (List T56) → (List T44) → (List T44) → (List Int) → Option R23_arrrrzarrrrz_l8
  | 0, _, _, _, _, _, _, _, _, _, _ => none
  | n + 1, x99, x100, h0_, h0__1, h0__2, h0__3, h1_, h1__1, h1__2, h1__3 => Option.bind (f23_arrrrzarrrrz_l8_b k x99 x100 h0_ h0__1 h0__2 h0__3 h1_ h1__1 h1__2 h1__3) fun o =>
    match o with
    | .o0 y => some (.o0 y)
    | .o1 y y_1 y_2 y_3 y_4 y_5 y_6 y_7 y_8 y_9 => f23_arrrrzarrrrz_l8 k n y y_1 y_2 y_3 y_4 y_5 y_6 y_7 y_8 y_9
    | .o2 y y_1 y_2 y_3 y_4 y_5 y_6 y_7 y_8 y_9 y_10 => some (.o2 y y_1 y_2 y_3 y_4 y_5 y_6 y_7 y_8 y_9 y_10)
theorem f23_arrrrzarrrrz_l8_ok (k n : Nat) : ∀ (x99 x100 : Int) (h0_ : List T56) (h0__1 h0__2 : List T44) (h0__3 : List Int) (h1_ : List T56) (h1__1 h1__2 : List T44) (h1__3 : List Int) (r : R23_arrrrzarrrrz_l8) (hF : f23_arrrrzarrrrz_l8 k n x99 x100 h0_ h0__1 h0__2 h0__3 h1_ h1__1 h1__2 h1__3 = some r) (σ : St) (hσ : headR (hints.head 23 22) (hints.canon 23 22) σ = some ({ n := 115, F := [(2, V.ptr 30000 0), (3, V.ptr 30001 0), (99, V.p (Value.int .i64 x99)), (100, V.p (Value.int .i64 x100))], M := [(30000, O.box 37 [V.sl 5 (rowsOf encT56 h0_), V.sl 3 (rowsOf encT44 h0__1), V.sl 3 (rowsOf encT44 h0__2), V.sl 1 (rowsOf (encI .i64) h0__3)]), (30001, O.box 37 [V.sl 5 (rowsOf encT56 h1_), V.sl 3 (rowsOf encT44 h1__1), V.sl 3 (rowsOf encT44 h1__2), V.sl 1 (rowsOf (encI .i64) h1__3)])] } : St)), LP 23 k (nav B23 [1, 2, 2, 1, 2, 2, 2, 2, 2]) n σ = some r.st := by
  induction n with
  | zero => intro x99 x100 h0_ h0__1 h0__2 h0__3 h1_ h1__1 h1__2 h1__3 r hF; cases hF
  | succ n ih =>
    intro x99 x100 h0_ h0__1 h0__2 h0__3 h1_ h1__1 h1__2 h1__3 r hF σ hσ
    rw [f23_arrrrzarrrrz_l8] at hF
    obtain ⟨o, h, hF⟩ := Option.bind_eq_some_iff.1 hF
    have hB := f23_arrrrzarrrrz_l8_b_ok k x99 x100 h0_ h0__1 h0__2 h0__3 h1_ h1__1 h1__2 h1__3 o h
    unfold LP at ih ⊢
    unfold EX at hB
    rw [loopK_succ, show firstReg (nav B23 [1, 2, 2, 1, 2, 2, 2, 2, 2]) = 22 from rfl, hσ, headK_some, hB]
    cases o with
    | o0 y => cases hF; rfl
    | o1 y y_1 y_2 y_3 y_4 y_5 y_6 y_7 y_8 y_9 =>
      refine ih y y_1 y_2 y_3 y_4 y_5 y_6 y_7 y_8 y_9 r hF _ ?_
      simp (maxSteps := 999999) (disch := first | exact D (by decide) | exact K (by kernel_rfl)) only [E, EE, ↓reduceIte, simprocAttr, hh_23_22, hc_23_22]
    | o2 y y_1 y_2 y_3 y_4 y_5 y_6 y_7 y_8 y_9 y_10 => cases hF; rfl
noncomputable def f23_arrrrzarrrrz_j9 (k : Nat) (x99 x100 : Int) (x101 : Bool) (h0_ : List T56) (h0__1 h0__2 : List T44) (h0__3 : List Int) (h1_ : List T56) (h1__1 h1__2 : List T44) (h1__3 : List Int) : Option R23_arrrrzarrrrz :=
  some (R23_arrrrzarrrrz.o0 true)
theorem f23_arrrrzarrrrz_j9_ok (k : Nat) (x99 x100 : Int) (x101 : Bool) (h0_ : List T56) (h0__1 h0__2 : List T44) (h0__3 : List Int) (h1_ : List T56) (h1__1 h1__2 : List T44) (h1__3 : List Int) (r : R23_arrrrzarrrrz) (hF : f23_arrrrzarrrrz_j9 k x99 x100 x101 h0_ h0__1 h0__2 h0__3 h1_ h1__1 h1__2 h1__3 = some r) : finK Tryd.prog Tryd.f23 0 (EX 23 k (nav B23 [2, 2, 2, 2, 2, 2]) ({ n := 115, F := [(2, V.ptr 30000 0), (3, V.ptr 30001 0), (99, V.p (Value.int .i64 x99)), (100, V.p (Value.int .i64 x100)), (101, V.p (Value.bool x101))], M := [(30000, O.box 37 [V.sl 5 (rowsOf encT56 h0_), V.sl 3 (rowsOf encT44 h0__1), V.sl 3 (rowsOf encT44 h0__2), V.sl 1 (rowsOf (encI .i64) h0__3)]), (30001, O.box 37 [V.sl 5 (rowsOf encT56 h1_), V.sl 3 (rowsOf encT44 h1__1), V.sl 3 (rowsOf encT44 h1__2), V.sl 1 (rowsOf (encI .i64) h1__3)])] } : St)) = some r.st := by
  unfold f23_arrrrzarrrrz_j9 at hF
  cases hF
  simp (maxSteps := 999999) (disch := first | exact D (by decide) | exact K (by kernel_rfl)) only [E, EE, ↓reduceIte, simprocAttr, xk B23 [2, 2, 2, 2, 2, 2] .sq rfl, show (nav B23 [1, 2, 2, 2, 2, 2, 2]) = Code.region 27 _ false from rfl, hk_23_27, hz_23_27, hs_23_27, xk B23 [2, 2, 2, 2, 2, 2, 2] .rt rfl, finK_norm, finK_ret, fin23, R23_arrrrzarrrrz.st]
noncomputable def f23_arrrrzarrrrz_j7 (k : Nat) (x81 x82 : Int) (x83 : Bool) (h0_ : List T56) (h0__1 h0__2 : List T44) (h0__3 : List Int) (h1_ : List T56) (h1__1 h1__2 : List T44) (h1__3 : List Int) : Option R23_arrrrzarrrrz :=
  Option.bind (f23_arrrrzarrrrz_l8 k k ((List.length h0__3) : Int) 0 h0_ h0__1 h0__2 h0__3 h1_ h1__1 h1__2 h1__3) fun o1 =>
    match o1 with
    | .o0 v4 =>
      some (R23_arrrrzarrrrz.o0 v4)
    | .o1 _ _ _ _ _ _ _ _ _ _ =>
      none
    | .o2 v5 v6 v7 v8 v9 v10 v11 v12 v13 v14 v15 =>
      f23_arrrrzarrrrz_j9 k v5 v6 v7 v8 v9 v10 v11 v12 v13 v14 v15
theorem f23_arrrrzarrrrz_j7_ok (k : Nat) (x81 x82 : Int) (x83 : Bool) (h0_ : List T56) (h0__1 h0__2 : List T44) (h0__3 : List Int) (h1_ : List T56) (h1__1 h1__2 : List T44) (h1__3 : List Int) (r : R23_arrrrzarrrrz) (hF : f23_arrrrzarrrrz_j7 k x81 x82 x83 h0_ h0__1 h0__2 h0__3 h1_ h1__1 h1__2 h1__3 = some r) : finK Tryd.prog Tryd.f23 0 (EX 23 k (nav B23 [2, 2, 2, 2, 2]) ({ n := 115, F := [(2, V.ptr 30000 0), (3, V.ptr 30001 0), (81, V.p (Value.int .i64 x81)), (82, V.p (Value.int .i64 x82)), (83, V.p (Value.bool x83))], M := [(30000, O.box 37 [V.sl 5 (rowsOf encT56 h0_), V.sl 3 (rowsOf encT44 h0__1), V.sl 3 (rowsOf encT44 h0__2), V.sl 1 (rowsOf (encI .i64) h0__3)]), (30001, O.box 37 [V.sl 5 (rowsOf encT56 h1_), V.sl 3 (rowsOf encT44 h1__1), V.sl 3 (rowsOf encT44 h1__2), V.sl 1 (rowsOf (encI .i64) h1__3)])] } : St)) = some r.st := by
  unfold f23_arrrrzarrrrz_j7 at hF
  replace hF := Option.bind_eq_some_iff.1 hF
  obtain ⟨o1, h2, hF⟩ := hF
  have hc3 := f23_arrrrzarrrrz_l8_ok k k ((List.length h0__3) : Int) 0 h0_ h0__1 h0__2 h0__3 h1_ h1__1 h1__2 h1__3 _ h2
  simp (maxSteps := 999999) (disch := first | exact D (by decide) | exact K (by kernel_rfl)) only [E, EE, ↓reduceIte, simprocAttr, xk B23 [2, 2, 2, 2, 2] .sq rfl, xk B23 [1, 2, 2, 2, 2, 2] .sq rfl, show (nav B23 [1, 1, 2, 2, 2, 2, 2]) = Code.region 21 _ false from rfl, hk_23_21, hz_23_21, hs_23_21, fieldAddrV, u_37, i_37, is_37, ib_37, iz_37, u_25, i_25, is_25, ib_25, iz_25, xk B23 [2, 1, 2, 2, 2, 2, 2] (.bk 6) rfl, xk B23 [2, 2, 1, 2, 2, 2, 2, 2] .lp rfl, hh_23_22, hc_23_22]
  (try simp only [NM, EE] at hc3)
  rw [hc3 _ (by simp (maxSteps := 999999) (disch := first | exact D (by decide) | exact K (by kernel_rfl)) only [E, EE, ↓reduceIte, simprocAttr, hh_23_22, hc_23_22])]
  clear hc3
  cases o1 with
  | o0 v4 =>
    (try dsimp only at hF)
    cases hF
    simp (maxSteps := 999999) (disch := first | exact D (by decide) | exact K (by kernel_rfl)) only [E, EE, ↓reduceIte, simprocAttr, R23_arrrrzarrrrz_l8.st, finK_norm, finK_ret, fin23, R23_arrrrzarrrrz.st]
  | o1 _ _ _ _ _ _ _ _ _ _ =>
    (try dsimp only at hF)
    cases hF
  | o2 v5 v6 v7 v8 v9 v10 v11 v12 v13 v14 v15 =>
    (try dsimp only at hF)
    have hJ := f23_arrrrzarrrrz_j9_ok k v5 v6 v7 v8 v9 v10 v11 v12 v13 v14 v15 _ hF
    simp (maxSteps := 999999) (disch := first | exact D (by decide) | exact K (by kernel_rfl)) only [E, EE, ↓reduceIte, simprocAttr, R23_arrrrzarrrrz_l8.st]
    try simp only [NM, EE] at hJ
    exact hJ
noncomputable def f23_arrrrzarrrrz_j5 (k : Nat) (x63 x64 : Int) (x65 : Bool) (h0_ : List T56) (h0__1 h0__2 : List T44) (h0__3 : List Int) (h1_ : List T56) (h1__1 h1__2 : List T44) (h1__3 : List Int) : Option R23_arrrrzarrrrz :=
  Option.bind (f23_arrrrzarrrrz_l6 k k ((List.length h0__2) : Int) 0 h0_ h0__1 h0__2 h0__3 h1_ h1__1 h1__2 h1__3) fun o1 =>
    match o1 with
    | .o0 v4 =>
      some (R23_arrrrzarrrrz.o0 v4)
    | .o1 _ _ _ _ _ _ _ _ _ _ =>
      none
    | .o2 v5 v6 v7 v8 v9 v10 v11 v12 v13 v14 v15 =>
      f23_arrrrzarrrrz_j7 k v5 v6 v7 v8 v9 v10 v11 v12 v13 v14 v15
theorem f23_arrrrzarrrrz_j5_ok (k : Nat) (x63 x64 : Int) (x65 : Bool) (h0_ : List T56) (h0__1 h0__2 : List T44) (h0__3 : List Int) (h1_ : List T56) (h1__1 h1__2 : List T44) (h1__3 : List Int) (r : R23_arrrrzarrrrz) (hF : f23_arrrrzarrrrz_j5 k x63 x64 x65 h0_ h0__1 h0__2 h0__3 h1_ h1__1 h1__2 h1__3 = some r) : finK Tryd.prog Tryd.f23 0 (EX 23 k (nav B23 [2, 2, 2, 2]) ({ n := 115, F := [(2, V.ptr 30000 0), (3, V.ptr 30001 0), (63, V.p (Value.int .i64 x63)), (64, V.p (Value.int .i64 x64)), (65, V.p (Value.bool x65))], M := [(30000, O.box 37 [V.sl 5 (rowsOf encT56 h0_), V.sl 3 (rowsOf encT44 h0__1), V.sl 3 (rowsOf encT44 h0__2), V.sl 1 (rowsOf (encI .i64) h0__3)]), (30001, O.box 37 [V.sl 5 (rowsOf encT56 h1_), V.sl 3 (rowsOf encT44 h1__1), V.sl 3 (rowsOf encT44 h1__2), V.sl 1 (rowsOf (encI .i64) h1__3)])] } : St)) = some r.st := by
  unfold f23_arrrrzarrrrz_j5 at hF
  replace hF := Option.bind_eq_some_iff.1 hF
  obtain ⟨o1, h2, hF⟩ := hF
  have hc3 := f23_arrrrzarrrrz_l6_ok k k ((List.length h0__2) : Int) 0 h0_ h0__1 h0__2 h0__3 h1_ h1__1 h1__2 h1__3 _ h2
  simp (maxSteps := 999999) (disch := first | exact D (by decide) | exact K (by kernel_rfl)) only [E, EE, ↓reduceIte, simprocAttr, xk B23 [2, 2, 2, 2] .sq rfl, xk B23 [1, 2, 2, 2, 2] .sq rfl, show (nav B23 [1, 1, 2, 2, 2, 2]) = Code.region 15 _ false from rfl, hk_23_15, hz_23_15, hs_23_15, fieldAddrV, u_37, i_37, is_37, ib_37, iz_37, u_26, i_26, is_26, ib_26, iz_26, xk B23 [2, 1, 2, 2, 2, 2] (.bk 4) rfl, xk B23 [2, 2, 1, 2, 2, 2, 2] .lp rfl, hh_23_16, hc_23_16]
  (try simp only [NM, EE] at hc3)
  rw [hc3 _ (by simp (maxSteps := 999999) (disch := first | exact D (by decide) | exact K (by kernel_rfl)) only [E, EE, ↓reduceIte, simprocAttr, hh_23_16, hc_23_16])]
  clear hc3
  cases o1 with
  | o0 v4 =>
    (try dsimp only at hF)
    cases hF
    simp (maxSteps := 999999) (disch := first | exact D (by decide) | exact K (by kernel_rfl)) only [E, EE, ↓reduceIte, simprocAttr, R23_arrrrzarrrrz_l6.st, finK_norm, finK_ret, fin23, R23_arrrrzarrrrz.st]
  | o1 _ _ _ _ _ _ _ _ _ _ =>
    (try dsimp only at hF)
    cases hF
  | o2 v5 v6 v7 v8 v9 v10 v11 v12 v13 v14 v15 =>
    (try dsimp only at hF)
    have hJ := f23_arrrrzarrrrz_j7_ok k v5 v6 v7 v8 v9 v10 v11 v12 v13 v14 v15 _ hF
    simp (maxSteps := 999999) (disch := first | exact D (by decide) | exact K (by kernel_rfl)) only [E, EE, ↓reduceIte, simprocAttr, R23_arrrrzarrrrz_l6.st]
    try simp only [NM, EE] at hJ
    exact hJ
noncomputable def f23_arrrrzarrrrz_j3 (k : Nat) (x45 x46 : Int) (x47 : Bool) (h0_ : List T56) (h0__1 h0__2 : List T44) (h0__3 : List Int) (h1_ : List T56) (h1__1 h1__2 : List T44) (h1__3 : List Int) : Option R23_arrrrzarrrrz :=
  Option.bind (f23_arrrrzarrrrz_l4 k k ((List.length h0__1) : Int) 0 h0_ h0__1 h0__2 h0__3 h1_ h1__1 h1__2 h1__3) fun o1 =>
    match o1 with
    | .o0 v4 =>
      some (R23_arrrrzarrrrz.o0 v4)
    | .o1 _ _ _ _ _ _ _ _ _ _ =>
      none
    | .o2 v5 v6 v7 v8 v9 v10 v11 v12 v13 v14 v15 =>
      f23_arrrrzarrrrz_j5 k v5 v6 v7 v8 v9 v10 v11 v12 v13 v14 v15
theorem f23_arrrrzarrrrz_j3_ok (k : Nat) (x45 x46 : Int) (x47 : Bool) (h0_ : List T56) (h0__1 h0__2 : List T44) (h0__3 : List Int) (h1_ : List T56) (h1__1 h1__2 : List T44) (h1__3 : List Int) (r : R23_arrrrzarrrrz) (hF : f23_arrrrzarrrrz_j3 k x45 x46 x47 h0_ h0__1 h0__2 h0__3 h1_ h1__1 h1__2 h1__3 = some r) : finK Tryd.prog Tryd.f23 0 (EX 23 k (nav B23 [2, 2, 2]) ({ n := 115, F := [(2, V.ptr 30000 0), (3, V.ptr 30001 0), (45, V.p (Value.int .i64 x45)), (46, V.p (Value.int .i64 x46)), (47, V.p (Value.bool x47))], M := [(30000, O.box 37 [V.sl 5 (rowsOf encT56 h0_), V.sl 3 (rowsOf encT44 h0__1), V.sl 3 (rowsOf encT44 h0__2), V.sl 1 (rowsOf (encI .i64) h0__3)]), (30001, O.box 37 [V.sl 5 (rowsOf encT56 h1_), V.sl 3 (rowsOf encT44 h1__1), V.sl 3 (rowsOf encT44 h1__2), V.sl 1 (rowsOf (encI .i64) h1__3)])] } : St)) = some r.st := by
  unfold f23_arrrrzarrrrz_j3 at hF
  replace hF := Option.bind_eq_some_iff.1 hF
  obtain ⟨o1, h2, hF⟩ := hF
  have hc3 := f23_arrrrzarrrrz_l4_ok k k ((List.length h0__1) : Int) 0 h0_ h0__1 h0__2 h0__3 h1_ h1__1 h1__2 h1__3 _ h2
  simp (maxSteps := 999999) (disch := first | exact D (by decide) | exact K (by kernel_rfl)) only [E, EE, ↓reduceIte, simprocAttr, xk B23 [2, 2, 2] .sq rfl, xk B23 [1, 2, 2, 2] .sq rfl, show (nav B23 [1, 1, 2, 2, 2]) = Code.region 9 _ false from rfl, hk_23_9, hz_23_9, hs_23_9, fieldAddrV, u_37, i_37, is_37, ib_37, iz_37, u_26, i_26, is_26, ib_26, iz_26, xk B23 [2, 1, 2, 2, 2] (.bk 2) rfl, xk B23 [2, 2, 1, 2, 2, 2] .lp rfl, hh_23_10, hc_23_10]
  (try simp only [NM, EE] at hc3)
  rw [hc3 _ (by simp (maxSteps := 999999) (disch := first | exact D (by decide) | exact K (by kernel_rfl)) only [E, EE, ↓reduceIte, simprocAttr, hh_23_10, hc_23_10])]
  clear hc3
  cases o1 with
  | o0 v4 =>
    (try dsimp only at hF)
    cases hF
    simp (maxSteps := 999999) (disch := first | exact D (by decide) | exact K (by kernel_rfl)) only [E, EE, ↓reduceIte, simprocAttr, R23_arrrrzarrrrz_l4.st, finK_norm, finK_ret, fin23, R23_arrrrzarrrrz.st]
  | o1 _ _ _ _ _ _ _ _ _ _ =>
    (try dsimp only at hF)
    cases hF
  | o2 v5 v6 v7 v8 v9 v10 v11 v12 v13 v14 v15 =>
    (try dsimp only at hF)
    have hJ := f23_arrrrzarrrrz_j5_ok k v5 v6 v7 v8 v9 v10 v11 v12 v13 v14 v15 _ hF
    simp (maxSteps := 999999) (disch := first | exact D (by decide) | exact K (by kernel_rfl)) only [E, EE, ↓reduceIte, simprocAttr, R23_arrrrzarrrrz_l4.st]
    try simp only [NM, EE] at hJ
    exact hJ
noncomputable def f23_arrrrzarrrrz_j1 (k : Nat) (x42 : Bool) (m2 : List T56) (m2_1 m2_2 : List T44) (m2_3 : List Int) (m3 : List T56) (m3_1 m3_2 : List T44) (m3_3 : List Int) : Option R23_arrrrzarrrrz :=
  Option.bind (f23_arrrrzarrrrz_l2 k k ((List.length m2) : Int) 0 m2 m2_1 m2_2 m2_3 m3 m3_1 m3_2 m3_3) fun o1 =>
    match o1 with
    | .o0 v4 =>
      some (R23_arrrrzarrrrz.o0 v4)
    | .o1 _ _ _ _ _ _ _ _ _ _ =>
      none
    | .o2 v5 v6 v7 v8 v9 v10 v11 v12 v13 v14 v15 =>
      f23_arrrrzarrrrz_j3 k v5 v6 v7 v8 v9 v10 v11 v12 v13 v14 v15
theorem f23_arrrrzarrrrz_j1_ok (k : Nat) (x42 : Bool) (m2 : List T56) (m2_1 m2_2 : List T44) (m2_3 : List Int) (m3 : List T56) (m3_1 m3_2 : List T44) (m3_3 : List Int) (r : R23_arrrrzarrrrz) (hF : f23_arrrrzarrrrz_j1 k x42 m2 m2_1 m2_2 m2_3 m3 m3_1 m3_2 m3_3 = some r) : finK Tryd.prog Tryd.f23 0 (EX 23 k (nav B23 [2, 2]) ({ n := 115, F := [(2, V.ptr 2 0), (3, V.ptr 3 0), (42, V.p (Value.bool x42))], M := [(2, O.box 37 [V.sl 5 (rowsOf encT56 m2), V.sl 3 (rowsOf encT44 m2_1), V.sl 3 (rowsOf encT44 m2_2), V.sl 1 (rowsOf (encI .i64) m2_3)]), (3, O.box 37 [V.sl 5 (rowsOf encT56 m3), V.sl 3 (rowsOf encT44 m3_1), V.sl 3 (rowsOf encT44 m3_2), V.sl 1 (rowsOf (encI .i64) m3_3)])] } : St)) = some r.st := by
  unfold f23_arrrrzarrrrz_j1 at hF
  replace hF := Option.bind_eq_some_iff.1 hF
  obtain ⟨o1, h2, hF⟩ := hF
  have hc3 := f23_arrrrzarrrrz_l2_ok k k ((List.length m2) : Int) 0 m2 m2_1 m2_2 m2_3 m3 m3_1 m3_2 m3_3 _ h2
  simp (maxSteps := 999999) (disch := first | exact D (by decide) | exact K (by kernel_rfl)) only [E, EE, ↓reduceIte, simprocAttr, xk B23 [2, 2] .sq rfl, xk B23 [1, 2, 2] .sq rfl, show (nav B23 [1, 1, 2, 2]) = Code.region 3 _ false from rfl, hk_23_3, hz_23_3, hs_23_3, fieldAddrV, u_37, i_37, is_37, ib_37, iz_37, u_35, i_35, is_35, ib_35, iz_35, xk B23 [2, 1, 2, 2] (.bk 0) rfl, xk B23 [2, 2, 1, 2, 2] .lp rfl, hh_23_4, hc_23_4]
  (try simp only [NM, EE] at hc3)
  rw [hc3 _ (by simp (maxSteps := 999999) (disch := first | exact D (by decide) | exact K (by kernel_rfl)) only [E, EE, ↓reduceIte, simprocAttr, hh_23_4, hc_23_4])]
  clear hc3
  cases o1 with
  | o0 v4 =>
    (try dsimp only at hF)
    cases hF
    simp (maxSteps := 999999) (disch := first | exact D (by decide) | exact K (by kernel_rfl)) only [E, EE, ↓reduceIte, simprocAttr, R23_arrrrzarrrrz_l2.st, finK_norm, finK_ret, fin23, R23_arrrrzarrrrz.st]
  | o1 _ _ _ _ _ _ _ _ _ _ =>
    (try dsimp only at hF)
    cases hF
  | o2 v5 v6 v7 v8 v9 v10 v11 v12 v13 v14 v15 =>
    (try dsimp only at hF)
    have hJ := f23_arrrrzarrrrz_j3_ok k v5 v6 v7 v8 v9 v10 v11 v12 v13 v14 v15 _ hF
    simp (maxSteps := 999999) (disch := first | exact D (by decide) | exact K (by kernel_rfl)) only [E, EE, ↓reduceIte, simprocAttr, R23_arrrrzarrrrz_l2.st]
    try simp only [NM, EE] at hJ
    exact hJ
noncomputable def f23_arrrrzarrrrz_e (k : Nat) (a0 : List T56) (a0_1 a0_2 : List T44) (a0_3 : List Int) (a1 : List T56) (a1_1 a1_2 : List T44) (a1_3 : List Int) : Option R23_arrrrzarrrrz :=
  cond ((((List.length a0) : Int) != ((List.length a1) : Int)))
    (some (R23_arrrrzarrrrz.o0 false))
    (
      cond ((((List.length a0_1) : Int) != ((List.length a1_1) : Int)))
        (some (R23_arrrrzarrrrz.o0 false))
        (
          cond ((((List.length a0_2) : Int) != ((List.length a1_2) : Int)))
            (some (R23_arrrrzarrrrz.o0 false))
            (
              cond ((((List.length a0_3) : Int) != ((List.length a1_3) : Int)))
                (some (R23_arrrrzarrrrz.o0 false))
                (f23_arrrrzarrrrz_j1 k false a0 a0_1 a0_2 a0_3 a1 a1_1 a1_2 a1_3))))
theorem f23_arrrrzarrrrz_e_ok (k : Nat) (a0 : List T56) (a0_1 a0_2 : List T44) (a0_3 : List Int) (a1 : List T56) (a1_1 a1_2 : List T44) (a1_3 : List Int) (r : R23_arrrrzarrrrz) (hF : f23_arrrrzarrrrz_e k a0 a0_1 a0_2 a0_3 a1 a1_1 a1_2 a1_3 = some r) : finK Tryd.prog Tryd.f23 0 (EX 23 k (nav B23 []) ({ n := 115, F := [(0, V.agg [V.sl 5 (rowsOf encT56 a0), V.sl 3 (rowsOf encT44 a0_1), V.sl 3 (rowsOf encT44 a0_2), V.sl 1 (rowsOf (encI .i64) a0_3)]), (1, V.agg [V.sl 5 (rowsOf encT56 a1), V.sl 3 (rowsOf encT44 a1_1), V.sl 3 (rowsOf encT44 a1_2), V.sl 1 (rowsOf (encI .i64) a1_3)])], M := [] } : St)) = some r.st := by
  unfold f23_arrrrzarrrrz_e at hF
  simp (maxSteps := 999999) (disch := first | exact D (by decide) | exact K (by kernel_rfl)) only [E, EE, ↓reduceIte, simprocAttr, xk B23 [] .sq rfl, show (nav B23 [1]) = Code.region 0 _ false from rfl, hk_23_0, hz_23_0, hs_23_0, xk B23 [2] .sq rfl, xk B23 [1, 2] .sq rfl, show (nav B23 [1, 1, 2]) = Code.region 1 _ false from rfl, hk_23_1, hz_23_1, hs_23_1, fieldAddrV, u_37, i_37, is_37, ib_37, iz_37, u_35, i_35, is_35, ib_35, iz_35]
  replace hF := cond_some hF
  rcases hF with ⟨h1, hF⟩ | ⟨h1, hF⟩
  · cases hF
    simp (maxSteps := 999999) (disch := first | exact D (by decide) | exact K (by kernel_rfl)) only [E, EE, ↓reduceIte, simprocAttr, xk B23 [2, 1, 2] (.cd 42) rfl, xk B23 [2, 2, 1, 2] .sq rfl, show (nav B23 [1, 2, 2, 1, 2]) = Code.region 2 _ false from rfl, hk_23_2, hz_23_2, hs_23_2, xk B23 [2, 2, 2, 1, 2] .rt rfl, finK_norm, finK_ret, fin23, R23_arrrrzarrrrz.st, h1]
  · simp (maxSteps := 999999) (disch := first | exact D (by decide) | exact K (by kernel_rfl)) only [E, EE, ↓reduceIte, simprocAttr, fieldAddrV, u_37, i_37, is_37, ib_37, iz_37, u_26, i_26, is_26, ib_26, iz_26, h1]
    replace hF := cond_some hF
    rcases hF with ⟨h2, hF⟩ | ⟨h2, hF⟩
    · cases hF
      simp (maxSteps := 999999) (disch := first | exact D (by decide) | exact K (by kernel_rfl)) only [E, EE, ↓reduceIte, simprocAttr, xk B23 [2, 1, 2] (.cd 42) rfl, xk B23 [2, 2, 1, 2] .sq rfl, show (nav B23 [1, 2, 2, 1, 2]) = Code.region 2 _ false from rfl, hk_23_2, hz_23_2, hs_23_2, xk B23 [2, 2, 2, 1, 2] .rt rfl, finK_norm, finK_ret, fin23, R23_arrrrzarrrrz.st, h1, h2]
    · simp (maxSteps := 999999) (disch := first | exact D (by decide) | exact K (by kernel_rfl)) only [E, EE, ↓reduceIte, simprocAttr, fieldAddrV, u_37, i_37, is_37, ib_37, iz_37, u_26, i_26, is_26, ib_26, iz_26, h1, h2]
      replace hF := cond_some hF
      rcases hF with ⟨h3, hF⟩ | ⟨h3, hF⟩
      · cases hF
        simp (maxSteps := 999999) (disch := first | exact D (by decide) | exact K (by kernel_rfl)) only [E, EE, ↓reduceIte, simprocAttr, xk B23 [2, 1, 2] (.cd 42) rfl, xk B23 [2, 2, 1, 2] .sq rfl, show (nav B23 [1, 2, 2, 1, 2]) = Code.region 2 _ false from rfl, hk_23_2, hz_23_2, hs_23_2, xk B23 [2, 2, 2, 1, 2] .rt rfl, finK_norm, finK_ret, fin23, R23_arrrrzarrrrz.st, h1, h2, h3]
      · simp (maxSteps := 999999) (disch := first | exact D (by decide) | exact K (by kernel_rfl)) only [E, EE, ↓reduceIte, simprocAttr, fieldAddrV, u_37, i_37, is_37, ib_37, iz_37, u_25, i_25, is_25, ib_25, iz_25, xk B23 [2, 1, 2] (.cd 42) rfl, h1, h2, h3]
        replace hF := cond_some hF
        rcases hF with ⟨h4, hF⟩ | ⟨h4, hF⟩
        · cases hF
          simp (maxSteps := 999999) (disch := first | exact D (by decide) | exact K (by kernel_rfl)) only [E, EE, ↓reduceIte, simprocAttr, xk B23 [2, 2, 1, 2] .sq rfl, show (nav B23 [1, 2, 2, 1, 2]) = Code.region 2 _ false from rfl, hk_23_2, hz_23_2, hs_23_2, xk B23 [2, 2, 2, 1, 2] .rt rfl, finK_norm, finK_ret, fin23, R23_arrrrzarrrrz.st, h1, h2, h3, h4]
        · have hJ := f23_arrrrzarrrrz_j1_ok k false a0 a0_1 a0_2 a0_3 a1 a1_1 a1_2 a1_3 _ hF
          simp (maxSteps := 999999) (disch := first | exact D (by decide) | exact K (by kernel_rfl)) only [E, EE, ↓reduceIte, simprocAttr, xk B23 [3, 2, 1, 2] .sk rfl, h1, h2, h3, h4]
          try simp only [NM, EE] at hJ
          exact hJ
noncomputable def f23_arrrrzarrrrz (k : Nat) (a0 : List T56) (a0_1 a0_2 : List T44) (a0_3 : List Int) (a1 : List T56) (a1_1 a1_2 : List T44) (a1_3 : List Int) : Option R23_arrrrzarrrrz := match k with | 0 => none | k + 1 => f23_arrrrzarrrrz_e k a0 a0_1 a0_2 a0_3 a1 a1_1 a1_2 a1_3
theorem f23_arrrrzarrrrz_ok (k : Nat) (a0 : List T56) (a0_1 a0_2 : List T44) (a0_3 : List Int) (a1 : List T56) (a1_1 a1_2 : List T44) (a1_3 : List Int) (r : R23_arrrrzarrrrz) (hF : f23_arrrrzarrrrz k a0 a0_1 a0_2 a0_3 a1 a1_1 a1_2 a1_3 = some r) : CV k 23 [V.agg [V.sl 5 (rowsOf encT56 a0), V.sl 3 (rowsOf encT44 a0_1), V.sl 3 (rowsOf encT44 a0_2), V.sl 1 (rowsOf (encI .i64) a0_3)], V.agg [V.sl 5 (rowsOf encT56 a1), V.sl 3 (rowsOf encT44 a1_1), V.sl 3 (rowsOf encT44 a1_2), V.sl 1 (rowsOf (encI .i64) a1_3)]] [] = some r.st := by
  cases k with
  | zero => cases hF
  | succ k =>
    unfold CV
    rw [ev_call (F := Tryd.f23) (c := (nav B23 [])) rfl Tryd.func23 rfl rfl rfl rfl]
    exact f23_arrrrzarrrrz_e_ok k a0 a0_1 a0_2 a0_3 a1 a1_1 a1_2 a1_3 r hF
end Go.Proofs.YtiompmmbjpjjeaaDoorV
