/- What the program's functions answer: plain functions, and that the interpreter answers what they do. Written by a program of this session, out of the translation. -/
import Derived.Test.YtmogplhglcodjaaVP5
namespace Go.Proofs.YtmogplhglcodjaaV
open Go
set_option linter.unusedVariables false
set_option linter.unusedSimpArgs false
set_option maxRecDepth 8000
set_option maxHeartbeats 4000000
-- f24_airzriii: f24 heliograph/heliographref13.Arrivals
inductive R24_airzriii where
  | o0 (y : List Int)
noncomputable def R24_airzriii.st : R24_airzriii → V × List O × List O
  | .o0 y => (V.agg (arrC (cI .i64) y), [], [])
inductive R24_airzriii_l1 where
  | o0 (y : List Int) (y_1 y_2 y_3 y_4 y_5 : Int) (y_6 : List T44) (y_7 y_8 : List Int)
  | o1 (y : List Int) (y_1 y_2 y_3 y_4 : Int) (y_5 : Bool) (y_6 : Int) (y_7 : List T44) (y_8 y_9 : List Int)
noncomputable def R24_airzriii_l1.st : R24_airzriii_l1 → Out × St
  | .o0 y y_1 y_2 y_3 y_4 y_5 y_6 y_7 y_8 => (.norm, ({ n := 83, F := [(1, V.sl 1 (rowsOf (encI .i64) y)), (2, V.p (Value.int .i64 y_1)), (3, V.p (Value.int .i64 y_2)), (4, V.p (Value.int .i64 y_3)), (5, V.ptr 30000 0), (10, V.ptr 30001 0), (11, V.ptr 30002 0), (12, V.p (Value.int .i64 y_4))], M := [(30000, O.box 24 [V.p (Value.int .i64 y_5), V.sl 6 (rowsOf encT44 y_6)]), (30001, O.box 60 (arrC (cI .i64) y_7)), (30002, O.box 60 (arrC (cI .i64) y_8))] } : St))
  | .o1 y y_1 y_2 y_3 y_4 y_5 y_6 y_7 y_8 y_9 => (.exit 0, ({ n := 83, F := [(1, V.sl 1 (rowsOf (encI .i64) y)), (2, V.p (Value.int .i64 y_1)), (3, V.p (Value.int .i64 y_2)), (4, V.p (Value.int .i64 y_3)), (5, V.ptr 30000 0), (10, V.ptr 30001 0), (11, V.ptr 30002 0), (12, V.p (Value.int .i64 y_4)), (18, V.p (Value.bool y_5))], M := [(30000, O.box 24 [V.p (Value.int .i64 y_6), V.sl 6 (rowsOf encT44 y_7)]), (30001, O.box 60 (arrC (cI .i64) y_8)), (30002, O.box 60 (arrC (cI .i64) y_9))] } : St))
noncomputable def f24_airzriii_l1_j2 (k : Nat) (x1 : List Int) (x2 x3 x4 x12 h0_ : Int) (h0__1 : List T44) (h1_ h2_ : List Int) : Option R24_airzriii_l1 :=
  some (R24_airzriii_l1.o0 x1 x2 x3 x4 (IntKind.i64.wrap (x12 + (1 : Int))) h0_ h0__1 h1_ h2_)
theorem f24_airzriii_l1_j2_ok (k : Nat) (x1 : List Int) (x2 x3 x4 x12 h0_ : Int) (h0__1 : List T44) (h1_ h2_ : List Int) (r : R24_airzriii_l1) (hF : f24_airzriii_l1_j2 k x1 x2 x3 x4 x12 h0_ h0__1 h1_ h2_ = some r) : EX 24 k (nav B24 [2, 2, 1, 2, 2, 1, 2, 2]) ({ n := 83, F := [(1, V.sl 1 (rowsOf (encI .i64) x1)), (2, V.p (Value.int .i64 x2)), (3, V.p (Value.int .i64 x3)), (4, V.p (Value.int .i64 x4)), (5, V.ptr 30000 0), (10, V.ptr 30001 0), (11, V.ptr 30002 0), (12, V.p (Value.int .i64 x12))], M := [(30000, O.box 24 [V.p (Value.int .i64 h0_), V.sl 6 (rowsOf encT44 h0__1)]), (30001, O.box 60 (arrC (cI .i64) h1_)), (30002, O.box 60 (arrC (cI .i64) h2_))] } : St) = some r.st := by
  unfold f24_airzriii_l1_j2 at hF
  cases hF
  simp (maxSteps := 999999) (disch := first | exact D (by decide) | exact K (by kernel_rfl)) only [E, EE, ↓reduceIte, simprocAttr, show (nav B24 [2, 2, 1, 2, 2, 1, 2, 2]) = Code.region 4 _ false from rfl, hk_24_4, hz_24_4, hs_24_4, R24_airzriii_l1.st]
noncomputable def f24_airzriii_l1_j1 (k : Nat) (x1 : List Int) (x2 x3 x4 x12 : Int) (x18 : Bool) (h0_ : Int) (h0__1 : List T44) (h1_ h2_ : List Int) : Option R24_airzriii_l1 :=
  ifE ((0 : Int) ≤ x12) (
    ifE (x12 < 7) (
      ifE (((Int.toNat x12) + 1) ≤ (List.length h2_)) (
        f24_airzriii_l1_j2 k x1 x2 x3 x4 x12 h0_ h0__1 h1_ (((List.take (Int.toNat x12) h2_) ++ (1099511627776 :: (List.drop ((Int.toNat x12) + 1) h2_)))))))
theorem f24_airzriii_l1_j1_ok (k : Nat) (x1 : List Int) (x2 x3 x4 x12 : Int) (x18 : Bool) (h0_ : Int) (h0__1 : List T44) (h1_ h2_ : List Int) (r : R24_airzriii_l1) (hF : f24_airzriii_l1_j1 k x1 x2 x3 x4 x12 x18 h0_ h0__1 h1_ h2_ = some r) : EX 24 k (nav B24 [2, 1, 2, 2, 1, 2, 2]) ({ n := 83, F := [(1, V.sl 1 (rowsOf (encI .i64) x1)), (2, V.p (Value.int .i64 x2)), (3, V.p (Value.int .i64 x3)), (4, V.p (Value.int .i64 x4)), (5, V.ptr 30000 0), (10, V.ptr 30001 0), (11, V.ptr 30002 0), (12, V.p (Value.int .i64 x12)), (18, V.p (Value.bool x18))], M := [(30000, O.box 24 [V.p (Value.int .i64 h0_), V.sl 6 (rowsOf encT44 h0__1)]), (30001, O.box 60 (arrC (cI .i64) h1_)), (30002, O.box 60 (arrC (cI .i64) h2_))] } : St) = some r.st := by
  unfold f24_airzriii_l1_j1 at hF
  replace hF := ifE_some.1 hF
  obtain ⟨h1, hF⟩ := hF
  replace hF := ifE_some.1 hF
  obtain ⟨h2, hF⟩ := hF
  replace hF := ifE_some.1 hF
  obtain ⟨h3, hF⟩ := hF
  have hJ := f24_airzriii_l1_j2_ok k x1 x2 x3 x4 x12 h0_ h0__1 h1_ (((List.take (Int.toNat x12) h2_) ++ (1099511627776 :: (List.drop ((Int.toNat x12) + 1) h2_)))) _ hF
  simp (maxSteps := 999999) (disch := first | exact D (by decide) | exact K (by kernel_rfl)) only [E, EE, ↓reduceIte, simprocAttr, xk B24 [2, 1, 2, 2, 1, 2, 2] .sq rfl, xk B24 [1, 2, 1, 2, 2, 1, 2, 2] (.bk 1) rfl, show (nav B24 [2, 1, 2, 1, 2, 2, 1, 2, 2]) = Code.region 5 _ false from rfl, hk_24_5, hz_24_5, hs_24_5, indexAddrV, u_60, i_60, is_60, ib_60, iz_60, u_3, i_3, is_3, ib_3, iz_3, h1, h2, h3]
  try simp only [NM, EE] at hJ
  exact hJ
noncomputable def f24_airzriii_l1_b (k : Nat) (x1 : List Int) (x2 x3 x4 x12 h0_ : Int) (h0__1 : List T44) (h1_ h2_ : List Int) : Option R24_airzriii_l1 :=
  cond ((decide (x12 < 7)))
    (f24_airzriii_l1_j1 k x1 x2 x3 x4 x12 true h0_ h0__1 h1_ h2_)
    (some (R24_airzriii_l1.o1 x1 x2 x3 x4 x12 false h0_ h0__1 h1_ h2_))
theorem f24_airzriii_l1_b_ok (k : Nat) (x1 : List Int) (x2 x3 x4 x12 h0_ : Int) (h0__1 : List T44) (h1_ h2_ : List Int) (r : R24_airzriii_l1) (hF : f24_airzriii_l1_b k x1 x2 x3 x4 x12 h0_ h0__1 h1_ h2_ = some r) : EX 24 k (nav B24 [1, 2, 2, 1, 2, 2]) ({ n := 83, F := [(1, V.sl 1 (rowsOf (encI .i64) x1)), (2, V.p (Value.int .i64 x2)), (3, V.p (Value.int .i64 x3)), (4, V.p (Value.int .i64 x4)), (5, V.ptr 30000 0), (10, V.ptr 30001 0), (11, V.ptr 30002 0), (12, V.p (Value.int .i64 x12))], M := [(30000, O.box 24 [V.p (Value.int .i64 h0_), V.sl 6 (rowsOf encT44 h0__1)]), (30001, O.box 60 (arrC (cI .i64) h1_)), (30002, O.box 60 (arrC (cI .i64) h2_))] } : St) = some r.st := by
  unfold f24_airzriii_l1_b at hF
  simp (maxSteps := 999999) (disch := first | exact D (by decide) | exact K (by kernel_rfl)) only [E, EE, ↓reduceIte, simprocAttr, xk B24 [1, 2, 2, 1, 2, 2] .sq rfl, xk B24 [1, 1, 2, 2, 1, 2, 2] .sq rfl, show (nav B24 [1, 1, 1, 2, 2, 1, 2, 2]) = Code.region 3 _ false from rfl, hk_24_3, hz_24_3, hs_24_3, xk B24 [2, 1, 1, 2, 2, 1, 2, 2] (.cd 18) rfl]
  replace hF := cond_some hF
  rcases hF with ⟨h1, hF⟩ | ⟨h1, hF⟩
  · have hJ := f24_airzriii_l1_j1_ok k x1 x2 x3 x4 x12 true h0_ h0__1 h1_ h2_ _ hF
    simp (maxSteps := 999999) (disch := first | exact D (by decide) | exact K (by kernel_rfl)) only [E, EE, ↓reduceIte, simprocAttr, xk B24 [2, 2, 1, 1, 2, 2, 1, 2, 2] .sk rfl, h1]
    try simp only [NM, EE] at hJ
    exact hJ
  · cases hF
    simp (maxSteps := 999999) (disch := first | exact D (by decide) | exact K (by kernel_rfl)) only [E, EE, ↓reduceIte, simprocAttr, xk B24 [3, 2, 1, 1, 2, 2, 1, 2, 2] (.ex 0) rfl, R24_airzriii_l1.st, h1]
noncomputable def f24_airzriii_l1 (k : Nat) : Nat → (List Int) → Int → Int → Int → Int → Int → (List T44) → (List Int) → (List Int) → Option R24_airzriii_l1
  | 0, _, _, _, _, _, _, _, _, _ => none
  | n + 1, x1, x2, x3, x4, x12, h0_, h0__1, h1_, h2_ => Option.bind (f24_airzriii_l1_b k x1 x2 x3 x4 x12 h0_ h0__1 h1_ h2_) fun o =>
    match o with
    | .o0 y y_1 y_2 y_3 y_4 y_5 y_6 y_7 y_8 => f24_airzriii_l1 k n y y_1 y_2 y_3 y_4 y_5 y_6 y_7 y_8
    | .o1 y y_1 y_2 y_3 y_4 y_5 y_6 y_7 y_8 y_9 => some (.o1 y y_1 y_2 y_3 y_4 y_5 y_6 y_7 y_8 y_9)
theorem f24_airzriii_l1_ok (k n : Nat) : ∀ (x1 : List Int) (x2 x3 x4 x12 h0_ : Int) (h0__1 : List T44) (h1_ h2_ : List Int) (r : R24_airzriii_l1) (hF : f24_airzriii_l1 k n x1 x2 x3 x4 x12 h0_ h0__1 h1_ h2_ = some r) (σ : St) (hσ : headR (hints.head 24 3) (hints.canon 24 3) σ = some ({ n := 83, F := [(1, V.sl 1 (rowsOf (encI .i64) x1)), (2, V.p (Value.int .i64 x2)), (3, V.p (Value.int .i64 x3)), (4, V.p (Value.int .i64 x4)), (5, V.ptr 30000 0), (10, V.ptr 30001 0), (11, V.ptr 30002 0), (12, V.p (Value.int .i64 x12))], M := [(30000, O.box 24 [V.p (Value.int .i64 h0_), V.sl 6 (rowsOf encT44 h0__1)]), (30001, O.box 60 (arrC (cI .i64) h1_)), (30002, O.box 60 (arrC (cI .i64) h2_))] } : St)), LP 24 k (nav B24 [1, 2, 2, 1, 2, 2]) n σ = some r.st := by
  induction n with
  | zero => intro x1 x2 x3 x4 x12 h0_ h0__1 h1_ h2_ r hF; cases hF
  | succ n ih =>
    intro x1 x2 x3 x4 x12 h0_ h0__1 h1_ h2_ r hF σ hσ
    rw [f24_airzriii_l1] at hF
    obtain ⟨o, h, hF⟩ := Option.bind_eq_some_iff.1 hF
    have hB := f24_airzriii_l1_b_ok k x1 x2 x3 x4 x12 h0_ h0__1 h1_ h2_ o h
    unfold LP at ih ⊢
    unfold EX at hB
    rw [loopK_succ, show firstReg (nav B24 [1, 2, 2, 1, 2, 2]) = 3 from rfl, hσ, headK_some, hB]
    cases o with
    | o0 y y_1 y_2 y_3 y_4 y_5 y_6 y_7 y_8 =>
      refine ih y y_1 y_2 y_3 y_4 y_5 y_6 y_7 y_8 r hF _ ?_
      simp (maxSteps := 999999) (disch := first | exact D (by decide) | exact K (by kernel_rfl)) only [E, EE, ↓reduceIte, simprocAttr, hh_24_3, hc_24_3]
    | o1 y y_1 y_2 y_3 y_4 y_5 y_6 y_7 y_8 y_9 => cases hF; rfl
inductive R24_airzriii_l3_l2 where
  | o0 (y : List Int) (y_1 y_2 y_3 y_4 : Int) (y_5 : List T44) (y_6 y_7 : List Int)
  | o1 (y : List Int) (y_1 y_2 y_3 : Int) (y_4 : Bool) (y_5 : Int) (y_6 : List T44) (y_7 y_8 : List Int)
noncomputable def R24_airzriii_l3_l2.st : R24_airzriii_l3_l2 → Out × St
  | .o0 y y_1 y_2 y_3 y_4 y_5 y_6 y_7 => (.norm, ({ n := 83, F := [(1, V.sl 1 (rowsOf (encI .i64) y)), (4, V.p (Value.int .i64 y_1)), (5, V.ptr 30000 0), (10, V.ptr 30001 0), (11, V.ptr 30002 0), (13, V.p (Value.int .i64 y_2)), (14, V.p (Value.int .i64 y_3))], M := [(30000, O.box 24 [V.p (Value.int .i64 y_4), V.sl 6 (rowsOf encT44 y_5)]), (30001, O.box 60 (arrC (cI .i64) y_6)), (30002, O.box 60 (arrC (cI .i64) y_7))] } : St))
  | .o1 y y_1 y_2 y_3 y_4 y_5 y_6 y_7 y_8 => (.exit 4, ({ n := 83, F := [(1, V.sl 1 (rowsOf (encI .i64) y)), (4, V.p (Value.int .i64 y_1)), (5, V.ptr 30000 0), (10, V.ptr 30001 0), (11, V.ptr 30002 0), (13, V.p (Value.int .i64 y_2)), (14, V.p (Value.int .i64 y_3)), (34, V.p (Value.bool y_4))], M := [(30000, O.box 24 [V.p (Value.int .i64 y_5), V.sl 6 (rowsOf encT44 y_6)]), (30001, O.box 60 (arrC (cI .i64) y_7)), (30002, O.box 60 (arrC (cI .i64) y_8))] } : St))
noncomputable def f24_airzriii_l3_l2_j2 (k : Nat) (x1 : List Int) (x4 x13 x14 : Int) (x56 : Bool) (h0_ : Int) (h0__1 : List T44) (h1_ h2_ : List Int) (m15 m15_1 m15_2 m15_3 m15_4 m15_5 : Int) : Option R24_airzriii_l3_l2 :=
  some (R24_airzriii_l3_l2.o0 x1 x4 x13 (IntKind.i64.wrap (x14 + (1 : Int))) h0_ h0__1 h1_ h2_)
theorem f24_airzriii_l3_l2_j2_ok (k : Nat) (x1 : List Int) (x4 x13 x14 : Int) (x56 : Bool) (h0_ : Int) (h0__1 : List T44) (h1_ h2_ : List Int) (m15 m15_1 m15_2 m15_3 m15_4 m15_5 : Int) (r : R24_airzriii_l3_l2) (hF : f24_airzriii_l3_l2_j2 k x1 x4 x13 x14 x56 h0_ h0__1 h1_ h2_ m15 m15_1 m15_2 m15_3 m15_4 m15_5 = some r) : EX 24 k (nav B24 [2, 2, 1, 2, 2, 2, 1, 2, 1, 2, 2, 1, 2, 2, 2, 2]) ({ n := 83, F := [(1, V.sl 1 (rowsOf (encI .i64) x1)), (4, V.p (Value.int .i64 x4)), (5, V.ptr 30000 0), (10, V.ptr 30001 0), (11, V.ptr 30002 0), (13, V.p (Value.int .i64 x13)), (14, V.p (Value.int .i64 x14)), (15, V.ptr 15 0), (56, V.p (Value.bool x56))], M := [(30000, O.box 24 [V.p (Value.int .i64 h0_), V.sl 6 (rowsOf encT44 h0__1)]), (30001, O.box 60 (arrC (cI .i64) h1_)), (30002, O.box 60 (arrC (cI .i64) h2_)), (15, O.box 44 [V.p (Value.int .i64 m15), V.p (Value.int .i64 m15_1), V.p (Value.int .i64 m15_2), V.p (Value.int .i64 m15_3), V.p (Value.int .i64 m15_4), V.p (Value.int .i64 m15_5)])] } : St) = some r.st := by
  unfold f24_airzriii_l3_l2_j2 at hF
  cases hF
  simp (maxSteps := 999999) (disch := first | exact D (by decide) | exact K (by kernel_rfl)) only [E, EE, ↓reduceIte, simprocAttr, show (nav B24 [2, 2, 1, 2, 2, 2, 1, 2, 1, 2, 2, 1, 2, 2, 2, 2]) = Code.region 12 _ false from rfl, hk_24_12, hz_24_12, hs_24_12, R24_airzriii_l3_l2.st]
noncomputable def f24_airzriii_l3_l2_j5 (k : Nat) (x1 : List Int) (x4 x13 x14 h0_ : Int) (h0__1 : List T44) (h1_ h2_ : List Int) : Option R24_airzriii_l3_l2 :=
  some (R24_airzriii_l3_l2.o0 x1 x4 x13 (IntKind.i64.wrap (x14 + (1 : Int))) h0_ h0__1 h1_ h2_)
theorem f24_airzriii_l3_l2_j5_ok (k : Nat) (x1 : List Int) (x4 x13 x14 h0_ : Int) (h0__1 : List T44) (h1_ h2_ : List Int) (r : R24_airzriii_l3_l2) (hF : f24_airzriii_l3_l2_j5 k x1 x4 x13 x14 h0_ h0__1 h1_ h2_ = some r) : EX 24 k (nav B24 [2, 2, 1, 2, 2, 2, 1, 2, 1, 2, 2, 1, 2, 2, 2, 2]) ({ n := 83, F := [(1, V.sl 1 (rowsOf (encI .i64) x1)), (4, V.p (Value.int .i64 x4)), (5, V.ptr 30000 0), (10, V.ptr 30001 0), (11, V.ptr 30002 0), (13, V.p (Value.int .i64 x13)), (14, V.p (Value.int .i64 x14))], M := [(30000, O.box 24 [V.p (Value.int .i64 h0_), V.sl 6 (rowsOf encT44 h0__1)]), (30001, O.box 60 (arrC (cI .i64) h1_)), (30002, O.box 60 (arrC (cI .i64) h2_))] } : St) = some r.st := by
  unfold f24_airzriii_l3_l2_j5 at hF
  cases hF
  simp (maxSteps := 999999) (disch := first | exact D (by decide) | exact K (by kernel_rfl)) only [E, EE, ↓reduceIte, simprocAttr, show (nav B24 [2, 2, 1, 2, 2, 2, 1, 2, 1, 2, 2, 1, 2, 2, 2, 2]) = Code.region 12 _ false from rfl, hk_24_12, hz_24_12, hs_24_12, R24_airzriii_l3_l2.st]
noncomputable def f24_airzriii_l3_l2_j6 (k : Nat) (x1 : List Int) (x4 x13 x14 x16 : Int) (x77 : Bool) (h0_ : Int) (h0__1 : List T44) (h1_ h2_ : List Int) (m15 m15_1 m15_2 m15_3 m15_4 m15_5 : Int) : Option R24_airzriii_l3_l2 :=
  some (R24_airzriii_l3_l2.o0 x1 x4 x13 (IntKind.i64.wrap (x14 + (1 : Int))) h0_ h0__1 h1_ h2_)
theorem f24_airzriii_l3_l2_j6_ok (k : Nat) (x1 : List Int) (x4 x13 x14 x16 : Int) (x77 : Bool) (h0_ : Int) (h0__1 : List T44) (h1_ h2_ : List Int) (m15 m15_1 m15_2 m15_3 m15_4 m15_5 : Int) (r : R24_airzriii_l3_l2) (hF : f24_airzriii_l3_l2_j6 k x1 x4 x13 x14 x16 x77 h0_ h0__1 h1_ h2_ m15 m15_1 m15_2 m15_3 m15_4 m15_5 = some r) : EX 24 k (nav B24 [2, 2, 1, 2, 2, 2, 1, 2, 1, 2, 2, 1, 2, 2, 2, 2]) ({ n := 83, F := [(1, V.sl 1 (rowsOf (encI .i64) x1)), (4, V.p (Value.int .i64 x4)), (5, V.ptr 30000 0), (10, V.ptr 30001 0), (11, V.ptr 30002 0), (13, V.p (Value.int .i64 x13)), (14, V.p (Value.int .i64 x14)), (15, V.ptr 15 0), (16, V.p (Value.int .i64 x16)), (77, V.p (Value.bool x77))], M := [(30000, O.box 24 [V.p (Value.int .i64 h0_), V.sl 6 (rowsOf encT44 h0__1)]), (30001, O.box 60 (arrC (cI .i64) h1_)), (30002, O.box 60 (arrC (cI .i64) h2_)), (15, O.box 44 [V.p (Value.int .i64 m15), V.p (Value.int .i64 m15_1), V.p (Value.int .i64 m15_2), V.p (Value.int .i64 m15_3), V.p (Value.int .i64 m15_4), V.p (Value.int .i64 m15_5)])] } : St) = some r.st := by
  unfold f24_airzriii_l3_l2_j6 at hF
  cases hF
  simp (maxSteps := 999999) (disch := first | exact D (by decide) | exact K (by kernel_rfl)) only [E, EE, ↓reduceIte, simprocAttr, show (nav B24 [2, 2, 1, 2, 2, 2, 1, 2, 1, 2, 2, 1, 2, 2, 2, 2]) = Code.region 12 _ false from rfl, hk_24_12, hz_24_12, hs_24_12, R24_airzriii_l3_l2.st]
noncomputable def f24_airzriii_l3_l2_j4 (k : Nat) (x1 : List Int) (x4 x13 x14 x16 h0_ : Int) (h0__1 : List T44) (h1_ h2_ : List Int) (m15 m15_1 m15_2 m15_3 m15_4 m15_5 : Int) : Option R24_airzriii_l3_l2 :=
  ifE ((0 : Int) ≤ m15_1) (
    ifE (m15_1 < 7) (
      Option.bind (List.head? (List.drop (Int.toNat m15_1) h2_)) fun v3 =>
        cond ((decide ((IntKind.i64.wrap ((IntKind.i64.wrap (x16 + m15_5)) + (1 : Int))) < v3)))
          (
            ifE (((Int.toNat m15_1) + 1) ≤ (List.length h2_)) (
              f24_airzriii_l3_l2_j5 k x1 x4 x13 x14 h0_ h0__1 h1_ (((List.take (Int.toNat m15_1) h2_) ++ ((IntKind.i64.wrap ((IntKind.i64.wrap (x16 + m15_5)) + (1 : Int))) :: (List.drop ((Int.toNat m15_1) + 1) h2_))))))
          (f24_airzriii_l3_l2_j6 k x1 x4 x13 x14 ((IntKind.i64.wrap ((IntKind.i64.wrap (x16 + m15_5)) + (1 : Int)))) false h0_ h0__1 h1_ h2_ m15 m15_1 m15_2 m15_3 m15_4 m15_5)))
theorem f24_airzriii_l3_l2_j4_ok (k : Nat) (x1 : List Int) (x4 x13 x14 x16 h0_ : Int) (h0__1 : List T44) (h1_ h2_ : List Int) (m15 m15_1 m15_2 m15_3 m15_4 m15_5 : Int) (r : R24_airzriii_l3_l2) (hF : f24_airzriii_l3_l2_j4 k x1 x4 x13 x14 x16 h0_ h0__1 h1_ h2_ m15 m15_1 m15_2 m15_3 m15_4 m15_5 = some r) : SQ 24 k (nav B24 [2, 2, 1, 2, 2, 2, 1, 2, 1, 2, 2, 1, 2, 2, 2, 2]) (blockK 5 (EX 24 k (nav B24 [2, 2, 2, 2, 2, 1, 2, 1, 2, 2, 2, 1, 2, 1, 2, 2, 1, 2, 2, 2, 2]) ({ n := 83, F := [(1, V.sl 1 (rowsOf (encI .i64) x1)), (4, V.p (Value.int .i64 x4)), (5, V.ptr 30000 0), (10, V.ptr 30001 0), (11, V.ptr 30002 0), (13, V.p (Value.int .i64 x13)), (14, V.p (Value.int .i64 x14)), (15, V.ptr 15 0), (16, V.p (Value.int .i64 x16))], M := [(30000, O.box 24 [V.p (Value.int .i64 h0_), V.sl 6 (rowsOf encT44 h0__1)]), (30001, O.box 60 (arrC (cI .i64) h1_)), (30002, O.box 60 (arrC (cI .i64) h2_)), (15, O.box 44 [V.p (Value.int .i64 m15), V.p (Value.int .i64 m15_1), V.p (Value.int .i64 m15_2), V.p (Value.int .i64 m15_3), V.p (Value.int .i64 m15_4), V.p (Value.int .i64 m15_5)])] } : St))) = some r.st := by
  unfold f24_airzriii_l3_l2_j4 at hF
  replace hF := ifE_some.1 hF
  obtain ⟨h1, hF⟩ := hF
  replace hF := ifE_some.1 hF
  obtain ⟨h2, hF⟩ := hF
  replace hF := Option.bind_eq_some_iff.1 hF
  obtain ⟨v3, h4, hF⟩ := hF
  simp (maxSteps := 999999) (disch := first | exact D (by decide) | exact K (by kernel_rfl)) only [E, EE, ↓reduceIte, simprocAttr, xk B24 [2, 2, 2, 2, 2, 1, 2, 1, 2, 2, 2, 1, 2, 1, 2, 2, 1, 2, 2, 2, 2] .sq rfl, show (nav B24 [1, 2, 2, 2, 2, 2, 1, 2, 1, 2, 2, 2, 1, 2, 1, 2, 2, 1, 2, 2, 2, 2]) = Code.region 18 _ false from rfl, hk_24_18, hz_24_18, hs_24_18, fieldAddrV, u_44, i_44, is_44, ib_44, iz_44, u_3, i_3, is_3, ib_3, iz_3, xk B24 [2, 2, 2, 2, 2, 2, 1, 2, 1, 2, 2, 2, 1, 2, 1, 2, 2, 1, 2, 2, 2, 2] .sq rfl, show (nav B24 [1, 2, 2, 2, 2, 2, 2, 1, 2, 1, 2, 2, 2, 1, 2, 1, 2, 2, 1, 2, 2, 2, 2]) = Code.region 19 _ false from rfl, hk_24_19, hz_24_19, hs_24_19, indexAddrV, u_60, i_60, is_60, ib_60, iz_60, xk B24 [2, 2, 2, 2, 2, 2, 2, 1, 2, 1, 2, 2, 2, 1, 2, 1, 2, 2, 1, 2, 2, 2, 2] (.cd 77) rfl, h1, h2, h4]
  replace hF := cond_some hF
  rcases hF with ⟨h5, hF⟩ | ⟨h5, hF⟩
  · replace hF := ifE_some.1 hF
    obtain ⟨h6, hF⟩ := hF
    have hJ := f24_airzriii_l3_l2_j5_ok k x1 x4 x13 x14 h0_ h0__1 h1_ (((List.take (Int.toNat m15_1) h2_) ++ ((IntKind.i64.wrap ((IntKind.i64.wrap (x16 + m15_5)) + (1 : Int))) :: (List.drop ((Int.toNat m15_1) + 1) h2_)))) _ hF
    simp (maxSteps := 999999) (disch := first | exact D (by decide) | exact K (by kernel_rfl)) only [E, EE, ↓reduceIte, simprocAttr, show (nav B24 [2, 2, 2, 2, 2, 2, 2, 2, 1, 2, 1, 2, 2, 2, 1, 2, 1, 2, 2, 1, 2, 2, 2, 2]) = Code.region 20 _ false from rfl, hk_24_20, hz_24_20, hs_24_20, fieldAddrV, u_44, i_44, is_44, ib_44, iz_44, u_3, i_3, is_3, ib_3, iz_3, indexAddrV, u_60, i_60, is_60, ib_60, iz_60, h1, h2, h4, h5, h6]
    try simp only [NM, EE] at hJ
    exact hJ
  · have hJ := f24_airzriii_l3_l2_j6_ok k x1 x4 x13 x14 ((IntKind.i64.wrap ((IntKind.i64.wrap (x16 + m15_5)) + (1 : Int)))) false h0_ h0__1 h1_ h2_ m15 m15_1 m15_2 m15_3 m15_4 m15_5 _ hF
    simp (maxSteps := 999999) (disch := first | exact D (by decide) | exact K (by kernel_rfl)) only [E, EE, ↓reduceIte, simprocAttr, xk B24 [3, 2, 2, 2, 2, 2, 2, 2, 1, 2, 1, 2, 2, 2, 1, 2, 1, 2, 2, 1, 2, 2, 2, 2] .sk rfl, h1, h2, h4, h5]
    try simp only [NM, EE] at hJ
    exact hJ
noncomputable def f24_airzriii_l3_l2_j7 (k : Nat) (x1 : List Int) (x4 x13 x14 x16 : Int) (x64 : Bool) (h0_ : Int) (h0__1 : List T44) (h1_ h2_ : List Int) (m15 m15_1 m15_2 m15_3 m15_4 m15_5 : Int) : Option R24_airzriii_l3_l2 :=
  ifE ((0 : Int) ≤ m15_1) (
    ifE (m15_1 < 7) (
      Option.bind (List.head? (List.drop (Int.toNat m15_1) h2_)) fun v3 =>
        cond ((decide ((IntKind.i64.wrap ((IntKind.i64.wrap (x16 + m15_5)) + (1 : Int))) < v3)))
          (
            ifE (((Int.toNat m15_1) + 1) ≤ (List.length h2_)) (
              f24_airzriii_l3_l2_j5 k x1 x4 x13 x14 h0_ h0__1 h1_ (((List.take (Int.toNat m15_1) h2_) ++ ((IntKind.i64.wrap ((IntKind.i64.wrap (x16 + m15_5)) + (1 : Int))) :: (List.drop ((Int.toNat m15_1) + 1) h2_))))))
          (f24_airzriii_l3_l2_j6 k x1 x4 x13 x14 ((IntKind.i64.wrap ((IntKind.i64.wrap (x16 + m15_5)) + (1 : Int)))) false h0_ h0__1 h1_ h2_ m15 m15_1 m15_2 m15_3 m15_4 m15_5)))
theorem f24_airzriii_l3_l2_j7_ok (k : Nat) (x1 : List Int) (x4 x13 x14 x16 : Int) (x64 : Bool) (h0_ : Int) (h0__1 : List T44) (h1_ h2_ : List Int) (m15 m15_1 m15_2 m15_3 m15_4 m15_5 : Int) (r : R24_airzriii_l3_l2) (hF : f24_airzriii_l3_l2_j7 k x1 x4 x13 x14 x16 x64 h0_ h0__1 h1_ h2_ m15 m15_1 m15_2 m15_3 m15_4 m15_5 = some r) : SQ 24 k (nav B24 [2, 2, 1, 2, 2, 2, 1, 2, 1, 2, 2, 1, 2, 2, 2, 2]) (blockK 5 (EX 24 k (nav B24 [2, 2, 2, 2, 2, 1, 2, 1, 2, 2, 2, 1, 2, 1, 2, 2, 1, 2, 2, 2, 2]) ({ n := 83, F := [(1, V.sl 1 (rowsOf (encI .i64) x1)), (4, V.p (Value.int .i64 x4)), (5, V.ptr 30000 0), (10, V.ptr 30001 0), (11, V.ptr 30002 0), (13, V.p (Value.int .i64 x13)), (14, V.p (Value.int .i64 x14)), (15, V.ptr 15 0), (16, V.p (Value.int .i64 x16)), (64, V.p (Value.bool x64))], M := [(30000, O.box 24 [V.p (Value.int .i64 h0_), V.sl 6 (rowsOf encT44 h0__1)]), (30001, O.box 60 (arrC (cI .i64) h1_)), (30002, O.box 60 (arrC (cI .i64) h2_)), (15, O.box 44 [V.p (Value.int .i64 m15), V.p (Value.int .i64 m15_1), V.p (Value.int .i64 m15_2), V.p (Value.int .i64 m15_3), V.p (Value.int .i64 m15_4), V.p (Value.int .i64 m15_5)])] } : St))) = some r.st := by
  unfold f24_airzriii_l3_l2_j7 at hF
  replace hF := ifE_some.1 hF
  obtain ⟨h1, hF⟩ := hF
  replace hF := ifE_some.1 hF
  obtain ⟨h2, hF⟩ := hF
  replace hF := Option.bind_eq_some_iff.1 hF
  obtain ⟨v3, h4, hF⟩ := hF
  simp (maxSteps := 999999) (disch := first | exact D (by decide) | exact K (by kernel_rfl)) only [E, EE, ↓reduceIte, simprocAttr, xk B24 [2, 2, 2, 2, 2, 1, 2, 1, 2, 2, 2, 1, 2, 1, 2, 2, 1, 2, 2, 2, 2] .sq rfl, show (nav B24 [1, 2, 2, 2, 2, 2, 1, 2, 1, 2, 2, 2, 1, 2, 1, 2, 2, 1, 2, 2, 2, 2]) = Code.region 18 _ false from rfl, hk_24_18, hz_24_18, hs_24_18, fieldAddrV, u_44, i_44, is_44, ib_44, iz_44, u_3, i_3, is_3, ib_3, iz_3, xk B24 [2, 2, 2, 2, 2, 2, 1, 2, 1, 2, 2, 2, 1, 2, 1, 2, 2, 1, 2, 2, 2, 2] .sq rfl, show (nav B24 [1, 2, 2, 2, 2, 2, 2, 1, 2, 1, 2, 2, 2, 1, 2, 1, 2, 2, 1, 2, 2, 2, 2]) = Code.region 19 _ false from rfl, hk_24_19, hz_24_19, hs_24_19, indexAddrV, u_60, i_60, is_60, ib_60, iz_60, xk B24 [2, 2, 2, 2, 2, 2, 2, 1, 2, 1, 2, 2, 2, 1, 2, 1, 2, 2, 1, 2, 2, 2, 2] (.cd 77) rfl, h1, h2, h4]
  replace hF := cond_some hF
  rcases hF with ⟨h5, hF⟩ | ⟨h5, hF⟩
  · replace hF := ifE_some.1 hF
    obtain ⟨h6, hF⟩ := hF
    have hJ := f24_airzriii_l3_l2_j5_ok k x1 x4 x13 x14 h0_ h0__1 h1_ (((List.take (Int.toNat m15_1) h2_) ++ ((IntKind.i64.wrap ((IntKind.i64.wrap (x16 + m15_5)) + (1 : Int))) :: (List.drop ((Int.toNat m15_1) + 1) h2_)))) _ hF
    simp (maxSteps := 999999) (disch := first | exact D (by decide) | exact K (by kernel_rfl)) only [E, EE, ↓reduceIte, simprocAttr, show (nav B24 [2, 2, 2, 2, 2, 2, 2, 2, 1, 2, 1, 2, 2, 2, 1, 2, 1, 2, 2, 1, 2, 2, 2, 2]) = Code.region 20 _ false from rfl, hk_24_20, hz_24_20, hs_24_20, fieldAddrV, u_44, i_44, is_44, ib_44, iz_44, u_3, i_3, is_3, ib_3, iz_3, indexAddrV, u_60, i_60, is_60, ib_60, iz_60, h1, h2, h4, h5, h6]
    try simp only [NM, EE] at hJ
    exact hJ
  · have hJ := f24_airzriii_l3_l2_j6_ok k x1 x4 x13 x14 ((IntKind.i64.wrap ((IntKind.i64.wrap (x16 + m15_5)) + (1 : Int)))) false h0_ h0__1 h1_ h2_ m15 m15_1 m15_2 m15_3 m15_4 m15_5 _ hF
    simp (maxSteps := 999999) (disch := first | exact D (by decide) | exact K (by kernel_rfl)) only [E, EE, ↓reduceIte, simprocAttr, xk B24 [3, 2, 2, 2, 2, 2, 2, 2, 1, 2, 1, 2, 2, 2, 1, 2, 1, 2, 2, 1, 2, 2, 2, 2] .sk rfl, h1, h2, h4, h5]
    try simp only [NM, EE] at hJ
    exact hJ
noncomputable def f24_airzriii_l3_l2_j3 (k : Nat) (x1 : List Int) (x4 x13 x14 : Int) (x56 : Bool) (h0_ : Int) (h0__1 : List T44) (h1_ h2_ : List Int) (m15 m15_1 m15_2 m15_3 m15_4 m15_5 : Int) : Option R24_airzriii_l3_l2 :=
  ifE ((0 : Int) ≤ m15) (
    ifE (m15 < 7) (
      Option.bind (List.head? (List.drop (Int.toNat m15) h2_)) fun v3 =>
        cond ((decide (v3 < m15_2)))
          (f24_airzriii_l3_l2_j4 k x1 x4 x13 x14 m15_2 h0_ h0__1 h1_ h2_ m15 m15_1 m15_2 m15_3 m15_4 m15_5)
          (f24_airzriii_l3_l2_j7 k x1 x4 x13 x14 v3 false h0_ h0__1 h1_ h2_ m15 m15_1 m15_2 m15_3 m15_4 m15_5)))
theorem f24_airzriii_l3_l2_j3_ok (k : Nat) (x1 : List Int) (x4 x13 x14 : Int) (x56 : Bool) (h0_ : Int) (h0__1 : List T44) (h1_ h2_ : List Int) (m15 m15_1 m15_2 m15_3 m15_4 m15_5 : Int) (r : R24_airzriii_l3_l2) (hF : f24_airzriii_l3_l2_j3 k x1 x4 x13 x14 x56 h0_ h0__1 h1_ h2_ m15 m15_1 m15_2 m15_3 m15_4 m15_5 = some r) : SQ 24 k (nav B24 [2, 2, 1, 2, 2, 2, 1, 2, 1, 2, 2, 1, 2, 2, 2, 2]) (blockK 5 (EX 24 k (nav B24 [2, 2, 2, 1, 2, 1, 2, 2, 2, 1, 2, 1, 2, 2, 1, 2, 2, 2, 2]) ({ n := 83, F := [(1, V.sl 1 (rowsOf (encI .i64) x1)), (4, V.p (Value.int .i64 x4)), (5, V.ptr 30000 0), (10, V.ptr 30001 0), (11, V.ptr 30002 0), (13, V.p (Value.int .i64 x13)), (14, V.p (Value.int .i64 x14)), (15, V.ptr 15 0), (56, V.p (Value.bool x56))], M := [(30000, O.box 24 [V.p (Value.int .i64 h0_), V.sl 6 (rowsOf encT44 h0__1)]), (30001, O.box 60 (arrC (cI .i64) h1_)), (30002, O.box 60 (arrC (cI .i64) h2_)), (15, O.box 44 [V.p (Value.int .i64 m15), V.p (Value.int .i64 m15_1), V.p (Value.int .i64 m15_2), V.p (Value.int .i64 m15_3), V.p (Value.int .i64 m15_4), V.p (Value.int .i64 m15_5)])] } : St))) = some r.st := by
  unfold f24_airzriii_l3_l2_j3 at hF
  replace hF := ifE_some.1 hF
  obtain ⟨h1, hF⟩ := hF
  replace hF := ifE_some.1 hF
  obtain ⟨h2, hF⟩ := hF
  replace hF := Option.bind_eq_some_iff.1 hF
  obtain ⟨v3, h4, hF⟩ := hF
  simp (maxSteps := 999999) (disch := first | exact D (by decide) | exact K (by kernel_rfl)) only [E, EE, ↓reduceIte, simprocAttr, xk B24 [2, 2, 2, 1, 2, 1, 2, 2, 2, 1, 2, 1, 2, 2, 1, 2, 2, 2, 2] .sq rfl, show (nav B24 [1, 2, 2, 2, 1, 2, 1, 2, 2, 2, 1, 2, 1, 2, 2, 1, 2, 2, 2, 2]) = Code.region 15 _ false from rfl, hk_24_15, hz_24_15, hs_24_15, fieldAddrV, u_44, i_44, is_44, ib_44, iz_44, u_3, i_3, is_3, ib_3, iz_3, indexAddrV, u_60, i_60, is_60, ib_60, iz_60, xk B24 [2, 2, 2, 2, 1, 2, 1, 2, 2, 2, 1, 2, 1, 2, 2, 1, 2, 2, 2, 2] .sq rfl, xk B24 [1, 2, 2, 2, 2, 1, 2, 1, 2, 2, 2, 1, 2, 1, 2, 2, 1, 2, 2, 2, 2] .sq rfl, show (nav B24 [1, 1, 2, 2, 2, 2, 1, 2, 1, 2, 2, 2, 1, 2, 1, 2, 2, 1, 2, 2, 2, 2]) = Code.region 16 _ false from rfl, hk_24_16, hz_24_16, hs_24_16, xk B24 [2, 1, 2, 2, 2, 2, 1, 2, 1, 2, 2, 2, 1, 2, 1, 2, 2, 1, 2, 2, 2, 2] (.cd 64) rfl, h1, h2, h4]
  replace hF := cond_some hF
  rcases hF with ⟨h5, hF⟩ | ⟨h5, hF⟩
  · have hJ := f24_airzriii_l3_l2_j4_ok k x1 x4 x13 x14 m15_2 h0_ h0__1 h1_ h2_ m15 m15_1 m15_2 m15_3 m15_4 m15_5 _ hF
    simp (maxSteps := 999999) (disch := first | exact D (by decide) | exact K (by kernel_rfl)) only [E, EE, ↓reduceIte, simprocAttr, show (nav B24 [2, 2, 1, 2, 2, 2, 2, 1, 2, 1, 2, 2, 2, 1, 2, 1, 2, 2, 1, 2, 2, 2, 2]) = Code.region 17 _ false from rfl, hk_24_17, hz_24_17, hs_24_17, fieldAddrV, u_44, i_44, is_44, ib_44, iz_44, u_3, i_3, is_3, ib_3, iz_3, h1, h2, h4, h5]
    try simp only [NM, EE] at hJ
    exact hJ
  · have hJ := f24_airzriii_l3_l2_j7_ok k x1 x4 x13 x14 v3 false h0_ h0__1 h1_ h2_ m15 m15_1 m15_2 m15_3 m15_4 m15_5 _ hF
    simp (maxSteps := 999999) (disch := first | exact D (by decide) | exact K (by kernel_rfl)) only [E, EE, ↓reduceIte, simprocAttr, xk B24 [3, 2, 1, 2, 2, 2, 2, 1, 2, 1, 2, 2, 2, 1, 2, 1, 2, 2, 1, 2, 2, 2, 2] .sk rfl, h1, h2, h4, h5]
    try simp only [NM, EE] at hJ
    exact hJ
noncomputable def f24_airzriii_l3_l2_j1 (k : Nat) (x1 : List Int) (x4 x13 x14 : Int) (x34 : Bool) (h0_ : Int) (h0__1 : List T44) (h1_ h2_ : List Int) : Option R24_airzriii_l3_l2 :=
  ifE ((0 : Int) ≤ x14) (
    Option.bind (h0__1[(Int.toNat x14)]?) fun v2 =>
      ifE ((0 : Int) ≤ v2.From) (
        ifE (v2.From < 7) (
          Option.bind (List.head? (List.drop (Int.toNat v2.From) h2_)) fun v6 =>
            cond ((decide (v6 ≥ v2.End)))
              (f24_airzriii_l3_l2_j2 k x1 x4 x13 x14 true h0_ h0__1 h1_ h2_ v2.From v2.To v2.Start v2.End v2.Rate v2.Delay)
              (
                Option.bind (x1[(Int.toNat x14)]?) fun v9 =>
                  cond ((decide (x4 > v9)))
                    (f24_airzriii_l3_l2_j2 k x1 x4 x13 x14 true h0_ h0__1 h1_ h2_ v2.From v2.To v2.Start v2.End v2.Rate v2.Delay)
                    (f24_airzriii_l3_l2_j3 k x1 x4 x13 x14 false h0_ h0__1 h1_ h2_ v2.From v2.To v2.Start v2.End v2.Rate v2.Delay)))))
theorem f24_airzriii_l3_l2_j1_ok (k : Nat) (x1 : List Int) (x4 x13 x14 : Int) (x34 : Bool) (h0_ : Int) (h0__1 : List T44) (h1_ h2_ : List Int) (r : R24_airzriii_l3_l2) (hF : f24_airzriii_l3_l2_j1 k x1 x4 x13 x14 x34 h0_ h0__1 h1_ h2_ = some r) : EX 24 k (nav B24 [2, 1, 2, 2, 2, 1, 2, 1, 2, 2, 1, 2, 2, 2, 2]) ({ n := 83, F := [(1, V.sl 1 (rowsOf (encI .i64) x1)), (4, V.p (Value.int .i64 x4)), (5, V.ptr 30000 0), (10, V.ptr 30001 0), (11, V.ptr 30002 0), (13, V.p (Value.int .i64 x13)), (14, V.p (Value.int .i64 x14)), (34, V.p (Value.bool x34))], M := [(30000, O.box 24 [V.p (Value.int .i64 h0_), V.sl 6 (rowsOf encT44 h0__1)]), (30001, O.box 60 (arrC (cI .i64) h1_)), (30002, O.box 60 (arrC (cI .i64) h2_))] } : St) = some r.st := by
  unfold f24_airzriii_l3_l2_j1 at hF
  replace hF := ifE_some.1 hF
  obtain ⟨h1, hF⟩ := hF
  replace hF := Option.bind_eq_some_iff.1 hF
  obtain ⟨v2, h3, hF⟩ := hF
  replace hF := ifE_some.1 hF
  obtain ⟨h4, hF⟩ := hF
  replace hF := ifE_some.1 hF
  obtain ⟨h5, hF⟩ := hF
  replace hF := Option.bind_eq_some_iff.1 hF
  obtain ⟨v6, h7, hF⟩ := hF
  simp (maxSteps := 999999) (disch := first | exact D (by decide) | exact K (by kernel_rfl)) only [E, EE, ↓reduceIte, simprocAttr, xk B24 [2, 1, 2, 2, 2, 1, 2, 1, 2, 2, 1, 2, 2, 2, 2] .sq rfl, xk B24 [1, 2, 1, 2, 2, 2, 1, 2, 1, 2, 2, 1, 2, 2, 2, 2] (.bk 5) rfl, xk B24 [2, 1, 2, 1, 2, 2, 2, 1, 2, 1, 2, 2, 1, 2, 2, 2, 2] .sq rfl, show (nav B24 [1, 2, 1, 2, 1, 2, 2, 2, 1, 2, 1, 2, 2, 1, 2, 2, 2, 2]) = Code.region 13 _ false from rfl, hk_24_13, hz_24_13, hs_24_13, fieldAddrV, u_24, i_24, is_24, ib_24, iz_24, u_22, i_22, is_22, ib_22, iz_22, indexAddrV, u_44, i_44, is_44, ib_44, iz_44, encT44_eq, xk B24 [2, 2, 1, 2, 1, 2, 2, 2, 1, 2, 1, 2, 2, 1, 2, 2, 2, 2] .sq rfl, xk B24 [1, 2, 2, 1, 2, 1, 2, 2, 2, 1, 2, 1, 2, 2, 1, 2, 2, 2, 2] .sq rfl, show (nav B24 [1, 1, 2, 2, 1, 2, 1, 2, 2, 2, 1, 2, 1, 2, 2, 1, 2, 2, 2, 2]) = Code.region 14 _ true from rfl, hk_24_14, hz_24_14, hs_24_14, u_3, i_3, is_3, ib_3, iz_3, u_60, i_60, is_60, ib_60, iz_60, h1, h3, h4, h5, h7]
  replace hF := cond_some hF
  rcases hF with ⟨h8, hF⟩ | ⟨h8, hF⟩
  · have hJ := f24_airzriii_l3_l2_j2_ok k x1 x4 x13 x14 true h0_ h0__1 h1_ h2_ v2.From v2.To v2.Start v2.End v2.Rate v2.Delay _ hF
    simp (maxSteps := 999999) (disch := first | exact D (by decide) | exact K (by kernel_rfl)) only [E, EE, ↓reduceIte, simprocAttr, xk B24 [2, 1, 2, 2, 1, 2, 1, 2, 2, 2, 1, 2, 1, 2, 2, 1, 2, 2, 2, 2] (.cd 56) rfl, xk B24 [2, 2, 1, 2, 2, 1, 2, 1, 2, 2, 2, 1, 2, 1, 2, 2, 1, 2, 2, 2, 2] (.ex 5) rfl, h1, h3, h4, h5, h7, h8]
    try simp only [NM, EE] at hJ
    exact hJ
  · replace hF := Option.bind_eq_some_iff.1 hF
    obtain ⟨v9, h10, hF⟩ := hF
    simp (maxSteps := 999999) (disch := first | exact D (by decide) | exact K (by kernel_rfl)) only [E, EE, ↓reduceIte, simprocAttr, indexAddrV, u_25, i_25, is_25, ib_25, iz_25, u_3, i_3, is_3, ib_3, iz_3, encI_eq, xk B24 [2, 1, 2, 2, 1, 2, 1, 2, 2, 2, 1, 2, 1, 2, 2, 1, 2, 2, 2, 2] (.cd 56) rfl, h1, h3, h4, h5, h7, h8, h10]
    replace hF := cond_some hF
    rcases hF with ⟨h11, hF⟩ | ⟨h11, hF⟩
    · have hJ := f24_airzriii_l3_l2_j2_ok k x1 x4 x13 x14 true h0_ h0__1 h1_ h2_ v2.From v2.To v2.Start v2.End v2.Rate v2.Delay _ hF
      simp (maxSteps := 999999) (disch := first | exact D (by decide) | exact K (by kernel_rfl)) only [E, EE, ↓reduceIte, simprocAttr, xk B24 [2, 2, 1, 2, 2, 1, 2, 1, 2, 2, 2, 1, 2, 1, 2, 2, 1, 2, 2, 2, 2] (.ex 5) rfl, h1, h3, h4, h5, h7, h8, h10, h11]
      try simp only [NM, EE] at hJ
      exact hJ
    · have hJ := f24_airzriii_l3_l2_j3_ok k x1 x4 x13 x14 false h0_ h0__1 h1_ h2_ v2.From v2.To v2.Start v2.End v2.Rate v2.Delay _ hF
      simp (maxSteps := 999999) (disch := first | exact D (by decide) | exact K (by kernel_rfl)) only [E, EE, ↓reduceIte, simprocAttr, xk B24 [3, 2, 1, 2, 2, 1, 2, 1, 2, 2, 2, 1, 2, 1, 2, 2, 1, 2, 2, 2, 2] .sk rfl, h1, h3, h4, h5, h7, h8, h10, h11]
      try simp only [NM, EE] at hJ
      exact hJ
noncomputable def f24_airzriii_l3_l2_b (k : Nat) (x1 : List Int) (x4 x13 x14 h0_ : Int) (h0__1 : List T44) (h1_ h2_ : List Int) : Option R24_airzriii_l3_l2 :=
  cond ((decide (x14 < ((List.length h0__1) : Int))))
    (f24_airzriii_l3_l2_j1 k x1 x4 x13 x14 true h0_ h0__1 h1_ h2_)
    (some (R24_airzriii_l3_l2.o1 x1 x4 x13 x14 false h0_ h0__1 h1_ h2_))
theorem f24_airzriii_l3_l2_b_ok (k : Nat) (x1 : List Int) (x4 x13 x14 h0_ : Int) (h0__1 : List T44) (h1_ h2_ : List Int) (r : R24_airzriii_l3_l2) (hF : f24_airzriii_l3_l2_b k x1 x4 x13 x14 h0_ h0__1 h1_ h2_ = some r) : EX 24 k (nav B24 [1, 2, 2, 2, 1, 2, 1, 2, 2, 1, 2, 2, 2, 2]) ({ n := 83, F := [(1, V.sl 1 (rowsOf (encI .i64) x1)), (4, V.p (Value.int .i64 x4)), (5, V.ptr 30000 0), (10, V.ptr 30001 0), (11, V.ptr 30002 0), (13, V.p (Value.int .i64 x13)), (14, V.p (Value.int .i64 x14))], M := [(30000, O.box 24 [V.p (Value.int .i64 h0_), V.sl 6 (rowsOf encT44 h0__1)]), (30001, O.box 60 (arrC (cI .i64) h1_)), (30002, O.box 60 (arrC (cI .i64) h2_))] } : St) = some r.st := by
  unfold f24_airzriii_l3_l2_b at hF
  simp (maxSteps := 999999) (disch := first | exact D (by decide) | exact K (by kernel_rfl)) only [E, EE, ↓reduceIte, simprocAttr, xk B24 [1, 2, 2, 2, 1, 2, 1, 2, 2, 1, 2, 2, 2, 2] .sq rfl, xk B24 [1, 1, 2, 2, 2, 1, 2, 1, 2, 2, 1, 2, 2, 2, 2] .sq rfl, show (nav B24 [1, 1, 1, 2, 2, 2, 1, 2, 1, 2, 2, 1, 2, 2, 2, 2]) = Code.region 11 _ false from rfl, hk_24_11, hz_24_11, hs_24_11, fieldAddrV, u_24, i_24, is_24, ib_24, iz_24, u_22, i_22, is_22, ib_22, iz_22, xk B24 [2, 1, 1, 2, 2, 2, 1, 2, 1, 2, 2, 1, 2, 2, 2, 2] (.cd 34) rfl]
  replace hF := cond_some hF
  rcases hF with ⟨h1, hF⟩ | ⟨h1, hF⟩
  · have hJ := f24_airzriii_l3_l2_j1_ok k x1 x4 x13 x14 true h0_ h0__1 h1_ h2_ _ hF
    simp (maxSteps := 999999) (disch := first | exact D (by decide) | exact K (by kernel_rfl)) only [E, EE, ↓reduceIte, simprocAttr, xk B24 [2, 2, 1, 1, 2, 2, 2, 1, 2, 1, 2, 2, 1, 2, 2, 2, 2] .sk rfl, h1]
    try simp only [NM, EE] at hJ
    exact hJ
  · cases hF
    simp (maxSteps := 999999) (disch := first | exact D (by decide) | exact K (by kernel_rfl)) only [E, EE, ↓reduceIte, simprocAttr, xk B24 [3, 2, 1, 1, 2, 2, 2, 1, 2, 1, 2, 2, 1, 2, 2, 2, 2] (.ex 4) rfl, R24_airzriii_l3_l2.st, h1]
noncomputable def f24_airzriii_l3_l2 (k : Nat) : Nat → (List Int) → Int → Int → Int → Int → (List T44) → (List Int) → (List Int) → Option R24_airzriii_l3_l2
  | 0, _, _, _, _, _, _, _, _ => none
  | n + 1, x1, x4, x13, x14, h0_, h0__1, h1_, h2_ => Option.bind (f24_airzriii_l3_l2_b k x1 x4 x13 x14 h0_ h0__1 h1_ h2_) fun o =>
    match o with
    | .o0 y y_1 y_2 y_3 y_4 y_5 y_6 y_7 => f24_airzriii_l3_l2 k n y y_1 y_2 y_3 y_4 y_5 y_6 y_7
    | .o1 y y_1 y_2 y_3 y_4 y_5 y_6 y_7 y_8 => some (.o1 y y_1 y_2 y_3 y_4 y_5 y_6 y_7 y_8)
theorem f24_airzriii_l3_l2_ok (k n : Nat) : ∀ (x1 : List Int) (x4 x13 x14 h0_ : Int) (h0__1 : List T44) (h1_ h2_ : List Int) (r : R24_airzriii_l3_l2) (hF : f24_airzriii_l3_l2 k n x1 x4 x13 x14 h0_ h0__1 h1_ h2_ = some r) (σ : St) (hσ : headR (hints.head 24 11) (hints.canon 24 11) σ = some ({ n := 83, F := [(1, V.sl 1 (rowsOf (encI .i64) x1)), (4, V.p (Value.int .i64 x4)), (5, V.ptr 30000 0), (10, V.ptr 30001 0), (11, V.ptr 30002 0), (13, V.p (Value.int .i64 x13)), (14, V.p (Value.int .i64 x14))], M := [(30000, O.box 24 [V.p (Value.int .i64 h0_), V.sl 6 (rowsOf encT44 h0__1)]), (30001, O.box 60 (arrC (cI .i64) h1_)), (30002, O.box 60 (arrC (cI .i64) h2_))] } : St)), LP 24 k (nav B24 [1, 2, 2, 2, 1, 2, 1, 2, 2, 1, 2, 2, 2, 2]) n σ = some r.st := by
  induction n with
  | zero => intro x1 x4 x13 x14 h0_ h0__1 h1_ h2_ r hF; cases hF
  | succ n ih =>
    intro x1 x4 x13 x14 h0_ h0__1 h1_ h2_ r hF σ hσ
    rw [f24_airzriii_l3_l2] at hF
    obtain ⟨o, h, hF⟩ := Option.bind_eq_some_iff.1 hF
    have hB := f24_airzriii_l3_l2_b_ok k x1 x4 x13 x14 h0_ h0__1 h1_ h2_ o h
    unfold LP at ih ⊢
    unfold EX at hB
    rw [loopK_succ, show firstReg (nav B24 [1, 2, 2, 2, 1, 2, 1, 2, 2, 1, 2, 2, 2, 2]) = 11 from rfl, hσ, headK_some, hB]
    cases o with
    | o0 y y_1 y_2 y_3 y_4 y_5 y_6 y_7 =>
      refine ih y y_1 y_2 y_3 y_4 y_5 y_6 y_7 r hF _ ?_
      simp (maxSteps := 999999) (disch := first | exact D (by decide) | exact K (by kernel_rfl)) only [E, EE, ↓reduceIte, simprocAttr, hh_24_11, hc_24_11]
    | o1 y y_1 y_2 y_3 y_4 y_5 y_6 y_7 y_8 => cases hF; rfl
inductive R24_airzriii_l3 where
  | o0 (y : List Int) (y_1 y_2 y_3 : Int) (y_4 : List T44) (y_5 y_6 : List Int)
  | o1 (y : List Int) (y_1 y_2 : Int) (y_3 : Bool) (y_4 : Int) (y_5 : List T44) (y_6 y_7 : List Int)
noncomputable def R24_airzriii_l3.st : R24_airzriii_l3 → Out × St
  | .o0 y y_1 y_2 y_3 y_4 y_5 y_6 => (.norm, ({ n := 83, F := [(1, V.sl 1 (rowsOf (encI .i64) y)), (4, V.p (Value.int .i64 y_1)), (5, V.ptr 30000 0), (10, V.ptr 30001 0), (11, V.ptr 30002 0), (13, V.p (Value.int .i64 y_2))], M := [(30000, O.box 24 [V.p (Value.int .i64 y_3), V.sl 6 (rowsOf encT44 y_4)]), (30001, O.box 60 (arrC (cI .i64) y_5)), (30002, O.box 60 (arrC (cI .i64) y_6))] } : St))
  | .o1 y y_1 y_2 y_3 y_4 y_5 y_6 y_7 => (.exit 2, ({ n := 83, F := [(1, V.sl 1 (rowsOf (encI .i64) y)), (4, V.p (Value.int .i64 y_1)), (5, V.ptr 30000 0), (10, V.ptr 30001 0), (11, V.ptr 30002 0), (13, V.p (Value.int .i64 y_2)), (27, V.p (Value.bool y_3))], M := [(30000, O.box 24 [V.p (Value.int .i64 y_4), V.sl 6 (rowsOf encT44 y_5)]), (30001, O.box 60 (arrC (cI .i64) y_6)), (30002, O.box 60 (arrC (cI .i64) y_7))] } : St))
noncomputable def f24_airzriii_l3_j3 (k : Nat) (x1 : List Int) (x4 x13 x14 : Int) (x34 : Bool) (h0_ : Int) (h0__1 : List T44) (h1_ h2_ : List Int) : Option R24_airzriii_l3 :=
  some (R24_airzriii_l3.o0 x1 x4 (IntKind.i64.wrap (x13 + (1 : Int))) h0_ h0__1 h1_ h2_)
theorem f24_airzriii_l3_j3_ok (k : Nat) (x1 : List Int) (x4 x13 x14 : Int) (x34 : Bool) (h0_ : Int) (h0__1 : List T44) (h1_ h2_ : List Int) (r : R24_airzriii_l3) (hF : f24_airzriii_l3_j3 k x1 x4 x13 x14 x34 h0_ h0__1 h1_ h2_ = some r) : EX 24 k (nav B24 [2, 2, 1, 2, 2, 1, 2, 2, 2, 2]) ({ n := 83, F := [(1, V.sl 1 (rowsOf (encI .i64) x1)), (4, V.p (Value.int .i64 x4)), (5, V.ptr 30000 0), (10, V.ptr 30001 0), (11, V.ptr 30002 0), (13, V.p (Value.int .i64 x13)), (14, V.p (Value.int .i64 x14)), (34, V.p (Value.bool x34))], M := [(30000, O.box 24 [V.p (Value.int .i64 h0_), V.sl 6 (rowsOf encT44 h0__1)]), (30001, O.box 60 (arrC (cI .i64) h1_)), (30002, O.box 60 (arrC (cI .i64) h2_))] } : St) = some r.st := by
  unfold f24_airzriii_l3_j3 at hF
  cases hF
  simp (maxSteps := 999999) (disch := first | exact D (by decide) | exact K (by kernel_rfl)) only [E, EE, ↓reduceIte, simprocAttr, show (nav B24 [2, 2, 1, 2, 2, 1, 2, 2, 2, 2]) = Code.region 9 _ false from rfl, hk_24_9, hz_24_9, hs_24_9, R24_airzriii_l3.st]
noncomputable def f24_airzriii_l3_j1 (k : Nat) (x1 : List Int) (x4 x13 : Int) (x27 : Bool) (h0_ : Int) (h0__1 : List T44) (h1_ h2_ : List Int) : Option R24_airzriii_l3 :=
  Option.bind (f24_airzriii_l3_l2 k k x1 x4 x13 0 h0_ h0__1 h1_ h2_) fun o1 =>
    match o1 with
    | .o0 _ _ _ _ _ _ _ _ =>
      none
    | .o1 v4 v5 v6 v7 v8 v9 v10 v11 v12 =>
      f24_airzriii_l3_j3 k v4 v5 v6 v7 v8 v9 v10 v11 v12
theorem f24_airzriii_l3_j1_ok (k : Nat) (x1 : List Int) (x4 x13 : Int) (x27 : Bool) (h0_ : Int) (h0__1 : List T44) (h1_ h2_ : List Int) (r : R24_airzriii_l3) (hF : f24_airzriii_l3_j1 k x1 x4 x13 x27 h0_ h0__1 h1_ h2_ = some r) : EX 24 k (nav B24 [2, 1, 2, 2, 1, 2, 2, 2, 2]) ({ n := 83, F := [(1, V.sl 1 (rowsOf (encI .i64) x1)), (4, V.p (Value.int .i64 x4)), (5, V.ptr 30000 0), (10, V.ptr 30001 0), (11, V.ptr 30002 0), (13, V.p (Value.int .i64 x13)), (27, V.p (Value.bool x27))], M := [(30000, O.box 24 [V.p (Value.int .i64 h0_), V.sl 6 (rowsOf encT44 h0__1)]), (30001, O.box 60 (arrC (cI .i64) h1_)), (30002, O.box 60 (arrC (cI .i64) h2_))] } : St) = some r.st := by
  unfold f24_airzriii_l3_j1 at hF
  replace hF := Option.bind_eq_some_iff.1 hF
  obtain ⟨o1, h2, hF⟩ := hF
  have hc3 := f24_airzriii_l3_l2_ok k k x1 x4 x13 0 h0_ h0__1 h1_ h2_ _ h2
  simp (maxSteps := 999999) (disch := first | exact D (by decide) | exact K (by kernel_rfl)) only [E, EE, ↓reduceIte, simprocAttr, xk B24 [2, 1, 2, 2, 1, 2, 2, 2, 2] .sq rfl, xk B24 [1, 2, 1, 2, 2, 1, 2, 2, 2, 2] (.bk 3) rfl, xk B24 [2, 1, 2, 1, 2, 2, 1, 2, 2, 2, 2] .sq rfl, show (nav B24 [1, 2, 1, 2, 1, 2, 2, 1, 2, 2, 2, 2]) = Code.region 10 _ false from rfl, hk_24_10, hz_24_10, hs_24_10, xk B24 [2, 2, 1, 2, 1, 2, 2, 1, 2, 2, 2, 2] (.bk 4) rfl, xk B24 [2, 2, 2, 1, 2, 1, 2, 2, 1, 2, 2, 2, 2] .lp rfl, hh_24_11, hc_24_11]
  (try simp only [NM, EE] at hc3)
  rw [hc3 _ (by simp (maxSteps := 999999) (disch := first | exact D (by decide) | exact K (by kernel_rfl)) only [E, EE, ↓reduceIte, simprocAttr, hh_24_11, hc_24_11])]
  clear hc3
  cases o1 with
  | o0 _ _ _ _ _ _ _ _ =>
    (try dsimp only at hF)
    cases hF
  | o1 v4 v5 v6 v7 v8 v9 v10 v11 v12 =>
    (try dsimp only at hF)
    have hJ := f24_airzriii_l3_j3_ok k v4 v5 v6 v7 v8 v9 v10 v11 v12 _ hF
    simp (maxSteps := 999999) (disch := first | exact D (by decide) | exact K (by kernel_rfl)) only [E, EE, ↓reduceIte, simprocAttr, R24_airzriii_l3_l2.st]
    try simp only [NM, EE] at hJ
    exact hJ
noncomputable def f24_airzriii_l3_b (k : Nat) (x1 : List Int) (x4 x13 h0_ : Int) (h0__1 : List T44) (h1_ h2_ : List Int) : Option R24_airzriii_l3 :=
  cond ((decide (x13 < 8)))
    (f24_airzriii_l3_j1 k x1 x4 x13 true h0_ h0__1 h1_ h2_)
    (some (R24_airzriii_l3.o1 x1 x4 x13 false h0_ h0__1 h1_ h2_))
theorem f24_airzriii_l3_b_ok (k : Nat) (x1 : List Int) (x4 x13 h0_ : Int) (h0__1 : List T44) (h1_ h2_ : List Int) (r : R24_airzriii_l3) (hF : f24_airzriii_l3_b k x1 x4 x13 h0_ h0__1 h1_ h2_ = some r) : EX 24 k (nav B24 [1, 2, 2, 1, 2, 2, 2, 2]) ({ n := 83, F := [(1, V.sl 1 (rowsOf (encI .i64) x1)), (4, V.p (Value.int .i64 x4)), (5, V.ptr 30000 0), (10, V.ptr 30001 0), (11, V.ptr 30002 0), (13, V.p (Value.int .i64 x13))], M := [(30000, O.box 24 [V.p (Value.int .i64 h0_), V.sl 6 (rowsOf encT44 h0__1)]), (30001, O.box 60 (arrC (cI .i64) h1_)), (30002, O.box 60 (arrC (cI .i64) h2_))] } : St) = some r.st := by
  unfold f24_airzriii_l3_b at hF
  simp (maxSteps := 999999) (disch := first | exact D (by decide) | exact K (by kernel_rfl)) only [E, EE, ↓reduceIte, simprocAttr, xk B24 [1, 2, 2, 1, 2, 2, 2, 2] .sq rfl, xk B24 [1, 1, 2, 2, 1, 2, 2, 2, 2] .sq rfl, show (nav B24 [1, 1, 1, 2, 2, 1, 2, 2, 2, 2]) = Code.region 8 _ false from rfl, hk_24_8, hz_24_8, hs_24_8, xk B24 [2, 1, 1, 2, 2, 1, 2, 2, 2, 2] (.cd 27) rfl]
  replace hF := cond_some hF
  rcases hF with ⟨h1, hF⟩ | ⟨h1, hF⟩
  · have hJ := f24_airzriii_l3_j1_ok k x1 x4 x13 true h0_ h0__1 h1_ h2_ _ hF
    simp (maxSteps := 999999) (disch := first | exact D (by decide) | exact K (by kernel_rfl)) only [E, EE, ↓reduceIte, simprocAttr, xk B24 [2, 2, 1, 1, 2, 2, 1, 2, 2, 2, 2] .sk rfl, h1]
    try simp only [NM, EE] at hJ
    exact hJ
  · cases hF
    simp (maxSteps := 999999) (disch := first | exact D (by decide) | exact K (by kernel_rfl)) only [E, EE, ↓reduceIte, simprocAttr, xk B24 [3, 2, 1, 1, 2, 2, 1, 2, 2, 2, 2] (.ex 2) rfl, R24_airzriii_l3.st, h1]
noncomputable def f24_airzriii_l3 (k : Nat) : Nat → (List Int) → Int → Int → Int → (List T44) → (List Int) → (List Int) → Option R24_airzriii_l3
  | 0, _, _, _, _, _, _, _ => none
  | n + 1, x1, x4, x13, h0_, h0__1, h1_, h2_ => Option.bind (f24_airzriii_l3_b k x1 x4 x13 h0_ h0__1 h1_ h2_) fun o =>
    match o with
    | .o0 y y_1 y_2 y_3 y_4 y_5 y_6 => f24_airzriii_l3 k n y y_1 y_2 y_3 y_4 y_5 y_6
    | .o1 y y_1 y_2 y_3 y_4 y_5 y_6 y_7 => some (.o1 y y_1 y_2 y_3 y_4 y_5 y_6 y_7)
theorem f24_airzriii_l3_ok (k n : Nat) : ∀ (x1 : List Int) (x4 x13 h0_ : Int) (h0__1 : List T44) (h1_ h2_ : List Int) (r : R24_airzriii_l3) (hF : f24_airzriii_l3 k n x1 x4 x13 h0_ h0__1 h1_ h2_ = some r) (σ : St) (hσ : headR (hints.head 24 8) (hints.canon 24 8) σ = some ({ n := 83, F := [(1, V.sl 1 (rowsOf (encI .i64) x1)), (4, V.p (Value.int .i64 x4)), (5, V.ptr 30000 0), (10, V.ptr 30001 0), (11, V.ptr 30002 0), (13, V.p (Value.int .i64 x13))], M := [(30000, O.box 24 [V.p (Value.int .i64 h0_), V.sl 6 (rowsOf encT44 h0__1)]), (30001, O.box 60 (arrC (cI .i64) h1_)), (30002, O.box 60 (arrC (cI .i64) h2_))] } : St)), LP 24 k (nav B24 [1, 2, 2, 1, 2, 2, 2, 2]) n σ = some r.st := by
  induction n with
  | zero => intro x1 x4 x13 h0_ h0__1 h1_ h2_ r hF; cases hF
  | succ n ih =>
    intro x1 x4 x13 h0_ h0__1 h1_ h2_ r hF σ hσ
    rw [f24_airzriii_l3] at hF
    obtain ⟨o, h, hF⟩ := Option.bind_eq_some_iff.1 hF
    have hB := f24_airzriii_l3_b_ok k x1 x4 x13 h0_ h0__1 h1_ h2_ o h
    unfold LP at ih ⊢
    unfold EX at hB
    rw [loopK_succ, show firstReg (nav B24 [1, 2, 2, 1, 2, 2, 2, 2]) = 8 from rfl, hσ, headK_some, hB]
    cases o with
    | o0 y y_1 y_2 y_3 y_4 y_5 y_6 =>
      refine ih y y_1 y_2 y_3 y_4 y_5 y_6 r hF _ ?_
      simp (maxSteps := 999999) (disch := first | exact D (by decide) | exact K (by kernel_rfl)) only [E, EE, ↓reduceIte, simprocAttr, hh_24_8, hc_24_8]
    | o1 y y_1 y_2 y_3 y_4 y_5 y_6 y_7 => cases hF; rfl
noncomputable def f24_airzriii_j4 (k : Nat) (x1 : List Int) (x4 x13 : Int) (x27 : Bool) (h0_ : Int) (h0__1 : List T44) (h1_ h2_ : List Int) : Option R24_airzriii :=
  ifE (7 ≤ (List.length h2_)) (
    ifE ((List.length (List.take 7 h2_)) = 7) (
      ifE (7 ≤ (List.length h1_)) (
        ifE (7 ≤ (List.length (((List.take 7 h2_) ++ (List.drop 7 h1_))))) (
          some (R24_airzriii.o0 ((List.take 7 (((List.take 7 h2_) ++ (List.drop 7 h1_))))))))))
theorem f24_airzriii_j4_ok (k : Nat) (x1 : List Int) (x4 x13 : Int) (x27 : Bool) (h0_ : Int) (h0__1 : List T44) (h1_ h2_ : List Int) (r : R24_airzriii) (hF : f24_airzriii_j4 k x1 x4 x13 x27 h0_ h0__1 h1_ h2_ = some r) : finK Try.prog Try.f24 0 (EX 24 k (nav B24 [2, 2, 2, 2, 2]) ({ n := 83, F := [(1, V.sl 1 (rowsOf (encI .i64) x1)), (4, V.p (Value.int .i64 x4)), (5, V.ptr 30000 0), (10, V.ptr 30001 0), (11, V.ptr 30002 0), (13, V.p (Value.int .i64 x13)), (27, V.p (Value.bool x27))], M := [(30000, O.box 24 [V.p (Value.int .i64 h0_), V.sl 6 (rowsOf encT44 h0__1)]), (30001, O.box 60 (arrC (cI .i64) h1_)), (30002, O.box 60 (arrC (cI .i64) h2_))] } : St)) = some r.st := by
  unfold f24_airzriii_j4 at hF
  replace hF := ifE_some.1 hF
  obtain ⟨h1, hF⟩ := hF
  replace hF := ifE_some.1 hF
  obtain ⟨h2, hF⟩ := hF
  replace hF := ifE_some.1 hF
  obtain ⟨h3, hF⟩ := hF
  replace hF := ifE_some.1 hF
  obtain ⟨h4, hF⟩ := hF
  cases hF
  simp (maxSteps := 999999) (disch := first | exact D (by decide) | exact K (by kernel_rfl)) only [E, EE, ↓reduceIte, simprocAttr, xk B24 [2, 2, 2, 2, 2] .sq rfl, show (nav B24 [1, 2, 2, 2, 2, 2]) = Code.region 21 _ false from rfl, hk_24_21, hz_24_21, hs_24_21, u_60, i_60, is_60, ib_60, iz_60, xk B24 [2, 2, 2, 2, 2, 2] .rt rfl, finK_norm, finK_ret, fin24, R24_airzriii.st, h1, h2, h3, h4]
noncomputable def f24_airzriii_j2 (k : Nat) (x1 : List Int) (x2 x3 x4 x12 : Int) (x18 : Bool) (h0_ : Int) (h0__1 : List T44) (h1_ h2_ : List Int) : Option R24_airzriii :=
  ifE ((0 : Int) ≤ x2) (
    ifE (x2 < 7) (
      ifE (((Int.toNat x2) + 1) ≤ (List.length h2_)) (
        Option.bind (f24_airzriii_l3 k k x1 x4 0 h0_ h0__1 h1_ (((List.take (Int.toNat x2) h2_) ++ (x3 :: (List.drop ((Int.toNat x2) + 1) h2_))))) fun o4 =>
          match o4 with
          | .o0 _ _ _ _ _ _ _ =>
            none
          | .o1 v7 v8 v9 v10 v11 v12 v13 v14 =>
            f24_airzriii_j4 k v7 v8 v9 v10 v11 v12 v13 v14)))
theorem f24_airzriii_j2_ok (k : Nat) (x1 : List Int) (x2 x3 x4 x12 : Int) (x18 : Bool) (h0_ : Int) (h0__1 : List T44) (h1_ h2_ : List Int) (r : R24_airzriii) (hF : f24_airzriii_j2 k x1 x2 x3 x4 x12 x18 h0_ h0__1 h1_ h2_ = some r) : finK Try.prog Try.f24 0 (EX 24 k (nav B24 [2, 2, 2]) ({ n := 83, F := [(1, V.sl 1 (rowsOf (encI .i64) x1)), (2, V.p (Value.int .i64 x2)), (3, V.p (Value.int .i64 x3)), (4, V.p (Value.int .i64 x4)), (5, V.ptr 30000 0), (10, V.ptr 30001 0), (11, V.ptr 30002 0), (12, V.p (Value.int .i64 x12)), (18, V.p (Value.bool x18))], M := [(30000, O.box 24 [V.p (Value.int .i64 h0_), V.sl 6 (rowsOf encT44 h0__1)]), (30001, O.box 60 (arrC (cI .i64) h1_)), (30002, O.box 60 (arrC (cI .i64) h2_))] } : St)) = some r.st := by
  unfold f24_airzriii_j2 at hF
  replace hF := ifE_some.1 hF
  obtain ⟨h1, hF⟩ := hF
  replace hF := ifE_some.1 hF
  obtain ⟨h2, hF⟩ := hF
  replace hF := ifE_some.1 hF
  obtain ⟨h3, hF⟩ := hF
  replace hF := Option.bind_eq_some_iff.1 hF
  obtain ⟨o4, h5, hF⟩ := hF
  have hc6 := f24_airzriii_l3_ok k k x1 x4 0 h0_ h0__1 h1_ (((List.take (Int.toNat x2) h2_) ++ (x3 :: (List.drop ((Int.toNat x2) + 1) h2_)))) _ h5
  simp (maxSteps := 999999) (disch := first | exact D (by decide) | exact K (by kernel_rfl)) only [E, EE, ↓reduceIte, simprocAttr, xk B24 [2, 2, 2] .sq rfl, show (nav B24 [1, 2, 2, 2]) = Code.region 6 _ false from rfl, hk_24_6, hz_24_6, hs_24_6, indexAddrV, u_60, i_60, is_60, ib_60, iz_60, u_3, i_3, is_3, ib_3, iz_3, xk B24 [2, 2, 2, 2] .sq rfl, xk B24 [1, 2, 2, 2, 2] .sq rfl, show (nav B24 [1, 1, 2, 2, 2, 2]) = Code.region 7 _ false from rfl, hk_24_7, hz_24_7, hs_24_7, xk B24 [2, 1, 2, 2, 2, 2] (.bk 2) rfl, xk B24 [2, 2, 1, 2, 2, 2, 2] .lp rfl, hh_24_8, hc_24_8, h1, h2, h3]
  (try simp only [NM, EE] at hc6)
  rw [hc6 _ (by simp (maxSteps := 999999) (disch := first | exact D (by decide) | exact K (by kernel_rfl)) only [E, EE, ↓reduceIte, simprocAttr, hh_24_8, hc_24_8, h1, h2, h3])]
  clear hc6
  cases o4 with
  | o0 _ _ _ _ _ _ _ =>
    (try dsimp only at hF)
    cases hF
  | o1 v7 v8 v9 v10 v11 v12 v13 v14 =>
    (try dsimp only at hF)
    have hJ := f24_airzriii_j4_ok k v7 v8 v9 v10 v11 v12 v13 v14 _ hF
    simp (maxSteps := 999999) (disch := first | exact D (by decide) | exact K (by kernel_rfl)) only [E, EE, ↓reduceIte, simprocAttr, R24_airzriii_l3.st, h1, h2, h3]
    try simp only [NM, EE] at hJ
    exact hJ
noncomputable def f24_airzriii_e (k : Nat) (a0 : Int) (a0_1 : List T44) (a1 : List Int) (a2 a3 a4 : Int) : Option R24_airzriii :=
  Option.bind (f24_airzriii_l1 k k a1 a2 a3 a4 0 a0 a0_1 (List.replicate 7 (0 : Int)) (List.replicate 7 (0 : Int))) fun o3 =>
    match o3 with
    | .o0 _ _ _ _ _ _ _ _ _ =>
      none
    | .o1 v6 v7 v8 v9 v10 v11 v12 v13 v14 v15 =>
      f24_airzriii_j2 k v6 v7 v8 v9 v10 v11 v12 v13 v14 v15
theorem f24_airzriii_e_ok (k : Nat) (a0 : Int) (a0_1 : List T44) (a1 : List Int) (a2 a3 a4 : Int) (r : R24_airzriii) (hF : f24_airzriii_e k a0 a0_1 a1 a2 a3 a4 = some r) : finK Try.prog Try.f24 0 (EX 24 k (nav B24 []) ({ n := 83, F := [(0, V.agg [V.p (Value.int .i64 a0), V.sl 6 (rowsOf encT44 a0_1)]), (1, V.sl 1 (rowsOf (encI .i64) a1)), (2, V.p (Value.int .i64 a2)), (3, V.p (Value.int .i64 a3)), (4, V.p (Value.int .i64 a4))], M := [] } : St)) = some r.st := by
  unfold f24_airzriii_e at hF
  have q1 : [V.p (Value.int .i64 0), V.p (Value.int .i64 0), V.p (Value.int .i64 0), V.p (Value.int .i64 0), V.p (Value.int .i64 0), V.p (Value.int .i64 0), V.p (Value.int .i64 0)] = arrC (cI .i64) (List.replicate 7 (0 : Int)) := rfl
  have q2 : [V.p (Value.int .i64 0), V.p (Value.int .i64 0), V.p (Value.int .i64 0), V.p (Value.int .i64 0), V.p (Value.int .i64 0), V.p (Value.int .i64 0), V.p (Value.int .i64 0)] = arrC (cI .i64) (List.replicate 7 (0 : Int)) := rfl
  replace hF := Option.bind_eq_some_iff.1 hF
  obtain ⟨o3, h4, hF⟩ := hF
  have hc5 := f24_airzriii_l1_ok k k a1 a2 a3 a4 0 a0 a0_1 (List.replicate 7 (0 : Int)) (List.replicate 7 (0 : Int)) _ h4
  simp (maxSteps := 999999) (disch := first | exact D (by decide) | exact K (by kernel_rfl)) only [E, EE, ↓reduceIte, simprocAttr, xk B24 [] .sq rfl, show (nav B24 [1]) = Code.region 0 _ false from rfl, hk_24_0, hz_24_0, hs_24_0, u_60, i_60, is_60, ib_60, iz_60, xk B24 [2] .sq rfl, show (nav B24 [1, 2]) = Code.region 1 _ false from rfl, hk_24_1, hz_24_1, hs_24_1, xk B24 [2, 2] .sq rfl, xk B24 [1, 2, 2] .sq rfl, show (nav B24 [1, 1, 2, 2]) = Code.region 2 _ false from rfl, hk_24_2, hz_24_2, hs_24_2, xk B24 [2, 1, 2, 2] (.bk 0) rfl, xk B24 [2, 2, 1, 2, 2] .lp rfl, hh_24_3, hc_24_3, q1, q2]
  (try simp only [NM, EE] at hc5)
  rw [hc5 _ (by simp (maxSteps := 999999) (disch := first | exact D (by decide) | exact K (by kernel_rfl)) only [E, EE, ↓reduceIte, simprocAttr, hh_24_3, hc_24_3, q1, q2])]
  clear hc5
  cases o3 with
  | o0 _ _ _ _ _ _ _ _ _ =>
    (try dsimp only at hF)
    cases hF
  | o1 v6 v7 v8 v9 v10 v11 v12 v13 v14 v15 =>
    (try dsimp only at hF)
    have hJ := f24_airzriii_j2_ok k v6 v7 v8 v9 v10 v11 v12 v13 v14 v15 _ hF
    simp (maxSteps := 999999) (disch := first | exact D (by decide) | exact K (by kernel_rfl)) only [E, EE, ↓reduceIte, simprocAttr, R24_airzriii_l1.st, q1, q2]
    try simp only [NM, EE] at hJ
    exact hJ
noncomputable def f24_airzriii (k : Nat) (a0 : Int) (a0_1 : List T44) (a1 : List Int) (a2 a3 a4 : Int) : Option R24_airzriii := match k with | 0 => none | k + 1 => f24_airzriii_e k a0 a0_1 a1 a2 a3 a4
theorem f24_airzriii_ok (k : Nat) (a0 : Int) (a0_1 : List T44) (a1 : List Int) (a2 a3 a4 : Int) (r : R24_airzriii) (hF : f24_airzriii k a0 a0_1 a1 a2 a3 a4 = some r) : CV k 24 [V.agg [V.p (Value.int .i64 a0), V.sl 6 (rowsOf encT44 a0_1)], V.sl 1 (rowsOf (encI .i64) a1), V.p (Value.int .i64 a2), V.p (Value.int .i64 a3), V.p (Value.int .i64 a4)] [] = some r.st := by
  cases k with
  | zero => cases hF
  | succ k =>
    unfold CV
    rw [ev_call (F := Try.f24) (c := (nav B24 [])) rfl Try.func24 rfl rfl rfl rfl]
    exact f24_airzriii_e_ok k a0 a0_1 a1 a2 a3 a4 r hF
end Go.Proofs.YtmogplhglcodjaaV
