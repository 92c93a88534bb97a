/- What the program's functions answer: plain functions, and that the interpreter answers what they do. Written by a program of this session, out of the translation. -/
import Derived.Test.YtmogplhglcodjaaVP4
namespace Go.Proofs.YtmogplhglcodjaaV
open Go
set_option linter.unusedVariables false
set_option linter.unusedSimpArgs false
set_option maxRecDepth 8000
set_option maxHeartbeats 4000000
-- f4_airzai4zr: f4 heliograph/heliographlaw13.PlanEarlier
inductive R4_airzai4zr where
  | o0 (y : Bool)
noncomputable def R4_airzai4zr.st : R4_airzai4zr → V × List O × List O
  | .o0 y => (V.p (Value.bool y), [], [])
inductive R4_airzai4zr_l3 where
  | o0 (y : List Int) (y_1 y_2 y_3 y_4 : Int) (y_5 : List T44) (y_6 y_7 y_8 y_9 : Int) (y_10 : List Int)
  | o1 (y : List Int) (y_1 y_2 y_3 : Int) (y_4 : Bool) (y_5 : Int) (y_6 : List T44) (y_7 y_8 y_9 y_10 : Int) (y_11 : List Int)
noncomputable def R4_airzai4zr_l3.st : R4_airzai4zr_l3 → Out × St
  | .o0 y y_1 y_2 y_3 y_4 y_5 y_6 y_7 y_8 y_9 y_10 => (.norm, ({ n := 111, F := [(2, V.sl 1 (rowsOf (encI .i64) y)), (3, V.ptr 30000 0), (4, V.ptr 30001 0), (7, V.own 30002), (9, V.p (Value.int .i64 y_1)), (42, V.p (Value.int .i64 y_2)), (43, V.p (Value.int .i64 y_3))], M := [(30000, O.box 24 [V.p (Value.int .i64 y_4), V.sl 6 (rowsOf encT44 y_5)]), (30001, O.box 27 [V.p (Value.int .i64 y_6), V.p (Value.int .i64 y_7), V.p (Value.int .i64 y_8), V.p (Value.int .i64 y_9)]), (30002, O.row true 1 3 (rowsOf (encI .i64) y_10))] } : St))
  | .o1 y y_1 y_2 y_3 y_4 y_5 y_6 y_7 y_8 y_9 y_10 y_11 => (.exit 0, ({ n := 111, F := [(2, V.sl 1 (rowsOf (encI .i64) y)), (3, V.ptr 30000 0), (4, V.ptr 30001 0), (7, V.own 30002), (9, V.p (Value.int .i64 y_1)), (42, V.p (Value.int .i64 y_2)), (43, V.p (Value.int .i64 y_3)), (44, V.p (Value.bool y_4))], M := [(30000, O.box 24 [V.p (Value.int .i64 y_5), V.sl 6 (rowsOf encT44 y_6)]), (30001, O.box 27 [V.p (Value.int .i64 y_7), V.p (Value.int .i64 y_8), V.p (Value.int .i64 y_9), V.p (Value.int .i64 y_10)]), (30002, O.row true 1 3 (rowsOf (encI .i64) y_11))] } : St))
noncomputable def f4_airzai4zr_l3_j2 (k : Nat) (x2 : List Int) (x9 x42 x43 h0_ : Int) (h0__1 : List T44) (h1_ h1__1 h1__2 h1__3 : Int) (h2_ : List Int) : Option R4_airzai4zr_l3 :=
  some (R4_airzai4zr_l3.o0 x2 x9 x42 (IntKind.i64.wrap (x43 + (1 : Int))) h0_ h0__1 h1_ h1__1 h1__2 h1__3 h2_)
theorem f4_airzai4zr_l3_j2_ok (k : Nat) (x2 : List Int) (x9 x42 x43 h0_ : Int) (h0__1 : List T44) (h1_ h1__1 h1__2 h1__3 : Int) (h2_ : List Int) (r : R4_airzai4zr_l3) (hF : f4_airzai4zr_l3_j2 k x2 x9 x42 x43 h0_ h0__1 h1_ h1__1 h1__2 h1__3 h2_ = some r) : EX 4 k (nav B4 [2, 2, 2, 1, 2, 2, 1, 2, 2, 2, 2, 2]) ({ n := 111, F := [(2, V.sl 1 (rowsOf (encI .i64) x2)), (3, V.ptr 30000 0), (4, V.ptr 30001 0), (7, V.own 30002), (9, V.p (Value.int .i64 x9)), (42, V.p (Value.int .i64 x42)), (43, V.p (Value.int .i64 x43))], M := [(30000, O.box 24 [V.p (Value.int .i64 h0_), V.sl 6 (rowsOf encT44 h0__1)]), (30001, O.box 27 [V.p (Value.int .i64 h1_), V.p (Value.int .i64 h1__1), V.p (Value.int .i64 h1__2), V.p (Value.int .i64 h1__3)]), (30002, O.row true 1 3 (rowsOf (encI .i64) h2_))] } : St) = some r.st := by
  unfold f4_airzai4zr_l3_j2 at hF
  cases hF
  simp (maxSteps := 999999) (disch := first | exact D (by decide) | exact K (by kernel_rfl)) only [E, EE, ↓reduceIte, simprocAttr, show (nav B4 [2, 2, 2, 1, 2, 2, 1, 2, 2, 2, 2, 2]) = Code.region 12 _ false from rfl, hk_4_12, hz_4_12, hs_4_12, R4_airzai4zr_l3.st]
noncomputable def f4_airzai4zr_l3_j3 (k : Nat) (x2 : List Int) (x9 x11 x42 x43 : Int) (x49 : Bool) (h0_ : Int) (h0__1 : List T44) (h1_ h1__1 h1__2 h1__3 : Int) (h2_ : List Int) : Option R4_airzai4zr_l3 :=
  some (R4_airzai4zr_l3.o0 x2 x9 x42 (IntKind.i64.wrap (x43 + (1 : Int))) h0_ h0__1 h1_ h1__1 h1__2 h1__3 h2_)
theorem f4_airzai4zr_l3_j3_ok (k : Nat) (x2 : List Int) (x9 x11 x42 x43 : Int) (x49 : Bool) (h0_ : Int) (h0__1 : List T44) (h1_ h1__1 h1__2 h1__3 : Int) (h2_ : List Int) (r : R4_airzai4zr_l3) (hF : f4_airzai4zr_l3_j3 k x2 x9 x11 x42 x43 x49 h0_ h0__1 h1_ h1__1 h1__2 h1__3 h2_ = some r) : EX 4 k (nav B4 [2, 2, 2, 1, 2, 2, 1, 2, 2, 2, 2, 2]) ({ n := 111, F := [(2, V.sl 1 (rowsOf (encI .i64) x2)), (3, V.ptr 30000 0), (4, V.ptr 30001 0), (7, V.own 30002), (9, V.p (Value.int .i64 x9)), (11, V.p (Value.int .i64 x11)), (42, V.p (Value.int .i64 x42)), (43, V.p (Value.int .i64 x43)), (49, V.p (Value.bool x49))], M := [(30000, O.box 24 [V.p (Value.int .i64 h0_), V.sl 6 (rowsOf encT44 h0__1)]), (30001, O.box 27 [V.p (Value.int .i64 h1_), V.p (Value.int .i64 h1__1), V.p (Value.int .i64 h1__2), V.p (Value.int .i64 h1__3)]), (30002, O.row true 1 3 (rowsOf (encI .i64) h2_))] } : St) = some r.st := by
  unfold f4_airzai4zr_l3_j3 at hF
  cases hF
  simp (maxSteps := 999999) (disch := first | exact D (by decide) | exact K (by kernel_rfl)) only [E, EE, ↓reduceIte, simprocAttr, show (nav B4 [2, 2, 2, 1, 2, 2, 1, 2, 2, 2, 2, 2]) = Code.region 12 _ false from rfl, hk_4_12, hz_4_12, hs_4_12, R4_airzai4zr_l3.st]
noncomputable def f4_airzai4zr_l3_j1 (k : Nat) (x2 : List Int) (x9 x42 x43 : Int) (x44 : Bool) (h0_ : Int) (h0__1 : List T44) (h1_ h1__1 h1__2 h1__3 : Int) (h2_ : List Int) : Option R4_airzai4zr_l3 :=
  cond ((decide (x43 < ((List.length x2) : Int))))
    (
      ifE ((0 : Int) ≤ x43) (
        ifE (x43 < ((List.length h2_) : Int)) (
          Option.bind (h2_[(Int.toNat x43)]?) fun v4 =>
            Option.bind (x2[(Int.toNat x43)]?) fun v6 =>
              f4_airzai4zr_l3_j2 k x2 x9 x42 x43 h0_ h0__1 h1_ h1__1 h1__2 h1__3 ((List.set h2_ (Int.toNat x43) ((IntKind.i64.wrap (v4 + (Int.tmod (if (0 : Int) > v6 then 0 else v6) (1000 : Int))))))))))
    (f4_airzai4zr_l3_j3 k x2 x9 x43 x42 x43 false h0_ h0__1 h1_ h1__1 h1__2 h1__3 h2_)
theorem f4_airzai4zr_l3_j1_ok (k : Nat) (x2 : List Int) (x9 x42 x43 : Int) (x44 : Bool) (h0_ : Int) (h0__1 : List T44) (h1_ h1__1 h1__2 h1__3 : Int) (h2_ : List Int) (r : R4_airzai4zr_l3) (hF : f4_airzai4zr_l3_j1 k x2 x9 x42 x43 x44 h0_ h0__1 h1_ h1__1 h1__2 h1__3 h2_ = some r) : EX 4 k (nav B4 [2, 2, 1, 2, 2, 1, 2, 2, 2, 2, 2]) ({ n := 111, F := [(2, V.sl 1 (rowsOf (encI .i64) x2)), (3, V.ptr 30000 0), (4, V.ptr 30001 0), (7, V.own 30002), (9, V.p (Value.int .i64 x9)), (42, V.p (Value.int .i64 x42)), (43, V.p (Value.int .i64 x43)), (44, V.p (Value.bool x44))], M := [(30000, O.box 24 [V.p (Value.int .i64 h0_), V.sl 6 (rowsOf encT44 h0__1)]), (30001, O.box 27 [V.p (Value.int .i64 h1_), V.p (Value.int .i64 h1__1), V.p (Value.int .i64 h1__2), V.p (Value.int .i64 h1__3)]), (30002, O.row true 1 3 (rowsOf (encI .i64) h2_))] } : St) = some r.st := by
  unfold f4_airzai4zr_l3_j1 at hF
  simp (maxSteps := 999999) (disch := first | exact D (by decide) | exact K (by kernel_rfl)) only [E, EE, ↓reduceIte, simprocAttr, xk B4 [2, 2, 1, 2, 2, 1, 2, 2, 2, 2, 2] .sq rfl, xk B4 [1, 2, 2, 1, 2, 2, 1, 2, 2, 2, 2, 2] (.bk 1) rfl, xk B4 [2, 1, 2, 2, 1, 2, 2, 1, 2, 2, 2, 2, 2] .sq rfl, show (nav B4 [1, 2, 1, 2, 2, 1, 2, 2, 1, 2, 2, 2, 2, 2]) = Code.region 9 _ false from rfl, hk_4_9, hz_4_9, hs_4_9, xk B4 [2, 2, 1, 2, 2, 1, 2, 2, 1, 2, 2, 2, 2, 2] .sq rfl, show (nav B4 [1, 2, 2, 1, 2, 2, 1, 2, 2, 1, 2, 2, 2, 2, 2]) = Code.region 10 _ false from rfl, hk_4_10, hz_4_10, hs_4_10, u_25, i_25, is_25, ib_25, iz_25, xk B4 [2, 2, 2, 1, 2, 2, 1, 2, 2, 1, 2, 2, 2, 2, 2] (.cd 49) rfl]
  replace hF := cond_some hF
  rcases hF with ⟨h1, hF⟩ | ⟨h1, hF⟩
  · replace hF := ifE_some.1 hF
    obtain ⟨h2, hF⟩ := hF
    replace hF := ifE_some.1 hF
    obtain ⟨h3, hF⟩ := hF
    replace hF := Option.bind_eq_some_iff.1 hF
    obtain ⟨v4, h5, hF⟩ := hF
    replace hF := Option.bind_eq_some_iff.1 hF
    obtain ⟨v6, h7, hF⟩ := hF
    have q8 : List.set (rowsOf (encI .i64) h2_) (Int.toNat x43) [V.p (Value.int .i64 (IntKind.i64.wrap (v4 + (Int.tmod (if (0 : Int) > v6 then 0 else v6) (1000 : Int)))))] = rowsOf (encI .i64) (List.set h2_ (Int.toNat x43) ((IntKind.i64.wrap (v4 + (Int.tmod (if (0 : Int) > v6 then 0 else v6) (1000 : Int)))))) := (rowsOf_set (enc := (encI .i64)) (l := h2_) (i := (Int.toNat x43)) (x := (IntKind.i64.wrap (v4 + (Int.tmod (if (0 : Int) > v6 then 0 else v6) (1000 : Int)))))).symm
    have hJ := f4_airzai4zr_l3_j2_ok k x2 x9 x42 x43 h0_ h0__1 h1_ h1__1 h1__2 h1__3 ((List.set h2_ (Int.toNat x43) ((IntKind.i64.wrap (v4 + (Int.tmod (if (0 : Int) > v6 then 0 else v6) (1000 : Int))))))) _ hF
    simp (maxSteps := 999999) (disch := first | exact D (by decide) | exact K (by kernel_rfl)) only [E, EE, ↓reduceIte, simprocAttr, show (nav B4 [2, 2, 2, 2, 1, 2, 2, 1, 2, 2, 1, 2, 2, 2, 2, 2]) = Code.region 11 _ true from rfl, hk_4_11, hz_4_11, hs_4_11, indexAddrV, u_25, i_25, is_25, ib_25, iz_25, u_3, i_3, is_3, ib_3, iz_3, encI_eq, minmaxV, minmaxGo, sm_3, h1, h2, h3, h5, h7, q8]
    try simp only [NM, EE] at hJ
    exact hJ
  · have hJ := f4_airzai4zr_l3_j3_ok k x2 x9 x43 x42 x43 false h0_ h0__1 h1_ h1__1 h1__2 h1__3 h2_ _ hF
    simp (maxSteps := 999999) (disch := first | exact D (by decide) | exact K (by kernel_rfl)) only [E, EE, ↓reduceIte, simprocAttr, xk B4 [3, 2, 2, 2, 1, 2, 2, 1, 2, 2, 1, 2, 2, 2, 2, 2] .sk rfl, h1]
    try simp only [NM, EE] at hJ
    exact hJ
noncomputable def f4_airzai4zr_l3_b (k : Nat) (x2 : List Int) (x9 x42 x43 h0_ : Int) (h0__1 : List T44) (h1_ h1__1 h1__2 h1__3 : Int) (h2_ : List Int) : Option R4_airzai4zr_l3 :=
  cond ((decide (x43 < x42)))
    (f4_airzai4zr_l3_j1 k x2 x9 x42 x43 true h0_ h0__1 h1_ h1__1 h1__2 h1__3 h2_)
    (some (R4_airzai4zr_l3.o1 x2 x9 x42 x43 false h0_ h0__1 h1_ h1__1 h1__2 h1__3 h2_))
theorem f4_airzai4zr_l3_b_ok (k : Nat) (x2 : List Int) (x9 x42 x43 h0_ : Int) (h0__1 : List T44) (h1_ h1__1 h1__2 h1__3 : Int) (h2_ : List Int) (r : R4_airzai4zr_l3) (hF : f4_airzai4zr_l3_b k x2 x9 x42 x43 h0_ h0__1 h1_ h1__1 h1__2 h1__3 h2_ = some r) : EX 4 k (nav B4 [1, 2, 2, 1, 2, 2, 2, 2, 2]) ({ n := 111, F := [(2, V.sl 1 (rowsOf (encI .i64) x2)), (3, V.ptr 30000 0), (4, V.ptr 30001 0), (7, V.own 30002), (9, V.p (Value.int .i64 x9)), (42, V.p (Value.int .i64 x42)), (43, V.p (Value.int .i64 x43))], M := [(30000, O.box 24 [V.p (Value.int .i64 h0_), V.sl 6 (rowsOf encT44 h0__1)]), (30001, O.box 27 [V.p (Value.int .i64 h1_), V.p (Value.int .i64 h1__1), V.p (Value.int .i64 h1__2), V.p (Value.int .i64 h1__3)]), (30002, O.row true 1 3 (rowsOf (encI .i64) h2_))] } : St) = some r.st := by
  unfold f4_airzai4zr_l3_b at hF
  simp (maxSteps := 999999) (disch := first | exact D (by decide) | exact K (by kernel_rfl)) only [E, EE, ↓reduceIte, simprocAttr, xk B4 [1, 2, 2, 1, 2, 2, 2, 2, 2] .sq rfl, show (nav B4 [1, 1, 2, 2, 1, 2, 2, 2, 2, 2]) = Code.region 8 _ false from rfl, hk_4_8, hz_4_8, hs_4_8, xk B4 [2, 1, 2, 2, 1, 2, 2, 2, 2, 2] .sq rfl, xk B4 [1, 2, 1, 2, 2, 1, 2, 2, 2, 2, 2] (.cd 44) rfl]
  replace hF := cond_some hF
  rcases hF with ⟨h1, hF⟩ | ⟨h1, hF⟩
  · have hJ := f4_airzai4zr_l3_j1_ok k x2 x9 x42 x43 true h0_ h0__1 h1_ h1__1 h1__2 h1__3 h2_ _ hF
    simp (maxSteps := 999999) (disch := first | exact D (by decide) | exact K (by kernel_rfl)) only [E, EE, ↓reduceIte, simprocAttr, xk B4 [2, 1, 2, 1, 2, 2, 1, 2, 2, 2, 2, 2] .sk rfl, h1]
    try simp only [NM, EE] at hJ
    exact hJ
  · cases hF
    simp (maxSteps := 999999) (disch := first | exact D (by decide) | exact K (by kernel_rfl)) only [E, EE, ↓reduceIte, simprocAttr, xk B4 [3, 1, 2, 1, 2, 2, 1, 2, 2, 2, 2, 2] (.ex 0) rfl, R4_airzai4zr_l3.st, h1]
noncomputable def f4_airzai4zr_l3 (k : Nat) : Nat → (List Int) → Int → Int → Int → Int → (List T44) → Int → Int → Int → Int → (List Int) → Option R4_airzai4zr_l3
  | 0, _, _, _, _, _, _, _, _, _, _, _ => none
  | n + 1, x2, x9, x42, x43, h0_, h0__1, h1_, h1__1, h1__2, h1__3, h2_ => Option.bind (f4_airzai4zr_l3_b k x2 x9 x42 x43 h0_ h0__1 h1_ h1__1 h1__2 h1__3 h2_) fun o =>
    match o with
    | .o0 y y_1 y_2 y_3 y_4 y_5 y_6 y_7 y_8 y_9 y_10 => f4_airzai4zr_l3 k n y y_1 y_2 y_3 y_4 y_5 y_6 y_7 y_8 y_9 y_10
    | .o1 y y_1 y_2 y_3 y_4 y_5 y_6 y_7 y_8 y_9 y_10 y_11 => some (.o1 y y_1 y_2 y_3 y_4 y_5 y_6 y_7 y_8 y_9 y_10 y_11)
theorem f4_airzai4zr_l3_ok (k n : Nat) : ∀ (x2 : List Int) (x9 x42 x43 h0_ : Int) (h0__1 : List T44) (h1_ h1__1 h1__2 h1__3 : Int) (h2_ : List Int) (r : R4_airzai4zr_l3) (hF : f4_airzai4zr_l3 k n x2 x9 x42 x43 h0_ h0__1 h1_ h1__1 h1__2 h1__3 h2_ = some r) (σ : St) (hσ : headR (hints.head 4 8) (hints.canon 4 8) σ = some ({ n := 111, F := [(2, V.sl 1 (rowsOf (encI .i64) x2)), (3, V.ptr 30000 0), (4, V.ptr 30001 0), (7, V.own 30002), (9, V.p (Value.int .i64 x9)), (42, V.p (Value.int .i64 x42)), (43, V.p (Value.int .i64 x43))], M := [(30000, O.box 24 [V.p (Value.int .i64 h0_), V.sl 6 (rowsOf encT44 h0__1)]), (30001, O.box 27 [V.p (Value.int .i64 h1_), V.p (Value.int .i64 h1__1), V.p (Value.int .i64 h1__2), V.p (Value.int .i64 h1__3)]), (30002, O.row true 1 3 (rowsOf (encI .i64) h2_))] } : St)), LP 4 k (nav B4 [1, 2, 2, 1, 2, 2, 2, 2, 2]) n σ = some r.st := by
  induction n with
  | zero => intro x2 x9 x42 x43 h0_ h0__1 h1_ h1__1 h1__2 h1__3 h2_ r hF; cases hF
  | succ n ih =>
    intro x2 x9 x42 x43 h0_ h0__1 h1_ h1__1 h1__2 h1__3 h2_ r hF σ hσ
    rw [f4_airzai4zr_l3] at hF
    obtain ⟨o, h, hF⟩ := Option.bind_eq_some_iff.1 hF
    have hB := f4_airzai4zr_l3_b_ok k x2 x9 x42 x43 h0_ h0__1 h1_ h1__1 h1__2 h1__3 h2_ o h
    unfold LP at ih ⊢
    unfold EX at hB
    rw [loopK_succ, show firstReg (nav B4 [1, 2, 2, 1, 2, 2, 2, 2, 2]) = 8 from rfl, hσ, headK_some, hB]
    cases o with
    | o0 y y_1 y_2 y_3 y_4 y_5 y_6 y_7 y_8 y_9 y_10 =>
      refine ih y y_1 y_2 y_3 y_4 y_5 y_6 y_7 y_8 y_9 y_10 r hF _ ?_
      simp (maxSteps := 999999) (disch := first | exact D (by decide) | exact K (by kernel_rfl)) only [E, EE, ↓reduceIte, simprocAttr, hh_4_8, hc_4_8]
    | o1 y y_1 y_2 y_3 y_4 y_5 y_6 y_7 y_8 y_9 y_10 y_11 => cases hF; rfl
noncomputable def f4_airzai4zr_j4 (k : Nat) (x2 : List Int) (x9 x42 x43 : Int) (x44 : Bool) (h0_ : Int) (h0__1 : List T44) (h1_ h1__1 h1__2 h1__3 : Int) (h2_ : List Int) : Option R4_airzai4zr :=
  Option.bind (f8_airzriiii k h0_ h0__1 h2_ h1_ h1__1 h1__2 (IntKind.i64.wrap (Int.tdiv h1__3 (2 : Int)))) fun o1 =>
    match o1 with
    | .o0 v4 v5 v6 =>
      Option.bind (f8_airzriiii k h0_ h0__1 h2_ h1_ h1__1 (IntKind.i64.wrap (Int.tdiv h1__2 (2 : Int))) h1__3) fun o7 =>
        match o7 with
        | .o0 v10 v11 v12 =>
          cond ((v6 == 0))
            (
              cond ((v12 == 0))
                (
                  cond ((decide (v5 ≤ x9)))
                    (some (R4_airzai4zr.o0 (decide (v11 ≤ x9))))
                    (some (R4_airzai4zr.o0 false)))
                (some (R4_airzai4zr.o0 false)))
            (some (R4_airzai4zr.o0 false))
theorem f4_airzai4zr_j4_ok (k : Nat) (x2 : List Int) (x9 x42 x43 : Int) (x44 : Bool) (h0_ : Int) (h0__1 : List T44) (h1_ h1__1 h1__2 h1__3 : Int) (h2_ : List Int) (r : R4_airzai4zr) (hF : f4_airzai4zr_j4 k x2 x9 x42 x43 x44 h0_ h0__1 h1_ h1__1 h1__2 h1__3 h2_ = some r) : finK Try.prog Try.f4 0 (EX 4 k (nav B4 [2, 2, 2, 2, 2, 2]) ({ n := 111, F := [(2, V.sl 1 (rowsOf (encI .i64) x2)), (3, V.ptr 30000 0), (4, V.ptr 30001 0), (7, V.own 30002), (9, V.p (Value.int .i64 x9)), (42, V.p (Value.int .i64 x42)), (43, V.p (Value.int .i64 x43)), (44, V.p (Value.bool x44))], M := [(30000, O.box 24 [V.p (Value.int .i64 h0_), V.sl 6 (rowsOf encT44 h0__1)]), (30001, O.box 27 [V.p (Value.int .i64 h1_), V.p (Value.int .i64 h1__1), V.p (Value.int .i64 h1__2), V.p (Value.int .i64 h1__3)]), (30002, O.row true 1 3 (rowsOf (encI .i64) h2_))] } : St)) = some r.st := by
  unfold f4_airzai4zr_j4 at hF
  replace hF := Option.bind_eq_some_iff.1 hF
  obtain ⟨o1, h2, hF⟩ := hF
  have hc3 := f8_airzriiii_ok k h0_ h0__1 h2_ h1_ h1__1 h1__2 (IntKind.i64.wrap (Int.tdiv h1__3 (2 : Int))) _ h2
  cases o1 with
  | o0 v4 v5 v6 =>
    (try dsimp only at hF)
    (try simp only [NM, EE, R8_airzriiii.st] at hc3)
    replace hF := Option.bind_eq_some_iff.1 hF
    obtain ⟨o7, h8, hF⟩ := hF
    have hc9 := f8_airzriiii_ok k h0_ h0__1 h2_ h1_ h1__1 (IntKind.i64.wrap (Int.tdiv h1__2 (2 : Int))) h1__3 _ h8
    cases o7 with
    | o0 v10 v11 v12 =>
      (try dsimp only at hF)
      (try simp only [NM, EE, R8_airzriiii.st] at hc9)
      simp (maxSteps := 999999) (disch := first | exact D (by decide) | exact K (by kernel_rfl)) only [E, EE, ↓reduceIte, simprocAttr, xk B4 [2, 2, 2, 2, 2, 2] .sq rfl, show (nav B4 [1, 2, 2, 2, 2, 2, 2]) = Code.region 13 _ false from rfl, hk_4_13, hz_4_13, hs_4_13, u_24, i_24, is_24, ib_24, iz_24, fieldAddrV, u_27, i_27, is_27, ib_27, iz_27, u_3, i_3, is_3, ib_3, iz_3, callStep, CL, gv, List.contains, xk B4 [2, 2, 2, 2, 2, 2, 2] .sq rfl, show (nav B4 [1, 2, 2, 2, 2, 2, 2, 2]) = Code.region 14 _ false from rfl, hk_4_14, hz_4_14, hs_4_14, xk B4 [2, 2, 2, 2, 2, 2, 2, 2] .sq rfl, show (nav B4 [1, 2, 2, 2, 2, 2, 2, 2, 2]) = Code.region 15 _ false from rfl, hk_4_15, hz_4_15, hs_4_15, hc3, hc9]
      replace hF := cond_some hF
      rcases hF with ⟨h13, hF⟩ | ⟨h13, hF⟩
      · replace hF := cond_some hF
        rcases hF with ⟨h14, hF⟩ | ⟨h14, hF⟩
        · replace hF := cond_some hF
          rcases hF with ⟨h15, hF⟩ | ⟨h15, hF⟩
          · cases hF
            simp (maxSteps := 999999) (disch := first | exact D (by decide) | exact K (by kernel_rfl)) only [E, EE, ↓reduceIte, simprocAttr, xk B4 [2, 2, 2, 2, 2, 2, 2, 2, 2] .rt rfl, finK_norm, finK_ret, fin4, R4_airzai4zr.st, hc3, hc9, h13, h14, h15]
          · cases hF
            simp (maxSteps := 999999) (disch := first | exact D (by decide) | exact K (by kernel_rfl)) only [E, EE, ↓reduceIte, simprocAttr, xk B4 [2, 2, 2, 2, 2, 2, 2, 2, 2] .rt rfl, finK_norm, finK_ret, fin4, R4_airzai4zr.st, hc3, hc9, h13, h14, h15]
        · cases hF
          simp (maxSteps := 999999) (disch := first | exact D (by decide) | exact K (by kernel_rfl)) only [E, EE, ↓reduceIte, simprocAttr, xk B4 [2, 2, 2, 2, 2, 2, 2, 2, 2] .rt rfl, finK_norm, finK_ret, fin4, R4_airzai4zr.st, hc3, hc9, h13, h14]
      · cases hF
        simp (maxSteps := 999999) (disch := first | exact D (by decide) | exact K (by kernel_rfl)) only [E, EE, ↓reduceIte, simprocAttr, xk B4 [2, 2, 2, 2, 2, 2, 2, 2, 2] .rt rfl, finK_norm, finK_ret, fin4, R4_airzai4zr.st, hc3, hc9, h13]
noncomputable def f4_airzai4zr_j2 (k : Nat) (x2 : List Int) (x9 : Int) (x38 : Bool) (m3 : Int) (m3_1 : List T44) (m4 m4_1 m4_2 m4_3 : Int) (m21 : List Int) : Option R4_airzai4zr :=
  Option.bind (f4_airzai4zr_l3 k k x2 x9 ((List.length m21) : Int) 0 m3 m3_1 m4 m4_1 m4_2 m4_3 m21) fun o1 =>
    match o1 with
    | .o0 _ _ _ _ _ _ _ _ _ _ _ =>
      none
    | .o1 v4 v5 v6 v7 v8 v9 v10 v11 v12 v13 v14 v15 =>
      f4_airzai4zr_j4 k v4 v5 v6 v7 v8 v9 v10 v11 v12 v13 v14 v15
theorem f4_airzai4zr_j2_ok (k : Nat) (x2 : List Int) (x9 : Int) (x38 : Bool) (m3 : Int) (m3_1 : List T44) (m4 m4_1 m4_2 m4_3 : Int) (m21 : List Int) (r : R4_airzai4zr) (hF : f4_airzai4zr_j2 k x2 x9 x38 m3 m3_1 m4 m4_1 m4_2 m4_3 m21 = some r) : finK Try.prog Try.f4 0 (EX 4 k (nav B4 [2, 2, 2, 2, 2]) ({ n := 111, F := [(2, V.sl 1 (rowsOf (encI .i64) x2)), (3, V.ptr 3 0), (4, V.ptr 4 0), (7, V.own 21), (9, V.p (Value.int .i64 x9)), (38, V.p (Value.bool x38))], M := [(3, O.box 24 [V.p (Value.int .i64 m3), V.sl 6 (rowsOf encT44 m3_1)]), (4, O.box 27 [V.p (Value.int .i64 m4), V.p (Value.int .i64 m4_1), V.p (Value.int .i64 m4_2), V.p (Value.int .i64 m4_3)]), (21, O.row true 1 3 (rowsOf (encI .i64) m21))] } : St)) = some r.st := by
  unfold f4_airzai4zr_j2 at hF
  replace hF := Option.bind_eq_some_iff.1 hF
  obtain ⟨o1, h2, hF⟩ := hF
  have hc3 := f4_airzai4zr_l3_ok k k x2 x9 ((List.length m21) : Int) 0 m3 m3_1 m4 m4_1 m4_2 m4_3 m21 _ h2
  simp (maxSteps := 999999) (disch := first | exact D (by decide) | exact K (by kernel_rfl)) only [E, EE, ↓reduceIte, simprocAttr, xk B4 [2, 2, 2, 2, 2] .sq rfl, xk B4 [1, 2, 2, 2, 2, 2] .sq rfl, show (nav B4 [1, 1, 2, 2, 2, 2, 2]) = Code.region 7 _ false from rfl, hk_4_7, hz_4_7, hs_4_7, u_25, i_25, is_25, ib_25, iz_25, xk B4 [2, 1, 2, 2, 2, 2, 2] (.bk 0) rfl, xk B4 [2, 2, 1, 2, 2, 2, 2, 2] .lp rfl, hh_4_8, hc_4_8]
  (try simp only [NM, EE] at hc3)
  rw [hc3 _ (by simp (maxSteps := 999999) (disch := first | exact D (by decide) | exact K (by kernel_rfl)) only [E, EE, ↓reduceIte, simprocAttr, hh_4_8, hc_4_8])]
  clear hc3
  cases o1 with
  | o0 _ _ _ _ _ _ _ _ _ _ _ =>
    (try dsimp only at hF)
    cases hF
  | o1 v4 v5 v6 v7 v8 v9 v10 v11 v12 v13 v14 v15 =>
    (try dsimp only at hF)
    have hJ := f4_airzai4zr_j4_ok k v4 v5 v6 v7 v8 v9 v10 v11 v12 v13 v14 v15 _ hF
    simp (maxSteps := 999999) (disch := first | exact D (by decide) | exact K (by kernel_rfl)) only [E, EE, ↓reduceIte, simprocAttr, R4_airzai4zr_l3.st]
    try simp only [NM, EE] at hJ
    exact hJ
noncomputable def f4_airzai4zr_j1 (k : Nat) (x2 : List Int) (x19 : Bool) (m3 : Int) (m3_1 : List T44) (m4 m4_1 m4_2 m4_3 : Int) : Option R4_airzai4zr :=
  Option.bind (f12_airz k m3 m3_1) fun o1 =>
    match o1 with
    | .o0 v4 =>
      Option.bind (f8_airzriiii k m3 m3_1 v4 m4 m4_1 m4_2 m4_3) fun o5 =>
        match o5 with
        | .o0 v8 v9 v10 =>
          cond ((v10 != 0))
            (some (R4_airzai4zr.o0 (v9 == 0)))
            (f4_airzai4zr_j2 k x2 v9 false m3 m3_1 m4 m4_1 m4_2 m4_3 v4)
theorem f4_airzai4zr_j1_ok (k : Nat) (x2 : List Int) (x19 : Bool) (m3 : Int) (m3_1 : List T44) (m4 m4_1 m4_2 m4_3 : Int) (r : R4_airzai4zr) (hF : f4_airzai4zr_j1 k x2 x19 m3 m3_1 m4 m4_1 m4_2 m4_3 = some r) : finK Try.prog Try.f4 0 (EX 4 k (nav B4 [2, 2]) ({ n := 111, F := [(2, V.sl 1 (rowsOf (encI .i64) x2)), (3, V.ptr 3 0), (4, V.ptr 4 0), (19, V.p (Value.bool x19))], M := [(3, O.box 24 [V.p (Value.int .i64 m3), V.sl 6 (rowsOf encT44 m3_1)]), (4, O.box 27 [V.p (Value.int .i64 m4), V.p (Value.int .i64 m4_1), V.p (Value.int .i64 m4_2), V.p (Value.int .i64 m4_3)])] } : St)) = some r.st := by
  unfold f4_airzai4zr_j1 at hF
  replace hF := Option.bind_eq_some_iff.1 hF
  obtain ⟨o1, h2, hF⟩ := hF
  have hc3 := f12_airz_ok k m3 m3_1 _ h2
  cases o1 with
  | o0 v4 =>
    (try dsimp only at hF)
    (try simp only [NM, EE, R12_airz.st] at hc3)
    replace hF := Option.bind_eq_some_iff.1 hF
    obtain ⟨o5, h6, hF⟩ := hF
    have hc7 := f8_airzriiii_ok k m3 m3_1 v4 m4 m4_1 m4_2 m4_3 _ h6
    cases o5 with
    | o0 v8 v9 v10 =>
      (try dsimp only at hF)
      (try simp only [NM, EE, R8_airzriiii.st] at hc7)
      simp (maxSteps := 999999) (disch := first | exact D (by decide) | exact K (by kernel_rfl)) only [E, EE, ↓reduceIte, simprocAttr, xk B4 [2, 2] .sq rfl, show (nav B4 [1, 2, 2]) = Code.region 3 _ false from rfl, hk_4_3, hz_4_3, hs_4_3, u_24, i_24, is_24, ib_24, iz_24, callStep, CL, gv, List.contains, xk B4 [2, 2, 2] .sq rfl, show (nav B4 [1, 2, 2, 2]) = Code.region 4 _ false from rfl, hk_4_4, hz_4_4, hs_4_4, fieldAddrV, u_27, i_27, is_27, ib_27, iz_27, u_3, i_3, is_3, ib_3, iz_3, xk B4 [2, 2, 2, 2] .sq rfl, xk B4 [1, 2, 2, 2, 2] .sq rfl, show (nav B4 [1, 1, 2, 2, 2, 2]) = Code.region 5 _ false from rfl, hk_4_5, hz_4_5, hs_4_5, xk B4 [2, 1, 2, 2, 2, 2] (.cd 38) rfl, hc3, hc7]
      replace hF := cond_some hF
      rcases hF with ⟨h11, hF⟩ | ⟨h11, hF⟩
      · cases hF
        simp (maxSteps := 999999) (disch := first | exact D (by decide) | exact K (by kernel_rfl)) only [E, EE, ↓reduceIte, simprocAttr, xk B4 [2, 2, 1, 2, 2, 2, 2] .sq rfl, show (nav B4 [1, 2, 2, 1, 2, 2, 2, 2]) = Code.region 6 _ false from rfl, hk_4_6, hz_4_6, hs_4_6, xk B4 [2, 2, 2, 1, 2, 2, 2, 2] .rt rfl, finK_norm, finK_ret, fin4, R4_airzai4zr.st, hc3, hc7, h11]
      · have hJ := f4_airzai4zr_j2_ok k x2 v9 false m3 m3_1 m4 m4_1 m4_2 m4_3 v4 _ hF
        simp (maxSteps := 999999) (disch := first | exact D (by decide) | exact K (by kernel_rfl)) only [E, EE, ↓reduceIte, simprocAttr, xk B4 [3, 2, 1, 2, 2, 2, 2] .sk rfl, hc3, hc7, h11]
        try simp only [NM, EE] at hJ
        exact hJ
noncomputable def f4_airzai4zr_e (k : Nat) (a0 : Int) (a0_1 : List T44) (a1 a1_1 a1_2 a1_3 : Int) (a2 : List Int) : Option R4_airzai4zr :=
  Option.bind (f7_ k) fun o1 =>
    match o1 with
    | .o0 v4 =>
      cond ((!v4))
        (some (R4_airzai4zr.o0 false))
        (f4_airzai4zr_j1 k a2 false a0 a0_1 a1 a1_1 a1_2 a1_3)
theorem f4_airzai4zr_e_ok (k : Nat) (a0 : Int) (a0_1 : List T44) (a1 a1_1 a1_2 a1_3 : Int) (a2 : List Int) (r : R4_airzai4zr) (hF : f4_airzai4zr_e k a0 a0_1 a1 a1_1 a1_2 a1_3 a2 = some r) : finK Try.prog Try.f4 0 (EX 4 k (nav B4 []) ({ n := 111, F := [(0, V.agg [V.p (Value.int .i64 a0), V.sl 6 (rowsOf encT44 a0_1)]), (1, V.agg [V.p (Value.int .i64 a1), V.p (Value.int .i64 a1_1), V.p (Value.int .i64 a1_2), V.p (Value.int .i64 a1_3)]), (2, V.sl 1 (rowsOf (encI .i64) a2))], M := [] } : St)) = some r.st := by
  unfold f4_airzai4zr_e at hF
  replace hF := Option.bind_eq_some_iff.1 hF
  obtain ⟨o1, h2, hF⟩ := hF
  have hc3 := f7__ok k _ h2
  cases o1 with
  | o0 v4 =>
    (try dsimp only at hF)
    (try simp only [NM, EE, R7_.st] at hc3)
    simp (maxSteps := 999999) (disch := first | exact D (by decide) | exact K (by kernel_rfl)) only [E, EE, ↓reduceIte, simprocAttr, xk B4 [] .sq rfl, show (nav B4 [1]) = Code.region 0 _ false from rfl, hk_4_0, hz_4_0, hs_4_0, xk B4 [2] .sq rfl, xk B4 [1, 2] .sq rfl, show (nav B4 [1, 1, 2]) = Code.region 1 _ false from rfl, hk_4_1, hz_4_1, hs_4_1, callStep, CL, gv, List.contains, xk B4 [2, 1, 2] (.cd 19) rfl, hc3]
    replace hF := cond_some hF
    rcases hF with ⟨h5, hF⟩ | ⟨h5, hF⟩
    · cases hF
      simp (maxSteps := 999999) (disch := first | exact D (by decide) | exact K (by kernel_rfl)) only [E, EE, ↓reduceIte, simprocAttr, xk B4 [2, 2, 1, 2] .sq rfl, show (nav B4 [1, 2, 2, 1, 2]) = Code.region 2 _ false from rfl, hk_4_2, hz_4_2, hs_4_2, xk B4 [2, 2, 2, 1, 2] .rt rfl, finK_norm, finK_ret, fin4, R4_airzai4zr.st, hc3, h5]
    · have hJ := f4_airzai4zr_j1_ok k a2 false a0 a0_1 a1 a1_1 a1_2 a1_3 _ hF
      simp (maxSteps := 999999) (disch := first | exact D (by decide) | exact K (by kernel_rfl)) only [E, EE, ↓reduceIte, simprocAttr, xk B4 [3, 2, 1, 2] .sk rfl, hc3, h5]
      try simp only [NM, EE] at hJ
      exact hJ
noncomputable def f4_airzai4zr (k : Nat) (a0 : Int) (a0_1 : List T44) (a1 a1_1 a1_2 a1_3 : Int) (a2 : List Int) : Option R4_airzai4zr := match k with | 0 => none | k + 1 => f4_airzai4zr_e k a0 a0_1 a1 a1_1 a1_2 a1_3 a2
theorem f4_airzai4zr_ok (k : Nat) (a0 : Int) (a0_1 : List T44) (a1 a1_1 a1_2 a1_3 : Int) (a2 : List Int) (r : R4_airzai4zr) (hF : f4_airzai4zr k a0 a0_1 a1 a1_1 a1_2 a1_3 a2 = some r) : CV k 4 [V.agg [V.p (Value.int .i64 a0), V.sl 6 (rowsOf encT44 a0_1)], V.agg [V.p (Value.int .i64 a1), V.p (Value.int .i64 a1_1), V.p (Value.int .i64 a1_2), V.p (Value.int .i64 a1_3)], V.sl 1 (rowsOf (encI .i64) a2)] [] = some r.st := by
  cases k with
  | zero => cases hF
  | succ k =>
    unfold CV
    rw [ev_call (F := Try.f4) (c := (nav B4 [])) rfl Try.func4 rfl rfl rfl rfl]
    exact f4_airzai4zr_e_ok k a0 a0_1 a1 a1_1 a1_2 a1_3 a2 r hF
end Go.Proofs.YtmogplhglcodjaaV
