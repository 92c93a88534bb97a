/- What the program's functions answer: plain functions, and that the interpreter answers what they do. Written by a program of this session, out of the translation. -/
import Derived.Test.YtiompmmbjpjjeaaDoorVPC
namespace Go.Proofs.YtiompmmbjpjjeaaDoorV
open Go
set_option linter.unusedVariables false
set_option linter.unusedSimpArgs false
set_option maxRecDepth 8000
set_option maxHeartbeats 4000000
-- f8_: f8 heliograph/heliographlaw20.wakes
inductive R8_ where
  | o0 (y : Bool)
noncomputable def R8_.st : R8_ → V × List O × List O
  | .o0 y => (V.p (Value.bool y), [], [])
noncomputable def f8_ (k : Nat) : Option R8_ := ifE (200 ≤ k) (some (.o0 true))
theorem f8__ok (k : Nat) (r : R8_) (hF : f8_ k = some r) : CV k 8 [] [] = some r.st := by
  obtain ⟨h, hF⟩ := ifE_some.1 hF
  cases hF
  exact callV_le h wakes
-- f21_arrrrz: f21 heliograph/heliographlaw20.QueueSame$1
inductive R21_arrrrz where
  | o0 (y : List T56) (y_1 y_2 : List T44) (y_3 : List Int)
noncomputable def R21_arrrrz.st : R21_arrrrz → V × List O × List O
  | .o0 y y_1 y_2 y_3 => (V.agg [V.sl 5 (rowsOf encT56 y), V.sl 3 (rowsOf encT44 y_1), V.sl 3 (rowsOf encT44 y_2), V.sl 1 (rowsOf (encI .i64) y_3)], [], [])
noncomputable def f21_arrrrz_e (k : Nat) (a0 : List T56) (a0_1 a0_2 : List T44) (a0_3 : List Int) : Option R21_arrrrz :=
  ifE ((0 : Int) ≤ (if (20 : Int) < ((List.length a0) : Int) then 20 else ((List.length a0) : Int))) (
    ifE ((Int.toNat ((if (20 : Int) < ((List.length a0) : Int) then 20 else ((List.length a0) : Int)))) ≤ (List.length a0)) (
      ifE ((0 : Int) ≤ (if (20 : Int) < ((List.length a0_1) : Int) then 20 else ((List.length a0_1) : Int))) (
        ifE ((Int.toNat ((if (20 : Int) < ((List.length a0_1) : Int) then 20 else ((List.length a0_1) : Int)))) ≤ (List.length a0_1)) (
          ifE ((0 : Int) ≤ (if (20 : Int) < ((List.length a0_2) : Int) then 20 else ((List.length a0_2) : Int))) (
            ifE ((Int.toNat ((if (20 : Int) < ((List.length a0_2) : Int) then 20 else ((List.length a0_2) : Int)))) ≤ (List.length a0_2)) (
              ifE ((0 : Int) ≤ (if (30 : Int) < ((List.length a0_3) : Int) then 30 else ((List.length a0_3) : Int))) (
                ifE ((Int.toNat ((if (30 : Int) < ((List.length a0_3) : Int) then 30 else ((List.length a0_3) : Int)))) ≤ (List.length a0_3)) (
                  some (R21_arrrrz.o0 ((List.take ((Int.toNat ((if (20 : Int) < ((List.length a0) : Int) then 20 else ((List.length a0) : Int))))) a0)) ((List.take ((Int.toNat ((if (20 : Int) < ((List.length a0_1) : Int) then 20 else ((List.length a0_1) : Int))))) a0_1)) ((List.take ((Int.toNat ((if (20 : Int) < ((List.length a0_2) : Int) then 20 else ((List.length a0_2) : Int))))) a0_2)) ((List.take ((Int.toNat ((if (30 : Int) < ((List.length a0_3) : Int) then 30 else ((List.length a0_3) : Int))))) a0_3)))))))))))
theorem f21_arrrrz_e_ok (k : Nat) (a0 : List T56) (a0_1 a0_2 : List T44) (a0_3 : List Int) (r : R21_arrrrz) (hF : f21_arrrrz_e k a0 a0_1 a0_2 a0_3 = some r) : finK Tryd.prog Tryd.f21 0 (EX 21 k (nav B21 []) ({ n := 36, F := [(0, V.agg [V.sl 5 (rowsOf encT56 a0), V.sl 3 (rowsOf encT44 a0_1), V.sl 3 (rowsOf encT44 a0_2), V.sl 1 (rowsOf (encI .i64) a0_3)])], M := [] } : St)) = some r.st := by
  unfold f21_arrrrz_e at hF
  replace hF := ifE_some.1 hF
  obtain ⟨h1, hF⟩ := hF
  replace hF := ifE_some.1 hF
  obtain ⟨h2, hF⟩ := hF
  replace hF := ifE_some.1 hF
  obtain ⟨h3, hF⟩ := hF
  replace hF := ifE_some.1 hF
  obtain ⟨h4, hF⟩ := hF
  replace hF := ifE_some.1 hF
  obtain ⟨h5, hF⟩ := hF
  replace hF := ifE_some.1 hF
  obtain ⟨h6, hF⟩ := hF
  replace hF := ifE_some.1 hF
  obtain ⟨h7, hF⟩ := hF
  replace hF := ifE_some.1 hF
  obtain ⟨h8, hF⟩ := hF
  cases hF
  simp (maxSteps := 999999) (disch := first | exact D (by decide) | exact K (by kernel_rfl)) only [E, EE, ↓reduceIte, simprocAttr, xk B21 [] .sq rfl, show (nav B21 [1]) = Code.region 0 _ false from rfl, hk_21_0, hz_21_0, hs_21_0, u_37, i_37, is_37, ib_37, iz_37, xk B21 [2] .sq rfl, show (nav B21 [1, 2]) = Code.region 1 _ true from rfl, hk_21_1, hz_21_1, hs_21_1, fieldAddrV, u_35, i_35, is_35, ib_35, iz_35, minmaxV, minmaxGo, sliceV, bound, u_56, i_56, is_56, ib_56, iz_56, u_26, i_26, is_26, ib_26, iz_26, u_44, i_44, is_44, ib_44, iz_44, u_25, i_25, is_25, ib_25, iz_25, u_3, i_3, is_3, ib_3, iz_3, xk B21 [2, 2] .sq rfl, show (nav B21 [1, 2, 2]) = Code.region 2 _ false from rfl, hk_21_2, hz_21_2, hs_21_2, xk B21 [2, 2, 2] .rt rfl, finK_norm, finK_ret, fin21, R21_arrrrz.st, h1, h2, h3, h4, h5, h6, h7, h8]
noncomputable def f21_arrrrz (k : Nat) (a0 : List T56) (a0_1 a0_2 : List T44) (a0_3 : List Int) : Option R21_arrrrz := match k with | 0 => none | k + 1 => f21_arrrrz_e k a0 a0_1 a0_2 a0_3
theorem f21_arrrrz_ok (k : Nat) (a0 : List T56) (a0_1 a0_2 : List T44) (a0_3 : List Int) (r : R21_arrrrz) (hF : f21_arrrrz k a0 a0_1 a0_2 a0_3 = some r) : CV k 21 [V.agg [V.sl 5 (rowsOf encT56 a0), V.sl 3 (rowsOf encT44 a0_1), V.sl 3 (rowsOf encT44 a0_2), V.sl 1 (rowsOf (encI .i64) a0_3)]] [] = some r.st := by
  cases k with
  | zero => cases hF
  | succ k =>
    unfold CV
    rw [ev_call (F := Tryd.f21) (c := (nav B21 [])) rfl Tryd.func21 rfl rfl rfl rfl]
    exact f21_arrrrz_e_ok k a0 a0_1 a0_2 a0_3 r hF
-- f43_rr: f43 slices.Equal[[]heliograph/api.Go,heliograph/api.Go]
inductive R43_rr where
  | o0 (y : Bool)
noncomputable def R43_rr.st : R43_rr → V × List O × List O
  | .o0 y => (V.p (Value.bool y), [], [])
inductive R43_rr_l2 where
  | o0 (y : Bool)
  | o1 (y y_1 : List T56) (y_2 y_3 : Int)
  | o2 (y y_1 : List T56) (y_2 y_3 : Int) (y_4 : Bool)
noncomputable def R43_rr_l2.st : R43_rr_l2 → Out × St
  | .o0 y => (.ret, ({ n := 26, F := [(4, V.p (Value.bool y))], M := [] } : St))
  | .o1 y y_1 y_2 y_3 => (.norm, ({ n := 26, F := [(0, V.sl 5 (rowsOf encT56 y)), (1, V.sl 5 (rowsOf encT56 y_1)), (12, V.p (Value.int .i64 y_2)), (13, V.p (Value.int .i64 y_3))], M := [] } : St))
  | .o2 y y_1 y_2 y_3 y_4 => (.exit 0, ({ n := 26, F := [(0, V.sl 5 (rowsOf encT56 y)), (1, V.sl 5 (rowsOf encT56 y_1)), (12, V.p (Value.int .i64 y_2)), (13, V.p (Value.int .i64 y_3)), (14, V.p (Value.bool y_4))], M := [] } : St))
noncomputable def f43_rr_l2_j2 (k : Nat) (x0 x1 : List T56) (x12 x13 : Int) (x24 : Bool) : Option R43_rr_l2 :=
  some (R43_rr_l2.o1 x0 x1 x12 (IntKind.i64.wrap (x13 + (1 : Int))))
theorem f43_rr_l2_j2_ok (k : Nat) (x0 x1 : List T56) (x12 x13 : Int) (x24 : Bool) (r : R43_rr_l2) (hF : f43_rr_l2_j2 k x0 x1 x12 x13 x24 = some r) : EX 43 k (nav B43 [2, 2, 2, 1, 2, 2, 1, 2, 2]) ({ n := 26, F := [(0, V.sl 5 (rowsOf encT56 x0)), (1, V.sl 5 (rowsOf encT56 x1)), (12, V.p (Value.int .i64 x12)), (13, V.p (Value.int .i64 x13)), (24, V.p (Value.bool x24))], M := [] } : St) = some r.st := by
  unfold f43_rr_l2_j2 at hF
  cases hF
  simp (maxSteps := 999999) (disch := first | exact D (by decide) | exact K (by kernel_rfl)) only [E, EE, ↓reduceIte, simprocAttr, show (nav B43 [2, 2, 2, 1, 2, 2, 1, 2, 2]) = Code.region 8 _ false from rfl, hk_43_8, hz_43_8, hs_43_8, R43_rr_l2.st]
noncomputable def f43_rr_l2_j1 (k : Nat) (x0 x1 : List T56) (x12 x13 : Int) (x14 : Bool) : Option R43_rr_l2 :=
  ifE ((0 : Int) ≤ x13) (
    Option.bind (x0[(Int.toNat x13)]?) fun v2 =>
      Option.bind (x1[(Int.toNat x13)]?) fun v4 =>
        cond ((!(((v2.Key_Source == v4.Key_Source) && ((v2.Key_Seq == v4.Key_Seq) && (v2.Key_Offset == v4.Key_Offset))) && ((v2.To == v4.To) && (v2.Contact == v4.Contact)))))
          (some (R43_rr_l2.o0 false))
          (f43_rr_l2_j2 k x0 x1 x12 x13 false))
theorem f43_rr_l2_j1_ok (k : Nat) (x0 x1 : List T56) (x12 x13 : Int) (x14 : Bool) (r : R43_rr_l2) (hF : f43_rr_l2_j1 k x0 x1 x12 x13 x14 = some r) : EX 43 k (nav B43 [2, 2, 1, 2, 2, 1, 2, 2]) ({ n := 26, F := [(0, V.sl 5 (rowsOf encT56 x0)), (1, V.sl 5 (rowsOf encT56 x1)), (12, V.p (Value.int .i64 x12)), (13, V.p (Value.int .i64 x13)), (14, V.p (Value.bool x14))], M := [] } : St) = some r.st := by
  unfold f43_rr_l2_j1 at hF
  replace hF := ifE_some.1 hF
  obtain ⟨h1, hF⟩ := hF
  replace hF := Option.bind_eq_some_iff.1 hF
  obtain ⟨v2, h3, hF⟩ := hF
  replace hF := Option.bind_eq_some_iff.1 hF
  obtain ⟨v4, h5, hF⟩ := hF
  simp (maxSteps := 999999) (disch := first | exact D (by decide) | exact K (by kernel_rfl)) only [E, EE, ↓reduceIte, simprocAttr, xk B43 [2, 2, 1, 2, 2, 1, 2, 2] .sq rfl, xk B43 [1, 2, 2, 1, 2, 2, 1, 2, 2] (.bk 1) rfl, xk B43 [2, 1, 2, 2, 1, 2, 2, 1, 2, 2] .sq rfl, show (nav B43 [1, 2, 1, 2, 2, 1, 2, 2, 1, 2, 2]) = Code.region 5 _ false from rfl, hk_43_5, hz_43_5, hs_43_5, xk B43 [2, 2, 1, 2, 2, 1, 2, 2, 1, 2, 2] .sq rfl, show (nav B43 [1, 2, 2, 1, 2, 2, 1, 2, 2, 1, 2, 2]) = Code.region 6 _ true from rfl, hk_43_6, hz_43_6, hs_43_6, indexAddrV, u_35, i_35, is_35, ib_35, iz_35, u_56, i_56, is_56, ib_56, iz_56, encT56_eq, ag_56, ag_44, u_44, i_44, is_44, ib_44, iz_44, u_3, i_3, is_3, ib_3, iz_3, u_42, i_42, is_42, ib_42, iz_42, xk B43 [2, 2, 2, 1, 2, 2, 1, 2, 2, 1, 2, 2] (.cd 24) rfl, h1, h3, h5]
  replace hF := cond_some hF
  rcases hF with ⟨h6, hF⟩ | ⟨h6, hF⟩
  · cases hF
    simp (maxSteps := 999999) (disch := first | exact D (by decide) | exact K (by kernel_rfl)) only [E, EE, ↓reduceIte, simprocAttr, xk B43 [2, 2, 2, 2, 1, 2, 2, 1, 2, 2, 1, 2, 2] .sq rfl, show (nav B43 [1, 2, 2, 2, 2, 1, 2, 2, 1, 2, 2, 1, 2, 2]) = Code.region 7 _ false from rfl, hk_43_7, hz_43_7, hs_43_7, xk B43 [2, 2, 2, 2, 2, 1, 2, 2, 1, 2, 2, 1, 2, 2] .rt rfl, R43_rr_l2.st, h1, h3, h5, h6]
  · have hJ := f43_rr_l2_j2_ok k x0 x1 x12 x13 false _ hF
    simp (maxSteps := 999999) (disch := first | exact D (by decide) | exact K (by kernel_rfl)) only [E, EE, ↓reduceIte, simprocAttr, xk B43 [3, 2, 2, 2, 1, 2, 2, 1, 2, 2, 1, 2, 2] .sk rfl, h1, h3, h5, h6]
    try simp only [NM, EE] at hJ
    exact hJ
noncomputable def f43_rr_l2_b (k : Nat) (x0 x1 : List T56) (x12 x13 : Int) : Option R43_rr_l2 :=
  cond ((decide (x13 < x12)))
    (f43_rr_l2_j1 k x0 x1 x12 x13 true)
    (some (R43_rr_l2.o2 x0 x1 x12 x13 false))
theorem f43_rr_l2_b_ok (k : Nat) (x0 x1 : List T56) (x12 x13 : Int) (r : R43_rr_l2) (hF : f43_rr_l2_b k x0 x1 x12 x13 = some r) : EX 43 k (nav B43 [1, 2, 2, 1, 2, 2]) ({ n := 26, F := [(0, V.sl 5 (rowsOf encT56 x0)), (1, V.sl 5 (rowsOf encT56 x1)), (12, V.p (Value.int .i64 x12)), (13, V.p (Value.int .i64 x13))], M := [] } : St) = some r.st := by
  unfold f43_rr_l2_b at hF
  simp (maxSteps := 999999) (disch := first | exact D (by decide) | exact K (by kernel_rfl)) only [E, EE, ↓reduceIte, simprocAttr, xk B43 [1, 2, 2, 1, 2, 2] .sq rfl, show (nav B43 [1, 1, 2, 2, 1, 2, 2]) = Code.region 4 _ false from rfl, hk_43_4, hz_43_4, hs_43_4, xk B43 [2, 1, 2, 2, 1, 2, 2] .sq rfl, xk B43 [1, 2, 1, 2, 2, 1, 2, 2] (.cd 14) rfl]
  replace hF := cond_some hF
  rcases hF with ⟨h1, hF⟩ | ⟨h1, hF⟩
  · have hJ := f43_rr_l2_j1_ok k x0 x1 x12 x13 true _ hF
    simp (maxSteps := 999999) (disch := first | exact D (by decide) | exact K (by kernel_rfl)) only [E, EE, ↓reduceIte, simprocAttr, xk B43 [2, 1, 2, 1, 2, 2, 1, 2, 2] .sk rfl, h1]
    try simp only [NM, EE] at hJ
    exact hJ
  · cases hF
    simp (maxSteps := 999999) (disch := first | exact D (by decide) | exact K (by kernel_rfl)) only [E, EE, ↓reduceIte, simprocAttr, xk B43 [3, 1, 2, 1, 2, 2, 1, 2, 2] (.ex 0) rfl, R43_rr_l2.st, h1]
noncomputable def f43_rr_l2 (k : Nat) : Nat → (List T56) → (List T56) → Int → Int → Option R43_rr_l2
  | 0, _, _, _, _ => none
  | n + 1, x0, x1, x12, x13 => Option.bind (f43_rr_l2_b k x0 x1 x12 x13) fun o =>
    match o with
    | .o0 y => some (.o0 y)
    | .o1 y y_1 y_2 y_3 => f43_rr_l2 k n y y_1 y_2 y_3
    | .o2 y y_1 y_2 y_3 y_4 => some (.o2 y y_1 y_2 y_3 y_4)
theorem f43_rr_l2_ok (k n : Nat) : ∀ (x0 x1 : List T56) (x12 x13 : Int) (r : R43_rr_l2) (hF : f43_rr_l2 k n x0 x1 x12 x13 = some r) (σ : St) (hσ : headR (hints.head 43 4) (hints.canon 43 4) σ = some ({ n := 26, F := [(0, V.sl 5 (rowsOf encT56 x0)), (1, V.sl 5 (rowsOf encT56 x1)), (12, V.p (Value.int .i64 x12)), (13, V.p (Value.int .i64 x13))], M := [] } : St)), LP 43 k (nav B43 [1, 2, 2, 1, 2, 2]) n σ = some r.st := by
  induction n with
  | zero => intro x0 x1 x12 x13 r hF; cases hF
  | succ n ih =>
    intro x0 x1 x12 x13 r hF σ hσ
    rw [f43_rr_l2] at hF
    obtain ⟨o, h, hF⟩ := Option.bind_eq_some_iff.1 hF
    have hB := f43_rr_l2_b_ok k x0 x1 x12 x13 o h
    unfold LP at ih ⊢
    unfold EX at hB
    rw [loopK_succ, show firstReg (nav B43 [1, 2, 2, 1, 2, 2]) = 4 from rfl, hσ, headK_some, hB]
    cases o with
    | o0 y => cases hF; rfl
    | o1 y y_1 y_2 y_3 =>
      refine ih y y_1 y_2 y_3 r hF _ ?_
      simp (maxSteps := 999999) (disch := first | exact D (by decide) | exact K (by kernel_rfl)) only [E, EE, ↓reduceIte, simprocAttr, hh_43_4, hc_43_4]
    | o2 y y_1 y_2 y_3 y_4 => cases hF; rfl
noncomputable def f43_rr_j3 (k : Nat) (x0 x1 : List T56) (x12 x13 : Int) (x14 : Bool) : Option R43_rr :=
  some (R43_rr.o0 true)
theorem f43_rr_j3_ok (k : Nat) (x0 x1 : List T56) (x12 x13 : Int) (x14 : Bool) (r : R43_rr) (hF : f43_rr_j3 k x0 x1 x12 x13 x14 = some r) : finK Tryd.prog Tryd.f43 0 (EX 43 k (nav B43 [2, 2, 2]) ({ n := 26, F := [(0, V.sl 5 (rowsOf encT56 x0)), (1, V.sl 5 (rowsOf encT56 x1)), (12, V.p (Value.int .i64 x12)), (13, V.p (Value.int .i64 x13)), (14, V.p (Value.bool x14))], M := [] } : St)) = some r.st := by
  unfold f43_rr_j3 at hF
  cases hF
  simp (maxSteps := 999999) (disch := first | exact D (by decide) | exact K (by kernel_rfl)) only [E, EE, ↓reduceIte, simprocAttr, xk B43 [2, 2, 2] .sq rfl, show (nav B43 [1, 2, 2, 2]) = Code.region 9 _ false from rfl, hk_43_9, hz_43_9, hs_43_9, xk B43 [2, 2, 2, 2] .rt rfl, finK_norm, finK_ret, fin43, R43_rr.st]
noncomputable def f43_rr_j1 (k : Nat) (x0 x1 : List T56) (x10 : Bool) : Option R43_rr :=
  Option.bind (f43_rr_l2 k k x0 x1 ((List.length x0) : Int) 0) fun o1 =>
    match o1 with
    | .o0 v4 =>
      some (R43_rr.o0 v4)
    | .o1 _ _ _ _ =>
      none
    | .o2 v5 v6 v7 v8 v9 =>
      f43_rr_j3 k v5 v6 v7 v8 v9
theorem f43_rr_j1_ok (k : Nat) (x0 x1 : List T56) (x10 : Bool) (r : R43_rr) (hF : f43_rr_j1 k x0 x1 x10 = some r) : finK Tryd.prog Tryd.f43 0 (EX 43 k (nav B43 [2, 2]) ({ n := 26, F := [(0, V.sl 5 (rowsOf encT56 x0)), (1, V.sl 5 (rowsOf encT56 x1)), (10, V.p (Value.bool x10))], M := [] } : St)) = some r.st := by
  unfold f43_rr_j1 at hF
  replace hF := Option.bind_eq_some_iff.1 hF
  obtain ⟨o1, h2, hF⟩ := hF
  have hc3 := f43_rr_l2_ok k k x0 x1 ((List.length x0) : Int) 0 _ h2
  simp (maxSteps := 999999) (disch := first | exact D (by decide) | exact K (by kernel_rfl)) only [E, EE, ↓reduceIte, simprocAttr, xk B43 [2, 2] .sq rfl, xk B43 [1, 2, 2] .sq rfl, show (nav B43 [1, 1, 2, 2]) = Code.region 3 _ false from rfl, hk_43_3, hz_43_3, hs_43_3, u_35, i_35, is_35, ib_35, iz_35, xk B43 [2, 1, 2, 2] (.bk 0) rfl, xk B43 [2, 2, 1, 2, 2] .lp rfl, hh_43_4, hc_43_4]
  (try simp only [NM, EE] at hc3)
  rw [hc3 _ (by simp (maxSteps := 999999) (disch := first | exact D (by decide) | exact K (by kernel_rfl)) only [E, EE, ↓reduceIte, simprocAttr, hh_43_4, hc_43_4])]
  clear hc3
  cases o1 with
  | o0 v4 =>
    (try dsimp only at hF)
    cases hF
    simp (maxSteps := 999999) (disch := first | exact D (by decide) | exact K (by kernel_rfl)) only [E, EE, ↓reduceIte, simprocAttr, R43_rr_l2.st, finK_norm, finK_ret, fin43, R43_rr.st]
  | o1 _ _ _ _ =>
    (try dsimp only at hF)
    cases hF
  | o2 v5 v6 v7 v8 v9 =>
    (try dsimp only at hF)
    have hJ := f43_rr_j3_ok k v5 v6 v7 v8 v9 _ hF
    simp (maxSteps := 999999) (disch := first | exact D (by decide) | exact K (by kernel_rfl)) only [E, EE, ↓reduceIte, simprocAttr, R43_rr_l2.st]
    try simp only [NM, EE] at hJ
    exact hJ
noncomputable def f43_rr_e (k : Nat) (a0 a1 : List T56) : Option R43_rr :=
  cond ((((List.length a0) : Int) != ((List.length a1) : Int)))
    (some (R43_rr.o0 false))
    (f43_rr_j1 k a0 a1 false)
theorem f43_rr_e_ok (k : Nat) (a0 a1 : List T56) (r : R43_rr) (hF : f43_rr_e k a0 a1 = some r) : finK Tryd.prog Tryd.f43 0 (EX 43 k (nav B43 []) ({ n := 26, F := [(0, V.sl 5 (rowsOf encT56 a0)), (1, V.sl 5 (rowsOf encT56 a1))], M := [] } : St)) = some r.st := by
  unfold f43_rr_e at hF
  simp (maxSteps := 999999) (disch := first | exact D (by decide) | exact K (by kernel_rfl)) only [E, EE, ↓reduceIte, simprocAttr, xk B43 [] .sq rfl, show (nav B43 [1]) = Code.region 0 _ false from rfl, hk_43_0, hz_43_0, hs_43_0, xk B43 [2] .sq rfl, xk B43 [1, 2] .sq rfl, show (nav B43 [1, 1, 2]) = Code.region 1 _ false from rfl, hk_43_1, hz_43_1, hs_43_1, u_35, i_35, is_35, ib_35, iz_35, xk B43 [2, 1, 2] (.cd 10) rfl]
  replace hF := cond_some hF
  rcases hF with ⟨h1, hF⟩ | ⟨h1, hF⟩
  · cases hF
    simp (maxSteps := 999999) (disch := first | exact D (by decide) | exact K (by kernel_rfl)) only [E, EE, ↓reduceIte, simprocAttr, xk B43 [2, 2, 1, 2] .sq rfl, show (nav B43 [1, 2, 2, 1, 2]) = Code.region 2 _ false from rfl, hk_43_2, hz_43_2, hs_43_2, xk B43 [2, 2, 2, 1, 2] .rt rfl, finK_norm, finK_ret, fin43, R43_rr.st, h1]
  · have hJ := f43_rr_j1_ok k a0 a1 false _ hF
    simp (maxSteps := 999999) (disch := first | exact D (by decide) | exact K (by kernel_rfl)) only [E, EE, ↓reduceIte, simprocAttr, xk B43 [3, 2, 1, 2] .sk rfl, h1]
    try simp only [NM, EE] at hJ
    exact hJ
noncomputable def f43_rr (k : Nat) (a0 a1 : List T56) : Option R43_rr := match k with | 0 => none | k + 1 => f43_rr_e k a0 a1
theorem f43_rr_ok (k : Nat) (a0 a1 : List T56) (r : R43_rr) (hF : f43_rr k a0 a1 = some r) : CV k 43 [V.sl 5 (rowsOf encT56 a0), V.sl 5 (rowsOf encT56 a1)] [] = some r.st := by
  cases k with
  | zero => cases hF
  | succ k =>
    unfold CV
    rw [ev_call (F := Tryd.f43) (c := (nav B43 [])) rfl Tryd.func43 rfl rfl rfl rfl]
    exact f43_rr_e_ok k a0 a1 r hF
-- f44_rr: f44 slices.Equal[[]heliograph/api.Key,heliograph/api.Key]
inductive R44_rr where
  | o0 (y : Bool)
noncomputable def R44_rr.st : R44_rr → V × List O × List O
  | .o0 y => (V.p (Value.bool y), [], [])
inductive R44_rr_l2 where
  | o0 (y : Bool)
  | o1 (y y_1 : List T44) (y_2 y_3 : Int)
  | o2 (y y_1 : List T44) (y_2 y_3 : Int) (y_4 : Bool)
noncomputable def R44_rr_l2.st : R44_rr_l2 → Out × St
  | .o0 y => (.ret, ({ n := 26, F := [(4, V.p (Value.bool y))], M := [] } : St))
  | .o1 y y_1 y_2 y_3 => (.norm, ({ n := 26, F := [(0, V.sl 3 (rowsOf encT44 y)), (1, V.sl 3 (rowsOf encT44 y_1)), (12, V.p (Value.int .i64 y_2)), (13, V.p (Value.int .i64 y_3))], M := [] } : St))
  | .o2 y y_1 y_2 y_3 y_4 => (.exit 0, ({ n := 26, F := [(0, V.sl 3 (rowsOf encT44 y)), (1, V.sl 3 (rowsOf encT44 y_1)), (12, V.p (Value.int .i64 y_2)), (13, V.p (Value.int .i64 y_3)), (14, V.p (Value.bool y_4))], M := [] } : St))
noncomputable def f44_rr_l2_j2 (k : Nat) (x0 x1 : List T44) (x12 x13 : Int) (x24 : Bool) : Option R44_rr_l2 :=
  some (R44_rr_l2.o1 x0 x1 x12 (IntKind.i64.wrap (x13 + (1 : Int))))
theorem f44_rr_l2_j2_ok (k : Nat) (x0 x1 : List T44) (x12 x13 : Int) (x24 : Bool) (r : R44_rr_l2) (hF : f44_rr_l2_j2 k x0 x1 x12 x13 x24 = some r) : EX 44 k (nav B44 [2, 2, 2, 1, 2, 2, 1, 2, 2]) ({ n := 26, F := [(0, V.sl 3 (rowsOf encT44 x0)), (1, V.sl 3 (rowsOf encT44 x1)), (12, V.p (Value.int .i64 x12)), (13, V.p (Value.int .i64 x13)), (24, V.p (Value.bool x24))], M := [] } : St) = some r.st := by
  unfold f44_rr_l2_j2 at hF
  cases hF
  simp (maxSteps := 999999) (disch := first | exact D (by decide) | exact K (by kernel_rfl)) only [E, EE, ↓reduceIte, simprocAttr, show (nav B44 [2, 2, 2, 1, 2, 2, 1, 2, 2]) = Code.region 8 _ false from rfl, hk_44_8, hz_44_8, hs_44_8, R44_rr_l2.st]
noncomputable def f44_rr_l2_j1 (k : Nat) (x0 x1 : List T44) (x12 x13 : Int) (x14 : Bool) : Option R44_rr_l2 :=
  ifE ((0 : Int) ≤ x13) (
    Option.bind (x0[(Int.toNat x13)]?) fun v2 =>
      Option.bind (x1[(Int.toNat x13)]?) fun v4 =>
        cond ((!((v2.Source == v4.Source) && ((v2.Seq == v4.Seq) && (v2.Offset == v4.Offset)))))
          (some (R44_rr_l2.o0 false))
          (f44_rr_l2_j2 k x0 x1 x12 x13 false))
theorem f44_rr_l2_j1_ok (k : Nat) (x0 x1 : List T44) (x12 x13 : Int) (x14 : Bool) (r : R44_rr_l2) (hF : f44_rr_l2_j1 k x0 x1 x12 x13 x14 = some r) : EX 44 k (nav B44 [2, 2, 1, 2, 2, 1, 2, 2]) ({ n := 26, F := [(0, V.sl 3 (rowsOf encT44 x0)), (1, V.sl 3 (rowsOf encT44 x1)), (12, V.p (Value.int .i64 x12)), (13, V.p (Value.int .i64 x13)), (14, V.p (Value.bool x14))], M := [] } : St) = some r.st := by
  unfold f44_rr_l2_j1 at hF
  replace hF := ifE_some.1 hF
  obtain ⟨h1, hF⟩ := hF
  replace hF := Option.bind_eq_some_iff.1 hF
  obtain ⟨v2, h3, hF⟩ := hF
  replace hF := Option.bind_eq_some_iff.1 hF
  obtain ⟨v4, h5, hF⟩ := hF
  simp (maxSteps := 999999) (disch := first | exact D (by decide) | exact K (by kernel_rfl)) only [E, EE, ↓reduceIte, simprocAttr, xk B44 [2, 2, 1, 2, 2, 1, 2, 2] .sq rfl, xk B44 [1, 2, 2, 1, 2, 2, 1, 2, 2] (.bk 1) rfl, xk B44 [2, 1, 2, 2, 1, 2, 2, 1, 2, 2] .sq rfl, show (nav B44 [1, 2, 1, 2, 2, 1, 2, 2, 1, 2, 2]) = Code.region 5 _ false from rfl, hk_44_5, hz_44_5, hs_44_5, xk B44 [2, 2, 1, 2, 2, 1, 2, 2, 1, 2, 2] .sq rfl, show (nav B44 [1, 2, 2, 1, 2, 2, 1, 2, 2, 1, 2, 2]) = Code.region 6 _ true from rfl, hk_44_6, hz_44_6, hs_44_6, indexAddrV, u_26, i_26, is_26, ib_26, iz_26, u_44, i_44, is_44, ib_44, iz_44, encT44_eq, ag_44, u_3, i_3, is_3, ib_3, iz_3, u_42, i_42, is_42, ib_42, iz_42, xk B44 [2, 2, 2, 1, 2, 2, 1, 2, 2, 1, 2, 2] (.cd 24) rfl, h1, h3, h5]
  replace hF := cond_some hF
  rcases hF with ⟨h6, hF⟩ | ⟨h6, hF⟩
  · cases hF
    simp (maxSteps := 999999) (disch := first | exact D (by decide) | exact K (by kernel_rfl)) only [E, EE, ↓reduceIte, simprocAttr, xk B44 [2, 2, 2, 2, 1, 2, 2, 1, 2, 2, 1, 2, 2] .sq rfl, show (nav B44 [1, 2, 2, 2, 2, 1, 2, 2, 1, 2, 2, 1, 2, 2]) = Code.region 7 _ false from rfl, hk_44_7, hz_44_7, hs_44_7, xk B44 [2, 2, 2, 2, 2, 1, 2, 2, 1, 2, 2, 1, 2, 2] .rt rfl, R44_rr_l2.st, h1, h3, h5, h6]
  · have hJ := f44_rr_l2_j2_ok k x0 x1 x12 x13 false _ hF
    simp (maxSteps := 999999) (disch := first | exact D (by decide) | exact K (by kernel_rfl)) only [E, EE, ↓reduceIte, simprocAttr, xk B44 [3, 2, 2, 2, 1, 2, 2, 1, 2, 2, 1, 2, 2] .sk rfl, h1, h3, h5, h6]
    try simp only [NM, EE] at hJ
    exact hJ
noncomputable def f44_rr_l2_b (k : Nat) (x0 x1 : List T44) (x12 x13 : Int) : Option R44_rr_l2 :=
  cond ((decide (x13 < x12)))
    (f44_rr_l2_j1 k x0 x1 x12 x13 true)
    (some (R44_rr_l2.o2 x0 x1 x12 x13 false))
theorem f44_rr_l2_b_ok (k : Nat) (x0 x1 : List T44) (x12 x13 : Int) (r : R44_rr_l2) (hF : f44_rr_l2_b k x0 x1 x12 x13 = some r) : EX 44 k (nav B44 [1, 2, 2, 1, 2, 2]) ({ n := 26, F := [(0, V.sl 3 (rowsOf encT44 x0)), (1, V.sl 3 (rowsOf encT44 x1)), (12, V.p (Value.int .i64 x12)), (13, V.p (Value.int .i64 x13))], M := [] } : St) = some r.st := by
  unfold f44_rr_l2_b at hF
  simp (maxSteps := 999999) (disch := first | exact D (by decide) | exact K (by kernel_rfl)) only [E, EE, ↓reduceIte, simprocAttr, xk B44 [1, 2, 2, 1, 2, 2] .sq rfl, show (nav B44 [1, 1, 2, 2, 1, 2, 2]) = Code.region 4 _ false from rfl, hk_44_4, hz_44_4, hs_44_4, xk B44 [2, 1, 2, 2, 1, 2, 2] .sq rfl, xk B44 [1, 2, 1, 2, 2, 1, 2, 2] (.cd 14) rfl]
  replace hF := cond_some hF
  rcases hF with ⟨h1, hF⟩ | ⟨h1, hF⟩
  · have hJ := f44_rr_l2_j1_ok k x0 x1 x12 x13 true _ hF
    simp (maxSteps := 999999) (disch := first | exact D (by decide) | exact K (by kernel_rfl)) only [E, EE, ↓reduceIte, simprocAttr, xk B44 [2, 1, 2, 1, 2, 2, 1, 2, 2] .sk rfl, h1]
    try simp only [NM, EE] at hJ
    exact hJ
  · cases hF
    simp (maxSteps := 999999) (disch := first | exact D (by decide) | exact K (by kernel_rfl)) only [E, EE, ↓reduceIte, simprocAttr, xk B44 [3, 1, 2, 1, 2, 2, 1, 2, 2] (.ex 0) rfl, R44_rr_l2.st, h1]
noncomputable def f44_rr_l2 (k : Nat) : Nat → (List T44) → (List T44) → Int → Int → Option R44_rr_l2
  | 0, _, _, _, _ => none
  | n + 1, x0, x1, x12, x13 => Option.bind (f44_rr_l2_b k x0 x1 x12 x13) fun o =>
    match o with
    | .o0 y => some (.o0 y)
    | .o1 y y_1 y_2 y_3 => f44_rr_l2 k n y y_1 y_2 y_3
    | .o2 y y_1 y_2 y_3 y_4 => some (.o2 y y_1 y_2 y_3 y_4)
theorem f44_rr_l2_ok (k n : Nat) : ∀ (x0 x1 : List T44) (x12 x13 : Int) (r : R44_rr_l2) (hF : f44_rr_l2 k n x0 x1 x12 x13 = some r) (σ : St) (hσ : headR (hints.head 44 4) (hints.canon 44 4) σ = some ({ n := 26, F := [(0, V.sl 3 (rowsOf encT44 x0)), (1, V.sl 3 (rowsOf encT44 x1)), (12, V.p (Value.int .i64 x12)), (13, V.p (Value.int .i64 x13))], M := [] } : St)), LP 44 k (nav B44 [1, 2, 2, 1, 2, 2]) n σ = some r.st := by
  induction n with
  | zero => intro x0 x1 x12 x13 r hF; cases hF
  | succ n ih =>
    intro x0 x1 x12 x13 r hF σ hσ
    rw [f44_rr_l2] at hF
    obtain ⟨o, h, hF⟩ := Option.bind_eq_some_iff.1 hF
    have hB := f44_rr_l2_b_ok k x0 x1 x12 x13 o h
    unfold LP at ih ⊢
    unfold EX at hB
    rw [loopK_succ, show firstReg (nav B44 [1, 2, 2, 1, 2, 2]) = 4 from rfl, hσ, headK_some, hB]
    cases o with
    | o0 y => cases hF; rfl
    | o1 y y_1 y_2 y_3 =>
      refine ih y y_1 y_2 y_3 r hF _ ?_
      simp (maxSteps := 999999) (disch := first | exact D (by decide) | exact K (by kernel_rfl)) only [E, EE, ↓reduceIte, simprocAttr, hh_44_4, hc_44_4]
    | o2 y y_1 y_2 y_3 y_4 => cases hF; rfl
noncomputable def f44_rr_j3 (k : Nat) (x0 x1 : List T44) (x12 x13 : Int) (x14 : Bool) : Option R44_rr :=
  some (R44_rr.o0 true)
theorem f44_rr_j3_ok (k : Nat) (x0 x1 : List T44) (x12 x13 : Int) (x14 : Bool) (r : R44_rr) (hF : f44_rr_j3 k x0 x1 x12 x13 x14 = some r) : finK Tryd.prog Tryd.f44 0 (EX 44 k (nav B44 [2, 2, 2]) ({ n := 26, F := [(0, V.sl 3 (rowsOf encT44 x0)), (1, V.sl 3 (rowsOf encT44 x1)), (12, V.p (Value.int .i64 x12)), (13, V.p (Value.int .i64 x13)), (14, V.p (Value.bool x14))], M := [] } : St)) = some r.st := by
  unfold f44_rr_j3 at hF
  cases hF
  simp (maxSteps := 999999) (disch := first | exact D (by decide) | exact K (by kernel_rfl)) only [E, EE, ↓reduceIte, simprocAttr, xk B44 [2, 2, 2] .sq rfl, show (nav B44 [1, 2, 2, 2]) = Code.region 9 _ false from rfl, hk_44_9, hz_44_9, hs_44_9, xk B44 [2, 2, 2, 2] .rt rfl, finK_norm, finK_ret, fin44, R44_rr.st]
noncomputable def f44_rr_j1 (k : Nat) (x0 x1 : List T44) (x10 : Bool) : Option R44_rr :=
  Option.bind (f44_rr_l2 k k x0 x1 ((List.length x0) : Int) 0) fun o1 =>
    match o1 with
    | .o0 v4 =>
      some (R44_rr.o0 v4)
    | .o1 _ _ _ _ =>
      none
    | .o2 v5 v6 v7 v8 v9 =>
      f44_rr_j3 k v5 v6 v7 v8 v9
theorem f44_rr_j1_ok (k : Nat) (x0 x1 : List T44) (x10 : Bool) (r : R44_rr) (hF : f44_rr_j1 k x0 x1 x10 = some r) : finK Tryd.prog Tryd.f44 0 (EX 44 k (nav B44 [2, 2]) ({ n := 26, F := [(0, V.sl 3 (rowsOf encT44 x0)), (1, V.sl 3 (rowsOf encT44 x1)), (10, V.p (Value.bool x10))], M := [] } : St)) = some r.st := by
  unfold f44_rr_j1 at hF
  replace hF := Option.bind_eq_some_iff.1 hF
  obtain ⟨o1, h2, hF⟩ := hF
  have hc3 := f44_rr_l2_ok k k x0 x1 ((List.length x0) : Int) 0 _ h2
  simp (maxSteps := 999999) (disch := first | exact D (by decide) | exact K (by kernel_rfl)) only [E, EE, ↓reduceIte, simprocAttr, xk B44 [2, 2] .sq rfl, xk B44 [1, 2, 2] .sq rfl, show (nav B44 [1, 1, 2, 2]) = Code.region 3 _ false from rfl, hk_44_3, hz_44_3, hs_44_3, u_26, i_26, is_26, ib_26, iz_26, xk B44 [2, 1, 2, 2] (.bk 0) rfl, xk B44 [2, 2, 1, 2, 2] .lp rfl, hh_44_4, hc_44_4]
  (try simp only [NM, EE] at hc3)
  rw [hc3 _ (by simp (maxSteps := 999999) (disch := first | exact D (by decide) | exact K (by kernel_rfl)) only [E, EE, ↓reduceIte, simprocAttr, hh_44_4, hc_44_4])]
  clear hc3
  cases o1 with
  | o0 v4 =>
    (try dsimp only at hF)
    cases hF
    simp (maxSteps := 999999) (disch := first | exact D (by decide) | exact K (by kernel_rfl)) only [E, EE, ↓reduceIte, simprocAttr, R44_rr_l2.st, finK_norm, finK_ret, fin44, R44_rr.st]
  | o1 _ _ _ _ =>
    (try dsimp only at hF)
    cases hF
  | o2 v5 v6 v7 v8 v9 =>
    (try dsimp only at hF)
    have hJ := f44_rr_j3_ok k v5 v6 v7 v8 v9 _ hF
    simp (maxSteps := 999999) (disch := first | exact D (by decide) | exact K (by kernel_rfl)) only [E, EE, ↓reduceIte, simprocAttr, R44_rr_l2.st]
    try simp only [NM, EE] at hJ
    exact hJ
noncomputable def f44_rr_e (k : Nat) (a0 a1 : List T44) : Option R44_rr :=
  cond ((((List.length a0) : Int) != ((List.length a1) : Int)))
    (some (R44_rr.o0 false))
    (f44_rr_j1 k a0 a1 false)
theorem f44_rr_e_ok (k : Nat) (a0 a1 : List T44) (r : R44_rr) (hF : f44_rr_e k a0 a1 = some r) : finK Tryd.prog Tryd.f44 0 (EX 44 k (nav B44 []) ({ n := 26, F := [(0, V.sl 3 (rowsOf encT44 a0)), (1, V.sl 3 (rowsOf encT44 a1))], M := [] } : St)) = some r.st := by
  unfold f44_rr_e at hF
  simp (maxSteps := 999999) (disch := first | exact D (by decide) | exact K (by kernel_rfl)) only [E, EE, ↓reduceIte, simprocAttr, xk B44 [] .sq rfl, show (nav B44 [1]) = Code.region 0 _ false from rfl, hk_44_0, hz_44_0, hs_44_0, xk B44 [2] .sq rfl, xk B44 [1, 2] .sq rfl, show (nav B44 [1, 1, 2]) = Code.region 1 _ false from rfl, hk_44_1, hz_44_1, hs_44_1, u_26, i_26, is_26, ib_26, iz_26, xk B44 [2, 1, 2] (.cd 10) rfl]
  replace hF := cond_some hF
  rcases hF with ⟨h1, hF⟩ | ⟨h1, hF⟩
  · cases hF
    simp (maxSteps := 999999) (disch := first | exact D (by decide) | exact K (by kernel_rfl)) only [E, EE, ↓reduceIte, simprocAttr, xk B44 [2, 2, 1, 2] .sq rfl, show (nav B44 [1, 2, 2, 1, 2]) = Code.region 2 _ false from rfl, hk_44_2, hz_44_2, hs_44_2, xk B44 [2, 2, 2, 1, 2] .rt rfl, finK_norm, finK_ret, fin44, R44_rr.st, h1]
  · have hJ := f44_rr_j1_ok k a0 a1 false _ hF
    simp (maxSteps := 999999) (disch := first | exact D (by decide) | exact K (by kernel_rfl)) only [E, EE, ↓reduceIte, simprocAttr, xk B44 [3, 2, 1, 2] .sk rfl, h1]
    try simp only [NM, EE] at hJ
    exact hJ
noncomputable def f44_rr (k : Nat) (a0 a1 : List T44) : Option R44_rr := match k with | 0 => none | k + 1 => f44_rr_e k a0 a1
theorem f44_rr_ok (k : Nat) (a0 a1 : List T44) (r : R44_rr) (hF : f44_rr k a0 a1 = some r) : CV k 44 [V.sl 3 (rowsOf encT44 a0), V.sl 3 (rowsOf encT44 a1)] [] = some r.st := by
  cases k with
  | zero => cases hF
  | succ k =>
    unfold CV
    rw [ev_call (F := Tryd.f44) (c := (nav B44 [])) rfl Tryd.func44 rfl rfl rfl rfl]
    exact f44_rr_e_ok k a0 a1 r hF
-- f45_rr: f45 slices.Equal[[]int,int]
inductive R45_rr where
  | o0 (y : Bool)
noncomputable def R45_rr.st : R45_rr → V × List O × List O
  | .o0 y => (V.p (Value.bool y), [], [])
inductive R45_rr_l2 where
  | o0 (y : Bool)
  | o1 (y y_1 : List Int) (y_2 y_3 : Int)
  | o2 (y y_1 : List Int) (y_2 y_3 : Int) (y_4 : Bool)
noncomputable def R45_rr_l2.st : R45_rr_l2 → Out × St
  | .o0 y => (.ret, ({ n := 26, F := [(4, V.p (Value.bool y))], M := [] } : St))
  | .o1 y y_1 y_2 y_3 => (.norm, ({ n := 26, F := [(0, V.sl 1 (rowsOf (encI .i64) y)), (1, V.sl 1 (rowsOf (encI .i64) y_1)), (12, V.p (Value.int .i64 y_2)), (13, V.p (Value.int .i64 y_3))], M := [] } : St))
  | .o2 y y_1 y_2 y_3 y_4 => (.exit 0, ({ n := 26, F := [(0, V.sl 1 (rowsOf (encI .i64) y)), (1, V.sl 1 (rowsOf (encI .i64) y_1)), (12, V.p (Value.int .i64 y_2)), (13, V.p (Value.int .i64 y_3)), (14, V.p (Value.bool y_4))], M := [] } : St))
noncomputable def f45_rr_l2_j2 (k : Nat) (x0 x1 : List Int) (x12 x13 : Int) (x24 : Bool) : Option R45_rr_l2 :=
  some (R45_rr_l2.o1 x0 x1 x12 (IntKind.i64.wrap (x13 + (1 : Int))))
theorem f45_rr_l2_j2_ok (k : Nat) (x0 x1 : List Int) (x12 x13 : Int) (x24 : Bool) (r : R45_rr_l2) (hF : f45_rr_l2_j2 k x0 x1 x12 x13 x24 = some r) : EX 45 k (nav B45 [2, 2, 2, 1, 2, 2, 1, 2, 2]) ({ n := 26, F := [(0, V.sl 1 (rowsOf (encI .i64) x0)), (1, V.sl 1 (rowsOf (encI .i64) x1)), (12, V.p (Value.int .i64 x12)), (13, V.p (Value.int .i64 x13)), (24, V.p (Value.bool x24))], M := [] } : St) = some r.st := by
  unfold f45_rr_l2_j2 at hF
  cases hF
  simp (maxSteps := 999999) (disch := first | exact D (by decide) | exact K (by kernel_rfl)) only [E, EE, ↓reduceIte, simprocAttr, show (nav B45 [2, 2, 2, 1, 2, 2, 1, 2, 2]) = Code.region 8 _ false from rfl, hk_45_8, hz_45_8, hs_45_8, R45_rr_l2.st]
noncomputable def f45_rr_l2_j1 (k : Nat) (x0 x1 : List Int) (x12 x13 : Int) (x14 : Bool) : Option R45_rr_l2 :=
  ifE ((0 : Int) ≤ x13) (
    Option.bind (x0[(Int.toNat x13)]?) fun v2 =>
      Option.bind (x1[(Int.toNat x13)]?) fun v4 =>
        cond ((v2 != v4))
          (some (R45_rr_l2.o0 false))
          (f45_rr_l2_j2 k x0 x1 x12 x13 false))
theorem f45_rr_l2_j1_ok (k : Nat) (x0 x1 : List Int) (x12 x13 : Int) (x14 : Bool) (r : R45_rr_l2) (hF : f45_rr_l2_j1 k x0 x1 x12 x13 x14 = some r) : EX 45 k (nav B45 [2, 2, 1, 2, 2, 1, 2, 2]) ({ n := 26, F := [(0, V.sl 1 (rowsOf (encI .i64) x0)), (1, V.sl 1 (rowsOf (encI .i64) x1)), (12, V.p (Value.int .i64 x12)), (13, V.p (Value.int .i64 x13)), (14, V.p (Value.bool x14))], M := [] } : St) = some r.st := by
  unfold f45_rr_l2_j1 at hF
  replace hF := ifE_some.1 hF
  obtain ⟨h1, hF⟩ := hF
  replace hF := Option.bind_eq_some_iff.1 hF
  obtain ⟨v2, h3, hF⟩ := hF
  replace hF := Option.bind_eq_some_iff.1 hF
  obtain ⟨v4, h5, hF⟩ := hF
  simp (maxSteps := 999999) (disch := first | exact D (by decide) | exact K (by kernel_rfl)) only [E, EE, ↓reduceIte, simprocAttr, xk B45 [2, 2, 1, 2, 2, 1, 2, 2] .sq rfl, xk B45 [1, 2, 2, 1, 2, 2, 1, 2, 2] (.bk 1) rfl, xk B45 [2, 1, 2, 2, 1, 2, 2, 1, 2, 2] .sq rfl, show (nav B45 [1, 2, 1, 2, 2, 1, 2, 2, 1, 2, 2]) = Code.region 5 _ false from rfl, hk_45_5, hz_45_5, hs_45_5, xk B45 [2, 2, 1, 2, 2, 1, 2, 2, 1, 2, 2] .sq rfl, show (nav B45 [1, 2, 2, 1, 2, 2, 1, 2, 2, 1, 2, 2]) = Code.region 6 _ true from rfl, hk_45_6, hz_45_6, hs_45_6, indexAddrV, u_25, i_25, is_25, ib_25, iz_25, u_3, i_3, is_3, ib_3, iz_3, encI_eq, xk B45 [2, 2, 2, 1, 2, 2, 1, 2, 2, 1, 2, 2] (.cd 24) rfl, h1, h3, h5]
  replace hF := cond_some hF
  rcases hF with ⟨h6, hF⟩ | ⟨h6, hF⟩
  · cases hF
    simp (maxSteps := 999999) (disch := first | exact D (by decide) | exact K (by kernel_rfl)) only [E, EE, ↓reduceIte, simprocAttr, xk B45 [2, 2, 2, 2, 1, 2, 2, 1, 2, 2, 1, 2, 2] .sq rfl, show (nav B45 [1, 2, 2, 2, 2, 1, 2, 2, 1, 2, 2, 1, 2, 2]) = Code.region 7 _ false from rfl, hk_45_7, hz_45_7, hs_45_7, xk B45 [2, 2, 2, 2, 2, 1, 2, 2, 1, 2, 2, 1, 2, 2] .rt rfl, R45_rr_l2.st, h1, h3, h5, h6]
  · have hJ := f45_rr_l2_j2_ok k x0 x1 x12 x13 false _ hF
    simp (maxSteps := 999999) (disch := first | exact D (by decide) | exact K (by kernel_rfl)) only [E, EE, ↓reduceIte, simprocAttr, xk B45 [3, 2, 2, 2, 1, 2, 2, 1, 2, 2, 1, 2, 2] .sk rfl, h1, h3, h5, h6]
    try simp only [NM, EE] at hJ
    exact hJ
noncomputable def f45_rr_l2_b (k : Nat) (x0 x1 : List Int) (x12 x13 : Int) : Option R45_rr_l2 :=
  cond ((decide (x13 < x12)))
    (f45_rr_l2_j1 k x0 x1 x12 x13 true)
    (some (R45_rr_l2.o2 x0 x1 x12 x13 false))
theorem f45_rr_l2_b_ok (k : Nat) (x0 x1 : List Int) (x12 x13 : Int) (r : R45_rr_l2) (hF : f45_rr_l2_b k x0 x1 x12 x13 = some r) : EX 45 k (nav B45 [1, 2, 2, 1, 2, 2]) ({ n := 26, F := [(0, V.sl 1 (rowsOf (encI .i64) x0)), (1, V.sl 1 (rowsOf (encI .i64) x1)), (12, V.p (Value.int .i64 x12)), (13, V.p (Value.int .i64 x13))], M := [] } : St) = some r.st := by
  unfold f45_rr_l2_b at hF
  simp (maxSteps := 999999) (disch := first | exact D (by decide) | exact K (by kernel_rfl)) only [E, EE, ↓reduceIte, simprocAttr, xk B45 [1, 2, 2, 1, 2, 2] .sq rfl, show (nav B45 [1, 1, 2, 2, 1, 2, 2]) = Code.region 4 _ false from rfl, hk_45_4, hz_45_4, hs_45_4, xk B45 [2, 1, 2, 2, 1, 2, 2] .sq rfl, xk B45 [1, 2, 1, 2, 2, 1, 2, 2] (.cd 14) rfl]
  replace hF := cond_some hF
  rcases hF with ⟨h1, hF⟩ | ⟨h1, hF⟩
  · have hJ := f45_rr_l2_j1_ok k x0 x1 x12 x13 true _ hF
    simp (maxSteps := 999999) (disch := first | exact D (by decide) | exact K (by kernel_rfl)) only [E, EE, ↓reduceIte, simprocAttr, xk B45 [2, 1, 2, 1, 2, 2, 1, 2, 2] .sk rfl, h1]
    try simp only [NM, EE] at hJ
    exact hJ
  · cases hF
    simp (maxSteps := 999999) (disch := first | exact D (by decide) | exact K (by kernel_rfl)) only [E, EE, ↓reduceIte, simprocAttr, xk B45 [3, 1, 2, 1, 2, 2, 1, 2, 2] (.ex 0) rfl, R45_rr_l2.st, h1]
noncomputable def f45_rr_l2 (k : Nat) : Nat → (List Int) → (List Int) → Int → Int → Option R45_rr_l2
  | 0, _, _, _, _ => none
  | n + 1, x0, x1, x12, x13 => Option.bind (f45_rr_l2_b k x0 x1 x12 x13) fun o =>
    match o with
    | .o0 y => some (.o0 y)
    | .o1 y y_1 y_2 y_3 => f45_rr_l2 k n y y_1 y_2 y_3
    | .o2 y y_1 y_2 y_3 y_4 => some (.o2 y y_1 y_2 y_3 y_4)
theorem f45_rr_l2_ok (k n : Nat) : ∀ (x0 x1 : List Int) (x12 x13 : Int) (r : R45_rr_l2) (hF : f45_rr_l2 k n x0 x1 x12 x13 = some r) (σ : St) (hσ : headR (hints.head 45 4) (hints.canon 45 4) σ = some ({ n := 26, F := [(0, V.sl 1 (rowsOf (encI .i64) x0)), (1, V.sl 1 (rowsOf (encI .i64) x1)), (12, V.p (Value.int .i64 x12)), (13, V.p (Value.int .i64 x13))], M := [] } : St)), LP 45 k (nav B45 [1, 2, 2, 1, 2, 2]) n σ = some r.st := by
  induction n with
  | zero => intro x0 x1 x12 x13 r hF; cases hF
  | succ n ih =>
    intro x0 x1 x12 x13 r hF σ hσ
    rw [f45_rr_l2] at hF
    obtain ⟨o, h, hF⟩ := Option.bind_eq_some_iff.1 hF
    have hB := f45_rr_l2_b_ok k x0 x1 x12 x13 o h
    unfold LP at ih ⊢
    unfold EX at hB
    rw [loopK_succ, show firstReg (nav B45 [1, 2, 2, 1, 2, 2]) = 4 from rfl, hσ, headK_some, hB]
    cases o with
    | o0 y => cases hF; rfl
    | o1 y y_1 y_2 y_3 =>
      refine ih y y_1 y_2 y_3 r hF _ ?_
      simp (maxSteps := 999999) (disch := first | exact D (by decide) | exact K (by kernel_rfl)) only [E, EE, ↓reduceIte, simprocAttr, hh_45_4, hc_45_4]
    | o2 y y_1 y_2 y_3 y_4 => cases hF; rfl
noncomputable def f45_rr_j3 (k : Nat) (x0 x1 : List Int) (x12 x13 : Int) (x14 : Bool) : Option R45_rr :=
  some (R45_rr.o0 true)
theorem f45_rr_j3_ok (k : Nat) (x0 x1 : List Int) (x12 x13 : Int) (x14 : Bool) (r : R45_rr) (hF : f45_rr_j3 k x0 x1 x12 x13 x14 = some r) : finK Tryd.prog Tryd.f45 0 (EX 45 k (nav B45 [2, 2, 2]) ({ n := 26, F := [(0, V.sl 1 (rowsOf (encI .i64) x0)), (1, V.sl 1 (rowsOf (encI .i64) x1)), (12, V.p (Value.int .i64 x12)), (13, V.p (Value.int .i64 x13)), (14, V.p (Value.bool x14))], M := [] } : St)) = some r.st := by
  unfold f45_rr_j3 at hF
  cases hF
  simp (maxSteps := 999999) (disch := first | exact D (by decide) | exact K (by kernel_rfl)) only [E, EE, ↓reduceIte, simprocAttr, xk B45 [2, 2, 2] .sq rfl, show (nav B45 [1, 2, 2, 2]) = Code.region 9 _ false from rfl, hk_45_9, hz_45_9, hs_45_9, xk B45 [2, 2, 2, 2] .rt rfl, finK_norm, finK_ret, fin45, R45_rr.st]
noncomputable def f45_rr_j1 (k : Nat) (x0 x1 : List Int) (x10 : Bool) : Option R45_rr :=
  Option.bind (f45_rr_l2 k k x0 x1 ((List.length x0) : Int) 0) fun o1 =>
    match o1 with
    | .o0 v4 =>
      some (R45_rr.o0 v4)
    | .o1 _ _ _ _ =>
      none
    | .o2 v5 v6 v7 v8 v9 =>
      f45_rr_j3 k v5 v6 v7 v8 v9
theorem f45_rr_j1_ok (k : Nat) (x0 x1 : List Int) (x10 : Bool) (r : R45_rr) (hF : f45_rr_j1 k x0 x1 x10 = some r) : finK Tryd.prog Tryd.f45 0 (EX 45 k (nav B45 [2, 2]) ({ n := 26, F := [(0, V.sl 1 (rowsOf (encI .i64) x0)), (1, V.sl 1 (rowsOf (encI .i64) x1)), (10, V.p (Value.bool x10))], M := [] } : St)) = some r.st := by
  unfold f45_rr_j1 at hF
  replace hF := Option.bind_eq_some_iff.1 hF
  obtain ⟨o1, h2, hF⟩ := hF
  have hc3 := f45_rr_l2_ok k k x0 x1 ((List.length x0) : Int) 0 _ h2
  simp (maxSteps := 999999) (disch := first | exact D (by decide) | exact K (by kernel_rfl)) only [E, EE, ↓reduceIte, simprocAttr, xk B45 [2, 2] .sq rfl, xk B45 [1, 2, 2] .sq rfl, show (nav B45 [1, 1, 2, 2]) = Code.region 3 _ false from rfl, hk_45_3, hz_45_3, hs_45_3, u_25, i_25, is_25, ib_25, iz_25, xk B45 [2, 1, 2, 2] (.bk 0) rfl, xk B45 [2, 2, 1, 2, 2] .lp rfl, hh_45_4, hc_45_4]
  (try simp only [NM, EE] at hc3)
  rw [hc3 _ (by simp (maxSteps := 999999) (disch := first | exact D (by decide) | exact K (by kernel_rfl)) only [E, EE, ↓reduceIte, simprocAttr, hh_45_4, hc_45_4])]
  clear hc3
  cases o1 with
  | o0 v4 =>
    (try dsimp only at hF)
    cases hF
    simp (maxSteps := 999999) (disch := first | exact D (by decide) | exact K (by kernel_rfl)) only [E, EE, ↓reduceIte, simprocAttr, R45_rr_l2.st, finK_norm, finK_ret, fin45, R45_rr.st]
  | o1 _ _ _ _ =>
    (try dsimp only at hF)
    cases hF
  | o2 v5 v6 v7 v8 v9 =>
    (try dsimp only at hF)
    have hJ := f45_rr_j3_ok k v5 v6 v7 v8 v9 _ hF
    simp (maxSteps := 999999) (disch := first | exact D (by decide) | exact K (by kernel_rfl)) only [E, EE, ↓reduceIte, simprocAttr, R45_rr_l2.st]
    try simp only [NM, EE] at hJ
    exact hJ
noncomputable def f45_rr_e (k : Nat) (a0 a1 : List Int) : Option R45_rr :=
  cond ((((List.length a0) : Int) != ((List.length a1) : Int)))
    (some (R45_rr.o0 false))
    (f45_rr_j1 k a0 a1 false)
theorem f45_rr_e_ok (k : Nat) (a0 a1 : List Int) (r : R45_rr) (hF : f45_rr_e k a0 a1 = some r) : finK Tryd.prog Tryd.f45 0 (EX 45 k (nav B45 []) ({ n := 26, F := [(0, V.sl 1 (rowsOf (encI .i64) a0)), (1, V.sl 1 (rowsOf (encI .i64) a1))], M := [] } : St)) = some r.st := by
  unfold f45_rr_e at hF
  simp (maxSteps := 999999) (disch := first | exact D (by decide) | exact K (by kernel_rfl)) only [E, EE, ↓reduceIte, simprocAttr, xk B45 [] .sq rfl, show (nav B45 [1]) = Code.region 0 _ false from rfl, hk_45_0, hz_45_0, hs_45_0, xk B45 [2] .sq rfl, xk B45 [1, 2] .sq rfl, show (nav B45 [1, 1, 2]) = Code.region 1 _ false from rfl, hk_45_1, hz_45_1, hs_45_1, u_25, i_25, is_25, ib_25, iz_25, xk B45 [2, 1, 2] (.cd 10) rfl]
  replace hF := cond_some hF
  rcases hF with ⟨h1, hF⟩ | ⟨h1, hF⟩
  · cases hF
    simp (maxSteps := 999999) (disch := first | exact D (by decide) | exact K (by kernel_rfl)) only [E, EE, ↓reduceIte, simprocAttr, xk B45 [2, 2, 1, 2] .sq rfl, show (nav B45 [1, 2, 2, 1, 2]) = Code.region 2 _ false from rfl, hk_45_2, hz_45_2, hs_45_2, xk B45 [2, 2, 2, 1, 2] .rt rfl, finK_norm, finK_ret, fin45, R45_rr.st, h1]
  · have hJ := f45_rr_j1_ok k a0 a1 false _ hF
    simp (maxSteps := 999999) (disch := first | exact D (by decide) | exact K (by kernel_rfl)) only [E, EE, ↓reduceIte, simprocAttr, xk B45 [3, 2, 1, 2] .sk rfl, h1]
    try simp only [NM, EE] at hJ
    exact hJ
noncomputable def f45_rr (k : Nat) (a0 a1 : List Int) : Option R45_rr := match k with | 0 => none | k + 1 => f45_rr_e k a0 a1
theorem f45_rr_ok (k : Nat) (a0 a1 : List Int) (r : R45_rr) (hF : f45_rr k a0 a1 = some r) : CV k 45 [V.sl 1 (rowsOf (encI .i64) a0), V.sl 1 (rowsOf (encI .i64) a1)] [] = some r.st := by
  cases k with
  | zero => cases hF
  | succ k =>
    unfold CV
    rw [ev_call (F := Tryd.f45) (c := (nav B45 [])) rfl Tryd.func45 rfl rfl rfl rfl]
    exact f45_rr_e_ok k a0 a1 r hF
-- f22_arrrrzarrrrz: f22 heliograph/queue.Same
inductive R22_arrrrzarrrrz where
  | o0 (y : Bool)
noncomputable def R22_arrrrzarrrrz.st : R22_arrrrzarrrrz → V × List O × List O
  | .o0 y => (V.p (Value.bool y), [], [])
noncomputable def f22_arrrrzarrrrz_e (k : Nat) (a0 : List T56) (a0_1 a0_2 : List T44) (a0_3 : List Int) (a1 : List T56) (a1_1 a1_2 : List T44) (a1_3 : List Int) : Option R22_arrrrzarrrrz :=
  Option.bind (f43_rr k a0 a1) fun o1 =>
    match o1 with
    | .o0 v4 =>
      cond (v4)
        (
          Option.bind (f44_rr k a0_1 a1_1) fun o6 =>
            match o6 with
            | .o0 v9 =>
              cond (v9)
                (
                  Option.bind (f44_rr k a0_2 a1_2) fun o11 =>
                    match o11 with
                    | .o0 v14 =>
                      cond (v14)
                        (
                          Option.bind (f45_rr k a0_3 a1_3) fun o16 =>
                            match o16 with
                            | .o0 v19 =>
                              some (R22_arrrrzarrrrz.o0 v19))
                        (some (R22_arrrrzarrrrz.o0 false)))
                (some (R22_arrrrzarrrrz.o0 false)))
        (some (R22_arrrrzarrrrz.o0 false))
theorem f22_arrrrzarrrrz_e_ok (k : Nat) (a0 : List T56) (a0_1 a0_2 : List T44) (a0_3 : List Int) (a1 : List T56) (a1_1 a1_2 : List T44) (a1_3 : List Int) (r : R22_arrrrzarrrrz) (hF : f22_arrrrzarrrrz_e k a0 a0_1 a0_2 a0_3 a1 a1_1 a1_2 a1_3 = some r) : finK Tryd.prog Tryd.f22 0 (EX 22 k (nav B22 []) ({ n := 31, F := [(0, V.agg [V.sl 5 (rowsOf encT56 a0), V.sl 3 (rowsOf encT44 a0_1), V.sl 3 (rowsOf encT44 a0_2), V.sl 1 (rowsOf (encI .i64) a0_3)]), (1, V.agg [V.sl 5 (rowsOf encT56 a1), V.sl 3 (rowsOf encT44 a1_1), V.sl 3 (rowsOf encT44 a1_2), V.sl 1 (rowsOf (encI .i64) a1_3)])], M := [] } : St)) = some r.st := by
  unfold f22_arrrrzarrrrz_e at hF
  replace hF := Option.bind_eq_some_iff.1 hF
  obtain ⟨o1, h2, hF⟩ := hF
  have hc3 := f43_rr_ok k a0 a1 _ h2
  cases o1 with
  | o0 v4 =>
    (try dsimp only at hF)
    (try simp only [NM, EE, R43_rr.st] at hc3)
    simp (maxSteps := 999999) (disch := first | exact D (by decide) | exact K (by kernel_rfl)) only [E, EE, ↓reduceIte, simprocAttr, xk B22 [] .sq rfl, show (nav B22 [1]) = Code.region 0 _ false from rfl, hk_22_0, hz_22_0, hs_22_0, xk B22 [2] .sq rfl, show (nav B22 [1, 2]) = Code.region 1 _ false from rfl, hk_22_1, hz_22_1, hs_22_1, fieldAddrV, u_37, i_37, is_37, ib_37, iz_37, u_35, i_35, is_35, ib_35, iz_35, callStep, CL, gv, List.contains, hc3]
    replace hF := cond_some hF
    rcases hF with ⟨h5, hF⟩ | ⟨h5, hF⟩
    · replace hF := Option.bind_eq_some_iff.1 hF
      obtain ⟨o6, h7, hF⟩ := hF
      have hc8 := f44_rr_ok k a0_1 a1_1 _ h7
      cases o6 with
      | o0 v9 =>
        (try dsimp only at hF)
        (try simp only [NM, EE, R44_rr.st] at hc8)
        simp (maxSteps := 999999) (disch := first | exact D (by decide) | exact K (by kernel_rfl)) only [E, EE, ↓reduceIte, simprocAttr, fieldAddrV, u_37, i_37, is_37, ib_37, iz_37, u_26, i_26, is_26, ib_26, iz_26, callStep, CL, gv, List.contains, hc3, h5, hc8]
        replace hF := cond_some hF
        rcases hF with ⟨h10, hF⟩ | ⟨h10, hF⟩
        · replace hF := Option.bind_eq_some_iff.1 hF
          obtain ⟨o11, h12, hF⟩ := hF
          have hc13 := f44_rr_ok k a0_2 a1_2 _ h12
          cases o11 with
          | o0 v14 =>
            (try dsimp only at hF)
            (try simp only [NM, EE, R44_rr.st] at hc13)
            simp (maxSteps := 999999) (disch := first | exact D (by decide) | exact K (by kernel_rfl)) only [E, EE, ↓reduceIte, simprocAttr, fieldAddrV, u_37, i_37, is_37, ib_37, iz_37, u_26, i_26, is_26, ib_26, iz_26, callStep, CL, gv, List.contains, hc3, h5, hc8, h10, hc13]
            replace hF := cond_some hF
            rcases hF with ⟨h15, hF⟩ | ⟨h15, hF⟩
            · replace hF := Option.bind_eq_some_iff.1 hF
              obtain ⟨o16, h17, hF⟩ := hF
              have hc18 := f45_rr_ok k a0_3 a1_3 _ h17
              cases o16 with
              | o0 v19 =>
                (try dsimp only at hF)
                (try simp only [NM, EE, R45_rr.st] at hc18)
                cases hF
                simp (maxSteps := 999999) (disch := first | exact D (by decide) | exact K (by kernel_rfl)) only [E, EE, ↓reduceIte, simprocAttr, fieldAddrV, u_37, i_37, is_37, ib_37, iz_37, u_25, i_25, is_25, ib_25, iz_25, callStep, CL, gv, List.contains, xk B22 [2, 2] .rt rfl, finK_norm, finK_ret, fin22, R22_arrrrzarrrrz.st, hc3, h5, hc8, h10, hc13, h15, hc18]
            · cases hF
              simp (maxSteps := 999999) (disch := first | exact D (by decide) | exact K (by kernel_rfl)) only [E, EE, ↓reduceIte, simprocAttr, xk B22 [2, 2] .rt rfl, finK_norm, finK_ret, fin22, R22_arrrrzarrrrz.st, hc3, h5, hc8, h10, hc13, h15]
        · cases hF
          simp (maxSteps := 999999) (disch := first | exact D (by decide) | exact K (by kernel_rfl)) only [E, EE, ↓reduceIte, simprocAttr, xk B22 [2, 2] .rt rfl, finK_norm, finK_ret, fin22, R22_arrrrzarrrrz.st, hc3, h5, hc8, h10]
    · cases hF
      simp (maxSteps := 999999) (disch := first | exact D (by decide) | exact K (by kernel_rfl)) only [E, EE, ↓reduceIte, simprocAttr, xk B22 [2, 2] .rt rfl, finK_norm, finK_ret, fin22, R22_arrrrzarrrrz.st, hc3, h5]
noncomputable def f22_arrrrzarrrrz (k : Nat) (a0 : List T56) (a0_1 a0_2 : List T44) (a0_3 : List Int) (a1 : List T56) (a1_1 a1_2 : List T44) (a1_3 : List Int) : Option R22_arrrrzarrrrz := match k with | 0 => none | k + 1 => f22_arrrrzarrrrz_e k a0 a0_1 a0_2 a0_3 a1 a1_1 a1_2 a1_3
theorem f22_arrrrzarrrrz_ok (k : Nat) (a0 : List T56) (a0_1 a0_2 : List T44) (a0_3 : List Int) (a1 : List T56) (a1_1 a1_2 : List T44) (a1_3 : List Int) (r : R22_arrrrzarrrrz) (hF : f22_arrrrzarrrrz k a0 a0_1 a0_2 a0_3 a1 a1_1 a1_2 a1_3 = some r) : CV k 22 [V.agg [V.sl 5 (rowsOf encT56 a0), V.sl 3 (rowsOf encT44 a0_1), V.sl 3 (rowsOf encT44 a0_2), V.sl 1 (rowsOf (encI .i64) a0_3)], V.agg [V.sl 5 (rowsOf encT56 a1), V.sl 3 (rowsOf encT44 a1_1), V.sl 3 (rowsOf encT44 a1_2), V.sl 1 (rowsOf (encI .i64) a1_3)]] [] = some r.st := by
  cases k with
  | zero => cases hF
  | succ k =>
    unfold CV
    rw [ev_call (F := Tryd.f22) (c := (nav B22 [])) rfl Tryd.func22 rfl rfl rfl rfl]
    exact f22_arrrrzarrrrz_e_ok k a0 a0_1 a0_2 a0_3 a1 a1_1 a1_2 a1_3 r hF
end Go.Proofs.YtiompmmbjpjjeaaDoorV
