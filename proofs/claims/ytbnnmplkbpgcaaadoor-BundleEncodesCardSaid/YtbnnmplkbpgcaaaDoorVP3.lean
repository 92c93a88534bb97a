/- What the program's functions answer: plain functions, and that the interpreter answers what they do. Written by a program of this session, out of the translation. -/
import Derived.Test.YtbnnmplkbpgcaaaDoorVP2
namespace Go.Proofs.YtbnnmplkbpgcaaaDoorV
open Go
set_option linter.unusedVariables false
set_option linter.unusedSimpArgs false
set_option maxRecDepth 8000
set_option maxHeartbeats 4000000
-- f65_aiirrzi: f65 heliograph/cbor.may
inductive R65_aiirrzi where
  | o0 (y : Bool)
noncomputable def R65_aiirrzi.st : R65_aiirrzi → V × List O × List O
  | .o0 y => (V.p (Value.bool y), [], [])
inductive R65_aiirrzi_l2 where
  | o0 (y : Bool)
  | o1 (y : Int) (y_1 : List T50) (y_2 y_3 : Int)
  | o2 (y : Int) (y_1 : List T50) (y_2 y_3 : Int) (y_4 : Bool)
noncomputable def R65_aiirrzi_l2.st : R65_aiirrzi_l2 → Out × St
  | .o0 y => (.ret, ({ n := 50, F := [(4, V.p (Value.bool y))], M := [] } : St))
  | .o1 y y_1 y_2 y_3 => (.norm, ({ n := 50, F := [(1, V.p (Value.int .i64 y)), (38, V.sl 4 (rowsOf encT50 y_1)), (39, V.p (Value.int .i64 y_2)), (40, V.p (Value.int .i64 y_3))], M := [] } : St))
  | .o2 y y_1 y_2 y_3 y_4 => (.exit 0, ({ n := 50, F := [(1, V.p (Value.int .i64 y)), (38, V.sl 4 (rowsOf encT50 y_1)), (39, V.p (Value.int .i64 y_2)), (40, V.p (Value.int .i64 y_3)), (41, V.p (Value.bool y_4))], M := [] } : St))
noncomputable def f65_aiirrzi_l2_j2 (k : Nat) (q_f65_aiirrzi : Int → Int → (List Int) → (List T50) → Int → Option R65_aiirrzi) (x1 : Int) (x38 : List T50) (x39 x40 : Int) (x48 : Bool) : Option R65_aiirrzi_l2 :=
  some (R65_aiirrzi_l2.o1 x1 x38 x39 (IntKind.i64.wrap (x40 + (1 : Int))))
theorem f65_aiirrzi_l2_j2_ok (k : Nat) (q_f65_aiirrzi : Int → Int → (List Int) → (List T50) → Int → Option R65_aiirrzi) (hq_f65_aiirrzi : ∀ (a0 a0_1 : Int) (a0_2 : List Int) (a0_3 : List T50) (a1 : Int) (r : R65_aiirrzi), q_f65_aiirrzi a0 a0_1 a0_2 a0_3 a1 = some r → CV k 65 [V.agg [V.p (Value.int .i64 a0), V.p (Value.int .u64 a0_1), V.sl 1 (rowsOf (encI .u8) a0_2), V.sl 4 (rowsOf encT50 a0_3)], V.p (Value.int .i64 a1)] [] = some r.st) (x1 : Int) (x38 : List T50) (x39 x40 : Int) (x48 : Bool) (r : R65_aiirrzi_l2) (hF : f65_aiirrzi_l2_j2 k q_f65_aiirrzi x1 x38 x39 x40 x48 = some r) : EX 65 k (nav B65 [2, 2, 2, 1, 2, 2, 1, 2, 2]) ({ n := 50, F := [(1, V.p (Value.int .i64 x1)), (38, V.sl 4 (rowsOf encT50 x38)), (39, V.p (Value.int .i64 x39)), (40, V.p (Value.int .i64 x40)), (48, V.p (Value.bool x48))], M := [] } : St) = some r.st := by
  unfold f65_aiirrzi_l2_j2 at hF
  cases hF
  simp (maxSteps := 999999) (disch := first | exact D (by decide) | exact K (by kernel_rfl)) only [E, EE, ↓reduceIte, simprocAttr, show (nav B65 [2, 2, 2, 1, 2, 2, 1, 2, 2]) = Code.region 8 _ false from rfl, hk_65_8, hz_65_8, hs_65_8, R65_aiirrzi_l2.st]
noncomputable def f65_aiirrzi_l2_j1 (k : Nat) (q_f65_aiirrzi : Int → Int → (List Int) → (List T50) → Int → Option R65_aiirrzi) (x1 : Int) (x38 : List T50) (x39 x40 : Int) (x41 : Bool) : Option R65_aiirrzi_l2 :=
  ifE ((0 : Int) ≤ x40) (
    Option.bind (x38[(Int.toNat x40)]?) fun v2 =>
      Option.bind (q_f65_aiirrzi v2.Kind v2.Num v2.Bytes v2.Items (IntKind.i64.wrap (x1 - (1 : Int)))) fun o4 =>
        match o4 with
        | .o0 v7 =>
          cond ((!v7))
            (some (R65_aiirrzi_l2.o0 false))
            (f65_aiirrzi_l2_j2 k q_f65_aiirrzi x1 x38 x39 x40 false))
theorem f65_aiirrzi_l2_j1_ok (k : Nat) (q_f65_aiirrzi : Int → Int → (List Int) → (List T50) → Int → Option R65_aiirrzi) (hq_f65_aiirrzi : ∀ (a0 a0_1 : Int) (a0_2 : List Int) (a0_3 : List T50) (a1 : Int) (r : R65_aiirrzi), q_f65_aiirrzi a0 a0_1 a0_2 a0_3 a1 = some r → CV k 65 [V.agg [V.p (Value.int .i64 a0), V.p (Value.int .u64 a0_1), V.sl 1 (rowsOf (encI .u8) a0_2), V.sl 4 (rowsOf encT50 a0_3)], V.p (Value.int .i64 a1)] [] = some r.st) (x1 : Int) (x38 : List T50) (x39 x40 : Int) (x41 : Bool) (r : R65_aiirrzi_l2) (hF : f65_aiirrzi_l2_j1 k q_f65_aiirrzi x1 x38 x39 x40 x41 = some r) : EX 65 k (nav B65 [2, 2, 1, 2, 2, 1, 2, 2]) ({ n := 50, F := [(1, V.p (Value.int .i64 x1)), (38, V.sl 4 (rowsOf encT50 x38)), (39, V.p (Value.int .i64 x39)), (40, V.p (Value.int .i64 x40)), (41, V.p (Value.bool x41))], M := [] } : St) = some r.st := by
  unfold f65_aiirrzi_l2_j1 at hF
  replace hF := ifE_some.1 hF
  obtain ⟨h1, hF⟩ := hF
  replace hF := Option.bind_eq_some_iff.1 hF
  obtain ⟨v2, h3, hF⟩ := hF
  replace hF := Option.bind_eq_some_iff.1 hF
  obtain ⟨o4, h5, hF⟩ := hF
  have hc6 := hq_f65_aiirrzi v2.Kind v2.Num v2.Bytes v2.Items (IntKind.i64.wrap (x1 - (1 : Int))) _ h5
  cases o4 with
  | o0 v7 =>
    (try dsimp only at hF)
    (try simp only [NM, EE, R65_aiirrzi.st] at hc6)
    simp (maxSteps := 999999) (disch := first | exact D (by decide) | exact K (by kernel_rfl)) only [E, EE, ↓reduceIte, simprocAttr, xk B65 [2, 2, 1, 2, 2, 1, 2, 2] .sq rfl, xk B65 [1, 2, 2, 1, 2, 2, 1, 2, 2] (.bk 1) rfl, xk B65 [2, 1, 2, 2, 1, 2, 2, 1, 2, 2] .sq rfl, show (nav B65 [1, 2, 1, 2, 2, 1, 2, 2, 1, 2, 2]) = Code.region 5 _ false from rfl, hk_65_5, hz_65_5, hs_65_5, indexAddrV, u_48, i_48, is_48, ib_48, iz_48, u_50, i_50, is_50, ib_50, iz_50, encT50_eq, xk B65 [2, 2, 1, 2, 2, 1, 2, 2, 1, 2, 2] .sq rfl, show (nav B65 [1, 2, 2, 1, 2, 2, 1, 2, 2, 1, 2, 2]) = Code.region 6 _ false from rfl, hk_65_6, hz_65_6, hs_65_6, callStep, CL, gv, List.contains, xk B65 [2, 2, 2, 1, 2, 2, 1, 2, 2, 1, 2, 2] (.cd 48) rfl, h1, h3, hc6]
    replace hF := cond_some hF
    rcases hF with ⟨h8, hF⟩ | ⟨h8, hF⟩
    · cases hF
      simp (maxSteps := 999999) (disch := first | exact D (by decide) | exact K (by kernel_rfl)) only [E, EE, ↓reduceIte, simprocAttr, xk B65 [2, 2, 2, 2, 1, 2, 2, 1, 2, 2, 1, 2, 2] .sq rfl, show (nav B65 [1, 2, 2, 2, 2, 1, 2, 2, 1, 2, 2, 1, 2, 2]) = Code.region 7 _ false from rfl, hk_65_7, hz_65_7, hs_65_7, xk B65 [2, 2, 2, 2, 2, 1, 2, 2, 1, 2, 2, 1, 2, 2] .rt rfl, R65_aiirrzi_l2.st, h1, h3, hc6, h8]
    · have hJ := f65_aiirrzi_l2_j2_ok k q_f65_aiirrzi hq_f65_aiirrzi x1 x38 x39 x40 false _ hF
      simp (maxSteps := 999999) (disch := first | exact D (by decide) | exact K (by kernel_rfl)) only [E, EE, ↓reduceIte, simprocAttr, xk B65 [3, 2, 2, 2, 1, 2, 2, 1, 2, 2, 1, 2, 2] .sk rfl, h1, h3, hc6, h8]
      try simp only [NM, EE] at hJ
      exact hJ
noncomputable def f65_aiirrzi_l2_b (k : Nat) (q_f65_aiirrzi : Int → Int → (List Int) → (List T50) → Int → Option R65_aiirrzi) (x1 : Int) (x38 : List T50) (x39 x40 : Int) : Option R65_aiirrzi_l2 :=
  cond ((decide (x40 < x39)))
    (f65_aiirrzi_l2_j1 k q_f65_aiirrzi x1 x38 x39 x40 true)
    (some (R65_aiirrzi_l2.o2 x1 x38 x39 x40 false))
theorem f65_aiirrzi_l2_b_ok (k : Nat) (q_f65_aiirrzi : Int → Int → (List Int) → (List T50) → Int → Option R65_aiirrzi) (hq_f65_aiirrzi : ∀ (a0 a0_1 : Int) (a0_2 : List Int) (a0_3 : List T50) (a1 : Int) (r : R65_aiirrzi), q_f65_aiirrzi a0 a0_1 a0_2 a0_3 a1 = some r → CV k 65 [V.agg [V.p (Value.int .i64 a0), V.p (Value.int .u64 a0_1), V.sl 1 (rowsOf (encI .u8) a0_2), V.sl 4 (rowsOf encT50 a0_3)], V.p (Value.int .i64 a1)] [] = some r.st) (x1 : Int) (x38 : List T50) (x39 x40 : Int) (r : R65_aiirrzi_l2) (hF : f65_aiirrzi_l2_b k q_f65_aiirrzi x1 x38 x39 x40 = some r) : EX 65 k (nav B65 [1, 2, 2, 1, 2, 2]) ({ n := 50, F := [(1, V.p (Value.int .i64 x1)), (38, V.sl 4 (rowsOf encT50 x38)), (39, V.p (Value.int .i64 x39)), (40, V.p (Value.int .i64 x40))], M := [] } : St) = some r.st := by
  unfold f65_aiirrzi_l2_b at hF
  simp (maxSteps := 999999) (disch := first | exact D (by decide) | exact K (by kernel_rfl)) only [E, EE, ↓reduceIte, simprocAttr, xk B65 [1, 2, 2, 1, 2, 2] .sq rfl, show (nav B65 [1, 1, 2, 2, 1, 2, 2]) = Code.region 4 _ false from rfl, hk_65_4, hz_65_4, hs_65_4, xk B65 [2, 1, 2, 2, 1, 2, 2] .sq rfl, xk B65 [1, 2, 1, 2, 2, 1, 2, 2] (.cd 41) rfl]
  replace hF := cond_some hF
  rcases hF with ⟨h1, hF⟩ | ⟨h1, hF⟩
  · have hJ := f65_aiirrzi_l2_j1_ok k q_f65_aiirrzi hq_f65_aiirrzi x1 x38 x39 x40 true _ hF
    simp (maxSteps := 999999) (disch := first | exact D (by decide) | exact K (by kernel_rfl)) only [E, EE, ↓reduceIte, simprocAttr, xk B65 [2, 1, 2, 1, 2, 2, 1, 2, 2] .sk rfl, h1]
    try simp only [NM, EE] at hJ
    exact hJ
  · cases hF
    simp (maxSteps := 999999) (disch := first | exact D (by decide) | exact K (by kernel_rfl)) only [E, EE, ↓reduceIte, simprocAttr, xk B65 [3, 1, 2, 1, 2, 2, 1, 2, 2] (.ex 0) rfl, R65_aiirrzi_l2.st, h1]
noncomputable def f65_aiirrzi_l2 (k : Nat) (q_f65_aiirrzi : Int → Int → (List Int) → (List T50) → Int → Option R65_aiirrzi) : Nat → Int → (List T50) → Int → Int → Option R65_aiirrzi_l2
  | 0, _, _, _, _ => none
  | n + 1, x1, x38, x39, x40 => Option.bind (f65_aiirrzi_l2_b k q_f65_aiirrzi x1 x38 x39 x40) fun o =>
    match o with
    | .o0 y => some (.o0 y)
    | .o1 y y_1 y_2 y_3 => f65_aiirrzi_l2 k q_f65_aiirrzi n y y_1 y_2 y_3
    | .o2 y y_1 y_2 y_3 y_4 => some (.o2 y y_1 y_2 y_3 y_4)
theorem f65_aiirrzi_l2_ok (k : Nat) (q_f65_aiirrzi : Int → Int → (List Int) → (List T50) → Int → Option R65_aiirrzi) (hq_f65_aiirrzi : ∀ (a0 a0_1 : Int) (a0_2 : List Int) (a0_3 : List T50) (a1 : Int) (r : R65_aiirrzi), q_f65_aiirrzi a0 a0_1 a0_2 a0_3 a1 = some r → CV k 65 [V.agg [V.p (Value.int .i64 a0), V.p (Value.int .u64 a0_1), V.sl 1 (rowsOf (encI .u8) a0_2), V.sl 4 (rowsOf encT50 a0_3)], V.p (Value.int .i64 a1)] [] = some r.st) (n : Nat) : ∀ (x1 : Int) (x38 : List T50) (x39 x40 : Int) (r : R65_aiirrzi_l2) (hF : f65_aiirrzi_l2 k q_f65_aiirrzi n x1 x38 x39 x40 = some r) (σ : St) (hσ : headR (hints.head 65 4) (hints.canon 65 4) σ = some ({ n := 50, F := [(1, V.p (Value.int .i64 x1)), (38, V.sl 4 (rowsOf encT50 x38)), (39, V.p (Value.int .i64 x39)), (40, V.p (Value.int .i64 x40))], M := [] } : St)), LP 65 k (nav B65 [1, 2, 2, 1, 2, 2]) n σ = some r.st := by
  induction n with
  | zero => intro x1 x38 x39 x40 r hF; cases hF
  | succ n ih =>
    intro x1 x38 x39 x40 r hF σ hσ
    rw [f65_aiirrzi_l2] at hF
    obtain ⟨o, h, hF⟩ := Option.bind_eq_some_iff.1 hF
    have hB := f65_aiirrzi_l2_b_ok k q_f65_aiirrzi hq_f65_aiirrzi x1 x38 x39 x40 o h
    unfold LP at ih ⊢
    unfold EX at hB
    rw [loopK_succ, show firstReg (nav B65 [1, 2, 2, 1, 2, 2]) = 4 from rfl, hσ, headK_some, hB]
    cases o with
    | o0 y => cases hF; rfl
    | o1 y y_1 y_2 y_3 =>
      refine ih y y_1 y_2 y_3 r hF _ ?_
      simp (maxSteps := 999999) (disch := first | exact D (by decide) | exact K (by kernel_rfl)) only [E, EE, ↓reduceIte, simprocAttr, hh_65_4, hc_65_4]
    | o2 y y_1 y_2 y_3 y_4 => cases hF; rfl
noncomputable def f65_aiirrzi_j3 (k : Nat) (q_f65_aiirrzi : Int → Int → (List Int) → (List T50) → Int → Option R65_aiirrzi) (x1 : Int) (x38 : List T50) (x39 x40 : Int) (x41 : Bool) : Option R65_aiirrzi :=
  some (R65_aiirrzi.o0 true)
theorem f65_aiirrzi_j3_ok (k : Nat) (q_f65_aiirrzi : Int → Int → (List Int) → (List T50) → Int → Option R65_aiirrzi) (hq_f65_aiirrzi : ∀ (a0 a0_1 : Int) (a0_2 : List Int) (a0_3 : List T50) (a1 : Int) (r : R65_aiirrzi), q_f65_aiirrzi a0 a0_1 a0_2 a0_3 a1 = some r → CV k 65 [V.agg [V.p (Value.int .i64 a0), V.p (Value.int .u64 a0_1), V.sl 1 (rowsOf (encI .u8) a0_2), V.sl 4 (rowsOf encT50 a0_3)], V.p (Value.int .i64 a1)] [] = some r.st) (x1 : Int) (x38 : List T50) (x39 x40 : Int) (x41 : Bool) (r : R65_aiirrzi) (hF : f65_aiirrzi_j3 k q_f65_aiirrzi x1 x38 x39 x40 x41 = some r) : finK Tryd.prog Tryd.f65 0 (EX 65 k (nav B65 [2, 2, 2]) ({ n := 50, F := [(1, V.p (Value.int .i64 x1)), (38, V.sl 4 (rowsOf encT50 x38)), (39, V.p (Value.int .i64 x39)), (40, V.p (Value.int .i64 x40)), (41, V.p (Value.bool x41))], M := [] } : St)) = some r.st := by
  unfold f65_aiirrzi_j3 at hF
  cases hF
  simp (maxSteps := 999999) (disch := first | exact D (by decide) | exact K (by kernel_rfl)) only [E, EE, ↓reduceIte, simprocAttr, xk B65 [2, 2, 2] .sq rfl, show (nav B65 [1, 2, 2, 2]) = Code.region 9 _ false from rfl, hk_65_9, hz_65_9, hs_65_9, xk B65 [2, 2, 2, 2] .rt rfl, finK_norm, finK_ret, fin65, R65_aiirrzi.st]
noncomputable def f65_aiirrzi_j1 (k : Nat) (q_f65_aiirrzi : Int → Int → (List Int) → (List T50) → Int → Option R65_aiirrzi) (x1 : Int) (x36 : Bool) (m2 m2_1 : Int) (m2_2 : List Int) (m2_3 : List T50) : Option R65_aiirrzi :=
  Option.bind (f65_aiirrzi_l2 k q_f65_aiirrzi k x1 m2_3 ((List.length m2_3) : Int) 0) fun o1 =>
    match o1 with
    | .o0 v4 =>
      some (R65_aiirrzi.o0 v4)
    | .o1 _ _ _ _ =>
      none
    | .o2 v5 v6 v7 v8 v9 =>
      f65_aiirrzi_j3 k q_f65_aiirrzi v5 v6 v7 v8 v9
theorem f65_aiirrzi_j1_ok (k : Nat) (q_f65_aiirrzi : Int → Int → (List Int) → (List T50) → Int → Option R65_aiirrzi) (hq_f65_aiirrzi : ∀ (a0 a0_1 : Int) (a0_2 : List Int) (a0_3 : List T50) (a1 : Int) (r : R65_aiirrzi), q_f65_aiirrzi a0 a0_1 a0_2 a0_3 a1 = some r → CV k 65 [V.agg [V.p (Value.int .i64 a0), V.p (Value.int .u64 a0_1), V.sl 1 (rowsOf (encI .u8) a0_2), V.sl 4 (rowsOf encT50 a0_3)], V.p (Value.int .i64 a1)] [] = some r.st) (x1 : Int) (x36 : Bool) (m2 m2_1 : Int) (m2_2 : List Int) (m2_3 : List T50) (r : R65_aiirrzi) (hF : f65_aiirrzi_j1 k q_f65_aiirrzi x1 x36 m2 m2_1 m2_2 m2_3 = some r) : finK Tryd.prog Tryd.f65 0 (EX 65 k (nav B65 [2, 2]) ({ n := 50, F := [(1, V.p (Value.int .i64 x1)), (2, V.ptr 2 0), (36, V.p (Value.bool x36))], M := [(2, O.box 50 [V.p (Value.int .i64 m2), V.p (Value.int .u64 m2_1), V.sl 1 (rowsOf (encI .u8) m2_2), V.sl 4 (rowsOf encT50 m2_3)])] } : St)) = some r.st := by
  unfold f65_aiirrzi_j1 at hF
  replace hF := Option.bind_eq_some_iff.1 hF
  obtain ⟨o1, h2, hF⟩ := hF
  have hc3 := f65_aiirrzi_l2_ok k q_f65_aiirrzi hq_f65_aiirrzi k x1 m2_3 ((List.length m2_3) : Int) 0 _ h2
  simp (maxSteps := 999999) (disch := first | exact D (by decide) | exact K (by kernel_rfl)) only [E, EE, ↓reduceIte, simprocAttr, xk B65 [2, 2] .sq rfl, xk B65 [1, 2, 2] .sq rfl, show (nav B65 [1, 1, 2, 2]) = Code.region 3 _ false from rfl, hk_65_3, hz_65_3, hs_65_3, fieldAddrV, u_50, i_50, is_50, ib_50, iz_50, u_48, i_48, is_48, ib_48, iz_48, xk B65 [2, 1, 2, 2] (.bk 0) rfl, xk B65 [2, 2, 1, 2, 2] .lp rfl, hh_65_4, hc_65_4]
  (try simp only [NM, EE] at hc3)
  rw [hc3 _ (by simp (maxSteps := 999999) (disch := first | exact D (by decide) | exact K (by kernel_rfl)) only [E, EE, ↓reduceIte, simprocAttr, hh_65_4, hc_65_4])]
  clear hc3
  cases o1 with
  | o0 v4 =>
    (try dsimp only at hF)
    cases hF
    simp (maxSteps := 999999) (disch := first | exact D (by decide) | exact K (by kernel_rfl)) only [E, EE, ↓reduceIte, simprocAttr, R65_aiirrzi_l2.st, finK_norm, finK_ret, fin65, R65_aiirrzi.st]
  | o1 _ _ _ _ =>
    (try dsimp only at hF)
    cases hF
  | o2 v5 v6 v7 v8 v9 =>
    (try dsimp only at hF)
    have hJ := f65_aiirrzi_j3_ok k q_f65_aiirrzi hq_f65_aiirrzi v5 v6 v7 v8 v9 _ hF
    simp (maxSteps := 999999) (disch := first | exact D (by decide) | exact K (by kernel_rfl)) only [E, EE, ↓reduceIte, simprocAttr, R65_aiirrzi_l2.st]
    try simp only [NM, EE] at hJ
    exact hJ
noncomputable def f65_aiirrzi_e (k : Nat) (q_f65_aiirrzi : Int → Int → (List Int) → (List T50) → Int → Option R65_aiirrzi) (a0 a0_1 : Int) (a0_2 : List Int) (a0_3 : List T50) (a1 : Int) : Option R65_aiirrzi :=
  cond ((a1 == 0))
    (some (R65_aiirrzi.o0 false))
    (
      Option.bind (f72_aiirrz k a0 a0_1 a0_2 a0_3) fun o2 =>
        match o2 with
        | .o0 v5 =>
          cond ((!v5))
            (some (R65_aiirrzi.o0 false))
            (
              cond ((decide (((List.length a0_2) : Int) > 512)))
                (some (R65_aiirrzi.o0 false))
                (
                  cond ((decide (((List.length a0_3) : Int) > 64)))
                    (some (R65_aiirrzi.o0 false))
                    (
                      cond ((a0 == 3))
                        (
                          Option.bind (f49_r k a0_2) fun o10 =>
                            match o10 with
                            | .o0 v13 =>
                              cond ((!v13))
                                (some (R65_aiirrzi.o0 false))
                                (f65_aiirrzi_j1 k q_f65_aiirrzi a1 false a0 a0_1 a0_2 a0_3))
                        (f65_aiirrzi_j1 k q_f65_aiirrzi a1 false a0 a0_1 a0_2 a0_3)))))
theorem f65_aiirrzi_e_ok (k : Nat) (q_f65_aiirrzi : Int → Int → (List Int) → (List T50) → Int → Option R65_aiirrzi) (hq_f65_aiirrzi : ∀ (a0 a0_1 : Int) (a0_2 : List Int) (a0_3 : List T50) (a1 : Int) (r : R65_aiirrzi), q_f65_aiirrzi a0 a0_1 a0_2 a0_3 a1 = some r → CV k 65 [V.agg [V.p (Value.int .i64 a0), V.p (Value.int .u64 a0_1), V.sl 1 (rowsOf (encI .u8) a0_2), V.sl 4 (rowsOf encT50 a0_3)], V.p (Value.int .i64 a1)] [] = some r.st) (a0 a0_1 : Int) (a0_2 : List Int) (a0_3 : List T50) (a1 : Int) (r : R65_aiirrzi) (hF : f65_aiirrzi_e k q_f65_aiirrzi a0 a0_1 a0_2 a0_3 a1 = some r) : finK Tryd.prog Tryd.f65 0 (EX 65 k (nav B65 []) ({ n := 50, F := [(0, V.agg [V.p (Value.int .i64 a0), V.p (Value.int .u64 a0_1), V.sl 1 (rowsOf (encI .u8) a0_2), V.sl 4 (rowsOf encT50 a0_3)]), (1, V.p (Value.int .i64 a1))], M := [] } : St)) = some r.st := by
  unfold f65_aiirrzi_e at hF
  simp (maxSteps := 999999) (disch := first | exact D (by decide) | exact K (by kernel_rfl)) only [E, EE, ↓reduceIte, simprocAttr, xk B65 [] .sq rfl, show (nav B65 [1]) = Code.region 0 _ false from rfl, hk_65_0, hz_65_0, hs_65_0, xk B65 [2] .sq rfl, xk B65 [1, 2] .sq rfl, show (nav B65 [1, 1, 2]) = Code.region 1 _ false from rfl, hk_65_1, hz_65_1, hs_65_1]
  replace hF := cond_some hF
  rcases hF with ⟨h1, hF⟩ | ⟨h1, hF⟩
  · cases hF
    simp (maxSteps := 999999) (disch := first | exact D (by decide) | exact K (by kernel_rfl)) only [E, EE, ↓reduceIte, simprocAttr, xk B65 [2, 1, 2] (.cd 36) rfl, xk B65 [2, 2, 1, 2] .sq rfl, show (nav B65 [1, 2, 2, 1, 2]) = Code.region 2 _ false from rfl, hk_65_2, hz_65_2, hs_65_2, xk B65 [2, 2, 2, 1, 2] .rt rfl, finK_norm, finK_ret, fin65, R65_aiirrzi.st, h1]
  · replace hF := Option.bind_eq_some_iff.1 hF
    obtain ⟨o2, h3, hF⟩ := hF
    have hc4 := f72_aiirrz_ok k a0 a0_1 a0_2 a0_3 _ h3
    cases o2 with
    | o0 v5 =>
      (try dsimp only at hF)
      (try simp only [NM, EE, R72_aiirrz.st] at hc4)
      simp (maxSteps := 999999) (disch := first | exact D (by decide) | exact K (by kernel_rfl)) only [E, EE, ↓reduceIte, simprocAttr, u_50, i_50, is_50, ib_50, iz_50, callStep, CL, gv, List.contains, h1, hc4]
      replace hF := cond_some hF
      rcases hF with ⟨h6, hF⟩ | ⟨h6, hF⟩
      · cases hF
        simp (maxSteps := 999999) (disch := first | exact D (by decide) | exact K (by kernel_rfl)) only [E, EE, ↓reduceIte, simprocAttr, xk B65 [2, 1, 2] (.cd 36) rfl, xk B65 [2, 2, 1, 2] .sq rfl, show (nav B65 [1, 2, 2, 1, 2]) = Code.region 2 _ false from rfl, hk_65_2, hz_65_2, hs_65_2, xk B65 [2, 2, 2, 1, 2] .rt rfl, finK_norm, finK_ret, fin65, R65_aiirrzi.st, h1, hc4, h6]
      · simp (maxSteps := 999999) (disch := first | exact D (by decide) | exact K (by kernel_rfl)) only [E, EE, ↓reduceIte, simprocAttr, fieldAddrV, u_50, i_50, is_50, ib_50, iz_50, u_22, i_22, is_22, ib_22, iz_22, h1, hc4, h6]
        replace hF := cond_some hF
        rcases hF with ⟨h7, hF⟩ | ⟨h7, hF⟩
        · cases hF
          simp (maxSteps := 999999) (disch := first | exact D (by decide) | exact K (by kernel_rfl)) only [E, EE, ↓reduceIte, simprocAttr, xk B65 [2, 1, 2] (.cd 36) rfl, xk B65 [2, 2, 1, 2] .sq rfl, show (nav B65 [1, 2, 2, 1, 2]) = Code.region 2 _ false from rfl, hk_65_2, hz_65_2, hs_65_2, xk B65 [2, 2, 2, 1, 2] .rt rfl, finK_norm, finK_ret, fin65, R65_aiirrzi.st, h1, hc4, h6, h7]
        · simp (maxSteps := 999999) (disch := first | exact D (by decide) | exact K (by kernel_rfl)) only [E, EE, ↓reduceIte, simprocAttr, fieldAddrV, u_50, i_50, is_50, ib_50, iz_50, u_48, i_48, is_48, ib_48, iz_48, h1, hc4, h6, h7]
          replace hF := cond_some hF
          rcases hF with ⟨h8, hF⟩ | ⟨h8, hF⟩
          · cases hF
            simp (maxSteps := 999999) (disch := first | exact D (by decide) | exact K (by kernel_rfl)) only [E, EE, ↓reduceIte, simprocAttr, xk B65 [2, 1, 2] (.cd 36) rfl, xk B65 [2, 2, 1, 2] .sq rfl, show (nav B65 [1, 2, 2, 1, 2]) = Code.region 2 _ false from rfl, hk_65_2, hz_65_2, hs_65_2, xk B65 [2, 2, 2, 1, 2] .rt rfl, finK_norm, finK_ret, fin65, R65_aiirrzi.st, h1, hc4, h6, h7, h8]
          · simp (maxSteps := 999999) (disch := first | exact D (by decide) | exact K (by kernel_rfl)) only [E, EE, ↓reduceIte, simprocAttr, fieldAddrV, u_50, i_50, is_50, ib_50, iz_50, u_3, i_3, is_3, ib_3, iz_3, h1, hc4, h6, h7, h8]
            replace hF := cond_some hF
            rcases hF with ⟨h9, hF⟩ | ⟨h9, hF⟩
            · replace hF := Option.bind_eq_some_iff.1 hF
              obtain ⟨o10, h11, hF⟩ := hF
              have hc12 := f49_r_ok k a0_2 _ h11
              cases o10 with
              | o0 v13 =>
                (try dsimp only at hF)
                (try simp only [NM, EE, R49_r.st] at hc12)
                simp (maxSteps := 999999) (disch := first | exact D (by decide) | exact K (by kernel_rfl)) only [E, EE, ↓reduceIte, simprocAttr, fieldAddrV, u_50, i_50, is_50, ib_50, iz_50, u_22, i_22, is_22, ib_22, iz_22, callStep, CL, gv, List.contains, xk B65 [2, 1, 2] (.cd 36) rfl, h1, hc4, h6, h7, h8, h9, hc12]
                replace hF := cond_some hF
                rcases hF with ⟨h14, hF⟩ | ⟨h14, hF⟩
                · cases hF
                  simp (maxSteps := 999999) (disch := first | exact D (by decide) | exact K (by kernel_rfl)) only [E, EE, ↓reduceIte, simprocAttr, xk B65 [2, 2, 1, 2] .sq rfl, show (nav B65 [1, 2, 2, 1, 2]) = Code.region 2 _ false from rfl, hk_65_2, hz_65_2, hs_65_2, xk B65 [2, 2, 2, 1, 2] .rt rfl, finK_norm, finK_ret, fin65, R65_aiirrzi.st, h1, hc4, h6, h7, h8, h9, hc12, h14]
                · have hJ := f65_aiirrzi_j1_ok k q_f65_aiirrzi hq_f65_aiirrzi a1 false a0 a0_1 a0_2 a0_3 _ hF
                  simp (maxSteps := 999999) (disch := first | exact D (by decide) | exact K (by kernel_rfl)) only [E, EE, ↓reduceIte, simprocAttr, xk B65 [3, 2, 1, 2] .sk rfl, h1, hc4, h6, h7, h8, h9, hc12, h14]
                  try simp only [NM, EE] at hJ
                  exact hJ
            · have hJ := f65_aiirrzi_j1_ok k q_f65_aiirrzi hq_f65_aiirrzi a1 false a0 a0_1 a0_2 a0_3 _ hF
              simp (maxSteps := 999999) (disch := first | exact D (by decide) | exact K (by kernel_rfl)) only [E, EE, ↓reduceIte, simprocAttr, xk B65 [2, 1, 2] (.cd 36) rfl, xk B65 [3, 2, 1, 2] .sk rfl, h1, hc4, h6, h7, h8, h9]
              try simp only [NM, EE] at hJ
              exact hJ
noncomputable def f65_aiirrzi : Nat → Int → Int → (List Int) → (List T50) → Int → Option R65_aiirrzi
  | 0, _, _, _, _, _ => none
  | k + 1, a0, a0_1, a0_2, a0_3, a1 => f65_aiirrzi_e k (f65_aiirrzi k) a0 a0_1 a0_2 a0_3 a1
theorem f65_aiirrzi_all (k : Nat) : (∀ (a0 a0_1 : Int) (a0_2 : List Int) (a0_3 : List T50) (a1 : Int) (r : R65_aiirrzi), f65_aiirrzi k a0 a0_1 a0_2 a0_3 a1 = some r → CV k 65 [V.agg [V.p (Value.int .i64 a0), V.p (Value.int .u64 a0_1), V.sl 1 (rowsOf (encI .u8) a0_2), V.sl 4 (rowsOf encT50 a0_3)], V.p (Value.int .i64 a1)] [] = some r.st) := by
  induction k with
  | zero => exact (by intro a0 a0_1 a0_2 a0_3 a1 r hF; rw [f65_aiirrzi] at hF; cases hF)
  | succ k ih =>
    have ih_f65_aiirrzi := ih
    exact (by intro a0 a0_1 a0_2 a0_3 a1 r hF; rw [f65_aiirrzi] at hF; unfold CV; rw [ev_call (F := Tryd.f65) (c := (nav B65 [])) rfl Tryd.func65 rfl rfl rfl rfl]; exact f65_aiirrzi_e_ok k (f65_aiirrzi k) ih_f65_aiirrzi a0 a0_1 a0_2 a0_3 a1 r hF)
theorem f65_aiirrzi_ok (k : Nat) (a0 a0_1 : Int) (a0_2 : List Int) (a0_3 : List T50) (a1 : Int) (r : R65_aiirrzi) (hF : f65_aiirrzi k a0 a0_1 a0_2 a0_3 a1 = some r) : CV k 65 [V.agg [V.p (Value.int .i64 a0), V.p (Value.int .u64 a0_1), V.sl 1 (rowsOf (encI .u8) a0_2), V.sl 4 (rowsOf encT50 a0_3)], V.p (Value.int .i64 a1)] [] = some r.st := f65_aiirrzi_all k a0 a0_1 a0_2 a0_3 a1 r hF
-- f50_aiirrz: f50 heliograph/cbor.Check
inductive R50_aiirrz where
  | o0 (y : Int)
noncomputable def R50_aiirrz.st : R50_aiirrz → V × List O × List O
  | .o0 y => (V.p (Value.int .i64 y), [], [])
noncomputable def f50_aiirrz_j1 (k : Nat) (x5 : Bool) : Option R50_aiirrz :=
  some (R50_aiirrz.o0 0)
theorem f50_aiirrz_j1_ok (k : Nat) (x5 : Bool) (r : R50_aiirrz) (hF : f50_aiirrz_j1 k x5 = some r) : finK Tryd.prog Tryd.f50 0 (EX 50 k (nav B50 [2, 2]) ({ n := 6, F := [(5, V.p (Value.bool x5))], M := [] } : St)) = some r.st := by
  unfold f50_aiirrz_j1 at hF
  cases hF
  simp (maxSteps := 999999) (disch := first | exact D (by decide) | exact K (by kernel_rfl)) only [E, EE, ↓reduceIte, simprocAttr, xk B50 [2, 2] .sq rfl, show (nav B50 [1, 2, 2]) = Code.region 3 _ false from rfl, hk_50_3, hz_50_3, hs_50_3, xk B50 [2, 2, 2] .rt rfl, finK_norm, finK_ret, fin50, R50_aiirrz.st]
noncomputable def f50_aiirrz_e (k : Nat) (a0 a0_1 : Int) (a0_2 : List Int) (a0_3 : List T50) : Option R50_aiirrz :=
  Option.bind (f65_aiirrzi k a0 a0_1 a0_2 a0_3 4) fun o1 =>
    match o1 with
    | .o0 v4 =>
      cond ((!v4))
        (some (R50_aiirrz.o0 170))
        (f50_aiirrz_j1 k false)
theorem f50_aiirrz_e_ok (k : Nat) (a0 a0_1 : Int) (a0_2 : List Int) (a0_3 : List T50) (r : R50_aiirrz) (hF : f50_aiirrz_e k a0 a0_1 a0_2 a0_3 = some r) : finK Tryd.prog Tryd.f50 0 (EX 50 k (nav B50 []) ({ n := 6, F := [(0, V.agg [V.p (Value.int .i64 a0), V.p (Value.int .u64 a0_1), V.sl 1 (rowsOf (encI .u8) a0_2), V.sl 4 (rowsOf encT50 a0_3)])], M := [] } : St)) = some r.st := by
  unfold f50_aiirrz_e at hF
  replace hF := Option.bind_eq_some_iff.1 hF
  obtain ⟨o1, h2, hF⟩ := hF
  have hc3 := f65_aiirrzi_ok k a0 a0_1 a0_2 a0_3 4 _ h2
  cases o1 with
  | o0 v4 =>
    (try dsimp only at hF)
    (try simp only [NM, EE, R65_aiirrzi.st] at hc3)
    simp (maxSteps := 999999) (disch := first | exact D (by decide) | exact K (by kernel_rfl)) only [E, EE, ↓reduceIte, simprocAttr, xk B50 [] .sq rfl, show (nav B50 [1]) = Code.region 0 _ false from rfl, hk_50_0, hz_50_0, hs_50_0, xk B50 [2] .sq rfl, xk B50 [1, 2] .sq rfl, show (nav B50 [1, 1, 2]) = Code.region 1 _ false from rfl, hk_50_1, hz_50_1, hs_50_1, u_50, i_50, is_50, ib_50, iz_50, callStep, CL, gv, List.contains, xk B50 [2, 1, 2] (.cd 5) rfl, hc3]
    replace hF := cond_some hF
    rcases hF with ⟨h5, hF⟩ | ⟨h5, hF⟩
    · cases hF
      simp (maxSteps := 999999) (disch := first | exact D (by decide) | exact K (by kernel_rfl)) only [E, EE, ↓reduceIte, simprocAttr, xk B50 [2, 2, 1, 2] .sq rfl, show (nav B50 [1, 2, 2, 1, 2]) = Code.region 2 _ false from rfl, hk_50_2, hz_50_2, hs_50_2, xk B50 [2, 2, 2, 1, 2] .rt rfl, finK_norm, finK_ret, fin50, R50_aiirrz.st, hc3, h5]
    · have hJ := f50_aiirrz_j1_ok k false _ hF
      simp (maxSteps := 999999) (disch := first | exact D (by decide) | exact K (by kernel_rfl)) only [E, EE, ↓reduceIte, simprocAttr, xk B50 [3, 2, 1, 2] .sk rfl, hc3, h5]
      try simp only [NM, EE] at hJ
      exact hJ
noncomputable def f50_aiirrz (k : Nat) (a0 a0_1 : Int) (a0_2 : List Int) (a0_3 : List T50) : Option R50_aiirrz := match k with | 0 => none | k + 1 => f50_aiirrz_e k a0 a0_1 a0_2 a0_3
theorem f50_aiirrz_ok (k : Nat) (a0 a0_1 : Int) (a0_2 : List Int) (a0_3 : List T50) (r : R50_aiirrz) (hF : f50_aiirrz k a0 a0_1 a0_2 a0_3 = some r) : CV k 50 [V.agg [V.p (Value.int .i64 a0), V.p (Value.int .u64 a0_1), V.sl 1 (rowsOf (encI .u8) a0_2), V.sl 4 (rowsOf encT50 a0_3)]] [] = some r.st := by
  cases k with
  | zero => cases hF
  | succ k =>
    unfold CV
    rw [ev_call (F := Tryd.f50) (c := (nav B50 [])) rfl Tryd.func50 rfl rfl rfl rfl]
    exact f50_aiirrz_e_ok k a0 a0_1 a0_2 a0_3 r hF
-- f66_i: f66 heliograph/cbor.types
inductive R66_i where
  | o0 (y : Int)
noncomputable def R66_i.st : R66_i → V × List O × List O
  | .o0 y => (V.p (Value.int .u8 y), [], [])
noncomputable def f66_i_e (k : Nat) (a0 : Int) : Option R66_i :=
  ifE ((0 : Int) ≤ a0) (
    ifE (a0 < 5) (
      Option.bind (([0, 0, 2, 3, 4] : List Int)[(Int.toNat a0)]?) fun v6 =>
        some (R66_i.o0 v6)))
theorem f66_i_e_ok (k : Nat) (a0 : Int) (r : R66_i) (hF : f66_i_e k a0 = some r) : finK Tryd.prog Tryd.f66 0 (EX 66 k (nav B66 []) ({ n := 6, F := [(0, V.p (Value.int .i64 a0))], M := [] } : St)) = some r.st := by
  unfold f66_i_e at hF
  have q1 : [V.p (Value.int .u8 0), V.p (Value.int .u8 0), V.p (Value.int .u8 2), V.p (Value.int .u8 3), V.p (Value.int .u8 4)] = arrC (cI .u8) ([0, 0, 2, 3, 4] : List Int) := rfl
  have q2 : overlay (arrC (cI .u8) ([0, 0, 2, 3, 4] : List Int)) 0 [V.p (Value.int .u8 0)] = arrC (cI .u8) ([0, 0, 2, 3, 4] : List Int) := rfl
  have q3 : overlay (arrC (cI .u8) ([0, 0, 2, 3, 4] : List Int)) 1 [V.p (Value.int .u8 0)] = arrC (cI .u8) ([0, 0, 2, 3, 4] : List Int) := rfl
  replace hF := ifE_some.1 hF
  obtain ⟨h4, hF⟩ := hF
  replace hF := ifE_some.1 hF
  obtain ⟨h5, hF⟩ := hF
  replace hF := Option.bind_eq_some_iff.1 hF
  obtain ⟨v6, h7, hF⟩ := hF
  cases hF
  simp (maxSteps := 999999) (disch := first | exact D (by decide) | exact K (by kernel_rfl)) only [E, EE, ↓reduceIte, simprocAttr, xk B66 [] .sq rfl, show (nav B66 [1]) = Code.region 0 _ false from rfl, hk_66_0, hz_66_0, hs_66_0, xk B66 [2] .sq rfl, show (nav B66 [1, 2]) = Code.region 1 _ false from rfl, hk_66_1, hz_66_1, hs_66_1, bl_109, u_109, i_109, is_109, ib_109, iz_109, arrIdxV, u_5, i_5, is_5, ib_5, iz_5, xk B66 [2, 2] .rt rfl, finK_norm, finK_ret, fin66, R66_i.st, q1, q2, q3, h4, h5, h7]
noncomputable def f66_i (k : Nat) (a0 : Int) : Option R66_i := match k with | 0 => none | k + 1 => f66_i_e k a0
theorem f66_i_ok (k : Nat) (a0 : Int) (r : R66_i) (hF : f66_i k a0 = some r) : CV k 66 [V.p (Value.int .i64 a0)] [] = some r.st := by
  cases k with
  | zero => cases hF
  | succ k =>
    unfold CV
    rw [ev_call (F := Tryd.f66) (c := (nav B66 [])) rfl Tryd.func66 rfl rfl rfl rfl]
    exact f66_i_e_ok k a0 r hF
-- f76_oii_w: f76 heliograph/octet.put
inductive R76_oii_w where
  | o0 (y y_1 : List Int)
noncomputable def R76_oii_w.st : R76_oii_w → V × List O × List O
  | .o0 y y_1 => (V.own 2000000, [O.row false 1 5 (rowsOf (encI .u8) y)], [O.row true 1 5 (rowsOf (encI .u8) y_1)])
inductive R76_oii_w_l1 where
  | o0 (y y_1 : Int) (y_2 y_3 : List Int)
  | o1 (y y_1 : Int) (y_2 : Bool) (y_3 y_4 : List Int)
noncomputable def R76_oii_w_l1.st : R76_oii_w_l1 → Out × St
  | .o0 y y_1 y_2 y_3 => (.norm, ({ n := 25, F := [(0, V.own 23), (1, V.p (Value.int .u64 y)), (7, V.p (Value.int .i64 y_1))], M := [(23, O.row true 1 5 (rowsOf (encI .u8) y_2)), (1000000, O.row false 1 5 (rowsOf (encI .u8) y_3))] } : St))
  | .o1 y y_1 y_2 y_3 y_4 => (.exit 0, ({ n := 25, F := [(0, V.own 30000), (1, V.p (Value.int .u64 y)), (7, V.p (Value.int .i64 y_1)), (13, V.p (Value.bool y_2))], M := [(30000, O.row true 1 5 (rowsOf (encI .u8) y_3)), (1000000, O.row false 1 5 (rowsOf (encI .u8) y_4))] } : St))
noncomputable def f76_oii_w_l1_j2 (k : Nat) (x1 x7 : Int) (m23 e0 : List Int) : Option R76_oii_w_l1 :=
  some (R76_oii_w_l1.o0 x1 (IntKind.i64.wrap (x7 - (1 : Int))) m23 e0)
theorem f76_oii_w_l1_j2_ok (k : Nat) (x1 x7 : Int) (m23 e0 : List Int) (r : R76_oii_w_l1) (hF : f76_oii_w_l1_j2 k x1 x7 m23 e0 = some r) : EX 76 k (nav B76 [2, 2, 1, 2, 2, 1, 2, 2]) ({ n := 25, F := [(0, V.own 23), (1, V.p (Value.int .u64 x1)), (7, V.p (Value.int .i64 x7))], M := [(23, O.row true 1 5 (rowsOf (encI .u8) m23)), (1000000, O.row false 1 5 (rowsOf (encI .u8) e0))] } : St) = some r.st := by
  unfold f76_oii_w_l1_j2 at hF
  cases hF
  simp (maxSteps := 999999) (disch := first | exact D (by decide) | exact K (by kernel_rfl)) only [E, EE, ↓reduceIte, simprocAttr, show (nav B76 [2, 2, 1, 2, 2, 1, 2, 2]) = Code.region 4 _ false from rfl, hk_76_4, hz_76_4, hs_76_4, R76_oii_w_l1.st]
noncomputable def f76_oii_w_l1_j1 (k : Nat) (x1 x7 : Int) (x13 : Bool) (h0_ e0 : List Int) : Option R76_oii_w_l1 :=
  ifE (¬ (IntKind.i64.wrap ((8 : Int) * x7)) < 0) (
    ifE (((List.length h0_) + 1) ≤ roomy) (
      f76_oii_w_l1_j2 k x1 x7 ((h0_ ++ ([(IntKind.u8.wrap (Int.fdiv x1 (2 ^ (min (Int.toNat (IntKind.i64.wrap ((8 : Int) * x7))) (IntKind.bits .u64)))))] : List Int))) e0))
theorem f76_oii_w_l1_j1_ok (k : Nat) (x1 x7 : Int) (x13 : Bool) (h0_ e0 : List Int) (r : R76_oii_w_l1) (hF : f76_oii_w_l1_j1 k x1 x7 x13 h0_ e0 = some r) : EX 76 k (nav B76 [2, 1, 2, 2, 1, 2, 2]) ({ n := 25, F := [(0, V.own 30000), (1, V.p (Value.int .u64 x1)), (7, V.p (Value.int .i64 x7)), (13, V.p (Value.bool x13))], M := [(30000, O.row true 1 5 (rowsOf (encI .u8) h0_)), (1000000, O.row false 1 5 (rowsOf (encI .u8) e0))] } : St) = some r.st := by
  unfold f76_oii_w_l1_j1 at hF
  replace hF := ifE_some.1 hF
  obtain ⟨h2, hF⟩ := hF
  have q3 : [[V.p (Value.int .u8 (IntKind.u8.wrap (Int.fdiv x1 (2 ^ (min (Int.toNat (IntKind.i64.wrap ((8 : Int) * x7))) (IntKind.bits .u64))))))]] = rowsOf (encI .u8) ([(IntKind.u8.wrap (Int.fdiv x1 (2 ^ (min (Int.toNat (IntKind.i64.wrap ((8 : Int) * x7))) (IntKind.bits .u64)))))] : List Int) := rfl
  have q4 : List.map (tell [0]) (rowsOf (encI .u8) ([(IntKind.u8.wrap (Int.fdiv x1 (2 ^ (min (Int.toNat (IntKind.i64.wrap ((8 : Int) * x7))) (IntKind.bits .u64)))))] : List Int)) = rowsOf (encI .u8) ([(IntKind.u8.wrap (Int.fdiv x1 (2 ^ (min (Int.toNat (IntKind.i64.wrap ((8 : Int) * x7))) (IntKind.bits .u64)))))] : List Int) := rfl
  replace hF := ifE_some.1 hF
  obtain ⟨h5, hF⟩ := hF
  have hJ := f76_oii_w_l1_j2_ok k x1 x7 ((h0_ ++ ([(IntKind.u8.wrap (Int.fdiv x1 (2 ^ (min (Int.toNat (IntKind.i64.wrap ((8 : Int) * x7))) (IntKind.bits .u64)))))] : List Int))) e0 _ hF
  simp (maxSteps := 999999) (disch := first | exact D (by decide) | exact K (by kernel_rfl)) only [E, EE, ↓reduceIte, simprocAttr, xk B76 [2, 1, 2, 2, 1, 2, 2] .sq rfl, xk B76 [1, 2, 1, 2, 2, 1, 2, 2] (.bk 1) rfl, show (nav B76 [2, 1, 2, 1, 2, 2, 1, 2, 2]) = Code.region 5 _ false from rfl, hk_76_5, hz_76_5, hs_76_5, shiftV, u_47, i_47, is_47, ib_47, iz_47, u_5, i_5, is_5, ib_5, iz_5, convV, buildSliceV, fillRows, sm_5, u_22, i_22, is_22, ib_22, iz_22, appendV, content, h2, q3, q4, h5]
  try simp only [NM, EE] at hJ
  exact hJ
noncomputable def f76_oii_w_l1_b (k : Nat) (x1 x7 : Int) (h0_ e0 : List Int) : Option R76_oii_w_l1 :=
  cond ((decide (x7 ≥ 0)))
    (f76_oii_w_l1_j1 k x1 x7 true h0_ e0)
    (some (R76_oii_w_l1.o1 x1 x7 false h0_ e0))
theorem f76_oii_w_l1_b_ok (k : Nat) (x1 x7 : Int) (h0_ e0 : List Int) (r : R76_oii_w_l1) (hF : f76_oii_w_l1_b k x1 x7 h0_ e0 = some r) : EX 76 k (nav B76 [1, 2, 2, 1, 2, 2]) ({ n := 25, F := [(0, V.own 30000), (1, V.p (Value.int .u64 x1)), (7, V.p (Value.int .i64 x7))], M := [(30000, O.row true 1 5 (rowsOf (encI .u8) h0_)), (1000000, O.row false 1 5 (rowsOf (encI .u8) e0))] } : St) = some r.st := by
  unfold f76_oii_w_l1_b at hF
  simp (maxSteps := 999999) (disch := first | exact D (by decide) | exact K (by kernel_rfl)) only [E, EE, ↓reduceIte, simprocAttr, xk B76 [1, 2, 2, 1, 2, 2] .sq rfl, xk B76 [1, 1, 2, 2, 1, 2, 2] .sq rfl, show (nav B76 [1, 1, 1, 2, 2, 1, 2, 2]) = Code.region 3 _ false from rfl, hk_76_3, hz_76_3, hs_76_3, xk B76 [2, 1, 1, 2, 2, 1, 2, 2] (.cd 13) rfl]
  replace hF := cond_some hF
  rcases hF with ⟨h1, hF⟩ | ⟨h1, hF⟩
  · have hJ := f76_oii_w_l1_j1_ok k x1 x7 true h0_ e0 _ hF
    simp (maxSteps := 999999) (disch := first | exact D (by decide) | exact K (by kernel_rfl)) only [E, EE, ↓reduceIte, simprocAttr, xk B76 [2, 2, 1, 1, 2, 2, 1, 2, 2] .sk rfl, h1]
    try simp only [NM, EE] at hJ
    exact hJ
  · cases hF
    simp (maxSteps := 999999) (disch := first | exact D (by decide) | exact K (by kernel_rfl)) only [E, EE, ↓reduceIte, simprocAttr, xk B76 [3, 2, 1, 1, 2, 2, 1, 2, 2] (.ex 0) rfl, R76_oii_w_l1.st, h1]
noncomputable def f76_oii_w_l1 (k : Nat) : Nat → Int → Int → (List Int) → (List Int) → Option R76_oii_w_l1
  | 0, _, _, _, _ => none
  | n + 1, x1, x7, h0_, e0 => Option.bind (f76_oii_w_l1_b k x1 x7 h0_ e0) fun o =>
    match o with
    | .o0 y y_1 y_2 y_3 => f76_oii_w_l1 k n y y_1 y_2 y_3
    | .o1 y y_1 y_2 y_3 y_4 => some (.o1 y y_1 y_2 y_3 y_4)
theorem f76_oii_w_l1_ok (k n : Nat) : ∀ (x1 x7 : Int) (h0_ e0 : List Int) (r : R76_oii_w_l1) (hF : f76_oii_w_l1 k n x1 x7 h0_ e0 = some r) (σ : St) (hσ : headR (hints.head 76 3) (hints.canon 76 3) σ = some ({ n := 25, F := [(0, V.own 30000), (1, V.p (Value.int .u64 x1)), (7, V.p (Value.int .i64 x7))], M := [(30000, O.row true 1 5 (rowsOf (encI .u8) h0_)), (1000000, O.row false 1 5 (rowsOf (encI .u8) e0))] } : St)), LP 76 k (nav B76 [1, 2, 2, 1, 2, 2]) n σ = some r.st := by
  induction n with
  | zero => intro x1 x7 h0_ e0 r hF; cases hF
  | succ n ih =>
    intro x1 x7 h0_ e0 r hF σ hσ
    rw [f76_oii_w_l1] at hF
    obtain ⟨o, h, hF⟩ := Option.bind_eq_some_iff.1 hF
    have hB := f76_oii_w_l1_b_ok k x1 x7 h0_ e0 o h
    unfold LP at ih ⊢
    unfold EX at hB
    rw [loopK_succ, show firstReg (nav B76 [1, 2, 2, 1, 2, 2]) = 3 from rfl, hσ, headK_some, hB]
    cases o with
    | o0 y y_1 y_2 y_3 =>
      refine ih y y_1 y_2 y_3 r hF _ ?_
      simp (maxSteps := 999999) (disch := first | exact D (by decide) | exact K (by kernel_rfl)) only [E, EE, ↓reduceIte, simprocAttr, hh_76_3, hc_76_3]
    | o1 y y_1 y_2 y_3 y_4 => cases hF; rfl
noncomputable def f76_oii_w_j2 (k : Nat) (x1 x7 : Int) (x13 : Bool) (h0_ e0 : List Int) : Option R76_oii_w :=
  some (R76_oii_w.o0 e0 h0_)
theorem f76_oii_w_j2_ok (k : Nat) (x1 x7 : Int) (x13 : Bool) (h0_ e0 : List Int) (r : R76_oii_w) (hF : f76_oii_w_j2 k x1 x7 x13 h0_ e0 = some r) : finK Tryd.prog Tryd.f76 1 (EX 76 k (nav B76 [2, 2, 2]) ({ n := 25, F := [(0, V.own 30000), (1, V.p (Value.int .u64 x1)), (7, V.p (Value.int .i64 x7)), (13, V.p (Value.bool x13))], M := [(30000, O.row true 1 5 (rowsOf (encI .u8) h0_)), (1000000, O.row false 1 5 (rowsOf (encI .u8) e0))] } : St)) = some r.st := by
  unfold f76_oii_w_j2 at hF
  cases hF
  simp (maxSteps := 999999) (disch := first | exact D (by decide) | exact K (by kernel_rfl)) only [E, EE, ↓reduceIte, simprocAttr, xk B76 [2, 2, 2] .sq rfl, show (nav B76 [1, 2, 2, 2]) = Code.region 6 _ false from rfl, hk_76_6, hz_76_6, hs_76_6, xk B76 [2, 2, 2, 2] .rt rfl, finK_norm, finK_ret, fin76, R76_oii_w.st]
noncomputable def f76_oii_w_e (k : Nat) (a1 a2 : Int) (e0 : List Int) : Option R76_oii_w :=
  Option.bind (f53_r k e0) fun o1 =>
    match o1 with
    | .o0 v4 =>
      Option.bind (f76_oii_w_l1 k k a1 (IntKind.i64.wrap (a2 - (1 : Int))) v4 e0) fun o5 =>
        match o5 with
        | .o0 _ _ _ _ =>
          none
        | .o1 v8 v9 v10 v11 v12 =>
          f76_oii_w_j2 k v8 v9 v10 v11 v12
theorem f76_oii_w_e_ok (k : Nat) (a1 a2 : Int) (e0 : List Int) (r : R76_oii_w) (hF : f76_oii_w_e k a1 a2 e0 = some r) : finK Tryd.prog Tryd.f76 1 (EX 76 k (nav B76 []) ({ n := 25, F := [(0, V.own 1000000), (1, V.p (Value.int .u64 a1)), (2, V.p (Value.int .i64 a2))], M := [(1000000, O.row true 1 5 (rowsOf (encI .u8) e0))] } : St)) = some r.st := by
  unfold f76_oii_w_e at hF
  replace hF := Option.bind_eq_some_iff.1 hF
  obtain ⟨o1, h2, hF⟩ := hF
  have hc3 := f53_r_ok k e0 _ h2
  cases o1 with
  | o0 v4 =>
    (try dsimp only at hF)
    (try simp only [NM, EE, R53_r.st] at hc3)
    replace hF := Option.bind_eq_some_iff.1 hF
    obtain ⟨o5, h6, hF⟩ := hF
    have hc7 := f76_oii_w_l1_ok k k a1 (IntKind.i64.wrap (a2 - (1 : Int))) v4 e0 _ h6
    simp (maxSteps := 999999) (disch := first | exact D (by decide) | exact K (by kernel_rfl)) only [E, EE, ↓reduceIte, simprocAttr, xk B76 [] .sq rfl, show (nav B76 [1]) = Code.region 0 _ false from rfl, hk_76_0, hz_76_0, hs_76_0, xk B76 [2] .sq rfl, show (nav B76 [1, 2]) = Code.region 1 _ false from rfl, hk_76_1, hz_76_1, hs_76_1, callStep, CL, gv, List.contains, xk B76 [2, 2] .sq rfl, xk B76 [1, 2, 2] .sq rfl, show (nav B76 [1, 1, 2, 2]) = Code.region 2 _ false from rfl, hk_76_2, hz_76_2, hs_76_2, xk B76 [2, 1, 2, 2] (.bk 0) rfl, xk B76 [2, 2, 1, 2, 2] .lp rfl, hh_76_3, hc_76_3, hc3]
    (try simp only [NM, EE] at hc7)
    rw [hc7 _ (by simp (maxSteps := 999999) (disch := first | exact D (by decide) | exact K (by kernel_rfl)) only [E, EE, ↓reduceIte, simprocAttr, hh_76_3, hc_76_3, hc3])]
    clear hc7
    cases o5 with
    | o0 _ _ _ _ =>
      (try dsimp only at hF)
      cases hF
    | o1 v8 v9 v10 v11 v12 =>
      (try dsimp only at hF)
      have hJ := f76_oii_w_j2_ok k v8 v9 v10 v11 v12 _ hF
      simp (maxSteps := 999999) (disch := first | exact D (by decide) | exact K (by kernel_rfl)) only [E, EE, ↓reduceIte, simprocAttr, R76_oii_w_l1.st, hc3]
      try simp only [NM, EE] at hJ
      exact hJ
noncomputable def f76_oii_w (k : Nat) (a1 a2 : Int) (e0 : List Int) : Option R76_oii_w := match k with | 0 => none | k + 1 => f76_oii_w_e k a1 a2 e0
theorem f76_oii_w_ok (k : Nat) (a1 a2 : Int) (e0 : List Int) (r : R76_oii_w) (hF : f76_oii_w k a1 a2 e0 = some r) : CV k 76 [V.own 1000000, V.p (Value.int .u64 a1), V.p (Value.int .i64 a2)] [O.row true 1 5 (rowsOf (encI .u8) e0)] = some r.st := by
  cases k with
  | zero => cases hF
  | succ k =>
    unfold CV
    rw [ev_call (F := Tryd.f76) (c := (nav B76 [])) rfl Tryd.func76 rfl rfl rfl rfl]
    exact f76_oii_w_e_ok k a1 a2 e0 r hF
-- f73_oi_w: f73 heliograph/octet.Put16
inductive R73_oi_w where
  | o0 (y y_1 : List Int)
noncomputable def R73_oi_w.st : R73_oi_w → V × List O × List O
  | .o0 y y_1 => (V.own 2000000, [O.row false 1 5 (rowsOf (encI .u8) y)], [O.row true 1 5 (rowsOf (encI .u8) y_1)])
noncomputable def f73_oi_w_e (k : Nat) (a1 : Int) (e0 : List Int) : Option R73_oi_w :=
  Option.bind (f76_oii_w k (IntKind.u64.wrap a1) 2 e0) fun o1 =>
    match o1 with
    | .o0 v4 v5 =>
      some (R73_oi_w.o0 v4 v5)
theorem f73_oi_w_e_ok (k : Nat) (a1 : Int) (e0 : List Int) (r : R73_oi_w) (hF : f73_oi_w_e k a1 e0 = some r) : finK Tryd.prog Tryd.f73 1 (EX 73 k (nav B73 []) ({ n := 9, F := [(0, V.own 1000000), (1, V.p (Value.int .u16 a1))], M := [(1000000, O.row true 1 5 (rowsOf (encI .u8) e0))] } : St)) = some r.st := by
  unfold f73_oi_w_e at hF
  replace hF := Option.bind_eq_some_iff.1 hF
  obtain ⟨o1, h2, hF⟩ := hF
  have hc3 := f76_oii_w_ok k (IntKind.u64.wrap a1) 2 e0 _ h2
  cases o1 with
  | o0 v4 v5 =>
    (try dsimp only at hF)
    (try simp only [NM, EE, R76_oii_w.st] at hc3)
    cases hF
    simp (maxSteps := 999999) (disch := first | exact D (by decide) | exact K (by kernel_rfl)) only [E, EE, ↓reduceIte, simprocAttr, xk B73 [] .sq rfl, show (nav B73 [1]) = Code.region 0 _ false from rfl, hk_73_0, hz_73_0, hs_73_0, xk B73 [2] .sq rfl, show (nav B73 [1, 2]) = Code.region 1 _ false from rfl, hk_73_1, hz_73_1, hs_73_1, u_80, i_80, is_80, ib_80, iz_80, u_47, i_47, is_47, ib_47, iz_47, convV, callStep, CL, gv, List.contains, xk B73 [2, 2] .rt rfl, finK_norm, finK_ret, fin73, R73_oi_w.st, hc3]
noncomputable def f73_oi_w (k : Nat) (a1 : Int) (e0 : List Int) : Option R73_oi_w := match k with | 0 => none | k + 1 => f73_oi_w_e k a1 e0
theorem f73_oi_w_ok (k : Nat) (a1 : Int) (e0 : List Int) (r : R73_oi_w) (hF : f73_oi_w k a1 e0 = some r) : CV k 73 [V.own 1000000, V.p (Value.int .u16 a1)] [O.row true 1 5 (rowsOf (encI .u8) e0)] = some r.st := by
  cases k with
  | zero => cases hF
  | succ k =>
    unfold CV
    rw [ev_call (F := Tryd.f73) (c := (nav B73 [])) rfl Tryd.func73 rfl rfl rfl rfl]
    exact f73_oi_w_e_ok k a1 e0 r hF
-- f74_oi_w: f74 heliograph/octet.Put32
inductive R74_oi_w where
  | o0 (y y_1 : List Int)
noncomputable def R74_oi_w.st : R74_oi_w → V × List O × List O
  | .o0 y y_1 => (V.own 2000000, [O.row false 1 5 (rowsOf (encI .u8) y)], [O.row true 1 5 (rowsOf (encI .u8) y_1)])
noncomputable def f74_oi_w_e (k : Nat) (a1 : Int) (e0 : List Int) : Option R74_oi_w :=
  Option.bind (f76_oii_w k (IntKind.u64.wrap a1) 4 e0) fun o1 =>
    match o1 with
    | .o0 v4 v5 =>
      some (R74_oi_w.o0 v4 v5)
theorem f74_oi_w_e_ok (k : Nat) (a1 : Int) (e0 : List Int) (r : R74_oi_w) (hF : f74_oi_w_e k a1 e0 = some r) : finK Tryd.prog Tryd.f74 1 (EX 74 k (nav B74 []) ({ n := 9, F := [(0, V.own 1000000), (1, V.p (Value.int .u32 a1))], M := [(1000000, O.row true 1 5 (rowsOf (encI .u8) e0))] } : St)) = some r.st := by
  unfold f74_oi_w_e at hF
  replace hF := Option.bind_eq_some_iff.1 hF
  obtain ⟨o1, h2, hF⟩ := hF
  have hc3 := f76_oii_w_ok k (IntKind.u64.wrap a1) 4 e0 _ h2
  cases o1 with
  | o0 v4 v5 =>
    (try dsimp only at hF)
    (try simp only [NM, EE, R76_oii_w.st] at hc3)
    cases hF
    simp (maxSteps := 999999) (disch := first | exact D (by decide) | exact K (by kernel_rfl)) only [E, EE, ↓reduceIte, simprocAttr, xk B74 [] .sq rfl, show (nav B74 [1]) = Code.region 0 _ false from rfl, hk_74_0, hz_74_0, hs_74_0, xk B74 [2] .sq rfl, show (nav B74 [1, 2]) = Code.region 1 _ false from rfl, hk_74_1, hz_74_1, hs_74_1, u_24, i_24, is_24, ib_24, iz_24, u_47, i_47, is_47, ib_47, iz_47, convV, callStep, CL, gv, List.contains, xk B74 [2, 2] .rt rfl, finK_norm, finK_ret, fin74, R74_oi_w.st, hc3]
noncomputable def f74_oi_w (k : Nat) (a1 : Int) (e0 : List Int) : Option R74_oi_w := match k with | 0 => none | k + 1 => f74_oi_w_e k a1 e0
theorem f74_oi_w_ok (k : Nat) (a1 : Int) (e0 : List Int) (r : R74_oi_w) (hF : f74_oi_w k a1 e0 = some r) : CV k 74 [V.own 1000000, V.p (Value.int .u32 a1)] [O.row true 1 5 (rowsOf (encI .u8) e0)] = some r.st := by
  cases k with
  | zero => cases hF
  | succ k =>
    unfold CV
    rw [ev_call (F := Tryd.f74) (c := (nav B74 [])) rfl Tryd.func74 rfl rfl rfl rfl]
    exact f74_oi_w_e_ok k a1 e0 r hF
-- f75_oi_w: f75 heliograph/octet.Put64
inductive R75_oi_w where
  | o0 (y y_1 : List Int)
noncomputable def R75_oi_w.st : R75_oi_w → V × List O × List O
  | .o0 y y_1 => (V.own 2000000, [O.row false 1 5 (rowsOf (encI .u8) y)], [O.row true 1 5 (rowsOf (encI .u8) y_1)])
noncomputable def f75_oi_w_e (k : Nat) (a1 : Int) (e0 : List Int) : Option R75_oi_w :=
  Option.bind (f76_oii_w k a1 8 e0) fun o1 =>
    match o1 with
    | .o0 v4 v5 =>
      some (R75_oi_w.o0 v4 v5)
theorem f75_oi_w_e_ok (k : Nat) (a1 : Int) (e0 : List Int) (r : R75_oi_w) (hF : f75_oi_w_e k a1 e0 = some r) : finK Tryd.prog Tryd.f75 1 (EX 75 k (nav B75 []) ({ n := 8, F := [(0, V.own 1000000), (1, V.p (Value.int .u64 a1))], M := [(1000000, O.row true 1 5 (rowsOf (encI .u8) e0))] } : St)) = some r.st := by
  unfold f75_oi_w_e at hF
  replace hF := Option.bind_eq_some_iff.1 hF
  obtain ⟨o1, h2, hF⟩ := hF
  have hc3 := f76_oii_w_ok k a1 8 e0 _ h2
  cases o1 with
  | o0 v4 v5 =>
    (try dsimp only at hF)
    (try simp only [NM, EE, R76_oii_w.st] at hc3)
    cases hF
    simp (maxSteps := 999999) (disch := first | exact D (by decide) | exact K (by kernel_rfl)) only [E, EE, ↓reduceIte, simprocAttr, xk B75 [] .sq rfl, show (nav B75 [1]) = Code.region 0 _ false from rfl, hk_75_0, hz_75_0, hs_75_0, xk B75 [2] .sq rfl, show (nav B75 [1, 2]) = Code.region 1 _ false from rfl, hk_75_1, hz_75_1, hs_75_1, callStep, CL, gv, List.contains, xk B75 [2, 2] .rt rfl, finK_norm, finK_ret, fin75, R75_oi_w.st, hc3]
noncomputable def f75_oi_w (k : Nat) (a1 : Int) (e0 : List Int) : Option R75_oi_w := match k with | 0 => none | k + 1 => f75_oi_w_e k a1 e0
theorem f75_oi_w_ok (k : Nat) (a1 : Int) (e0 : List Int) (r : R75_oi_w) (hF : f75_oi_w k a1 e0 = some r) : CV k 75 [V.own 1000000, V.p (Value.int .u64 a1)] [O.row true 1 5 (rowsOf (encI .u8) e0)] = some r.st := by
  cases k with
  | zero => cases hF
  | succ k =>
    unfold CV
    rw [ev_call (F := Tryd.f75) (c := (nav B75 [])) rfl Tryd.func75 rfl rfl rfl rfl]
    exact f75_oi_w_e_ok k a1 e0 r hF
-- f67_oii_w: f67 heliograph/cbor.head
inductive R67_oii_w where
  | o0 (y : List Int)
noncomputable def R67_oii_w.st : R67_oii_w → V × List O × List O
  | .o0 y => (V.own 2000000, [O.dead], [O.row true 1 5 (rowsOf (encI .u8) y)])
noncomputable def f67_oii_w_j1 (k : Nat) (x1 x2 : Int) (x40 : Bool) (e0 : List Int) : Option R67_oii_w :=
  ifE (((List.length e0) + 1) ≤ roomy) (
    Option.bind (f75_oi_w k x2 ((e0 ++ ([(IntKind.u8.wrap ((BitVec.ofInt (IntKind.bits .u8) x1 ||| BitVec.ofInt (IntKind.bits .u8) (27 : Int)).toNat : Nat))] : List Int)))) fun o4 =>
      match o4 with
      | .o0 v7 v8 =>
        some (R67_oii_w.o0 v8))
theorem f67_oii_w_j1_ok (k : Nat) (x1 x2 : Int) (x40 : Bool) (e0 : List Int) (r : R67_oii_w) (hF : f67_oii_w_j1 k x1 x2 x40 e0 = some r) : finK Tryd.prog Tryd.f67 1 (EX 67 k (nav B67 [2, 2, 2]) ({ n := 58, F := [(0, V.own 1000000), (1, V.p (Value.int .u8 x1)), (2, V.p (Value.int .u64 x2)), (40, V.p (Value.bool x40))], M := [(1000000, O.row true 1 5 (rowsOf (encI .u8) e0))] } : St)) = some r.st := by
  unfold f67_oii_w_j1 at hF
  have q1 : [[V.p (Value.int .u8 (IntKind.u8.wrap ((BitVec.ofInt (IntKind.bits .u8) x1 ||| BitVec.ofInt (IntKind.bits .u8) (27 : Int)).toNat : Nat)))]] = rowsOf (encI .u8) ([(IntKind.u8.wrap ((BitVec.ofInt (IntKind.bits .u8) x1 ||| BitVec.ofInt (IntKind.bits .u8) (27 : Int)).toNat : Nat))] : List Int) := rfl
  have q2 : List.map (tell [0]) (rowsOf (encI .u8) ([(IntKind.u8.wrap ((BitVec.ofInt (IntKind.bits .u8) x1 ||| BitVec.ofInt (IntKind.bits .u8) (27 : Int)).toNat : Nat))] : List Int)) = rowsOf (encI .u8) ([(IntKind.u8.wrap ((BitVec.ofInt (IntKind.bits .u8) x1 ||| BitVec.ofInt (IntKind.bits .u8) (27 : Int)).toNat : Nat))] : List Int) := rfl
  replace hF := ifE_some.1 hF
  obtain ⟨h3, hF⟩ := hF
  replace hF := Option.bind_eq_some_iff.1 hF
  obtain ⟨o4, h5, hF⟩ := hF
  have hc6 := f75_oi_w_ok k x2 ((e0 ++ ([(IntKind.u8.wrap ((BitVec.ofInt (IntKind.bits .u8) x1 ||| BitVec.ofInt (IntKind.bits .u8) (27 : Int)).toNat : Nat))] : List Int))) _ h5
  cases o4 with
  | o0 v7 v8 =>
    (try dsimp only at hF)
    (try simp only [NM, EE, R75_oi_w.st] at hc6)
    cases hF
    simp (maxSteps := 999999) (disch := first | exact D (by decide) | exact K (by kernel_rfl)) only [E, EE, ↓reduceIte, simprocAttr, xk B67 [2, 2, 2] .sq rfl, show (nav B67 [1, 2, 2, 2]) = Code.region 10 _ false from rfl, hk_67_10, hz_67_10, hs_67_10, buildSliceV, fillRows, sm_5, u_22, i_22, is_22, ib_22, iz_22, u_5, i_5, is_5, ib_5, iz_5, appendV, content, callStep, CL, gv, List.contains, xk B67 [2, 2, 2, 2] .rt rfl, finK_norm, finK_ret, fin67, R67_oii_w.st, q1, q2, h3, hc6]
noncomputable def f67_oii_w_e (k : Nat) (a1 a2 : Int) (e0 : List Int) : Option R67_oii_w :=
  cond ((decide (a2 < 24)))
    (
      ifE (((List.length e0) + 1) ≤ roomy) (
        some (R67_oii_w.o0 ((e0 ++ ([(IntKind.u8.wrap ((BitVec.ofInt (IntKind.bits .u8) (IntKind.u8.wrap (a1 * 2 ^ (min 5 (IntKind.bits .u8)))) ||| BitVec.ofInt (IntKind.bits .u8) (IntKind.u8.wrap a2)).toNat : Nat))] : List Int))))))
    (
      cond ((decide (a2 < 256)))
        (
          ifE (((List.length e0) + 2) ≤ roomy) (
            some (R67_oii_w.o0 ((e0 ++ ([(IntKind.u8.wrap ((BitVec.ofInt (IntKind.bits .u8) (IntKind.u8.wrap (a1 * 2 ^ (min 5 (IntKind.bits .u8)))) ||| BitVec.ofInt (IntKind.bits .u8) (24 : Int)).toNat : Nat)), (IntKind.u8.wrap a2)] : List Int))))))
        (
          cond ((decide (a2 < 65536)))
            (
              ifE (((List.length e0) + 1) ≤ roomy) (
                Option.bind (f73_oi_w k (IntKind.u16.wrap a2) ((e0 ++ ([(IntKind.u8.wrap ((BitVec.ofInt (IntKind.bits .u8) (IntKind.u8.wrap (a1 * 2 ^ (min 5 (IntKind.bits .u8)))) ||| BitVec.ofInt (IntKind.bits .u8) (25 : Int)).toNat : Nat))] : List Int)))) fun o13 =>
                  match o13 with
                  | .o0 v16 v17 =>
                    some (R67_oii_w.o0 v17)))
            (
              cond ((decide (a2 < 4294967296)))
                (
                  ifE (((List.length e0) + 1) ≤ roomy) (
                    Option.bind (f74_oi_w k (IntKind.u32.wrap a2) ((e0 ++ ([(IntKind.u8.wrap ((BitVec.ofInt (IntKind.bits .u8) (IntKind.u8.wrap (a1 * 2 ^ (min 5 (IntKind.bits .u8)))) ||| BitVec.ofInt (IntKind.bits .u8) (26 : Int)).toNat : Nat))] : List Int)))) fun o22 =>
                      match o22 with
                      | .o0 v25 v26 =>
                        some (R67_oii_w.o0 v26)))
                (f67_oii_w_j1 k (IntKind.u8.wrap (a1 * 2 ^ (min 5 (IntKind.bits .u8)))) a2 false e0))))
theorem f67_oii_w_e_ok (k : Nat) (a1 a2 : Int) (e0 : List Int) (r : R67_oii_w) (hF : f67_oii_w_e k a1 a2 e0 = some r) : finK Tryd.prog Tryd.f67 1 (EX 67 k (nav B67 []) ({ n := 58, F := [(0, V.own 1000000), (1, V.p (Value.int .u8 a1)), (2, V.p (Value.int .u64 a2))], M := [(1000000, O.row true 1 5 (rowsOf (encI .u8) e0))] } : St)) = some r.st := by
  unfold f67_oii_w_e at hF
  simp (maxSteps := 999999) (disch := first | exact D (by decide) | exact K (by kernel_rfl)) only [E, EE, ↓reduceIte, simprocAttr, xk B67 [] .sq rfl, show (nav B67 [1]) = Code.region 0 _ false from rfl, hk_67_0, hz_67_0, hs_67_0, xk B67 [2] .sq rfl, show (nav B67 [1, 2]) = Code.region 1 _ false from rfl, hk_67_1, hz_67_1, hs_67_1, shiftV, xk B67 [2, 2] .sq rfl, xk B67 [1, 2, 2] (.bk 0) rfl, xk B67 [2, 1, 2, 2] .sq rfl, show (nav B67 [1, 2, 1, 2, 2]) = Code.region 2 _ false from rfl, hk_67_2, hz_67_2, hs_67_2, xk B67 [2, 2, 1, 2, 2] (.cd 9) rfl]
  replace hF := cond_some hF
  rcases hF with ⟨h1, hF⟩ | ⟨h1, hF⟩
  · have q2 : [[V.p (Value.int .u8 (IntKind.u8.wrap ((BitVec.ofInt (IntKind.bits .u8) (IntKind.u8.wrap (a1 * 2 ^ (min 5 (IntKind.bits .u8)))) ||| BitVec.ofInt (IntKind.bits .u8) (IntKind.u8.wrap a2)).toNat : Nat)))]] = rowsOf (encI .u8) ([(IntKind.u8.wrap ((BitVec.ofInt (IntKind.bits .u8) (IntKind.u8.wrap (a1 * 2 ^ (min 5 (IntKind.bits .u8)))) ||| BitVec.ofInt (IntKind.bits .u8) (IntKind.u8.wrap a2)).toNat : Nat))] : List Int) := rfl
    have q3 : List.map (tell [0]) (rowsOf (encI .u8) ([(IntKind.u8.wrap ((BitVec.ofInt (IntKind.bits .u8) (IntKind.u8.wrap (a1 * 2 ^ (min 5 (IntKind.bits .u8)))) ||| BitVec.ofInt (IntKind.bits .u8) (IntKind.u8.wrap a2)).toNat : Nat))] : List Int)) = rowsOf (encI .u8) ([(IntKind.u8.wrap ((BitVec.ofInt (IntKind.bits .u8) (IntKind.u8.wrap (a1 * 2 ^ (min 5 (IntKind.bits .u8)))) ||| BitVec.ofInt (IntKind.bits .u8) (IntKind.u8.wrap a2)).toNat : Nat))] : List Int) := rfl
    replace hF := ifE_some.1 hF
    obtain ⟨h4, hF⟩ := hF
    cases hF
    simp (maxSteps := 999999) (disch := first | exact D (by decide) | exact K (by kernel_rfl)) only [E, EE, ↓reduceIte, simprocAttr, xk B67 [2, 2, 2, 1, 2, 2] .sq rfl, show (nav B67 [1, 2, 2, 2, 1, 2, 2]) = Code.region 3 _ false from rfl, hk_67_3, hz_67_3, hs_67_3, u_47, i_47, is_47, ib_47, iz_47, u_5, i_5, is_5, ib_5, iz_5, convV, buildSliceV, fillRows, sm_5, u_22, i_22, is_22, ib_22, iz_22, appendV, content, xk B67 [2, 2, 2, 2, 1, 2, 2] .rt rfl, finK_norm, finK_ret, fin67, R67_oii_w.st, h1, q2, q3, h4]
  · simp (maxSteps := 999999) (disch := first | exact D (by decide) | exact K (by kernel_rfl)) only [E, EE, ↓reduceIte, simprocAttr, xk B67 [3, 2, 2, 1, 2, 2] .sq rfl, show (nav B67 [1, 3, 2, 2, 1, 2, 2]) = Code.region 4 _ false from rfl, hk_67_4, hz_67_4, hs_67_4, xk B67 [2, 3, 2, 2, 1, 2, 2] (.cd 19) rfl, h1]
    replace hF := cond_some hF
    rcases hF with ⟨h5, hF⟩ | ⟨h5, hF⟩
    · have q6 : [[V.p (Value.int .u8 (IntKind.u8.wrap ((BitVec.ofInt (IntKind.bits .u8) (IntKind.u8.wrap (a1 * 2 ^ (min 5 (IntKind.bits .u8)))) ||| BitVec.ofInt (IntKind.bits .u8) (24 : Int)).toNat : Nat)))], [V.p (Value.int .u8 (IntKind.u8.wrap a2))]] = rowsOf (encI .u8) ([(IntKind.u8.wrap ((BitVec.ofInt (IntKind.bits .u8) (IntKind.u8.wrap (a1 * 2 ^ (min 5 (IntKind.bits .u8)))) ||| BitVec.ofInt (IntKind.bits .u8) (24 : Int)).toNat : Nat)), (IntKind.u8.wrap a2)] : List Int) := rfl
      have q7 : List.map (tell [0]) (rowsOf (encI .u8) ([(IntKind.u8.wrap ((BitVec.ofInt (IntKind.bits .u8) (IntKind.u8.wrap (a1 * 2 ^ (min 5 (IntKind.bits .u8)))) ||| BitVec.ofInt (IntKind.bits .u8) (24 : Int)).toNat : Nat)), (IntKind.u8.wrap a2)] : List Int)) = rowsOf (encI .u8) ([(IntKind.u8.wrap ((BitVec.ofInt (IntKind.bits .u8) (IntKind.u8.wrap (a1 * 2 ^ (min 5 (IntKind.bits .u8)))) ||| BitVec.ofInt (IntKind.bits .u8) (24 : Int)).toNat : Nat)), (IntKind.u8.wrap a2)] : List Int) := rfl
      replace hF := ifE_some.1 hF
      obtain ⟨h8, hF⟩ := hF
      cases hF
      simp (maxSteps := 999999) (disch := first | exact D (by decide) | exact K (by kernel_rfl)) only [E, EE, ↓reduceIte, simprocAttr, xk B67 [2, 2, 3, 2, 2, 1, 2, 2] .sq rfl, show (nav B67 [1, 2, 2, 3, 2, 2, 1, 2, 2]) = Code.region 5 _ false from rfl, hk_67_5, hz_67_5, hs_67_5, u_47, i_47, is_47, ib_47, iz_47, u_5, i_5, is_5, ib_5, iz_5, convV, buildSliceV, fillRows, sm_5, u_22, i_22, is_22, ib_22, iz_22, appendV, content, xk B67 [2, 2, 2, 3, 2, 2, 1, 2, 2] .rt rfl, finK_norm, finK_ret, fin67, R67_oii_w.st, h1, h5, q6, q7, h8]
    · simp (maxSteps := 999999) (disch := first | exact D (by decide) | exact K (by kernel_rfl)) only [E, EE, ↓reduceIte, simprocAttr, xk B67 [3, 2, 3, 2, 2, 1, 2, 2] .sq rfl, show (nav B67 [1, 3, 2, 3, 2, 2, 1, 2, 2]) = Code.region 6 _ false from rfl, hk_67_6, hz_67_6, hs_67_6, xk B67 [2, 3, 2, 3, 2, 2, 1, 2, 2] (.cd 29) rfl, h1, h5]
      replace hF := cond_some hF
      rcases hF with ⟨h9, hF⟩ | ⟨h9, hF⟩
      · have q10 : [[V.p (Value.int .u8 (IntKind.u8.wrap ((BitVec.ofInt (IntKind.bits .u8) (IntKind.u8.wrap (a1 * 2 ^ (min 5 (IntKind.bits .u8)))) ||| BitVec.ofInt (IntKind.bits .u8) (25 : Int)).toNat : Nat)))]] = rowsOf (encI .u8) ([(IntKind.u8.wrap ((BitVec.ofInt (IntKind.bits .u8) (IntKind.u8.wrap (a1 * 2 ^ (min 5 (IntKind.bits .u8)))) ||| BitVec.ofInt (IntKind.bits .u8) (25 : Int)).toNat : Nat))] : List Int) := rfl
        have q11 : List.map (tell [0]) (rowsOf (encI .u8) ([(IntKind.u8.wrap ((BitVec.ofInt (IntKind.bits .u8) (IntKind.u8.wrap (a1 * 2 ^ (min 5 (IntKind.bits .u8)))) ||| BitVec.ofInt (IntKind.bits .u8) (25 : Int)).toNat : Nat))] : List Int)) = rowsOf (encI .u8) ([(IntKind.u8.wrap ((BitVec.ofInt (IntKind.bits .u8) (IntKind.u8.wrap (a1 * 2 ^ (min 5 (IntKind.bits .u8)))) ||| BitVec.ofInt (IntKind.bits .u8) (25 : Int)).toNat : Nat))] : List Int) := rfl
        replace hF := ifE_some.1 hF
        obtain ⟨h12, hF⟩ := hF
        replace hF := Option.bind_eq_some_iff.1 hF
        obtain ⟨o13, h14, hF⟩ := hF
        have hc15 := f73_oi_w_ok k (IntKind.u16.wrap a2) ((e0 ++ ([(IntKind.u8.wrap ((BitVec.ofInt (IntKind.bits .u8) (IntKind.u8.wrap (a1 * 2 ^ (min 5 (IntKind.bits .u8)))) ||| BitVec.ofInt (IntKind.bits .u8) (25 : Int)).toNat : Nat))] : List Int))) _ h14
        cases o13 with
        | o0 v16 v17 =>
          (try dsimp only at hF)
          (try simp only [NM, EE, R73_oi_w.st] at hc15)
          cases hF
          simp (maxSteps := 999999) (disch := first | exact D (by decide) | exact K (by kernel_rfl)) only [E, EE, ↓reduceIte, simprocAttr, xk B67 [2, 2, 3, 2, 3, 2, 2, 1, 2, 2] .sq rfl, show (nav B67 [1, 2, 2, 3, 2, 3, 2, 2, 1, 2, 2]) = Code.region 7 _ false from rfl, hk_67_7, hz_67_7, hs_67_7, buildSliceV, fillRows, sm_5, u_22, i_22, is_22, ib_22, iz_22, u_5, i_5, is_5, ib_5, iz_5, appendV, content, u_47, i_47, is_47, ib_47, iz_47, u_80, i_80, is_80, ib_80, iz_80, convV, callStep, CL, gv, List.contains, xk B67 [2, 2, 2, 3, 2, 3, 2, 2, 1, 2, 2] .rt rfl, finK_norm, finK_ret, fin67, R67_oii_w.st, h1, h5, h9, q10, q11, h12, hc15]
      · simp (maxSteps := 999999) (disch := first | exact D (by decide) | exact K (by kernel_rfl)) only [E, EE, ↓reduceIte, simprocAttr, xk B67 [3, 2, 3, 2, 3, 2, 2, 1, 2, 2] .sq rfl, show (nav B67 [1, 3, 2, 3, 2, 3, 2, 2, 1, 2, 2]) = Code.region 8 _ false from rfl, hk_67_8, hz_67_8, hs_67_8, xk B67 [2, 3, 2, 3, 2, 3, 2, 2, 1, 2, 2] (.cd 40) rfl, h1, h5, h9]
        replace hF := cond_some hF
        rcases hF with ⟨h18, hF⟩ | ⟨h18, hF⟩
        · have q19 : [[V.p (Value.int .u8 (IntKind.u8.wrap ((BitVec.ofInt (IntKind.bits .u8) (IntKind.u8.wrap (a1 * 2 ^ (min 5 (IntKind.bits .u8)))) ||| BitVec.ofInt (IntKind.bits .u8) (26 : Int)).toNat : Nat)))]] = rowsOf (encI .u8) ([(IntKind.u8.wrap ((BitVec.ofInt (IntKind.bits .u8) (IntKind.u8.wrap (a1 * 2 ^ (min 5 (IntKind.bits .u8)))) ||| BitVec.ofInt (IntKind.bits .u8) (26 : Int)).toNat : Nat))] : List Int) := rfl
          have q20 : List.map (tell [0]) (rowsOf (encI .u8) ([(IntKind.u8.wrap ((BitVec.ofInt (IntKind.bits .u8) (IntKind.u8.wrap (a1 * 2 ^ (min 5 (IntKind.bits .u8)))) ||| BitVec.ofInt (IntKind.bits .u8) (26 : Int)).toNat : Nat))] : List Int)) = rowsOf (encI .u8) ([(IntKind.u8.wrap ((BitVec.ofInt (IntKind.bits .u8) (IntKind.u8.wrap (a1 * 2 ^ (min 5 (IntKind.bits .u8)))) ||| BitVec.ofInt (IntKind.bits .u8) (26 : Int)).toNat : Nat))] : List Int) := rfl
          replace hF := ifE_some.1 hF
          obtain ⟨h21, hF⟩ := hF
          replace hF := Option.bind_eq_some_iff.1 hF
          obtain ⟨o22, h23, hF⟩ := hF
          have hc24 := f74_oi_w_ok k (IntKind.u32.wrap a2) ((e0 ++ ([(IntKind.u8.wrap ((BitVec.ofInt (IntKind.bits .u8) (IntKind.u8.wrap (a1 * 2 ^ (min 5 (IntKind.bits .u8)))) ||| BitVec.ofInt (IntKind.bits .u8) (26 : Int)).toNat : Nat))] : List Int))) _ h23
          cases o22 with
          | o0 v25 v26 =>
            (try dsimp only at hF)
            (try simp only [NM, EE, R74_oi_w.st] at hc24)
            cases hF
            simp (maxSteps := 999999) (disch := first | exact D (by decide) | exact K (by kernel_rfl)) only [E, EE, ↓reduceIte, simprocAttr, xk B67 [2, 2, 3, 2, 3, 2, 3, 2, 2, 1, 2, 2] .sq rfl, show (nav B67 [1, 2, 2, 3, 2, 3, 2, 3, 2, 2, 1, 2, 2]) = Code.region 9 _ false from rfl, hk_67_9, hz_67_9, hs_67_9, buildSliceV, fillRows, sm_5, u_22, i_22, is_22, ib_22, iz_22, u_5, i_5, is_5, ib_5, iz_5, appendV, content, u_47, i_47, is_47, ib_47, iz_47, u_24, i_24, is_24, ib_24, iz_24, convV, callStep, CL, gv, List.contains, xk B67 [2, 2, 2, 3, 2, 3, 2, 3, 2, 2, 1, 2, 2] .rt rfl, finK_norm, finK_ret, fin67, R67_oii_w.st, h1, h5, h9, h18, q19, q20, h21, hc24]
        · have hJ := f67_oii_w_j1_ok k (IntKind.u8.wrap (a1 * 2 ^ (min 5 (IntKind.bits .u8)))) a2 false e0 _ hF
          simp (maxSteps := 999999) (disch := first | exact D (by decide) | exact K (by kernel_rfl)) only [E, EE, ↓reduceIte, simprocAttr, xk B67 [3, 2, 3, 2, 3, 2, 3, 2, 2, 1, 2, 2] .sk rfl, h1, h5, h9, h18]
          try simp only [NM, EE] at hJ
          exact hJ
noncomputable def f67_oii_w (k : Nat) (a1 a2 : Int) (e0 : List Int) : Option R67_oii_w := match k with | 0 => none | k + 1 => f67_oii_w_e k a1 a2 e0
theorem f67_oii_w_ok (k : Nat) (a1 a2 : Int) (e0 : List Int) (r : R67_oii_w) (hF : f67_oii_w k a1 a2 e0 = some r) : CV k 67 [V.own 1000000, V.p (Value.int .u8 a1), V.p (Value.int .u64 a2)] [O.row true 1 5 (rowsOf (encI .u8) e0)] = some r.st := by
  cases k with
  | zero => cases hF
  | succ k =>
    unfold CV
    rw [ev_call (F := Tryd.f67) (c := (nav B67 [])) rfl Tryd.func67 rfl rfl rfl rfl]
    exact f67_oii_w_e_ok k a1 a2 e0 r hF
end Go.Proofs.YtbnnmplkbpgcaaaDoorV
