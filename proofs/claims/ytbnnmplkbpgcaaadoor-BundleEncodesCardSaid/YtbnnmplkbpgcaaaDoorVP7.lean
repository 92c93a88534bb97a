/- What the program's functions answer: plain functions, and that the interpreter answers what they do. Written by a program of this session, out of the translation. -/
import Derived.Test.YtbnnmplkbpgcaaaDoorVP6
namespace Go.Proofs.YtbnnmplkbpgcaaaDoorV
open Go
set_option linter.unusedVariables false
set_option linter.unusedSimpArgs false
set_option maxRecDepth 8000
set_option maxHeartbeats 4000000
-- f58_ri: f58 heliograph/heliographref03.Sum
inductive R58_ri where
  | o0 (y : Int)
noncomputable def R58_ri.st : R58_ri → V × List O × List O
  | .o0 y => (V.p (Value.int .u64 y), [], [])
inductive R58_ri_l2_l2 where
  | o0 (y : List Int) (y_1 y_2 y_3 y_4 y_5 : Int)
  | o1 (y : List Int) (y_1 y_2 y_3 y_4 y_5 : Int) (y_6 : Bool)
noncomputable def R58_ri_l2_l2.st : R58_ri_l2_l2 → Out × St
  | .o0 y y_1 y_2 y_3 y_4 y_5 => (.norm, ({ n := 43, F := [(0, V.sl 1 (rowsOf (encI .u8) y)), (5, V.p (Value.int .u64 y_1)), (6, V.p (Value.int .u64 y_2)), (7, V.p (Value.int .u64 y_3)), (8, V.p (Value.int .i64 y_4)), (9, V.p (Value.int .i64 y_5))], M := [] } : St))
  | .o1 y y_1 y_2 y_3 y_4 y_5 y_6 => (.exit 2, ({ n := 43, F := [(0, V.sl 1 (rowsOf (encI .u8) y)), (5, V.p (Value.int .u64 y_1)), (6, V.p (Value.int .u64 y_2)), (7, V.p (Value.int .u64 y_3)), (8, V.p (Value.int .i64 y_4)), (9, V.p (Value.int .i64 y_5)), (27, V.p (Value.bool y_6))], M := [] } : St))
noncomputable def f58_ri_l2_l2_j2 (k : Nat) (x0 : List Int) (x5 x6 x7 x8 x9 : Int) : Option R58_ri_l2_l2 :=
  some (R58_ri_l2_l2.o0 x0 x5 x6 x7 x8 (IntKind.i64.wrap (x9 + (1 : Int))))
theorem f58_ri_l2_l2_j2_ok (k : Nat) (x0 : List Int) (x5 x6 x7 x8 x9 : Int) (r : R58_ri_l2_l2) (hF : f58_ri_l2_l2_j2 k x0 x5 x6 x7 x8 x9 = some r) : EX 58 k (nav B58 [2, 2, 1, 2, 2, 2, 2, 1, 2, 1, 2, 2, 1, 2, 2, 2, 2]) ({ n := 43, F := [(0, V.sl 1 (rowsOf (encI .u8) x0)), (5, V.p (Value.int .u64 x5)), (6, V.p (Value.int .u64 x6)), (7, V.p (Value.int .u64 x7)), (8, V.p (Value.int .i64 x8)), (9, V.p (Value.int .i64 x9))], M := [] } : St) = some r.st := by
  unfold f58_ri_l2_l2_j2 at hF
  cases hF
  simp (maxSteps := 999999) (disch := first | exact D (by decide) | exact K (by kernel_rfl)) only [E, EE, ↓reduceIte, simprocAttr, show (nav B58 [2, 2, 1, 2, 2, 2, 2, 1, 2, 1, 2, 2, 1, 2, 2, 2, 2]) = Code.region 11 _ false from rfl, hk_58_11, hz_58_11, hs_58_11, R58_ri_l2_l2.st]
noncomputable def f58_ri_l2_l2_j1 (k : Nat) (x0 : List Int) (x5 x6 x7 x8 x9 : Int) (x27 : Bool) : Option R58_ri_l2_l2 :=
  cond (((Int.tmod x7 (2 : Int)) == 1))
    (f58_ri_l2_l2_j2 k x0 x5 x6 ((IntKind.u64.wrap ((BitVec.ofInt (IntKind.bits .u64) (IntKind.u64.wrap (Int.tdiv (IntKind.u64.wrap (x7 - (1 : Int))) (2 : Int))) ^^^ BitVec.ofInt (IntKind.bits .u64) x6).toNat : Nat))) x8 x9)
    (f58_ri_l2_l2_j2 k x0 x5 x6 (IntKind.u64.wrap (Int.tdiv x7 (2 : Int))) x8 x9)
theorem f58_ri_l2_l2_j1_ok (k : Nat) (x0 : List Int) (x5 x6 x7 x8 x9 : Int) (x27 : Bool) (r : R58_ri_l2_l2) (hF : f58_ri_l2_l2_j1 k x0 x5 x6 x7 x8 x9 x27 = some r) : EX 58 k (nav B58 [2, 1, 2, 2, 2, 2, 1, 2, 1, 2, 2, 1, 2, 2, 2, 2]) ({ n := 43, F := [(0, V.sl 1 (rowsOf (encI .u8) x0)), (5, V.p (Value.int .u64 x5)), (6, V.p (Value.int .u64 x6)), (7, V.p (Value.int .u64 x7)), (8, V.p (Value.int .i64 x8)), (9, V.p (Value.int .i64 x9)), (27, V.p (Value.bool x27))], M := [] } : St) = some r.st := by
  unfold f58_ri_l2_l2_j1 at hF
  simp (maxSteps := 999999) (disch := first | exact D (by decide) | exact K (by kernel_rfl)) only [E, EE, ↓reduceIte, simprocAttr, xk B58 [2, 1, 2, 2, 2, 2, 1, 2, 1, 2, 2, 1, 2, 2, 2, 2] .sq rfl, xk B58 [1, 2, 1, 2, 2, 2, 2, 1, 2, 1, 2, 2, 1, 2, 2, 2, 2] (.bk 3) rfl, xk B58 [2, 1, 2, 1, 2, 2, 2, 2, 1, 2, 1, 2, 2, 1, 2, 2, 2, 2] .sq rfl, show (nav B58 [1, 2, 1, 2, 1, 2, 2, 2, 2, 1, 2, 1, 2, 2, 1, 2, 2, 2, 2]) = Code.region 12 _ false from rfl, hk_58_12, hz_58_12, hs_58_12, xk B58 [2, 2, 1, 2, 1, 2, 2, 2, 2, 1, 2, 1, 2, 2, 1, 2, 2, 2, 2] (.cd 32) rfl]
  replace hF := cond_some hF
  rcases hF with ⟨h1, hF⟩ | ⟨h1, hF⟩
  · have hJ := f58_ri_l2_l2_j2_ok k x0 x5 x6 ((IntKind.u64.wrap ((BitVec.ofInt (IntKind.bits .u64) (IntKind.u64.wrap (Int.tdiv (IntKind.u64.wrap (x7 - (1 : Int))) (2 : Int))) ^^^ BitVec.ofInt (IntKind.bits .u64) x6).toNat : Nat))) x8 x9 _ hF
    simp (maxSteps := 999999) (disch := first | exact D (by decide) | exact K (by kernel_rfl)) only [E, EE, ↓reduceIte, simprocAttr, show (nav B58 [2, 2, 2, 1, 2, 1, 2, 2, 2, 2, 1, 2, 1, 2, 2, 1, 2, 2, 2, 2]) = Code.region 13 _ false from rfl, hk_58_13, hz_58_13, hs_58_13, h1]
    try simp only [NM, EE] at hJ
    exact hJ
  · have hJ := f58_ri_l2_l2_j2_ok k x0 x5 x6 (IntKind.u64.wrap (Int.tdiv x7 (2 : Int))) x8 x9 _ hF
    simp (maxSteps := 999999) (disch := first | exact D (by decide) | exact K (by kernel_rfl)) only [E, EE, ↓reduceIte, simprocAttr, show (nav B58 [3, 2, 2, 1, 2, 1, 2, 2, 2, 2, 1, 2, 1, 2, 2, 1, 2, 2, 2, 2]) = Code.region 14 _ false from rfl, hk_58_14, hz_58_14, hs_58_14, h1]
    try simp only [NM, EE] at hJ
    exact hJ
noncomputable def f58_ri_l2_l2_b (k : Nat) (x0 : List Int) (x5 x6 x7 x8 x9 : Int) : Option R58_ri_l2_l2 :=
  cond ((decide (x9 < 8)))
    (f58_ri_l2_l2_j1 k x0 x5 x6 x7 x8 x9 true)
    (some (R58_ri_l2_l2.o1 x0 x5 x6 x7 x8 x9 false))
theorem f58_ri_l2_l2_b_ok (k : Nat) (x0 : List Int) (x5 x6 x7 x8 x9 : Int) (r : R58_ri_l2_l2) (hF : f58_ri_l2_l2_b k x0 x5 x6 x7 x8 x9 = some r) : EX 58 k (nav B58 [1, 2, 2, 2, 2, 1, 2, 1, 2, 2, 1, 2, 2, 2, 2]) ({ n := 43, F := [(0, V.sl 1 (rowsOf (encI .u8) x0)), (5, V.p (Value.int .u64 x5)), (6, V.p (Value.int .u64 x6)), (7, V.p (Value.int .u64 x7)), (8, V.p (Value.int .i64 x8)), (9, V.p (Value.int .i64 x9))], M := [] } : St) = some r.st := by
  unfold f58_ri_l2_l2_b at hF
  simp (maxSteps := 999999) (disch := first | exact D (by decide) | exact K (by kernel_rfl)) only [E, EE, ↓reduceIte, simprocAttr, xk B58 [1, 2, 2, 2, 2, 1, 2, 1, 2, 2, 1, 2, 2, 2, 2] .sq rfl, xk B58 [1, 1, 2, 2, 2, 2, 1, 2, 1, 2, 2, 1, 2, 2, 2, 2] .sq rfl, show (nav B58 [1, 1, 1, 2, 2, 2, 2, 1, 2, 1, 2, 2, 1, 2, 2, 2, 2]) = Code.region 10 _ false from rfl, hk_58_10, hz_58_10, hs_58_10, xk B58 [2, 1, 1, 2, 2, 2, 2, 1, 2, 1, 2, 2, 1, 2, 2, 2, 2] (.cd 27) rfl]
  replace hF := cond_some hF
  rcases hF with ⟨h1, hF⟩ | ⟨h1, hF⟩
  · have hJ := f58_ri_l2_l2_j1_ok k x0 x5 x6 x7 x8 x9 true _ hF
    simp (maxSteps := 999999) (disch := first | exact D (by decide) | exact K (by kernel_rfl)) only [E, EE, ↓reduceIte, simprocAttr, xk B58 [2, 2, 1, 1, 2, 2, 2, 2, 1, 2, 1, 2, 2, 1, 2, 2, 2, 2] .sk rfl, h1]
    try simp only [NM, EE] at hJ
    exact hJ
  · cases hF
    simp (maxSteps := 999999) (disch := first | exact D (by decide) | exact K (by kernel_rfl)) only [E, EE, ↓reduceIte, simprocAttr, xk B58 [3, 2, 1, 1, 2, 2, 2, 2, 1, 2, 1, 2, 2, 1, 2, 2, 2, 2] (.ex 2) rfl, R58_ri_l2_l2.st, h1]
noncomputable def f58_ri_l2_l2 (k : Nat) : Nat → (List Int) → Int → Int → Int → Int → Int → Option R58_ri_l2_l2
  | 0, _, _, _, _, _, _ => none
  | n + 1, x0, x5, x6, x7, x8, x9 => Option.bind (f58_ri_l2_l2_b k x0 x5 x6 x7 x8 x9) fun o =>
    match o with
    | .o0 y y_1 y_2 y_3 y_4 y_5 => f58_ri_l2_l2 k n y y_1 y_2 y_3 y_4 y_5
    | .o1 y y_1 y_2 y_3 y_4 y_5 y_6 => some (.o1 y y_1 y_2 y_3 y_4 y_5 y_6)
theorem f58_ri_l2_l2_ok (k n : Nat) : ∀ (x0 : List Int) (x5 x6 x7 x8 x9 : Int) (r : R58_ri_l2_l2) (hF : f58_ri_l2_l2 k n x0 x5 x6 x7 x8 x9 = some r) (σ : St) (hσ : headR (hints.head 58 10) (hints.canon 58 10) σ = some ({ n := 43, F := [(0, V.sl 1 (rowsOf (encI .u8) x0)), (5, V.p (Value.int .u64 x5)), (6, V.p (Value.int .u64 x6)), (7, V.p (Value.int .u64 x7)), (8, V.p (Value.int .i64 x8)), (9, V.p (Value.int .i64 x9))], M := [] } : St)), LP 58 k (nav B58 [1, 2, 2, 2, 2, 1, 2, 1, 2, 2, 1, 2, 2, 2, 2]) n σ = some r.st := by
  induction n with
  | zero => intro x0 x5 x6 x7 x8 x9 r hF; cases hF
  | succ n ih =>
    intro x0 x5 x6 x7 x8 x9 r hF σ hσ
    rw [f58_ri_l2_l2] at hF
    obtain ⟨o, h, hF⟩ := Option.bind_eq_some_iff.1 hF
    have hB := f58_ri_l2_l2_b_ok k x0 x5 x6 x7 x8 x9 o h
    unfold LP at ih ⊢
    unfold EX at hB
    rw [loopK_succ, show firstReg (nav B58 [1, 2, 2, 2, 2, 1, 2, 1, 2, 2, 1, 2, 2, 2, 2]) = 10 from rfl, hσ, headK_some, hB]
    cases o with
    | o0 y y_1 y_2 y_3 y_4 y_5 =>
      refine ih y y_1 y_2 y_3 y_4 y_5 r hF _ ?_
      simp (maxSteps := 999999) (disch := first | exact D (by decide) | exact K (by kernel_rfl)) only [E, EE, ↓reduceIte, simprocAttr, hh_58_10, hc_58_10]
    | o1 y y_1 y_2 y_3 y_4 y_5 y_6 => cases hF; rfl
inductive R58_ri_l2 where
  | o0 (y : List Int) (y_1 y_2 y_3 y_4 : Int)
  | o1 (y : List Int) (y_1 y_2 y_3 y_4 : Int) (y_5 : Bool)
noncomputable def R58_ri_l2.st : R58_ri_l2 → Out × St
  | .o0 y y_1 y_2 y_3 y_4 => (.norm, ({ n := 43, F := [(0, V.sl 1 (rowsOf (encI .u8) y)), (5, V.p (Value.int .u64 y_1)), (6, V.p (Value.int .u64 y_2)), (7, V.p (Value.int .u64 y_3)), (8, V.p (Value.int .i64 y_4))], M := [] } : St))
  | .o1 y y_1 y_2 y_3 y_4 y_5 => (.exit 0, ({ n := 43, F := [(0, V.sl 1 (rowsOf (encI .u8) y)), (5, V.p (Value.int .u64 y_1)), (6, V.p (Value.int .u64 y_2)), (7, V.p (Value.int .u64 y_3)), (8, V.p (Value.int .i64 y_4)), (16, V.p (Value.bool y_5))], M := [] } : St))
noncomputable def f58_ri_l2_j3 (k : Nat) (x0 : List Int) (x5 x6 x7 x8 x9 : Int) (x27 : Bool) : Option R58_ri_l2 :=
  some (R58_ri_l2.o0 x0 x5 x6 x7 (IntKind.i64.wrap (x8 + (1 : Int))))
theorem f58_ri_l2_j3_ok (k : Nat) (x0 : List Int) (x5 x6 x7 x8 x9 : Int) (x27 : Bool) (r : R58_ri_l2) (hF : f58_ri_l2_j3 k x0 x5 x6 x7 x8 x9 x27 = some r) : EX 58 k (nav B58 [2, 2, 1, 2, 2, 1, 2, 2, 2, 2]) ({ n := 43, F := [(0, V.sl 1 (rowsOf (encI .u8) x0)), (5, V.p (Value.int .u64 x5)), (6, V.p (Value.int .u64 x6)), (7, V.p (Value.int .u64 x7)), (8, V.p (Value.int .i64 x8)), (9, V.p (Value.int .i64 x9)), (27, V.p (Value.bool x27))], M := [] } : St) = some r.st := by
  unfold f58_ri_l2_j3 at hF
  cases hF
  simp (maxSteps := 999999) (disch := first | exact D (by decide) | exact K (by kernel_rfl)) only [E, EE, ↓reduceIte, simprocAttr, show (nav B58 [2, 2, 1, 2, 2, 1, 2, 2, 2, 2]) = Code.region 7 _ false from rfl, hk_58_7, hz_58_7, hs_58_7, R58_ri_l2.st]
noncomputable def f58_ri_l2_j1 (k : Nat) (x0 : List Int) (x5 x6 x7 x8 : Int) (x16 : Bool) : Option R58_ri_l2 :=
  ifE ((0 : Int) ≤ x8) (
    Option.bind (x0[(Int.toNat x8)]?) fun v2 =>
      Option.bind (f58_ri_l2_l2 k k x0 x5 x6 ((IntKind.u64.wrap ((BitVec.ofInt (IntKind.bits .u64) x7 ^^^ BitVec.ofInt (IntKind.bits .u64) (IntKind.u64.wrap v2)).toNat : Nat))) x8 0) fun o4 =>
        match o4 with
        | .o0 _ _ _ _ _ _ =>
          none
        | .o1 v7 v8 v9 v10 v11 v12 v13 =>
          f58_ri_l2_j3 k v7 v8 v9 v10 v11 v12 v13)
theorem f58_ri_l2_j1_ok (k : Nat) (x0 : List Int) (x5 x6 x7 x8 : Int) (x16 : Bool) (r : R58_ri_l2) (hF : f58_ri_l2_j1 k x0 x5 x6 x7 x8 x16 = some r) : EX 58 k (nav B58 [2, 1, 2, 2, 1, 2, 2, 2, 2]) ({ n := 43, F := [(0, V.sl 1 (rowsOf (encI .u8) x0)), (5, V.p (Value.int .u64 x5)), (6, V.p (Value.int .u64 x6)), (7, V.p (Value.int .u64 x7)), (8, V.p (Value.int .i64 x8)), (16, V.p (Value.bool x16))], M := [] } : St) = some r.st := by
  unfold f58_ri_l2_j1 at hF
  replace hF := ifE_some.1 hF
  obtain ⟨h1, hF⟩ := hF
  replace hF := Option.bind_eq_some_iff.1 hF
  obtain ⟨v2, h3, hF⟩ := hF
  replace hF := Option.bind_eq_some_iff.1 hF
  obtain ⟨o4, h5, hF⟩ := hF
  have hc6 := f58_ri_l2_l2_ok k k x0 x5 x6 ((IntKind.u64.wrap ((BitVec.ofInt (IntKind.bits .u64) x7 ^^^ BitVec.ofInt (IntKind.bits .u64) (IntKind.u64.wrap v2)).toNat : Nat))) x8 0 _ h5
  simp (maxSteps := 999999) (disch := first | exact D (by decide) | exact K (by kernel_rfl)) only [E, EE, ↓reduceIte, simprocAttr, xk B58 [2, 1, 2, 2, 1, 2, 2, 2, 2] .sq rfl, xk B58 [1, 2, 1, 2, 2, 1, 2, 2, 2, 2] (.bk 1) rfl, xk B58 [2, 1, 2, 1, 2, 2, 1, 2, 2, 2, 2] .sq rfl, show (nav B58 [1, 2, 1, 2, 1, 2, 2, 1, 2, 2, 2, 2]) = Code.region 8 _ false from rfl, hk_58_8, hz_58_8, hs_58_8, indexAddrV, u_22, i_22, is_22, ib_22, iz_22, u_5, i_5, is_5, ib_5, iz_5, encI_eq, u_47, i_47, is_47, ib_47, iz_47, convV, xk B58 [2, 2, 1, 2, 1, 2, 2, 1, 2, 2, 2, 2] .sq rfl, show (nav B58 [1, 2, 2, 1, 2, 1, 2, 2, 1, 2, 2, 2, 2]) = Code.region 9 _ false from rfl, hk_58_9, hz_58_9, hs_58_9, xk B58 [2, 2, 2, 1, 2, 1, 2, 2, 1, 2, 2, 2, 2] (.bk 2) rfl, xk B58 [2, 2, 2, 2, 1, 2, 1, 2, 2, 1, 2, 2, 2, 2] .lp rfl, hh_58_10, hc_58_10, h1, h3]
  (try simp only [NM, EE] at hc6)
  rw [hc6 _ (by simp (maxSteps := 999999) (disch := first | exact D (by decide) | exact K (by kernel_rfl)) only [E, EE, ↓reduceIte, simprocAttr, hh_58_10, hc_58_10, h1, h3])]
  clear hc6
  cases o4 with
  | o0 _ _ _ _ _ _ =>
    (try dsimp only at hF)
    cases hF
  | o1 v7 v8 v9 v10 v11 v12 v13 =>
    (try dsimp only at hF)
    have hJ := f58_ri_l2_j3_ok k v7 v8 v9 v10 v11 v12 v13 _ hF
    simp (maxSteps := 999999) (disch := first | exact D (by decide) | exact K (by kernel_rfl)) only [E, EE, ↓reduceIte, simprocAttr, R58_ri_l2_l2.st, h1, h3]
    try simp only [NM, EE] at hJ
    exact hJ
noncomputable def f58_ri_l2_b (k : Nat) (x0 : List Int) (x5 x6 x7 x8 : Int) : Option R58_ri_l2 :=
  cond ((decide (x8 < ((List.length x0) : Int))))
    (f58_ri_l2_j1 k x0 x5 x6 x7 x8 true)
    (some (R58_ri_l2.o1 x0 x5 x6 x7 x8 false))
theorem f58_ri_l2_b_ok (k : Nat) (x0 : List Int) (x5 x6 x7 x8 : Int) (r : R58_ri_l2) (hF : f58_ri_l2_b k x0 x5 x6 x7 x8 = some r) : EX 58 k (nav B58 [1, 2, 2, 1, 2, 2, 2, 2]) ({ n := 43, F := [(0, V.sl 1 (rowsOf (encI .u8) x0)), (5, V.p (Value.int .u64 x5)), (6, V.p (Value.int .u64 x6)), (7, V.p (Value.int .u64 x7)), (8, V.p (Value.int .i64 x8))], M := [] } : St) = some r.st := by
  unfold f58_ri_l2_b at hF
  simp (maxSteps := 999999) (disch := first | exact D (by decide) | exact K (by kernel_rfl)) only [E, EE, ↓reduceIte, simprocAttr, xk B58 [1, 2, 2, 1, 2, 2, 2, 2] .sq rfl, xk B58 [1, 1, 2, 2, 1, 2, 2, 2, 2] .sq rfl, show (nav B58 [1, 1, 1, 2, 2, 1, 2, 2, 2, 2]) = Code.region 6 _ false from rfl, hk_58_6, hz_58_6, hs_58_6, u_22, i_22, is_22, ib_22, iz_22, xk B58 [2, 1, 1, 2, 2, 1, 2, 2, 2, 2] (.cd 16) rfl]
  replace hF := cond_some hF
  rcases hF with ⟨h1, hF⟩ | ⟨h1, hF⟩
  · have hJ := f58_ri_l2_j1_ok k x0 x5 x6 x7 x8 true _ hF
    simp (maxSteps := 999999) (disch := first | exact D (by decide) | exact K (by kernel_rfl)) only [E, EE, ↓reduceIte, simprocAttr, xk B58 [2, 2, 1, 1, 2, 2, 1, 2, 2, 2, 2] .sk rfl, h1]
    try simp only [NM, EE] at hJ
    exact hJ
  · cases hF
    simp (maxSteps := 999999) (disch := first | exact D (by decide) | exact K (by kernel_rfl)) only [E, EE, ↓reduceIte, simprocAttr, xk B58 [3, 2, 1, 1, 2, 2, 1, 2, 2, 2, 2] (.ex 0) rfl, R58_ri_l2.st, h1]
noncomputable def f58_ri_l2 (k : Nat) : Nat → (List Int) → Int → Int → Int → Int → Option R58_ri_l2
  | 0, _, _, _, _, _ => none
  | n + 1, x0, x5, x6, x7, x8 => Option.bind (f58_ri_l2_b k x0 x5 x6 x7 x8) fun o =>
    match o with
    | .o0 y y_1 y_2 y_3 y_4 => f58_ri_l2 k n y y_1 y_2 y_3 y_4
    | .o1 y y_1 y_2 y_3 y_4 y_5 => some (.o1 y y_1 y_2 y_3 y_4 y_5)
theorem f58_ri_l2_ok (k n : Nat) : ∀ (x0 : List Int) (x5 x6 x7 x8 : Int) (r : R58_ri_l2) (hF : f58_ri_l2 k n x0 x5 x6 x7 x8 = some r) (σ : St) (hσ : headR (hints.head 58 6) (hints.canon 58 6) σ = some ({ n := 43, F := [(0, V.sl 1 (rowsOf (encI .u8) x0)), (5, V.p (Value.int .u64 x5)), (6, V.p (Value.int .u64 x6)), (7, V.p (Value.int .u64 x7)), (8, V.p (Value.int .i64 x8))], M := [] } : St)), LP 58 k (nav B58 [1, 2, 2, 1, 2, 2, 2, 2]) n σ = some r.st := by
  induction n with
  | zero => intro x0 x5 x6 x7 x8 r hF; cases hF
  | succ n ih =>
    intro x0 x5 x6 x7 x8 r hF σ hσ
    rw [f58_ri_l2] at hF
    obtain ⟨o, h, hF⟩ := Option.bind_eq_some_iff.1 hF
    have hB := f58_ri_l2_b_ok k x0 x5 x6 x7 x8 o h
    unfold LP at ih ⊢
    unfold EX at hB
    rw [loopK_succ, show firstReg (nav B58 [1, 2, 2, 1, 2, 2, 2, 2]) = 6 from rfl, hσ, headK_some, hB]
    cases o with
    | o0 y y_1 y_2 y_3 y_4 =>
      refine ih y y_1 y_2 y_3 y_4 r hF _ ?_
      simp (maxSteps := 999999) (disch := first | exact D (by decide) | exact K (by kernel_rfl)) only [E, EE, ↓reduceIte, simprocAttr, hh_58_6, hc_58_6]
    | o1 y y_1 y_2 y_3 y_4 y_5 => cases hF; rfl
noncomputable def f58_ri_j3 (k : Nat) (x0 : List Int) (x5 x6 x7 x8 : Int) (x16 : Bool) : Option R58_ri :=
  some (R58_ri.o0 ((IntKind.u64.wrap ((BitVec.ofInt (IntKind.bits .u64) x7 ^^^ BitVec.ofInt (IntKind.bits .u64) x5).toNat : Nat))))
theorem f58_ri_j3_ok (k : Nat) (x0 : List Int) (x5 x6 x7 x8 : Int) (x16 : Bool) (r : R58_ri) (hF : f58_ri_j3 k x0 x5 x6 x7 x8 x16 = some r) : finK Tryd.prog Tryd.f58 0 (EX 58 k (nav B58 [2, 2, 2, 2, 2]) ({ n := 43, F := [(0, V.sl 1 (rowsOf (encI .u8) x0)), (5, V.p (Value.int .u64 x5)), (6, V.p (Value.int .u64 x6)), (7, V.p (Value.int .u64 x7)), (8, V.p (Value.int .i64 x8)), (16, V.p (Value.bool x16))], M := [] } : St)) = some r.st := by
  unfold f58_ri_j3 at hF
  cases hF
  simp (maxSteps := 999999) (disch := first | exact D (by decide) | exact K (by kernel_rfl)) only [E, EE, ↓reduceIte, simprocAttr, xk B58 [2, 2, 2, 2, 2] .sq rfl, show (nav B58 [1, 2, 2, 2, 2, 2]) = Code.region 15 _ false from rfl, hk_58_15, hz_58_15, hs_58_15, xk B58 [2, 2, 2, 2, 2, 2] .rt rfl, finK_norm, finK_ret, fin58, R58_ri.st]
noncomputable def f58_ri_j1 (k : Nat) (x0 : List Int) (x5 x6 : Int) : Option R58_ri :=
  Option.bind (f58_ri_l2 k k x0 x5 x6 x5 0) fun o1 =>
    match o1 with
    | .o0 _ _ _ _ _ =>
      none
    | .o1 v4 v5 v6 v7 v8 v9 =>
      f58_ri_j3 k v4 v5 v6 v7 v8 v9
theorem f58_ri_j1_ok (k : Nat) (x0 : List Int) (x5 x6 : Int) (r : R58_ri) (hF : f58_ri_j1 k x0 x5 x6 = some r) : finK Tryd.prog Tryd.f58 0 (EX 58 k (nav B58 [2, 2, 2]) ({ n := 43, F := [(0, V.sl 1 (rowsOf (encI .u8) x0)), (5, V.p (Value.int .u64 x5)), (6, V.p (Value.int .u64 x6))], M := [] } : St)) = some r.st := by
  unfold f58_ri_j1 at hF
  replace hF := Option.bind_eq_some_iff.1 hF
  obtain ⟨o1, h2, hF⟩ := hF
  have hc3 := f58_ri_l2_ok k k x0 x5 x6 x5 0 _ h2
  simp (maxSteps := 999999) (disch := first | exact D (by decide) | exact K (by kernel_rfl)) only [E, EE, ↓reduceIte, simprocAttr, xk B58 [2, 2, 2] .sq rfl, show (nav B58 [1, 2, 2, 2]) = Code.region 4 _ false from rfl, hk_58_4, hz_58_4, hs_58_4, xk B58 [2, 2, 2, 2] .sq rfl, xk B58 [1, 2, 2, 2, 2] .sq rfl, show (nav B58 [1, 1, 2, 2, 2, 2]) = Code.region 5 _ false from rfl, hk_58_5, hz_58_5, hs_58_5, xk B58 [2, 1, 2, 2, 2, 2] (.bk 0) rfl, xk B58 [2, 2, 1, 2, 2, 2, 2] .lp rfl, hh_58_6, hc_58_6]
  (try simp only [NM, EE] at hc3)
  rw [hc3 _ (by simp (maxSteps := 999999) (disch := first | exact D (by decide) | exact K (by kernel_rfl)) only [E, EE, ↓reduceIte, simprocAttr, hh_58_6, hc_58_6])]
  clear hc3
  cases o1 with
  | o0 _ _ _ _ _ =>
    (try dsimp only at hF)
    cases hF
  | o1 v4 v5 v6 v7 v8 v9 =>
    (try dsimp only at hF)
    have hJ := f58_ri_j3_ok k v4 v5 v6 v7 v8 v9 _ hF
    simp (maxSteps := 999999) (disch := first | exact D (by decide) | exact K (by kernel_rfl)) only [E, EE, ↓reduceIte, simprocAttr, R58_ri_l2.st]
    try simp only [NM, EE] at hJ
    exact hJ
noncomputable def f58_ri_j4 (k : Nat) (x0 : List Int) (x5 x6 : Int) (x11 : Bool) : Option R58_ri :=
  Option.bind (f58_ri_l2 k k x0 x5 x6 x5 0) fun o1 =>
    match o1 with
    | .o0 _ _ _ _ _ =>
      none
    | .o1 v4 v5 v6 v7 v8 v9 =>
      f58_ri_j3 k v4 v5 v6 v7 v8 v9
theorem f58_ri_j4_ok (k : Nat) (x0 : List Int) (x5 x6 : Int) (x11 : Bool) (r : R58_ri) (hF : f58_ri_j4 k x0 x5 x6 x11 = some r) : finK Tryd.prog Tryd.f58 0 (EX 58 k (nav B58 [2, 2, 2]) ({ n := 43, F := [(0, V.sl 1 (rowsOf (encI .u8) x0)), (5, V.p (Value.int .u64 x5)), (6, V.p (Value.int .u64 x6)), (11, V.p (Value.bool x11))], M := [] } : St)) = some r.st := by
  unfold f58_ri_j4 at hF
  replace hF := Option.bind_eq_some_iff.1 hF
  obtain ⟨o1, h2, hF⟩ := hF
  have hc3 := f58_ri_l2_ok k k x0 x5 x6 x5 0 _ h2
  simp (maxSteps := 999999) (disch := first | exact D (by decide) | exact K (by kernel_rfl)) only [E, EE, ↓reduceIte, simprocAttr, xk B58 [2, 2, 2] .sq rfl, show (nav B58 [1, 2, 2, 2]) = Code.region 4 _ false from rfl, hk_58_4, hz_58_4, hs_58_4, xk B58 [2, 2, 2, 2] .sq rfl, xk B58 [1, 2, 2, 2, 2] .sq rfl, show (nav B58 [1, 1, 2, 2, 2, 2]) = Code.region 5 _ false from rfl, hk_58_5, hz_58_5, hs_58_5, xk B58 [2, 1, 2, 2, 2, 2] (.bk 0) rfl, xk B58 [2, 2, 1, 2, 2, 2, 2] .lp rfl, hh_58_6, hc_58_6]
  (try simp only [NM, EE] at hc3)
  rw [hc3 _ (by simp (maxSteps := 999999) (disch := first | exact D (by decide) | exact K (by kernel_rfl)) only [E, EE, ↓reduceIte, simprocAttr, hh_58_6, hc_58_6])]
  clear hc3
  cases o1 with
  | o0 _ _ _ _ _ =>
    (try dsimp only at hF)
    cases hF
  | o1 v4 v5 v6 v7 v8 v9 =>
    (try dsimp only at hF)
    have hJ := f58_ri_j3_ok k v4 v5 v6 v7 v8 v9 _ hF
    simp (maxSteps := 999999) (disch := first | exact D (by decide) | exact K (by kernel_rfl)) only [E, EE, ↓reduceIte, simprocAttr, R58_ri_l2.st]
    try simp only [NM, EE] at hJ
    exact hJ
noncomputable def f58_ri_e (k : Nat) (a0 : List Int) (a1 : Int) : Option R58_ri :=
  cond ((a1 == 32))
    (f58_ri_j1 k a0 4294967295 2197175160)
    (f58_ri_j4 k a0 65535 33800 false)
theorem f58_ri_e_ok (k : Nat) (a0 : List Int) (a1 : Int) (r : R58_ri) (hF : f58_ri_e k a0 a1 = some r) : finK Tryd.prog Tryd.f58 0 (EX 58 k (nav B58 []) ({ n := 43, F := [(0, V.sl 1 (rowsOf (encI .u8) a0)), (1, V.p (Value.int .i64 a1))], M := [] } : St)) = some r.st := by
  unfold f58_ri_e at hF
  simp (maxSteps := 999999) (disch := first | exact D (by decide) | exact K (by kernel_rfl)) only [E, EE, ↓reduceIte, simprocAttr, xk B58 [] .sq rfl, show (nav B58 [1]) = Code.region 0 _ false from rfl, hk_58_0, hz_58_0, hs_58_0, xk B58 [2] .sq rfl, show (nav B58 [1, 2]) = Code.region 1 _ false from rfl, hk_58_1, hz_58_1, hs_58_1, xk B58 [2, 2] .sq rfl, xk B58 [1, 2, 2] .sq rfl, show (nav B58 [1, 1, 2, 2]) = Code.region 2 _ false from rfl, hk_58_2, hz_58_2, hs_58_2, xk B58 [2, 1, 2, 2] (.cd 11) rfl]
  replace hF := cond_some hF
  rcases hF with ⟨h1, hF⟩ | ⟨h1, hF⟩
  · have hJ := f58_ri_j1_ok k a0 4294967295 2197175160 _ hF
    simp (maxSteps := 999999) (disch := first | exact D (by decide) | exact K (by kernel_rfl)) only [E, EE, ↓reduceIte, simprocAttr, show (nav B58 [2, 2, 1, 2, 2]) = Code.region 3 _ false from rfl, hk_58_3, hz_58_3, hs_58_3, h1]
    try simp only [NM, EE] at hJ
    exact hJ
  · have hJ := f58_ri_j4_ok k a0 65535 33800 false _ hF
    simp (maxSteps := 999999) (disch := first | exact D (by decide) | exact K (by kernel_rfl)) only [E, EE, ↓reduceIte, simprocAttr, xk B58 [3, 2, 1, 2, 2] .sk rfl, h1]
    try simp only [NM, EE] at hJ
    exact hJ
noncomputable def f58_ri (k : Nat) (a0 : List Int) (a1 : Int) : Option R58_ri := match k with | 0 => none | k + 1 => f58_ri_e k a0 a1
theorem f58_ri_ok (k : Nat) (a0 : List Int) (a1 : Int) (r : R58_ri) (hF : f58_ri k a0 a1 = some r) : CV k 58 [V.sl 1 (rowsOf (encI .u8) a0), V.p (Value.int .i64 a1)] [] = some r.st := by
  cases k with
  | zero => cases hF
  | succ k =>
    unfold CV
    rw [ev_call (F := Tryd.f58) (c := (nav B58 [])) rfl Tryd.func58 rfl rfl rfl rfl]
    exact f58_ri_e_ok k a0 a1 r hF
-- f40_rn: f40 heliograph/heliographref01.Both
inductive R40_rn where
  | o0 (y : List Int)
noncomputable def R40_rn.st : R40_rn → V × List O × List O
  | .o0 y => (V.own 2000000, [], [O.row true 1 5 (rowsOf (encI .u8) y)])
inductive R40_rn_l1 where
  | o0 (y : List Int) (y_1 : Int) (y_2 y_3 : List Int)
  | o1 (y : List Int) (y_1 : Int) (y_2 : Bool) (y_3 y_4 : List Int)
noncomputable def R40_rn_l1.st : R40_rn_l1 → Out × St
  | .o0 y y_1 y_2 y_3 => (.norm, ({ n := 41, F := [(0, V.sl 1 (rowsOf (encI .u8) y)), (1, V.own 30000), (5, V.own 26), (6, V.p (Value.int .i64 y_1))], M := [(30000, O.row true 1 5 (rowsOf (encI .u8) y_2)), (26, O.row true 1 5 (rowsOf (encI .u8) y_3))] } : St))
  | .o1 y y_1 y_2 y_3 y_4 => (.exit 0, ({ n := 41, F := [(0, V.sl 1 (rowsOf (encI .u8) y)), (1, V.own 30000), (5, V.own 30001), (6, V.p (Value.int .i64 y_1)), (17, V.p (Value.bool y_2))], M := [(30000, O.row true 1 5 (rowsOf (encI .u8) y_3)), (30001, O.row true 1 5 (rowsOf (encI .u8) y_4))] } : St))
noncomputable def f40_rn_l1_j2 (k : Nat) (x0 : List Int) (x6 : Int) (h0_ m26 : List Int) : Option R40_rn_l1 :=
  some (R40_rn_l1.o0 x0 (IntKind.i64.wrap (x6 + (1 : Int))) h0_ m26)
theorem f40_rn_l1_j2_ok (k : Nat) (x0 : List Int) (x6 : Int) (h0_ m26 : List Int) (r : R40_rn_l1) (hF : f40_rn_l1_j2 k x0 x6 h0_ m26 = some r) : EX 40 k (nav B40 [2, 2, 1, 2, 2, 1, 2, 2]) ({ n := 41, F := [(0, V.sl 1 (rowsOf (encI .u8) x0)), (1, V.own 30000), (5, V.own 26), (6, V.p (Value.int .i64 x6))], M := [(30000, O.row true 1 5 (rowsOf (encI .u8) h0_)), (26, O.row true 1 5 (rowsOf (encI .u8) m26))] } : St) = some r.st := by
  unfold f40_rn_l1_j2 at hF
  cases hF
  simp (maxSteps := 999999) (disch := first | exact D (by decide) | exact K (by kernel_rfl)) only [E, EE, ↓reduceIte, simprocAttr, show (nav B40 [2, 2, 1, 2, 2, 1, 2, 2]) = Code.region 4 _ false from rfl, hk_40_4, hz_40_4, hs_40_4, R40_rn_l1.st]
noncomputable def f40_rn_l1_j1 (k : Nat) (x0 : List Int) (x6 : Int) (x17 : Bool) (h0_ h1_ : List Int) : Option R40_rn_l1 :=
  ifE ((0 : Int) ≤ x6) (
    Option.bind (x0[(Int.toNat x6)]?) fun v2 =>
      ifE (((List.length h1_) + 1) ≤ roomy) (
        f40_rn_l1_j2 k x0 x6 h0_ (h1_ ++ ([v2] : List Int))))
theorem f40_rn_l1_j1_ok (k : Nat) (x0 : List Int) (x6 : Int) (x17 : Bool) (h0_ h1_ : List Int) (r : R40_rn_l1) (hF : f40_rn_l1_j1 k x0 x6 x17 h0_ h1_ = some r) : EX 40 k (nav B40 [2, 1, 2, 2, 1, 2, 2]) ({ n := 41, F := [(0, V.sl 1 (rowsOf (encI .u8) x0)), (1, V.own 30000), (5, V.own 30001), (6, V.p (Value.int .i64 x6)), (17, V.p (Value.bool x17))], M := [(30000, O.row true 1 5 (rowsOf (encI .u8) h0_)), (30001, O.row true 1 5 (rowsOf (encI .u8) h1_))] } : St) = some r.st := by
  unfold f40_rn_l1_j1 at hF
  replace hF := ifE_some.1 hF
  obtain ⟨h1, hF⟩ := hF
  replace hF := Option.bind_eq_some_iff.1 hF
  obtain ⟨v2, h3, hF⟩ := hF
  have q4 : [[V.p (Value.int .u8 v2)]] = rowsOf (encI .u8) ([v2] : List Int) := rfl
  have q5 : List.map (tell [0]) (rowsOf (encI .u8) ([v2] : List Int)) = rowsOf (encI .u8) ([v2] : List Int) := rfl
  replace hF := ifE_some.1 hF
  obtain ⟨h6, hF⟩ := hF
  have hJ := f40_rn_l1_j2_ok k x0 x6 h0_ (h1_ ++ ([v2] : List Int)) _ hF
  simp (maxSteps := 999999) (disch := first | exact D (by decide) | exact K (by kernel_rfl)) only [E, EE, ↓reduceIte, simprocAttr, xk B40 [2, 1, 2, 2, 1, 2, 2] .sq rfl, xk B40 [1, 2, 1, 2, 2, 1, 2, 2] (.bk 1) rfl, show (nav B40 [2, 1, 2, 1, 2, 2, 1, 2, 2]) = Code.region 5 _ false from rfl, hk_40_5, hz_40_5, hs_40_5, indexAddrV, u_22, i_22, is_22, ib_22, iz_22, u_5, i_5, is_5, ib_5, iz_5, encI_eq, buildSliceV, fillRows, sm_5, appendV, content, h1, h3, q4, q5, h6]
  try simp only [NM, EE] at hJ
  exact hJ
noncomputable def f40_rn_l1_b (k : Nat) (x0 : List Int) (x6 : Int) (h0_ h1_ : List Int) : Option R40_rn_l1 :=
  cond ((decide (x6 < ((List.length x0) : Int))))
    (f40_rn_l1_j1 k x0 x6 true h0_ h1_)
    (some (R40_rn_l1.o1 x0 x6 false h0_ h1_))
theorem f40_rn_l1_b_ok (k : Nat) (x0 : List Int) (x6 : Int) (h0_ h1_ : List Int) (r : R40_rn_l1) (hF : f40_rn_l1_b k x0 x6 h0_ h1_ = some r) : EX 40 k (nav B40 [1, 2, 2, 1, 2, 2]) ({ n := 41, F := [(0, V.sl 1 (rowsOf (encI .u8) x0)), (1, V.own 30000), (5, V.own 30001), (6, V.p (Value.int .i64 x6))], M := [(30000, O.row true 1 5 (rowsOf (encI .u8) h0_)), (30001, O.row true 1 5 (rowsOf (encI .u8) h1_))] } : St) = some r.st := by
  unfold f40_rn_l1_b at hF
  simp (maxSteps := 999999) (disch := first | exact D (by decide) | exact K (by kernel_rfl)) only [E, EE, ↓reduceIte, simprocAttr, xk B40 [1, 2, 2, 1, 2, 2] .sq rfl, xk B40 [1, 1, 2, 2, 1, 2, 2] .sq rfl, show (nav B40 [1, 1, 1, 2, 2, 1, 2, 2]) = Code.region 3 _ false from rfl, hk_40_3, hz_40_3, hs_40_3, u_22, i_22, is_22, ib_22, iz_22, xk B40 [2, 1, 1, 2, 2, 1, 2, 2] (.cd 17) rfl]
  replace hF := cond_some hF
  rcases hF with ⟨h1, hF⟩ | ⟨h1, hF⟩
  · have hJ := f40_rn_l1_j1_ok k x0 x6 true h0_ h1_ _ hF
    simp (maxSteps := 999999) (disch := first | exact D (by decide) | exact K (by kernel_rfl)) only [E, EE, ↓reduceIte, simprocAttr, xk B40 [2, 2, 1, 1, 2, 2, 1, 2, 2] .sk rfl, h1]
    try simp only [NM, EE] at hJ
    exact hJ
  · cases hF
    simp (maxSteps := 999999) (disch := first | exact D (by decide) | exact K (by kernel_rfl)) only [E, EE, ↓reduceIte, simprocAttr, xk B40 [3, 2, 1, 1, 2, 2, 1, 2, 2] (.ex 0) rfl, R40_rn_l1.st, h1]
noncomputable def f40_rn_l1 (k : Nat) : Nat → (List Int) → Int → (List Int) → (List Int) → Option R40_rn_l1
  | 0, _, _, _, _ => none
  | n + 1, x0, x6, h0_, h1_ => Option.bind (f40_rn_l1_b k x0 x6 h0_ h1_) fun o =>
    match o with
    | .o0 y y_1 y_2 y_3 => f40_rn_l1 k n y y_1 y_2 y_3
    | .o1 y y_1 y_2 y_3 y_4 => some (.o1 y y_1 y_2 y_3 y_4)
theorem f40_rn_l1_ok (k n : Nat) : ∀ (x0 : List Int) (x6 : Int) (h0_ h1_ : List Int) (r : R40_rn_l1) (hF : f40_rn_l1 k n x0 x6 h0_ h1_ = some r) (σ : St) (hσ : headR (hints.head 40 3) (hints.canon 40 3) σ = some ({ n := 41, F := [(0, V.sl 1 (rowsOf (encI .u8) x0)), (1, V.own 30000), (5, V.own 30001), (6, V.p (Value.int .i64 x6))], M := [(30000, O.row true 1 5 (rowsOf (encI .u8) h0_)), (30001, O.row true 1 5 (rowsOf (encI .u8) h1_))] } : St)), LP 40 k (nav B40 [1, 2, 2, 1, 2, 2]) n σ = some r.st := by
  induction n with
  | zero => intro x0 x6 h0_ h1_ r hF; cases hF
  | succ n ih =>
    intro x0 x6 h0_ h1_ r hF σ hσ
    rw [f40_rn_l1] at hF
    obtain ⟨o, h, hF⟩ := Option.bind_eq_some_iff.1 hF
    have hB := f40_rn_l1_b_ok k x0 x6 h0_ h1_ o h
    unfold LP at ih ⊢
    unfold EX at hB
    rw [loopK_succ, show firstReg (nav B40 [1, 2, 2, 1, 2, 2]) = 3 from rfl, hσ, headK_some, hB]
    cases o with
    | o0 y y_1 y_2 y_3 =>
      refine ih y y_1 y_2 y_3 r hF _ ?_
      simp (maxSteps := 999999) (disch := first | exact D (by decide) | exact K (by kernel_rfl)) only [E, EE, ↓reduceIte, simprocAttr, hh_40_3, hc_40_3]
    | o1 y y_1 y_2 y_3 y_4 => cases hF; rfl
inductive R40_rn_l3 where
  | o0 (y : Int) (y_1 y_2 : List Int)
  | o1 (y : Int) (y_1 : Bool) (y_2 y_3 : List Int)
noncomputable def R40_rn_l3.st : R40_rn_l3 → Out × St
  | .o0 y y_1 y_2 => (.norm, ({ n := 41, F := [(1, V.own 30000), (5, V.own 39), (7, V.p (Value.int .i64 y))], M := [(30000, O.row true 1 5 (rowsOf (encI .u8) y_1)), (39, O.row true 1 5 (rowsOf (encI .u8) y_2))] } : St))
  | .o1 y y_1 y_2 y_3 => (.exit 2, ({ n := 41, F := [(1, V.own 30000), (5, V.own 30001), (7, V.p (Value.int .i64 y)), (30, V.p (Value.bool y_1))], M := [(30000, O.row true 1 5 (rowsOf (encI .u8) y_2)), (30001, O.row true 1 5 (rowsOf (encI .u8) y_3))] } : St))
noncomputable def f40_rn_l3_j2 (k : Nat) (x7 : Int) (h0_ m39 : List Int) : Option R40_rn_l3 :=
  some (R40_rn_l3.o0 (IntKind.i64.wrap (x7 + (1 : Int))) h0_ m39)
theorem f40_rn_l3_j2_ok (k : Nat) (x7 : Int) (h0_ m39 : List Int) (r : R40_rn_l3) (hF : f40_rn_l3_j2 k x7 h0_ m39 = some r) : EX 40 k (nav B40 [2, 2, 1, 2, 2, 1, 2, 2, 2]) ({ n := 41, F := [(1, V.own 30000), (5, V.own 39), (7, V.p (Value.int .i64 x7))], M := [(30000, O.row true 1 5 (rowsOf (encI .u8) h0_)), (39, O.row true 1 5 (rowsOf (encI .u8) m39))] } : St) = some r.st := by
  unfold f40_rn_l3_j2 at hF
  cases hF
  simp (maxSteps := 999999) (disch := first | exact D (by decide) | exact K (by kernel_rfl)) only [E, EE, ↓reduceIte, simprocAttr, show (nav B40 [2, 2, 1, 2, 2, 1, 2, 2, 2]) = Code.region 8 _ false from rfl, hk_40_8, hz_40_8, hs_40_8, R40_rn_l3.st]
noncomputable def f40_rn_l3_j1 (k : Nat) (x7 : Int) (x30 : Bool) (h0_ h1_ : List Int) : Option R40_rn_l3 :=
  ifE ((0 : Int) ≤ x7) (
    ifE (x7 < ((List.length h0_) : Int)) (
      Option.bind (h0_[(Int.toNat x7)]?) fun v3 =>
        ifE (((List.length h1_) + 1) ≤ roomy) (
          f40_rn_l3_j2 k x7 h0_ (h1_ ++ ([v3] : List Int)))))
theorem f40_rn_l3_j1_ok (k : Nat) (x7 : Int) (x30 : Bool) (h0_ h1_ : List Int) (r : R40_rn_l3) (hF : f40_rn_l3_j1 k x7 x30 h0_ h1_ = some r) : EX 40 k (nav B40 [2, 1, 2, 2, 1, 2, 2, 2]) ({ n := 41, F := [(1, V.own 30000), (5, V.own 30001), (7, V.p (Value.int .i64 x7)), (30, V.p (Value.bool x30))], M := [(30000, O.row true 1 5 (rowsOf (encI .u8) h0_)), (30001, O.row true 1 5 (rowsOf (encI .u8) h1_))] } : St) = some r.st := by
  unfold f40_rn_l3_j1 at hF
  replace hF := ifE_some.1 hF
  obtain ⟨h1, hF⟩ := hF
  replace hF := ifE_some.1 hF
  obtain ⟨h2, hF⟩ := hF
  replace hF := Option.bind_eq_some_iff.1 hF
  obtain ⟨v3, h4, hF⟩ := hF
  have q5 : [[V.p (Value.int .u8 v3)]] = rowsOf (encI .u8) ([v3] : List Int) := rfl
  have q6 : List.map (tell [0]) (rowsOf (encI .u8) ([v3] : List Int)) = rowsOf (encI .u8) ([v3] : List Int) := rfl
  replace hF := ifE_some.1 hF
  obtain ⟨h7, hF⟩ := hF
  have hJ := f40_rn_l3_j2_ok k x7 h0_ (h1_ ++ ([v3] : List Int)) _ hF
  simp (maxSteps := 999999) (disch := first | exact D (by decide) | exact K (by kernel_rfl)) only [E, EE, ↓reduceIte, simprocAttr, xk B40 [2, 1, 2, 2, 1, 2, 2, 2] .sq rfl, xk B40 [1, 2, 1, 2, 2, 1, 2, 2, 2] (.bk 3) rfl, show (nav B40 [2, 1, 2, 1, 2, 2, 1, 2, 2, 2]) = Code.region 9 _ false from rfl, hk_40_9, hz_40_9, hs_40_9, indexAddrV, u_22, i_22, is_22, ib_22, iz_22, u_5, i_5, is_5, ib_5, iz_5, encI_eq, buildSliceV, fillRows, sm_5, appendV, content, h1, h2, h4, q5, q6, h7]
  try simp only [NM, EE] at hJ
  exact hJ
noncomputable def f40_rn_l3_b (k : Nat) (x7 : Int) (h0_ h1_ : List Int) : Option R40_rn_l3 :=
  cond ((decide (x7 < ((List.length h0_) : Int))))
    (f40_rn_l3_j1 k x7 true h0_ h1_)
    (some (R40_rn_l3.o1 x7 false h0_ h1_))
theorem f40_rn_l3_b_ok (k : Nat) (x7 : Int) (h0_ h1_ : List Int) (r : R40_rn_l3) (hF : f40_rn_l3_b k x7 h0_ h1_ = some r) : EX 40 k (nav B40 [1, 2, 2, 1, 2, 2, 2]) ({ n := 41, F := [(1, V.own 30000), (5, V.own 30001), (7, V.p (Value.int .i64 x7))], M := [(30000, O.row true 1 5 (rowsOf (encI .u8) h0_)), (30001, O.row true 1 5 (rowsOf (encI .u8) h1_))] } : St) = some r.st := by
  unfold f40_rn_l3_b at hF
  simp (maxSteps := 999999) (disch := first | exact D (by decide) | exact K (by kernel_rfl)) only [E, EE, ↓reduceIte, simprocAttr, xk B40 [1, 2, 2, 1, 2, 2, 2] .sq rfl, xk B40 [1, 1, 2, 2, 1, 2, 2, 2] .sq rfl, show (nav B40 [1, 1, 1, 2, 2, 1, 2, 2, 2]) = Code.region 7 _ false from rfl, hk_40_7, hz_40_7, hs_40_7, u_22, i_22, is_22, ib_22, iz_22, xk B40 [2, 1, 1, 2, 2, 1, 2, 2, 2] (.cd 30) rfl]
  replace hF := cond_some hF
  rcases hF with ⟨h1, hF⟩ | ⟨h1, hF⟩
  · have hJ := f40_rn_l3_j1_ok k x7 true h0_ h1_ _ hF
    simp (maxSteps := 999999) (disch := first | exact D (by decide) | exact K (by kernel_rfl)) only [E, EE, ↓reduceIte, simprocAttr, xk B40 [2, 2, 1, 1, 2, 2, 1, 2, 2, 2] .sk rfl, h1]
    try simp only [NM, EE] at hJ
    exact hJ
  · cases hF
    simp (maxSteps := 999999) (disch := first | exact D (by decide) | exact K (by kernel_rfl)) only [E, EE, ↓reduceIte, simprocAttr, xk B40 [3, 2, 1, 1, 2, 2, 1, 2, 2, 2] (.ex 2) rfl, R40_rn_l3.st, h1]
noncomputable def f40_rn_l3 (k : Nat) : Nat → Int → (List Int) → (List Int) → Option R40_rn_l3
  | 0, _, _, _ => none
  | n + 1, x7, h0_, h1_ => Option.bind (f40_rn_l3_b k x7 h0_ h1_) fun o =>
    match o with
    | .o0 y y_1 y_2 => f40_rn_l3 k n y y_1 y_2
    | .o1 y y_1 y_2 y_3 => some (.o1 y y_1 y_2 y_3)
theorem f40_rn_l3_ok (k n : Nat) : ∀ (x7 : Int) (h0_ h1_ : List Int) (r : R40_rn_l3) (hF : f40_rn_l3 k n x7 h0_ h1_ = some r) (σ : St) (hσ : headR (hints.head 40 7) (hints.canon 40 7) σ = some ({ n := 41, F := [(1, V.own 30000), (5, V.own 30001), (7, V.p (Value.int .i64 x7))], M := [(30000, O.row true 1 5 (rowsOf (encI .u8) h0_)), (30001, O.row true 1 5 (rowsOf (encI .u8) h1_))] } : St)), LP 40 k (nav B40 [1, 2, 2, 1, 2, 2, 2]) n σ = some r.st := by
  induction n with
  | zero => intro x7 h0_ h1_ r hF; cases hF
  | succ n ih =>
    intro x7 h0_ h1_ r hF σ hσ
    rw [f40_rn_l3] at hF
    obtain ⟨o, h, hF⟩ := Option.bind_eq_some_iff.1 hF
    have hB := f40_rn_l3_b_ok k x7 h0_ h1_ o h
    unfold LP at ih ⊢
    unfold EX at hB
    rw [loopK_succ, show firstReg (nav B40 [1, 2, 2, 1, 2, 2, 2]) = 7 from rfl, hσ, headK_some, hB]
    cases o with
    | o0 y y_1 y_2 =>
      refine ih y y_1 y_2 r hF _ ?_
      simp (maxSteps := 999999) (disch := first | exact D (by decide) | exact K (by kernel_rfl)) only [E, EE, ↓reduceIte, simprocAttr, hh_40_7, hc_40_7]
    | o1 y y_1 y_2 y_3 => cases hF; rfl
noncomputable def f40_rn_j4 (k : Nat) (x7 : Int) (x30 : Bool) (h0_ h1_ : List Int) : Option R40_rn :=
  some (R40_rn.o0 h1_)
theorem f40_rn_j4_ok (k : Nat) (x7 : Int) (x30 : Bool) (h0_ h1_ : List Int) (r : R40_rn) (hF : f40_rn_j4 k x7 x30 h0_ h1_ = some r) : finK Tryd.prog Tryd.f40 0 (EX 40 k (nav B40 [2, 2, 2, 2]) ({ n := 41, F := [(1, V.own 30000), (5, V.own 30001), (7, V.p (Value.int .i64 x7)), (30, V.p (Value.bool x30))], M := [(30000, O.row true 1 5 (rowsOf (encI .u8) h0_)), (30001, O.row true 1 5 (rowsOf (encI .u8) h1_))] } : St)) = some r.st := by
  unfold f40_rn_j4 at hF
  cases hF
  simp (maxSteps := 999999) (disch := first | exact D (by decide) | exact K (by kernel_rfl)) only [E, EE, ↓reduceIte, simprocAttr, xk B40 [2, 2, 2, 2] .sq rfl, show (nav B40 [1, 2, 2, 2, 2]) = Code.region 10 _ false from rfl, hk_40_10, hz_40_10, hs_40_10, xk B40 [2, 2, 2, 2, 2] .rt rfl, finK_norm, finK_ret, fin40, R40_rn.st]
noncomputable def f40_rn_j2 (k : Nat) (x0 : List Int) (x6 : Int) (x17 : Bool) (h0_ h1_ : List Int) : Option R40_rn :=
  Option.bind (f40_rn_l3 k k 0 h0_ h1_) fun o1 =>
    match o1 with
    | .o0 _ _ _ =>
      none
    | .o1 v4 v5 v6 v7 =>
      f40_rn_j4 k v4 v5 v6 v7
theorem f40_rn_j2_ok (k : Nat) (x0 : List Int) (x6 : Int) (x17 : Bool) (h0_ h1_ : List Int) (r : R40_rn) (hF : f40_rn_j2 k x0 x6 x17 h0_ h1_ = some r) : finK Tryd.prog Tryd.f40 0 (EX 40 k (nav B40 [2, 2, 2]) ({ n := 41, F := [(0, V.sl 1 (rowsOf (encI .u8) x0)), (1, V.own 30000), (5, V.own 30001), (6, V.p (Value.int .i64 x6)), (17, V.p (Value.bool x17))], M := [(30000, O.row true 1 5 (rowsOf (encI .u8) h0_)), (30001, O.row true 1 5 (rowsOf (encI .u8) h1_))] } : St)) = some r.st := by
  unfold f40_rn_j2 at hF
  replace hF := Option.bind_eq_some_iff.1 hF
  obtain ⟨o1, h2, hF⟩ := hF
  have hc3 := f40_rn_l3_ok k k 0 h0_ h1_ _ h2
  simp (maxSteps := 999999) (disch := first | exact D (by decide) | exact K (by kernel_rfl)) only [E, EE, ↓reduceIte, simprocAttr, xk B40 [2, 2, 2] .sq rfl, xk B40 [1, 2, 2, 2] .sq rfl, show (nav B40 [1, 1, 2, 2, 2]) = Code.region 6 _ false from rfl, hk_40_6, hz_40_6, hs_40_6, xk B40 [2, 1, 2, 2, 2] (.bk 2) rfl, xk B40 [2, 2, 1, 2, 2, 2] .lp rfl, hh_40_7, hc_40_7]
  (try simp only [NM, EE] at hc3)
  rw [hc3 _ (by simp (maxSteps := 999999) (disch := first | exact D (by decide) | exact K (by kernel_rfl)) only [E, EE, ↓reduceIte, simprocAttr, hh_40_7, hc_40_7])]
  clear hc3
  cases o1 with
  | o0 _ _ _ =>
    (try dsimp only at hF)
    cases hF
  | o1 v4 v5 v6 v7 =>
    (try dsimp only at hF)
    have hJ := f40_rn_j4_ok k v4 v5 v6 v7 _ hF
    simp (maxSteps := 999999) (disch := first | exact D (by decide) | exact K (by kernel_rfl)) only [E, EE, ↓reduceIte, simprocAttr, R40_rn_l3.st]
    try simp only [NM, EE] at hJ
    exact hJ
noncomputable def f40_rn_e (k : Nat) (a0 : List Int) : Option R40_rn :=
  ifE ((0 : Int) ≤ (IntKind.i64.wrap (((List.length a0) : Int) + (0 : Int)))) (
    ifE (((IntKind.i64.wrap (((List.length a0) : Int) + (0 : Int))) : Int) * 1 ≤ (roomy : Int)) (
      Option.bind (f40_rn_l1 k k a0 0 [] []) fun o3 =>
        match o3 with
        | .o0 _ _ _ _ =>
          none
        | .o1 v6 v7 v8 v9 v10 =>
          f40_rn_j2 k v6 v7 v8 v9 v10))
theorem f40_rn_e_ok (k : Nat) (a0 : List Int) (r : R40_rn) (hF : f40_rn_e k a0 = some r) : finK Tryd.prog Tryd.f40 0 (EX 40 k (nav B40 []) ({ n := 41, F := [(0, V.sl 1 (rowsOf (encI .u8) a0)), (1, V.nil)], M := [] } : St)) = some r.st := by
  unfold f40_rn_e at hF
  replace hF := ifE_some.1 hF
  obtain ⟨h1, hF⟩ := hF
  replace hF := ifE_some.1 hF
  obtain ⟨h2, hF⟩ := hF
  replace hF := Option.bind_eq_some_iff.1 hF
  obtain ⟨o3, h4, hF⟩ := hF
  have hc5 := f40_rn_l1_ok k k a0 0 [] [] _ h4
  simp (maxSteps := 999999) (disch := first | exact D (by decide) | exact K (by kernel_rfl)) only [E, EE, ↓reduceIte, simprocAttr, xk B40 [] .sq rfl, show (nav B40 [1]) = Code.region 0 _ false from rfl, hk_40_0, hz_40_0, hs_40_0, xk B40 [2] .sq rfl, show (nav B40 [1, 2]) = Code.region 1 _ false from rfl, hk_40_1, hz_40_1, hs_40_1, u_22, i_22, is_22, ib_22, iz_22, makeV, intArg, sm_5, u_5, i_5, is_5, ib_5, iz_5, List.replicate_zero, xk B40 [2, 2] .sq rfl, xk B40 [1, 2, 2] .sq rfl, show (nav B40 [1, 1, 2, 2]) = Code.region 2 _ false from rfl, hk_40_2, hz_40_2, hs_40_2, xk B40 [2, 1, 2, 2] (.bk 0) rfl, xk B40 [2, 2, 1, 2, 2] .lp rfl, hh_40_3, hc_40_3, h1, h2]
  (try simp only [NM, EE] at hc5)
  rw [hc5 _ (by simp (maxSteps := 999999) (disch := first | exact D (by decide) | exact K (by kernel_rfl)) only [E, EE, ↓reduceIte, simprocAttr, hh_40_3, hc_40_3, h1, h2])]
  clear hc5
  cases o3 with
  | o0 _ _ _ _ =>
    (try dsimp only at hF)
    cases hF
  | o1 v6 v7 v8 v9 v10 =>
    (try dsimp only at hF)
    have hJ := f40_rn_j2_ok k v6 v7 v8 v9 v10 _ hF
    simp (maxSteps := 999999) (disch := first | exact D (by decide) | exact K (by kernel_rfl)) only [E, EE, ↓reduceIte, simprocAttr, R40_rn_l1.st, h1, h2]
    try simp only [NM, EE] at hJ
    exact hJ
noncomputable def f40_rn (k : Nat) (a0 : List Int) : Option R40_rn := match k with | 0 => none | k + 1 => f40_rn_e k a0
theorem f40_rn_ok (k : Nat) (a0 : List Int) (r : R40_rn) (hF : f40_rn k a0 = some r) : CV k 40 [V.sl 1 (rowsOf (encI .u8) a0), V.nil] [] = some r.st := by
  cases k with
  | zero => cases hF
  | succ k =>
    unfold CV
    rw [ev_call (F := Tryd.f40) (c := (nav B40 [])) rfl Tryd.func40 rfl rfl rfl rfl]
    exact f40_rn_e_ok k a0 r hF
-- f41_ri: f41 heliograph/heliographref03.Seal
inductive R41_ri where
  | o0 (y : List Int)
noncomputable def R41_ri.st : R41_ri → V × List O × List O
  | .o0 y => (V.own 2000000, [], [O.row true 1 5 (rowsOf (encI .u8) y)])
inductive R41_ri_l1 where
  | o0 (y y_1 y_2 : Int) (y_3 : List Int)
  | o1 (y y_1 y_2 : Int) (y_3 : Bool) (y_4 : List Int)
noncomputable def R41_ri_l1.st : R41_ri_l1 → Out × St
  | .o0 y y_1 y_2 y_3 => (.norm, ({ n := 27, F := [(1, V.p (Value.int .i64 y)), (5, V.p (Value.int .u64 y_1)), (6, V.own 23), (7, V.p (Value.int .i64 y_2))], M := [(23, O.row true 1 5 (rowsOf (encI .u8) y_3))] } : St))
  | .o1 y y_1 y_2 y_3 y_4 => (.exit 0, ({ n := 27, F := [(1, V.p (Value.int .i64 y)), (5, V.p (Value.int .u64 y_1)), (6, V.own 30000), (7, V.p (Value.int .i64 y_2)), (15, V.p (Value.bool y_3))], M := [(30000, O.row true 1 5 (rowsOf (encI .u8) y_4))] } : St))
noncomputable def f41_ri_l1_j2 (k : Nat) (x1 x5 x7 : Int) (m23 : List Int) : Option R41_ri_l1 :=
  some (R41_ri_l1.o0 x1 x5 (IntKind.i64.wrap (x7 + (8 : Int))) m23)
theorem f41_ri_l1_j2_ok (k : Nat) (x1 x5 x7 : Int) (m23 : List Int) (r : R41_ri_l1) (hF : f41_ri_l1_j2 k x1 x5 x7 m23 = some r) : EX 41 k (nav B41 [2, 2, 1, 2, 2, 1, 2, 2, 2]) ({ n := 27, F := [(1, V.p (Value.int .i64 x1)), (5, V.p (Value.int .u64 x5)), (6, V.own 23), (7, V.p (Value.int .i64 x7))], M := [(23, O.row true 1 5 (rowsOf (encI .u8) m23))] } : St) = some r.st := by
  unfold f41_ri_l1_j2 at hF
  cases hF
  simp (maxSteps := 999999) (disch := first | exact D (by decide) | exact K (by kernel_rfl)) only [E, EE, ↓reduceIte, simprocAttr, show (nav B41 [2, 2, 1, 2, 2, 1, 2, 2, 2]) = Code.region 5 _ false from rfl, hk_41_5, hz_41_5, hs_41_5, R41_ri_l1.st]
noncomputable def f41_ri_l1_j1 (k : Nat) (x1 x5 x7 : Int) (x15 : Bool) (h0_ : List Int) : Option R41_ri_l1 :=
  ifE (((List.length h0_) + 1) ≤ roomy) (
    f41_ri_l1_j2 k x1 (IntKind.u64.wrap (Int.tdiv x5 (256 : Int))) x7 (h0_ ++ ([(IntKind.u8.wrap (Int.tmod x5 (256 : Int)))] : List Int)))
theorem f41_ri_l1_j1_ok (k : Nat) (x1 x5 x7 : Int) (x15 : Bool) (h0_ : List Int) (r : R41_ri_l1) (hF : f41_ri_l1_j1 k x1 x5 x7 x15 h0_ = some r) : EX 41 k (nav B41 [2, 1, 2, 2, 1, 2, 2, 2]) ({ n := 27, F := [(1, V.p (Value.int .i64 x1)), (5, V.p (Value.int .u64 x5)), (6, V.own 30000), (7, V.p (Value.int .i64 x7)), (15, V.p (Value.bool x15))], M := [(30000, O.row true 1 5 (rowsOf (encI .u8) h0_))] } : St) = some r.st := by
  unfold f41_ri_l1_j1 at hF
  have q1 : [[V.p (Value.int .u8 (IntKind.u8.wrap (Int.tmod x5 (256 : Int))))]] = rowsOf (encI .u8) ([(IntKind.u8.wrap (Int.tmod x5 (256 : Int)))] : List Int) := rfl
  have q2 : List.map (tell [0]) (rowsOf (encI .u8) ([(IntKind.u8.wrap (Int.tmod x5 (256 : Int)))] : List Int)) = rowsOf (encI .u8) ([(IntKind.u8.wrap (Int.tmod x5 (256 : Int)))] : List Int) := rfl
  replace hF := ifE_some.1 hF
  obtain ⟨h3, hF⟩ := hF
  have hJ := f41_ri_l1_j2_ok k x1 (IntKind.u64.wrap (Int.tdiv x5 (256 : Int))) x7 (h0_ ++ ([(IntKind.u8.wrap (Int.tmod x5 (256 : Int)))] : List Int)) _ hF
  simp (maxSteps := 999999) (disch := first | exact D (by decide) | exact K (by kernel_rfl)) only [E, EE, ↓reduceIte, simprocAttr, xk B41 [2, 1, 2, 2, 1, 2, 2, 2] .sq rfl, xk B41 [1, 2, 1, 2, 2, 1, 2, 2, 2] (.bk 1) rfl, xk B41 [2, 1, 2, 1, 2, 2, 1, 2, 2, 2] .sq rfl, show (nav B41 [1, 2, 1, 2, 1, 2, 2, 1, 2, 2, 2]) = Code.region 6 _ false from rfl, hk_41_6, hz_41_6, hs_41_6, u_47, i_47, is_47, ib_47, iz_47, u_5, i_5, is_5, ib_5, iz_5, convV, buildSliceV, fillRows, sm_5, u_22, i_22, is_22, ib_22, iz_22, appendV, content, show (nav B41 [2, 2, 1, 2, 1, 2, 2, 1, 2, 2, 2]) = Code.region 7 _ false from rfl, hk_41_7, hz_41_7, hs_41_7, q1, q2, h3]
  try simp only [NM, EE] at hJ
  exact hJ
noncomputable def f41_ri_l1_b (k : Nat) (x1 x5 x7 : Int) (h0_ : List Int) : Option R41_ri_l1 :=
  cond ((decide (x7 < x1)))
    (f41_ri_l1_j1 k x1 x5 x7 true h0_)
    (some (R41_ri_l1.o1 x1 x5 x7 false h0_))
theorem f41_ri_l1_b_ok (k : Nat) (x1 x5 x7 : Int) (h0_ : List Int) (r : R41_ri_l1) (hF : f41_ri_l1_b k x1 x5 x7 h0_ = some r) : EX 41 k (nav B41 [1, 2, 2, 1, 2, 2, 2]) ({ n := 27, F := [(1, V.p (Value.int .i64 x1)), (5, V.p (Value.int .u64 x5)), (6, V.own 30000), (7, V.p (Value.int .i64 x7))], M := [(30000, O.row true 1 5 (rowsOf (encI .u8) h0_))] } : St) = some r.st := by
  unfold f41_ri_l1_b at hF
  simp (maxSteps := 999999) (disch := first | exact D (by decide) | exact K (by kernel_rfl)) only [E, EE, ↓reduceIte, simprocAttr, xk B41 [1, 2, 2, 1, 2, 2, 2] .sq rfl, xk B41 [1, 1, 2, 2, 1, 2, 2, 2] .sq rfl, show (nav B41 [1, 1, 1, 2, 2, 1, 2, 2, 2]) = Code.region 4 _ false from rfl, hk_41_4, hz_41_4, hs_41_4, xk B41 [2, 1, 1, 2, 2, 1, 2, 2, 2] (.cd 15) rfl]
  replace hF := cond_some hF
  rcases hF with ⟨h1, hF⟩ | ⟨h1, hF⟩
  · have hJ := f41_ri_l1_j1_ok k x1 x5 x7 true h0_ _ hF
    simp (maxSteps := 999999) (disch := first | exact D (by decide) | exact K (by kernel_rfl)) only [E, EE, ↓reduceIte, simprocAttr, xk B41 [2, 2, 1, 1, 2, 2, 1, 2, 2, 2] .sk rfl, h1]
    try simp only [NM, EE] at hJ
    exact hJ
  · cases hF
    simp (maxSteps := 999999) (disch := first | exact D (by decide) | exact K (by kernel_rfl)) only [E, EE, ↓reduceIte, simprocAttr, xk B41 [3, 2, 1, 1, 2, 2, 1, 2, 2, 2] (.ex 0) rfl, R41_ri_l1.st, h1]
noncomputable def f41_ri_l1 (k : Nat) : Nat → Int → Int → Int → (List Int) → Option R41_ri_l1
  | 0, _, _, _, _ => none
  | n + 1, x1, x5, x7, h0_ => Option.bind (f41_ri_l1_b k x1 x5 x7 h0_) fun o =>
    match o with
    | .o0 y y_1 y_2 y_3 => f41_ri_l1 k n y y_1 y_2 y_3
    | .o1 y y_1 y_2 y_3 y_4 => some (.o1 y y_1 y_2 y_3 y_4)
theorem f41_ri_l1_ok (k n : Nat) : ∀ (x1 x5 x7 : Int) (h0_ : List Int) (r : R41_ri_l1) (hF : f41_ri_l1 k n x1 x5 x7 h0_ = some r) (σ : St) (hσ : headR (hints.head 41 4) (hints.canon 41 4) σ = some ({ n := 27, F := [(1, V.p (Value.int .i64 x1)), (5, V.p (Value.int .u64 x5)), (6, V.own 30000), (7, V.p (Value.int .i64 x7))], M := [(30000, O.row true 1 5 (rowsOf (encI .u8) h0_))] } : St)), LP 41 k (nav B41 [1, 2, 2, 1, 2, 2, 2]) n σ = some r.st := by
  induction n with
  | zero => intro x1 x5 x7 h0_ r hF; cases hF
  | succ n ih =>
    intro x1 x5 x7 h0_ r hF σ hσ
    rw [f41_ri_l1] at hF
    obtain ⟨o, h, hF⟩ := Option.bind_eq_some_iff.1 hF
    have hB := f41_ri_l1_b_ok k x1 x5 x7 h0_ o h
    unfold LP at ih ⊢
    unfold EX at hB
    rw [loopK_succ, show firstReg (nav B41 [1, 2, 2, 1, 2, 2, 2]) = 4 from rfl, hσ, headK_some, hB]
    cases o with
    | o0 y y_1 y_2 y_3 =>
      refine ih y y_1 y_2 y_3 r hF _ ?_
      simp (maxSteps := 999999) (disch := first | exact D (by decide) | exact K (by kernel_rfl)) only [E, EE, ↓reduceIte, simprocAttr, hh_41_4, hc_41_4]
    | o1 y y_1 y_2 y_3 y_4 => cases hF; rfl
noncomputable def f41_ri_j2 (k : Nat) (x1 x5 x7 : Int) (x15 : Bool) (h0_ : List Int) : Option R41_ri :=
  some (R41_ri.o0 h0_)
theorem f41_ri_j2_ok (k : Nat) (x1 x5 x7 : Int) (x15 : Bool) (h0_ : List Int) (r : R41_ri) (hF : f41_ri_j2 k x1 x5 x7 x15 h0_ = some r) : finK Tryd.prog Tryd.f41 0 (EX 41 k (nav B41 [2, 2, 2, 2]) ({ n := 27, F := [(1, V.p (Value.int .i64 x1)), (5, V.p (Value.int .u64 x5)), (6, V.own 30000), (7, V.p (Value.int .i64 x7)), (15, V.p (Value.bool x15))], M := [(30000, O.row true 1 5 (rowsOf (encI .u8) h0_))] } : St)) = some r.st := by
  unfold f41_ri_j2 at hF
  cases hF
  simp (maxSteps := 999999) (disch := first | exact D (by decide) | exact K (by kernel_rfl)) only [E, EE, ↓reduceIte, simprocAttr, xk B41 [2, 2, 2, 2] .sq rfl, show (nav B41 [1, 2, 2, 2, 2]) = Code.region 8 _ false from rfl, hk_41_8, hz_41_8, hs_41_8, xk B41 [2, 2, 2, 2, 2] .rt rfl, finK_norm, finK_ret, fin41, R41_ri.st]
noncomputable def f41_ri_e (k : Nat) (a0 : List Int) (a1 : Int) : Option R41_ri :=
  Option.bind (f58_ri k a0 a1) fun o1 =>
    match o1 with
    | .o0 v4 =>
      Option.bind (f40_rn k a0) fun o5 =>
        match o5 with
        | .o0 v8 =>
          Option.bind (f41_ri_l1 k k a1 v4 0 v8) fun o9 =>
            match o9 with
            | .o0 _ _ _ _ =>
              none
            | .o1 v12 v13 v14 v15 v16 =>
              f41_ri_j2 k v12 v13 v14 v15 v16
theorem f41_ri_e_ok (k : Nat) (a0 : List Int) (a1 : Int) (r : R41_ri) (hF : f41_ri_e k a0 a1 = some r) : finK Tryd.prog Tryd.f41 0 (EX 41 k (nav B41 []) ({ n := 27, F := [(0, V.sl 1 (rowsOf (encI .u8) a0)), (1, V.p (Value.int .i64 a1))], M := [] } : St)) = some r.st := by
  unfold f41_ri_e at hF
  replace hF := Option.bind_eq_some_iff.1 hF
  obtain ⟨o1, h2, hF⟩ := hF
  have hc3 := f58_ri_ok k a0 a1 _ h2
  cases o1 with
  | o0 v4 =>
    (try dsimp only at hF)
    (try simp only [NM, EE, R58_ri.st] at hc3)
    replace hF := Option.bind_eq_some_iff.1 hF
    obtain ⟨o5, h6, hF⟩ := hF
    have hc7 := f40_rn_ok k a0 _ h6
    cases o5 with
    | o0 v8 =>
      (try dsimp only at hF)
      (try simp only [NM, EE, R40_rn.st] at hc7)
      replace hF := Option.bind_eq_some_iff.1 hF
      obtain ⟨o9, h10, hF⟩ := hF
      have hc11 := f41_ri_l1_ok k k a1 v4 0 v8 _ h10
      simp (maxSteps := 999999) (disch := first | exact D (by decide) | exact K (by kernel_rfl)) only [E, EE, ↓reduceIte, simprocAttr, xk B41 [] .sq rfl, show (nav B41 [1]) = Code.region 0 _ false from rfl, hk_41_0, hz_41_0, hs_41_0, xk B41 [2] .sq rfl, show (nav B41 [1, 2]) = Code.region 1 _ false from rfl, hk_41_1, hz_41_1, hs_41_1, callStep, CL, gv, List.contains, xk B41 [2, 2] .sq rfl, show (nav B41 [1, 2, 2]) = Code.region 2 _ false from rfl, hk_41_2, hz_41_2, hs_41_2, xk B41 [2, 2, 2] .sq rfl, xk B41 [1, 2, 2, 2] .sq rfl, show (nav B41 [1, 1, 2, 2, 2]) = Code.region 3 _ false from rfl, hk_41_3, hz_41_3, hs_41_3, xk B41 [2, 1, 2, 2, 2] (.bk 0) rfl, xk B41 [2, 2, 1, 2, 2, 2] .lp rfl, hh_41_4, hc_41_4, hc3, hc7]
      (try simp only [NM, EE] at hc11)
      rw [hc11 _ (by simp (maxSteps := 999999) (disch := first | exact D (by decide) | exact K (by kernel_rfl)) only [E, EE, ↓reduceIte, simprocAttr, hh_41_4, hc_41_4, hc3, hc7])]
      clear hc11
      cases o9 with
      | o0 _ _ _ _ =>
        (try dsimp only at hF)
        cases hF
      | o1 v12 v13 v14 v15 v16 =>
        (try dsimp only at hF)
        have hJ := f41_ri_j2_ok k v12 v13 v14 v15 v16 _ hF
        simp (maxSteps := 999999) (disch := first | exact D (by decide) | exact K (by kernel_rfl)) only [E, EE, ↓reduceIte, simprocAttr, R41_ri_l1.st, hc3, hc7]
        try simp only [NM, EE] at hJ
        exact hJ
noncomputable def f41_ri (k : Nat) (a0 : List Int) (a1 : Int) : Option R41_ri := match k with | 0 => none | k + 1 => f41_ri_e k a0 a1
theorem f41_ri_ok (k : Nat) (a0 : List Int) (a1 : Int) (r : R41_ri) (hF : f41_ri k a0 a1 = some r) : CV k 41 [V.sl 1 (rowsOf (encI .u8) a0), V.p (Value.int .i64 a1)] [] = some r.st := by
  cases k with
  | zero => cases hF
  | succ k =>
    unfold CV
    rw [ev_call (F := Tryd.f41) (c := (nav B41 [])) rfl Tryd.func41 rfl rfl rfl rfl]
    exact f41_ri_e_ok k a0 a1 r hF
end Go.Proofs.YtbnnmplkbpgcaaaDoorV
