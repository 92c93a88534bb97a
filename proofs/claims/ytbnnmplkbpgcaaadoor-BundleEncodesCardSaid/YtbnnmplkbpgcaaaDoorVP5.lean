/- What the program's functions answer: plain functions, and that the interpreter answers what they do. Written by a program of this session, out of the translation. -/
import Derived.Test.YtbnnmplkbpgcaaaDoorVP4
namespace Go.Proofs.YtbnnmplkbpgcaaaDoorV
open Go
set_option linter.unusedVariables false
set_option linter.unusedSimpArgs false
set_option maxRecDepth 8000
set_option maxHeartbeats 4000000
-- f54_rii: f54 heliograph/sum.seal
inductive R54_rii where
  | o0 (y : List Int)
noncomputable def R54_rii.st : R54_rii → V × List O × List O
  | .o0 y => (V.own 2000000, [], [O.row true 1 5 (rowsOf (encI .u8) y)])
inductive R54_rii_l1 where
  | o0 (y y_1 y_2 : Int) (y_3 : List Int)
  | o1 (y y_1 y_2 : Int) (y_3 : Bool) (y_4 : List Int)
noncomputable def R54_rii_l1.st : R54_rii_l1 → Out × St
  | .o0 y y_1 y_2 y_3 => (.norm, ({ n := 25, F := [(1, V.p (Value.int .u32 y)), (7, V.own 22), (11, V.p (Value.int .i64 y_1)), (12, V.p (Value.int .i64 y_2))], M := [(22, O.row true 1 5 (rowsOf (encI .u8) y_3))] } : St))
  | .o1 y y_1 y_2 y_3 y_4 => (.exit 0, ({ n := 25, F := [(1, V.p (Value.int .u32 y)), (7, V.own 30000), (11, V.p (Value.int .i64 y_1)), (12, V.p (Value.int .i64 y_2)), (13, V.p (Value.bool y_3))], M := [(30000, O.row true 1 5 (rowsOf (encI .u8) y_4))] } : St))
noncomputable def f54_rii_l1_j2 (k : Nat) (x1 x11 x12 : Int) (m22 : List Int) : Option R54_rii_l1 :=
  some (R54_rii_l1.o0 x1 x11 (IntKind.i64.wrap (x12 + (1 : Int))) m22)
theorem f54_rii_l1_j2_ok (k : Nat) (x1 x11 x12 : Int) (m22 : List Int) (r : R54_rii_l1) (hF : f54_rii_l1_j2 k x1 x11 x12 m22 = some r) : EX 54 k (nav B54 [2, 2, 2, 1, 2, 2, 1, 2, 2]) ({ n := 25, F := [(1, V.p (Value.int .u32 x1)), (7, V.own 22), (11, V.p (Value.int .i64 x11)), (12, V.p (Value.int .i64 x12))], M := [(22, O.row true 1 5 (rowsOf (encI .u8) m22))] } : St) = some r.st := by
  unfold f54_rii_l1_j2 at hF
  cases hF
  simp (maxSteps := 999999) (disch := first | exact D (by decide) | exact K (by kernel_rfl)) only [E, EE, ↓reduceIte, simprocAttr, show (nav B54 [2, 2, 2, 1, 2, 2, 1, 2, 2]) = Code.region 6 _ false from rfl, hk_54_6, hz_54_6, hs_54_6, R54_rii_l1.st]
noncomputable def f54_rii_l1_j1 (k : Nat) (x1 x11 x12 : Int) (x13 : Bool) (h0_ : List Int) : Option R54_rii_l1 :=
  ifE (¬ (IntKind.i64.wrap ((8 : Int) * x12)) < 0) (
    ifE (((List.length h0_) + 1) ≤ roomy) (
      f54_rii_l1_j2 k x1 x11 x12 ((h0_ ++ ([(IntKind.u8.wrap (Int.fdiv x1 (2 ^ (min (Int.toNat (IntKind.i64.wrap ((8 : Int) * x12))) (IntKind.bits .u32)))))] : List Int)))))
theorem f54_rii_l1_j1_ok (k : Nat) (x1 x11 x12 : Int) (x13 : Bool) (h0_ : List Int) (r : R54_rii_l1) (hF : f54_rii_l1_j1 k x1 x11 x12 x13 h0_ = some r) : EX 54 k (nav B54 [2, 2, 1, 2, 2, 1, 2, 2]) ({ n := 25, F := [(1, V.p (Value.int .u32 x1)), (7, V.own 30000), (11, V.p (Value.int .i64 x11)), (12, V.p (Value.int .i64 x12)), (13, V.p (Value.bool x13))], M := [(30000, O.row true 1 5 (rowsOf (encI .u8) h0_))] } : St) = some r.st := by
  unfold f54_rii_l1_j1 at hF
  replace hF := ifE_some.1 hF
  obtain ⟨h2, hF⟩ := hF
  have q3 : [[V.p (Value.int .u8 (IntKind.u8.wrap (Int.fdiv x1 (2 ^ (min (Int.toNat (IntKind.i64.wrap ((8 : Int) * x12))) (IntKind.bits .u32))))))]] = rowsOf (encI .u8) ([(IntKind.u8.wrap (Int.fdiv x1 (2 ^ (min (Int.toNat (IntKind.i64.wrap ((8 : Int) * x12))) (IntKind.bits .u32)))))] : List Int) := rfl
  have q4 : List.map (tell [0]) (rowsOf (encI .u8) ([(IntKind.u8.wrap (Int.fdiv x1 (2 ^ (min (Int.toNat (IntKind.i64.wrap ((8 : Int) * x12))) (IntKind.bits .u32)))))] : List Int)) = rowsOf (encI .u8) ([(IntKind.u8.wrap (Int.fdiv x1 (2 ^ (min (Int.toNat (IntKind.i64.wrap ((8 : Int) * x12))) (IntKind.bits .u32)))))] : List Int) := rfl
  replace hF := ifE_some.1 hF
  obtain ⟨h5, hF⟩ := hF
  have hJ := f54_rii_l1_j2_ok k x1 x11 x12 ((h0_ ++ ([(IntKind.u8.wrap (Int.fdiv x1 (2 ^ (min (Int.toNat (IntKind.i64.wrap ((8 : Int) * x12))) (IntKind.bits .u32)))))] : List Int))) _ hF
  simp (maxSteps := 999999) (disch := first | exact D (by decide) | exact K (by kernel_rfl)) only [E, EE, ↓reduceIte, simprocAttr, xk B54 [2, 2, 1, 2, 2, 1, 2, 2] .sq rfl, xk B54 [1, 2, 2, 1, 2, 2, 1, 2, 2] (.bk 1) rfl, xk B54 [2, 1, 2, 2, 1, 2, 2, 1, 2, 2] .sq rfl, show (nav B54 [1, 2, 1, 2, 2, 1, 2, 2, 1, 2, 2]) = Code.region 4 _ false from rfl, hk_54_4, hz_54_4, hs_54_4, show (nav B54 [2, 2, 1, 2, 2, 1, 2, 2, 1, 2, 2]) = Code.region 5 _ false from rfl, hk_54_5, hz_54_5, hs_54_5, shiftV, u_24, i_24, is_24, ib_24, iz_24, u_5, i_5, is_5, ib_5, iz_5, convV, buildSliceV, fillRows, sm_5, u_22, i_22, is_22, ib_22, iz_22, appendV, content, h2, q3, q4, h5]
  try simp only [NM, EE] at hJ
  exact hJ
noncomputable def f54_rii_l1_b (k : Nat) (x1 x11 x12 : Int) (h0_ : List Int) : Option R54_rii_l1 :=
  cond ((decide (x12 < x11)))
    (f54_rii_l1_j1 k x1 x11 x12 true h0_)
    (some (R54_rii_l1.o1 x1 x11 x12 false h0_))
theorem f54_rii_l1_b_ok (k : Nat) (x1 x11 x12 : Int) (h0_ : List Int) (r : R54_rii_l1) (hF : f54_rii_l1_b k x1 x11 x12 h0_ = some r) : EX 54 k (nav B54 [1, 2, 2, 1, 2, 2]) ({ n := 25, F := [(1, V.p (Value.int .u32 x1)), (7, V.own 30000), (11, V.p (Value.int .i64 x11)), (12, V.p (Value.int .i64 x12))], M := [(30000, O.row true 1 5 (rowsOf (encI .u8) h0_))] } : St) = some r.st := by
  unfold f54_rii_l1_b at hF
  simp (maxSteps := 999999) (disch := first | exact D (by decide) | exact K (by kernel_rfl)) only [E, EE, ↓reduceIte, simprocAttr, xk B54 [1, 2, 2, 1, 2, 2] .sq rfl, show (nav B54 [1, 1, 2, 2, 1, 2, 2]) = Code.region 3 _ false from rfl, hk_54_3, hz_54_3, hs_54_3, xk B54 [2, 1, 2, 2, 1, 2, 2] .sq rfl, xk B54 [1, 2, 1, 2, 2, 1, 2, 2] (.cd 13) rfl]
  replace hF := cond_some hF
  rcases hF with ⟨h1, hF⟩ | ⟨h1, hF⟩
  · have hJ := f54_rii_l1_j1_ok k x1 x11 x12 true h0_ _ hF
    simp (maxSteps := 999999) (disch := first | exact D (by decide) | exact K (by kernel_rfl)) only [E, EE, ↓reduceIte, simprocAttr, xk B54 [2, 1, 2, 1, 2, 2, 1, 2, 2] .sk rfl, h1]
    try simp only [NM, EE] at hJ
    exact hJ
  · cases hF
    simp (maxSteps := 999999) (disch := first | exact D (by decide) | exact K (by kernel_rfl)) only [E, EE, ↓reduceIte, simprocAttr, xk B54 [3, 1, 2, 1, 2, 2, 1, 2, 2] (.ex 0) rfl, R54_rii_l1.st, h1]
noncomputable def f54_rii_l1 (k : Nat) : Nat → Int → Int → Int → (List Int) → Option R54_rii_l1
  | 0, _, _, _, _ => none
  | n + 1, x1, x11, x12, h0_ => Option.bind (f54_rii_l1_b k x1 x11 x12 h0_) fun o =>
    match o with
    | .o0 y y_1 y_2 y_3 => f54_rii_l1 k n y y_1 y_2 y_3
    | .o1 y y_1 y_2 y_3 y_4 => some (.o1 y y_1 y_2 y_3 y_4)
theorem f54_rii_l1_ok (k n : Nat) : ∀ (x1 x11 x12 : Int) (h0_ : List Int) (r : R54_rii_l1) (hF : f54_rii_l1 k n x1 x11 x12 h0_ = some r) (σ : St) (hσ : headR (hints.head 54 3) (hints.canon 54 3) σ = some ({ n := 25, F := [(1, V.p (Value.int .u32 x1)), (7, V.own 30000), (11, V.p (Value.int .i64 x11)), (12, V.p (Value.int .i64 x12))], M := [(30000, O.row true 1 5 (rowsOf (encI .u8) h0_))] } : St)), LP 54 k (nav B54 [1, 2, 2, 1, 2, 2]) n σ = some r.st := by
  induction n with
  | zero => intro x1 x11 x12 h0_ r hF; cases hF
  | succ n ih =>
    intro x1 x11 x12 h0_ r hF σ hσ
    rw [f54_rii_l1] at hF
    obtain ⟨o, h, hF⟩ := Option.bind_eq_some_iff.1 hF
    have hB := f54_rii_l1_b_ok k x1 x11 x12 h0_ o h
    unfold LP at ih ⊢
    unfold EX at hB
    rw [loopK_succ, show firstReg (nav B54 [1, 2, 2, 1, 2, 2]) = 3 from rfl, hσ, headK_some, hB]
    cases o with
    | o0 y y_1 y_2 y_3 =>
      refine ih y y_1 y_2 y_3 r hF _ ?_
      simp (maxSteps := 999999) (disch := first | exact D (by decide) | exact K (by kernel_rfl)) only [E, EE, ↓reduceIte, simprocAttr, hh_54_3, hc_54_3]
    | o1 y y_1 y_2 y_3 y_4 => cases hF; rfl
noncomputable def f54_rii_j2 (k : Nat) (x1 x11 x12 : Int) (x13 : Bool) (h0_ : List Int) : Option R54_rii :=
  some (R54_rii.o0 h0_)
theorem f54_rii_j2_ok (k : Nat) (x1 x11 x12 : Int) (x13 : Bool) (h0_ : List Int) (r : R54_rii) (hF : f54_rii_j2 k x1 x11 x12 x13 h0_ = some r) : finK Tryd.prog Tryd.f54 0 (EX 54 k (nav B54 [2, 2, 2]) ({ n := 25, F := [(1, V.p (Value.int .u32 x1)), (7, V.own 30000), (11, V.p (Value.int .i64 x11)), (12, V.p (Value.int .i64 x12)), (13, V.p (Value.bool x13))], M := [(30000, O.row true 1 5 (rowsOf (encI .u8) h0_))] } : St)) = some r.st := by
  unfold f54_rii_j2 at hF
  cases hF
  simp (maxSteps := 999999) (disch := first | exact D (by decide) | exact K (by kernel_rfl)) only [E, EE, ↓reduceIte, simprocAttr, xk B54 [2, 2, 2] .sq rfl, show (nav B54 [1, 2, 2, 2]) = Code.region 7 _ false from rfl, hk_54_7, hz_54_7, hs_54_7, xk B54 [2, 2, 2, 2] .rt rfl, finK_norm, finK_ret, fin54, R54_rii.st]
noncomputable def f54_rii_e (k : Nat) (a0 : List Int) (a1 a2 : Int) : Option R54_rii :=
  Option.bind (f53_r k a0) fun o1 =>
    match o1 with
    | .o0 v4 =>
      Option.bind (f54_rii_l1 k k a1 a2 0 v4) fun o5 =>
        match o5 with
        | .o0 _ _ _ _ =>
          none
        | .o1 v8 v9 v10 v11 v12 =>
          f54_rii_j2 k v8 v9 v10 v11 v12
theorem f54_rii_e_ok (k : Nat) (a0 : List Int) (a1 a2 : Int) (r : R54_rii) (hF : f54_rii_e k a0 a1 a2 = some r) : finK Tryd.prog Tryd.f54 0 (EX 54 k (nav B54 []) ({ n := 25, F := [(0, V.sl 1 (rowsOf (encI .u8) a0)), (1, V.p (Value.int .u32 a1)), (2, V.p (Value.int .i64 a2))], M := [] } : St)) = some r.st := by
  unfold f54_rii_e at hF
  replace hF := Option.bind_eq_some_iff.1 hF
  obtain ⟨o1, h2, hF⟩ := hF
  have hc3 := f53_r_ok k a0 _ h2
  cases o1 with
  | o0 v4 =>
    (try dsimp only at hF)
    (try simp only [NM, EE, R53_r.st] at hc3)
    replace hF := Option.bind_eq_some_iff.1 hF
    obtain ⟨o5, h6, hF⟩ := hF
    have hc7 := f54_rii_l1_ok k k a1 a2 0 v4 _ h6
    simp (maxSteps := 999999) (disch := first | exact D (by decide) | exact K (by kernel_rfl)) only [E, EE, ↓reduceIte, simprocAttr, xk B54 [] .sq rfl, show (nav B54 [1]) = Code.region 0 _ false from rfl, hk_54_0, hz_54_0, hs_54_0, xk B54 [2] .sq rfl, show (nav B54 [1, 2]) = Code.region 1 _ false from rfl, hk_54_1, hz_54_1, hs_54_1, callStep, CL, gv, List.contains, xk B54 [2, 2] .sq rfl, xk B54 [1, 2, 2] .sq rfl, show (nav B54 [1, 1, 2, 2]) = Code.region 2 _ false from rfl, hk_54_2, hz_54_2, hs_54_2, xk B54 [2, 1, 2, 2] (.bk 0) rfl, xk B54 [2, 2, 1, 2, 2] .lp rfl, hh_54_3, hc_54_3, hc3]
    (try simp only [NM, EE] at hc7)
    rw [hc7 _ (by simp (maxSteps := 999999) (disch := first | exact D (by decide) | exact K (by kernel_rfl)) only [E, EE, ↓reduceIte, simprocAttr, hh_54_3, hc_54_3, hc3])]
    clear hc7
    cases o5 with
    | o0 _ _ _ _ =>
      (try dsimp only at hF)
      cases hF
    | o1 v8 v9 v10 v11 v12 =>
      (try dsimp only at hF)
      have hJ := f54_rii_j2_ok k v8 v9 v10 v11 v12 _ hF
      simp (maxSteps := 999999) (disch := first | exact D (by decide) | exact K (by kernel_rfl)) only [E, EE, ↓reduceIte, simprocAttr, R54_rii_l1.st, hc3]
      try simp only [NM, EE] at hJ
      exact hJ
noncomputable def f54_rii (k : Nat) (a0 : List Int) (a1 a2 : Int) : Option R54_rii := match k with | 0 => none | k + 1 => f54_rii_e k a0 a1 a2
theorem f54_rii_ok (k : Nat) (a0 : List Int) (a1 a2 : Int) (r : R54_rii) (hF : f54_rii k a0 a1 a2 = some r) : CV k 54 [V.sl 1 (rowsOf (encI .u8) a0), V.p (Value.int .u32 a1), V.p (Value.int .i64 a2)] [] = some r.st := by
  cases k with
  | zero => cases hF
  | succ k =>
    unfold CV
    rw [ev_call (F := Tryd.f54) (c := (nav B54 [])) rfl Tryd.func54 rfl rfl rfl rfl]
    exact f54_rii_e_ok k a0 a1 a2 r hF
-- f35_r: f35 heliograph/sum.Seal16
inductive R35_r where
  | o0 (y : List Int)
noncomputable def R35_r.st : R35_r → V × List O × List O
  | .o0 y => (V.own 2000000, [], [O.row true 1 5 (rowsOf (encI .u8) y)])
noncomputable def f35_r_e (k : Nat) (a0 : List Int) : Option R35_r :=
  Option.bind (f55_r k a0) fun o1 =>
    match o1 with
    | .o0 v4 =>
      Option.bind (f54_rii k a0 (IntKind.u32.wrap v4) 2) fun o5 =>
        match o5 with
        | .o0 v8 =>
          some (R35_r.o0 v8)
theorem f35_r_e_ok (k : Nat) (a0 : List Int) (r : R35_r) (hF : f35_r_e k a0 = some r) : finK Tryd.prog Tryd.f35 0 (EX 35 k (nav B35 []) ({ n := 8, F := [(0, V.sl 1 (rowsOf (encI .u8) a0))], M := [] } : St)) = some r.st := by
  unfold f35_r_e at hF
  replace hF := Option.bind_eq_some_iff.1 hF
  obtain ⟨o1, h2, hF⟩ := hF
  have hc3 := f55_r_ok k a0 _ h2
  cases o1 with
  | o0 v4 =>
    (try dsimp only at hF)
    (try simp only [NM, EE, R55_r.st] at hc3)
    replace hF := Option.bind_eq_some_iff.1 hF
    obtain ⟨o5, h6, hF⟩ := hF
    have hc7 := f54_rii_ok k a0 (IntKind.u32.wrap v4) 2 _ h6
    cases o5 with
    | o0 v8 =>
      (try dsimp only at hF)
      (try simp only [NM, EE, R54_rii.st] at hc7)
      cases hF
      simp (maxSteps := 999999) (disch := first | exact D (by decide) | exact K (by kernel_rfl)) only [E, EE, ↓reduceIte, simprocAttr, xk B35 [] .sq rfl, show (nav B35 [1]) = Code.region 0 _ false from rfl, hk_35_0, hz_35_0, hs_35_0, xk B35 [2] .sq rfl, show (nav B35 [1, 2]) = Code.region 1 _ false from rfl, hk_35_1, hz_35_1, hs_35_1, callStep, CL, gv, List.contains, u_80, i_80, is_80, ib_80, iz_80, u_24, i_24, is_24, ib_24, iz_24, convV, xk B35 [2, 2] .rt rfl, finK_norm, finK_ret, fin35, R35_r.st, hc3, hc7]
noncomputable def f35_r (k : Nat) (a0 : List Int) : Option R35_r := match k with | 0 => none | k + 1 => f35_r_e k a0
theorem f35_r_ok (k : Nat) (a0 : List Int) (r : R35_r) (hF : f35_r k a0 = some r) : CV k 35 [V.sl 1 (rowsOf (encI .u8) a0)] [] = some r.st := by
  cases k with
  | zero => cases hF
  | succ k =>
    unfold CV
    rw [ev_call (F := Tryd.f35) (c := (nav B35 [])) rfl Tryd.func35 rfl rfl rfl rfl]
    exact f35_r_e_ok k a0 r hF
-- f34_r: f34 heliograph/cbor.Bytes
inductive R34_r where
  | o0 (y y_1 : Int) (y_2 : List T50) (y_3 : List Int)
noncomputable def R34_r.st : R34_r → V × List O × List O
  | .o0 y y_1 y_2 y_3 => (V.agg [V.p (Value.int .i64 y), V.p (Value.int .u64 y_1), V.own 2000000, V.sl 4 (rowsOf encT50 y_2)], [], [O.row true 1 5 (rowsOf (encI .u8) y_3)])
noncomputable def f34_r_e (k : Nat) (a0 : List Int) : Option R34_r :=
  Option.bind (f53_r k a0) fun o1 =>
    match o1 with
    | .o0 v4 =>
      some (R34_r.o0 2 0 [] v4)
theorem f34_r_e_ok (k : Nat) (a0 : List Int) (r : R34_r) (hF : f34_r_e k a0 = some r) : finK Tryd.prog Tryd.f34 0 (EX 34 k (nav B34 []) ({ n := 6, F := [(0, V.sl 1 (rowsOf (encI .u8) a0))], M := [] } : St)) = some r.st := by
  unfold f34_r_e at hF
  replace hF := Option.bind_eq_some_iff.1 hF
  obtain ⟨o1, h2, hF⟩ := hF
  have hc3 := f53_r_ok k a0 _ h2
  cases o1 with
  | o0 v4 =>
    (try dsimp only at hF)
    (try simp only [NM, EE, R53_r.st] at hc3)
    cases hF
    simp (maxSteps := 999999) (disch := first | exact D (by decide) | exact K (by kernel_rfl)) only [E, EE, ↓reduceIte, simprocAttr, xk B34 [] .sq rfl, show (nav B34 [1]) = Code.region 0 _ false from rfl, hk_34_0, hz_34_0, hs_34_0, u_50, i_50, is_50, ib_50, iz_50, xk B34 [2] .sq rfl, show (nav B34 [1, 2]) = Code.region 1 _ false from rfl, hk_34_1, hz_34_1, hs_34_1, callStep, CL, gv, List.contains, bl_50, xk B34 [2, 2] .rt rfl, finK_norm, finK_ret, fin34, R34_r.st, hc3]
noncomputable def f34_r (k : Nat) (a0 : List Int) : Option R34_r := match k with | 0 => none | k + 1 => f34_r_e k a0
theorem f34_r_ok (k : Nat) (a0 : List Int) (r : R34_r) (hF : f34_r k a0 = some r) : CV k 34 [V.sl 1 (rowsOf (encI .u8) a0)] [] = some r.st := by
  cases k with
  | zero => cases hF
  | succ k =>
    unfold CV
    rw [ev_call (F := Tryd.f34) (c := (nav B34 [])) rfl Tryd.func34 rfl rfl rfl rfl]
    exact f34_r_e_ok k a0 r hF
-- f69_ri: f69 heliograph/sum.sum[uint32]
inductive R69_ri where
  | o0 (y : Int)
noncomputable def R69_ri.st : R69_ri → V × List O × List O
  | .o0 y => (V.p (Value.int .u32 y), [], [])
inductive R69_ri_l1_l2 where
  | o0 (y y_1 : Int) (y_2 : List Int) (y_3 y_4 y_5 : Int)
  | o1 (y y_1 : Int) (y_2 : List Int) (y_3 y_4 y_5 : Int) (y_6 : Bool)
noncomputable def R69_ri_l1_l2.st : R69_ri_l1_l2 → Out × St
  | .o0 y y_1 y_2 y_3 y_4 y_5 => (.norm, ({ n := 36, F := [(1, V.p (Value.int .u32 y)), (5, V.p (Value.int .u32 y_1)), (11, V.sl 1 (rowsOf (encI .u8) y_2)), (12, V.p (Value.int .i64 y_3)), (13, V.p (Value.int .i64 y_4)), (21, V.p (Value.int .i64 y_5))], M := [] } : St))
  | .o1 y y_1 y_2 y_3 y_4 y_5 y_6 => (.exit 2, ({ n := 36, F := [(1, V.p (Value.int .u32 y)), (5, V.p (Value.int .u32 y_1)), (11, V.sl 1 (rowsOf (encI .u8) y_2)), (12, V.p (Value.int .i64 y_3)), (13, V.p (Value.int .i64 y_4)), (21, V.p (Value.int .i64 y_5)), (22, V.p (Value.bool y_6))], M := [] } : St))
noncomputable def f69_ri_l1_l2_j2 (k : Nat) (x1 x5 : Int) (x11 : List Int) (x12 x13 x21 : Int) : Option R69_ri_l1_l2 :=
  some (R69_ri_l1_l2.o0 x1 x5 x11 x12 x13 (IntKind.i64.wrap (x21 + (1 : Int))))
theorem f69_ri_l1_l2_j2_ok (k : Nat) (x1 x5 : Int) (x11 : List Int) (x12 x13 x21 : Int) (r : R69_ri_l1_l2) (hF : f69_ri_l1_l2_j2 k x1 x5 x11 x12 x13 x21 = some r) : EX 69 k (nav B69 [2, 2, 2, 1, 2, 2, 2, 2, 2, 1, 2, 2, 1, 2, 2, 1, 2, 2]) ({ n := 36, F := [(1, V.p (Value.int .u32 x1)), (5, V.p (Value.int .u32 x5)), (11, V.sl 1 (rowsOf (encI .u8) x11)), (12, V.p (Value.int .i64 x12)), (13, V.p (Value.int .i64 x13)), (21, V.p (Value.int .i64 x21))], M := [] } : St) = some r.st := by
  unfold f69_ri_l1_l2_j2 at hF
  cases hF
  simp (maxSteps := 999999) (disch := first | exact D (by decide) | exact K (by kernel_rfl)) only [E, EE, ↓reduceIte, simprocAttr, show (nav B69 [2, 2, 2, 1, 2, 2, 2, 2, 2, 1, 2, 2, 1, 2, 2, 1, 2, 2]) = Code.region 12 _ false from rfl, hk_69_12, hz_69_12, hs_69_12, R69_ri_l1_l2.st]
noncomputable def f69_ri_l1_l2_j3 (k : Nat) (x1 x5 : Int) (x11 : List Int) (x12 x13 x21 : Int) (x28 : Bool) : Option R69_ri_l1_l2 :=
  some (R69_ri_l1_l2.o0 x1 x5 x11 x12 x13 (IntKind.i64.wrap (x21 + (1 : Int))))
theorem f69_ri_l1_l2_j3_ok (k : Nat) (x1 x5 : Int) (x11 : List Int) (x12 x13 x21 : Int) (x28 : Bool) (r : R69_ri_l1_l2) (hF : f69_ri_l1_l2_j3 k x1 x5 x11 x12 x13 x21 x28 = some r) : EX 69 k (nav B69 [2, 2, 2, 1, 2, 2, 2, 2, 2, 1, 2, 2, 1, 2, 2, 1, 2, 2]) ({ n := 36, F := [(1, V.p (Value.int .u32 x1)), (5, V.p (Value.int .u32 x5)), (11, V.sl 1 (rowsOf (encI .u8) x11)), (12, V.p (Value.int .i64 x12)), (13, V.p (Value.int .i64 x13)), (21, V.p (Value.int .i64 x21)), (28, V.p (Value.bool x28))], M := [] } : St) = some r.st := by
  unfold f69_ri_l1_l2_j3 at hF
  cases hF
  simp (maxSteps := 999999) (disch := first | exact D (by decide) | exact K (by kernel_rfl)) only [E, EE, ↓reduceIte, simprocAttr, show (nav B69 [2, 2, 2, 1, 2, 2, 2, 2, 2, 1, 2, 2, 1, 2, 2, 1, 2, 2]) = Code.region 12 _ false from rfl, hk_69_12, hz_69_12, hs_69_12, R69_ri_l1_l2.st]
noncomputable def f69_ri_l1_l2_j1 (k : Nat) (x1 x5 : Int) (x11 : List Int) (x12 x13 x21 : Int) (x22 : Bool) : Option R69_ri_l1_l2 :=
  cond (((IntKind.u32.wrap ((BitVec.ofInt (IntKind.bits .u32) x5 &&& BitVec.ofInt (IntKind.bits .u32) (1 : Int)).toNat : Nat)) == 1))
    (f69_ri_l1_l2_j2 k x1 ((IntKind.u32.wrap ((BitVec.ofInt (IntKind.bits .u32) (Int.fdiv x5 (2 ^ (min 1 (IntKind.bits .u32)))) ^^^ BitVec.ofInt (IntKind.bits .u32) x1).toNat : Nat))) x11 x12 x13 x21)
    (f69_ri_l1_l2_j3 k x1 (Int.fdiv x5 (2 ^ (min 1 (IntKind.bits .u32)))) x11 x12 x13 x21 false)
theorem f69_ri_l1_l2_j1_ok (k : Nat) (x1 x5 : Int) (x11 : List Int) (x12 x13 x21 : Int) (x22 : Bool) (r : R69_ri_l1_l2) (hF : f69_ri_l1_l2_j1 k x1 x5 x11 x12 x13 x21 x22 = some r) : EX 69 k (nav B69 [2, 2, 1, 2, 2, 2, 2, 2, 1, 2, 2, 1, 2, 2, 1, 2, 2]) ({ n := 36, F := [(1, V.p (Value.int .u32 x1)), (5, V.p (Value.int .u32 x5)), (11, V.sl 1 (rowsOf (encI .u8) x11)), (12, V.p (Value.int .i64 x12)), (13, V.p (Value.int .i64 x13)), (21, V.p (Value.int .i64 x21)), (22, V.p (Value.bool x22))], M := [] } : St) = some r.st := by
  unfold f69_ri_l1_l2_j1 at hF
  simp (maxSteps := 999999) (disch := first | exact D (by decide) | exact K (by kernel_rfl)) only [E, EE, ↓reduceIte, simprocAttr, xk B69 [2, 2, 1, 2, 2, 2, 2, 2, 1, 2, 2, 1, 2, 2, 1, 2, 2] .sq rfl, xk B69 [1, 2, 2, 1, 2, 2, 2, 2, 2, 1, 2, 2, 1, 2, 2, 1, 2, 2] (.bk 3) rfl, xk B69 [2, 1, 2, 2, 1, 2, 2, 2, 2, 2, 1, 2, 2, 1, 2, 2, 1, 2, 2] .sq rfl, show (nav B69 [1, 2, 1, 2, 2, 1, 2, 2, 2, 2, 2, 1, 2, 2, 1, 2, 2, 1, 2, 2]) = Code.region 8 _ false from rfl, hk_69_8, hz_69_8, hs_69_8, xk B69 [2, 2, 1, 2, 2, 1, 2, 2, 2, 2, 2, 1, 2, 2, 1, 2, 2, 1, 2, 2] .sq rfl, show (nav B69 [1, 2, 2, 1, 2, 2, 1, 2, 2, 2, 2, 2, 1, 2, 2, 1, 2, 2, 1, 2, 2]) = Code.region 9 _ false from rfl, hk_69_9, hz_69_9, hs_69_9, shiftV, xk B69 [2, 2, 2, 1, 2, 2, 1, 2, 2, 2, 2, 2, 1, 2, 2, 1, 2, 2, 1, 2, 2] .sq rfl, show (nav B69 [1, 2, 2, 2, 1, 2, 2, 1, 2, 2, 2, 2, 2, 1, 2, 2, 1, 2, 2, 1, 2, 2]) = Code.region 10 _ false from rfl, hk_69_10, hz_69_10, hs_69_10, xk B69 [2, 2, 2, 2, 1, 2, 2, 1, 2, 2, 2, 2, 2, 1, 2, 2, 1, 2, 2, 1, 2, 2] (.cd 28) rfl]
  replace hF := cond_some hF
  rcases hF with ⟨h1, hF⟩ | ⟨h1, hF⟩
  · have hJ := f69_ri_l1_l2_j2_ok k x1 ((IntKind.u32.wrap ((BitVec.ofInt (IntKind.bits .u32) (Int.fdiv x5 (2 ^ (min 1 (IntKind.bits .u32)))) ^^^ BitVec.ofInt (IntKind.bits .u32) x1).toNat : Nat))) x11 x12 x13 x21 _ hF
    simp (maxSteps := 999999) (disch := first | exact D (by decide) | exact K (by kernel_rfl)) only [E, EE, ↓reduceIte, simprocAttr, show (nav B69 [2, 2, 2, 2, 2, 1, 2, 2, 1, 2, 2, 2, 2, 2, 1, 2, 2, 1, 2, 2, 1, 2, 2]) = Code.region 11 _ false from rfl, hk_69_11, hz_69_11, hs_69_11, h1]
    try simp only [NM, EE] at hJ
    exact hJ
  · have hJ := f69_ri_l1_l2_j3_ok k x1 (Int.fdiv x5 (2 ^ (min 1 (IntKind.bits .u32)))) x11 x12 x13 x21 false _ hF
    simp (maxSteps := 999999) (disch := first | exact D (by decide) | exact K (by kernel_rfl)) only [E, EE, ↓reduceIte, simprocAttr, xk B69 [3, 2, 2, 2, 2, 1, 2, 2, 1, 2, 2, 2, 2, 2, 1, 2, 2, 1, 2, 2, 1, 2, 2] .sk rfl, h1]
    try simp only [NM, EE] at hJ
    exact hJ
noncomputable def f69_ri_l1_l2_b (k : Nat) (x1 x5 : Int) (x11 : List Int) (x12 x13 x21 : Int) : Option R69_ri_l1_l2 :=
  cond ((decide (x21 < 8)))
    (f69_ri_l1_l2_j1 k x1 x5 x11 x12 x13 x21 true)
    (some (R69_ri_l1_l2.o1 x1 x5 x11 x12 x13 x21 false))
theorem f69_ri_l1_l2_b_ok (k : Nat) (x1 x5 : Int) (x11 : List Int) (x12 x13 x21 : Int) (r : R69_ri_l1_l2) (hF : f69_ri_l1_l2_b k x1 x5 x11 x12 x13 x21 = some r) : EX 69 k (nav B69 [1, 2, 2, 2, 2, 2, 1, 2, 2, 1, 2, 2, 1, 2, 2]) ({ n := 36, F := [(1, V.p (Value.int .u32 x1)), (5, V.p (Value.int .u32 x5)), (11, V.sl 1 (rowsOf (encI .u8) x11)), (12, V.p (Value.int .i64 x12)), (13, V.p (Value.int .i64 x13)), (21, V.p (Value.int .i64 x21))], M := [] } : St) = some r.st := by
  unfold f69_ri_l1_l2_b at hF
  simp (maxSteps := 999999) (disch := first | exact D (by decide) | exact K (by kernel_rfl)) only [E, EE, ↓reduceIte, simprocAttr, xk B69 [1, 2, 2, 2, 2, 2, 1, 2, 2, 1, 2, 2, 1, 2, 2] .sq rfl, show (nav B69 [1, 1, 2, 2, 2, 2, 2, 1, 2, 2, 1, 2, 2, 1, 2, 2]) = Code.region 7 _ false from rfl, hk_69_7, hz_69_7, hs_69_7, xk B69 [2, 1, 2, 2, 2, 2, 2, 1, 2, 2, 1, 2, 2, 1, 2, 2] .sq rfl, xk B69 [1, 2, 1, 2, 2, 2, 2, 2, 1, 2, 2, 1, 2, 2, 1, 2, 2] (.cd 22) rfl]
  replace hF := cond_some hF
  rcases hF with ⟨h1, hF⟩ | ⟨h1, hF⟩
  · have hJ := f69_ri_l1_l2_j1_ok k x1 x5 x11 x12 x13 x21 true _ hF
    simp (maxSteps := 999999) (disch := first | exact D (by decide) | exact K (by kernel_rfl)) only [E, EE, ↓reduceIte, simprocAttr, xk B69 [2, 1, 2, 1, 2, 2, 2, 2, 2, 1, 2, 2, 1, 2, 2, 1, 2, 2] .sk rfl, h1]
    try simp only [NM, EE] at hJ
    exact hJ
  · cases hF
    simp (maxSteps := 999999) (disch := first | exact D (by decide) | exact K (by kernel_rfl)) only [E, EE, ↓reduceIte, simprocAttr, xk B69 [3, 1, 2, 1, 2, 2, 2, 2, 2, 1, 2, 2, 1, 2, 2, 1, 2, 2] (.ex 2) rfl, R69_ri_l1_l2.st, h1]
noncomputable def f69_ri_l1_l2 (k : Nat) : Nat → Int → Int → (List Int) → Int → Int → Int → Option R69_ri_l1_l2
  | 0, _, _, _, _, _, _ => none
  | n + 1, x1, x5, x11, x12, x13, x21 => Option.bind (f69_ri_l1_l2_b k x1 x5 x11 x12 x13 x21) fun o =>
    match o with
    | .o0 y y_1 y_2 y_3 y_4 y_5 => f69_ri_l1_l2 k n y y_1 y_2 y_3 y_4 y_5
    | .o1 y y_1 y_2 y_3 y_4 y_5 y_6 => some (.o1 y y_1 y_2 y_3 y_4 y_5 y_6)
theorem f69_ri_l1_l2_ok (k n : Nat) : ∀ (x1 x5 : Int) (x11 : List Int) (x12 x13 x21 : Int) (r : R69_ri_l1_l2) (hF : f69_ri_l1_l2 k n x1 x5 x11 x12 x13 x21 = some r) (σ : St) (hσ : headR (hints.head 69 7) (hints.canon 69 7) σ = some ({ n := 36, F := [(1, V.p (Value.int .u32 x1)), (5, V.p (Value.int .u32 x5)), (11, V.sl 1 (rowsOf (encI .u8) x11)), (12, V.p (Value.int .i64 x12)), (13, V.p (Value.int .i64 x13)), (21, V.p (Value.int .i64 x21))], M := [] } : St)), LP 69 k (nav B69 [1, 2, 2, 2, 2, 2, 1, 2, 2, 1, 2, 2, 1, 2, 2]) n σ = some r.st := by
  induction n with
  | zero => intro x1 x5 x11 x12 x13 x21 r hF; cases hF
  | succ n ih =>
    intro x1 x5 x11 x12 x13 x21 r hF σ hσ
    rw [f69_ri_l1_l2] at hF
    obtain ⟨o, h, hF⟩ := Option.bind_eq_some_iff.1 hF
    have hB := f69_ri_l1_l2_b_ok k x1 x5 x11 x12 x13 x21 o h
    unfold LP at ih ⊢
    unfold EX at hB
    rw [loopK_succ, show firstReg (nav B69 [1, 2, 2, 2, 2, 2, 1, 2, 2, 1, 2, 2, 1, 2, 2]) = 7 from rfl, hσ, headK_some, hB]
    cases o with
    | o0 y y_1 y_2 y_3 y_4 y_5 =>
      refine ih y y_1 y_2 y_3 y_4 y_5 r hF _ ?_
      simp (maxSteps := 999999) (disch := first | exact D (by decide) | exact K (by kernel_rfl)) only [E, EE, ↓reduceIte, simprocAttr, hh_69_7, hc_69_7]
    | o1 y y_1 y_2 y_3 y_4 y_5 y_6 => cases hF; rfl
inductive R69_ri_l1 where
  | o0 (y y_1 : Int) (y_2 : List Int) (y_3 y_4 : Int)
  | o1 (y y_1 : Int) (y_2 : List Int) (y_3 y_4 : Int) (y_5 : Bool)
noncomputable def R69_ri_l1.st : R69_ri_l1 → Out × St
  | .o0 y y_1 y_2 y_3 y_4 => (.norm, ({ n := 36, F := [(1, V.p (Value.int .u32 y)), (5, V.p (Value.int .u32 y_1)), (11, V.sl 1 (rowsOf (encI .u8) y_2)), (12, V.p (Value.int .i64 y_3)), (13, V.p (Value.int .i64 y_4))], M := [] } : St))
  | .o1 y y_1 y_2 y_3 y_4 y_5 => (.exit 0, ({ n := 36, F := [(1, V.p (Value.int .u32 y)), (5, V.p (Value.int .u32 y_1)), (11, V.sl 1 (rowsOf (encI .u8) y_2)), (12, V.p (Value.int .i64 y_3)), (13, V.p (Value.int .i64 y_4)), (14, V.p (Value.bool y_5))], M := [] } : St))
noncomputable def f69_ri_l1_j3 (k : Nat) (x1 x5 : Int) (x11 : List Int) (x12 x13 x21 : Int) (x22 : Bool) : Option R69_ri_l1 :=
  some (R69_ri_l1.o0 x1 x5 x11 x12 (IntKind.i64.wrap (x13 + (1 : Int))))
theorem f69_ri_l1_j3_ok (k : Nat) (x1 x5 : Int) (x11 : List Int) (x12 x13 x21 : Int) (x22 : Bool) (r : R69_ri_l1) (hF : f69_ri_l1_j3 k x1 x5 x11 x12 x13 x21 x22 = some r) : EX 69 k (nav B69 [2, 2, 2, 1, 2, 2, 1, 2, 2]) ({ n := 36, F := [(1, V.p (Value.int .u32 x1)), (5, V.p (Value.int .u32 x5)), (11, V.sl 1 (rowsOf (encI .u8) x11)), (12, V.p (Value.int .i64 x12)), (13, V.p (Value.int .i64 x13)), (21, V.p (Value.int .i64 x21)), (22, V.p (Value.bool x22))], M := [] } : St) = some r.st := by
  unfold f69_ri_l1_j3 at hF
  cases hF
  simp (maxSteps := 999999) (disch := first | exact D (by decide) | exact K (by kernel_rfl)) only [E, EE, ↓reduceIte, simprocAttr, show (nav B69 [2, 2, 2, 1, 2, 2, 1, 2, 2]) = Code.region 13 _ false from rfl, hk_69_13, hz_69_13, hs_69_13, R69_ri_l1.st]
noncomputable def f69_ri_l1_j1 (k : Nat) (x1 x5 : Int) (x11 : List Int) (x12 x13 : Int) (x14 : Bool) : Option R69_ri_l1 :=
  ifE ((0 : Int) ≤ x13) (
    Option.bind (x11[(Int.toNat x13)]?) fun v2 =>
      Option.bind (f69_ri_l1_l2 k k x1 ((IntKind.u32.wrap ((BitVec.ofInt (IntKind.bits .u32) x5 ^^^ BitVec.ofInt (IntKind.bits .u32) (IntKind.u32.wrap v2)).toNat : Nat))) x11 x12 x13 0) fun o4 =>
        match o4 with
        | .o0 _ _ _ _ _ _ =>
          none
        | .o1 v7 v8 v9 v10 v11 v12 v13 =>
          f69_ri_l1_j3 k v7 v8 v9 v10 v11 v12 v13)
theorem f69_ri_l1_j1_ok (k : Nat) (x1 x5 : Int) (x11 : List Int) (x12 x13 : Int) (x14 : Bool) (r : R69_ri_l1) (hF : f69_ri_l1_j1 k x1 x5 x11 x12 x13 x14 = some r) : EX 69 k (nav B69 [2, 2, 1, 2, 2, 1, 2, 2]) ({ n := 36, F := [(1, V.p (Value.int .u32 x1)), (5, V.p (Value.int .u32 x5)), (11, V.sl 1 (rowsOf (encI .u8) x11)), (12, V.p (Value.int .i64 x12)), (13, V.p (Value.int .i64 x13)), (14, V.p (Value.bool x14))], M := [] } : St) = some r.st := by
  unfold f69_ri_l1_j1 at hF
  replace hF := ifE_some.1 hF
  obtain ⟨h1, hF⟩ := hF
  replace hF := Option.bind_eq_some_iff.1 hF
  obtain ⟨v2, h3, hF⟩ := hF
  replace hF := Option.bind_eq_some_iff.1 hF
  obtain ⟨o4, h5, hF⟩ := hF
  have hc6 := f69_ri_l1_l2_ok k k x1 ((IntKind.u32.wrap ((BitVec.ofInt (IntKind.bits .u32) x5 ^^^ BitVec.ofInt (IntKind.bits .u32) (IntKind.u32.wrap v2)).toNat : Nat))) x11 x12 x13 0 _ h5
  simp (maxSteps := 999999) (disch := first | exact D (by decide) | exact K (by kernel_rfl)) only [E, EE, ↓reduceIte, simprocAttr, xk B69 [2, 2, 1, 2, 2, 1, 2, 2] .sq rfl, xk B69 [1, 2, 2, 1, 2, 2, 1, 2, 2] (.bk 1) rfl, xk B69 [2, 1, 2, 2, 1, 2, 2, 1, 2, 2] .sq rfl, show (nav B69 [1, 2, 1, 2, 2, 1, 2, 2, 1, 2, 2]) = Code.region 4 _ false from rfl, hk_69_4, hz_69_4, hs_69_4, indexAddrV, u_22, i_22, is_22, ib_22, iz_22, u_5, i_5, is_5, ib_5, iz_5, encI_eq, xk B69 [2, 2, 1, 2, 2, 1, 2, 2, 1, 2, 2] .sq rfl, show (nav B69 [1, 2, 2, 1, 2, 2, 1, 2, 2, 1, 2, 2]) = Code.region 5 _ false from rfl, hk_69_5, hz_69_5, hs_69_5, u_24, i_24, is_24, ib_24, iz_24, convV, xk B69 [2, 2, 2, 1, 2, 2, 1, 2, 2, 1, 2, 2] .sq rfl, show (nav B69 [1, 2, 2, 2, 1, 2, 2, 1, 2, 2, 1, 2, 2]) = Code.region 6 _ false from rfl, hk_69_6, hz_69_6, hs_69_6, xk B69 [2, 2, 2, 2, 1, 2, 2, 1, 2, 2, 1, 2, 2] (.bk 2) rfl, xk B69 [2, 2, 2, 2, 2, 1, 2, 2, 1, 2, 2, 1, 2, 2] .lp rfl, hh_69_7, hc_69_7, h1, h3]
  (try simp only [NM, EE] at hc6)
  rw [hc6 _ (by simp (maxSteps := 999999) (disch := first | exact D (by decide) | exact K (by kernel_rfl)) only [E, EE, ↓reduceIte, simprocAttr, hh_69_7, hc_69_7, h1, h3])]
  clear hc6
  cases o4 with
  | o0 _ _ _ _ _ _ =>
    (try dsimp only at hF)
    cases hF
  | o1 v7 v8 v9 v10 v11 v12 v13 =>
    (try dsimp only at hF)
    have hJ := f69_ri_l1_j3_ok k v7 v8 v9 v10 v11 v12 v13 _ hF
    simp (maxSteps := 999999) (disch := first | exact D (by decide) | exact K (by kernel_rfl)) only [E, EE, ↓reduceIte, simprocAttr, R69_ri_l1_l2.st, h1, h3]
    try simp only [NM, EE] at hJ
    exact hJ
noncomputable def f69_ri_l1_b (k : Nat) (x1 x5 : Int) (x11 : List Int) (x12 x13 : Int) : Option R69_ri_l1 :=
  cond ((decide (x13 < x12)))
    (f69_ri_l1_j1 k x1 x5 x11 x12 x13 true)
    (some (R69_ri_l1.o1 x1 x5 x11 x12 x13 false))
theorem f69_ri_l1_b_ok (k : Nat) (x1 x5 : Int) (x11 : List Int) (x12 x13 : Int) (r : R69_ri_l1) (hF : f69_ri_l1_b k x1 x5 x11 x12 x13 = some r) : EX 69 k (nav B69 [1, 2, 2, 1, 2, 2]) ({ n := 36, F := [(1, V.p (Value.int .u32 x1)), (5, V.p (Value.int .u32 x5)), (11, V.sl 1 (rowsOf (encI .u8) x11)), (12, V.p (Value.int .i64 x12)), (13, V.p (Value.int .i64 x13))], M := [] } : St) = some r.st := by
  unfold f69_ri_l1_b at hF
  simp (maxSteps := 999999) (disch := first | exact D (by decide) | exact K (by kernel_rfl)) only [E, EE, ↓reduceIte, simprocAttr, xk B69 [1, 2, 2, 1, 2, 2] .sq rfl, show (nav B69 [1, 1, 2, 2, 1, 2, 2]) = Code.region 3 _ false from rfl, hk_69_3, hz_69_3, hs_69_3, xk B69 [2, 1, 2, 2, 1, 2, 2] .sq rfl, xk B69 [1, 2, 1, 2, 2, 1, 2, 2] (.cd 14) rfl]
  replace hF := cond_some hF
  rcases hF with ⟨h1, hF⟩ | ⟨h1, hF⟩
  · have hJ := f69_ri_l1_j1_ok k x1 x5 x11 x12 x13 true _ hF
    simp (maxSteps := 999999) (disch := first | exact D (by decide) | exact K (by kernel_rfl)) only [E, EE, ↓reduceIte, simprocAttr, xk B69 [2, 1, 2, 1, 2, 2, 1, 2, 2] .sk rfl, h1]
    try simp only [NM, EE] at hJ
    exact hJ
  · cases hF
    simp (maxSteps := 999999) (disch := first | exact D (by decide) | exact K (by kernel_rfl)) only [E, EE, ↓reduceIte, simprocAttr, xk B69 [3, 1, 2, 1, 2, 2, 1, 2, 2] (.ex 0) rfl, R69_ri_l1.st, h1]
noncomputable def f69_ri_l1 (k : Nat) : Nat → Int → Int → (List Int) → Int → Int → Option R69_ri_l1
  | 0, _, _, _, _, _ => none
  | n + 1, x1, x5, x11, x12, x13 => Option.bind (f69_ri_l1_b k x1 x5 x11 x12 x13) fun o =>
    match o with
    | .o0 y y_1 y_2 y_3 y_4 => f69_ri_l1 k n y y_1 y_2 y_3 y_4
    | .o1 y y_1 y_2 y_3 y_4 y_5 => some (.o1 y y_1 y_2 y_3 y_4 y_5)
theorem f69_ri_l1_ok (k n : Nat) : ∀ (x1 x5 : Int) (x11 : List Int) (x12 x13 : Int) (r : R69_ri_l1) (hF : f69_ri_l1 k n x1 x5 x11 x12 x13 = some r) (σ : St) (hσ : headR (hints.head 69 3) (hints.canon 69 3) σ = some ({ n := 36, F := [(1, V.p (Value.int .u32 x1)), (5, V.p (Value.int .u32 x5)), (11, V.sl 1 (rowsOf (encI .u8) x11)), (12, V.p (Value.int .i64 x12)), (13, V.p (Value.int .i64 x13))], M := [] } : St)), LP 69 k (nav B69 [1, 2, 2, 1, 2, 2]) n σ = some r.st := by
  induction n with
  | zero => intro x1 x5 x11 x12 x13 r hF; cases hF
  | succ n ih =>
    intro x1 x5 x11 x12 x13 r hF σ hσ
    rw [f69_ri_l1] at hF
    obtain ⟨o, h, hF⟩ := Option.bind_eq_some_iff.1 hF
    have hB := f69_ri_l1_b_ok k x1 x5 x11 x12 x13 o h
    unfold LP at ih ⊢
    unfold EX at hB
    rw [loopK_succ, show firstReg (nav B69 [1, 2, 2, 1, 2, 2]) = 3 from rfl, hσ, headK_some, hB]
    cases o with
    | o0 y y_1 y_2 y_3 y_4 =>
      refine ih y y_1 y_2 y_3 y_4 r hF _ ?_
      simp (maxSteps := 999999) (disch := first | exact D (by decide) | exact K (by kernel_rfl)) only [E, EE, ↓reduceIte, simprocAttr, hh_69_3, hc_69_3]
    | o1 y y_1 y_2 y_3 y_4 y_5 => cases hF; rfl
noncomputable def f69_ri_j2 (k : Nat) (x1 x5 : Int) (x11 : List Int) (x12 x13 : Int) (x14 : Bool) : Option R69_ri :=
  some (R69_ri.o0 (flipI .u32 x5))
theorem f69_ri_j2_ok (k : Nat) (x1 x5 : Int) (x11 : List Int) (x12 x13 : Int) (x14 : Bool) (r : R69_ri) (hF : f69_ri_j2 k x1 x5 x11 x12 x13 x14 = some r) : finK Tryd.prog Tryd.f69 0 (EX 69 k (nav B69 [2, 2, 2]) ({ n := 36, F := [(1, V.p (Value.int .u32 x1)), (5, V.p (Value.int .u32 x5)), (11, V.sl 1 (rowsOf (encI .u8) x11)), (12, V.p (Value.int .i64 x12)), (13, V.p (Value.int .i64 x13)), (14, V.p (Value.bool x14))], M := [] } : St)) = some r.st := by
  unfold f69_ri_j2 at hF
  cases hF
  simp (maxSteps := 999999) (disch := first | exact D (by decide) | exact K (by kernel_rfl)) only [E, EE, ↓reduceIte, simprocAttr, xk B69 [2, 2, 2] .sq rfl, show (nav B69 [1, 2, 2, 2]) = Code.region 14 _ false from rfl, hk_69_14, hz_69_14, hs_69_14, xk B69 [2, 2, 2, 2] .rt rfl, finK_norm, finK_ret, fin69, R69_ri.st]
noncomputable def f69_ri_e (k : Nat) (a0 : List Int) (a1 : Int) : Option R69_ri :=
  Option.bind (f69_ri_l1 k k a1 (flipI .u32 (IntKind.u32.wrap 0)) a0 ((List.length a0) : Int) 0) fun o1 =>
    match o1 with
    | .o0 _ _ _ _ _ =>
      none
    | .o1 v4 v5 v6 v7 v8 v9 =>
      f69_ri_j2 k v4 v5 v6 v7 v8 v9
theorem f69_ri_e_ok (k : Nat) (a0 : List Int) (a1 : Int) (r : R69_ri) (hF : f69_ri_e k a0 a1 = some r) : finK Tryd.prog Tryd.f69 0 (EX 69 k (nav B69 []) ({ n := 36, F := [(0, V.sl 1 (rowsOf (encI .u8) a0)), (1, V.p (Value.int .u32 a1))], M := [] } : St)) = some r.st := by
  unfold f69_ri_e at hF
  replace hF := Option.bind_eq_some_iff.1 hF
  obtain ⟨o1, h2, hF⟩ := hF
  have hc3 := f69_ri_l1_ok k k a1 (flipI .u32 (IntKind.u32.wrap 0)) a0 ((List.length a0) : Int) 0 _ h2
  simp (maxSteps := 999999) (disch := first | exact D (by decide) | exact K (by kernel_rfl)) only [E, EE, ↓reduceIte, simprocAttr, xk B69 [] .sq rfl, show (nav B69 [1]) = Code.region 0 _ false from rfl, hk_69_0, hz_69_0, hs_69_0, xk B69 [2] .sq rfl, show (nav B69 [1, 2]) = Code.region 1 _ false from rfl, hk_69_1, hz_69_1, hs_69_1, u_3, i_3, is_3, ib_3, iz_3, u_24, i_24, is_24, ib_24, iz_24, convV, xk B69 [2, 2] .sq rfl, xk B69 [1, 2, 2] .sq rfl, show (nav B69 [1, 1, 2, 2]) = Code.region 2 _ false from rfl, hk_69_2, hz_69_2, hs_69_2, u_22, i_22, is_22, ib_22, iz_22, xk B69 [2, 1, 2, 2] (.bk 0) rfl, xk B69 [2, 2, 1, 2, 2] .lp rfl, hh_69_3, hc_69_3]
  (try simp only [NM, EE] at hc3)
  rw [hc3 _ (by simp (maxSteps := 999999) (disch := first | exact D (by decide) | exact K (by kernel_rfl)) only [E, EE, ↓reduceIte, simprocAttr, hh_69_3, hc_69_3])]
  clear hc3
  cases o1 with
  | o0 _ _ _ _ _ =>
    (try dsimp only at hF)
    cases hF
  | o1 v4 v5 v6 v7 v8 v9 =>
    (try dsimp only at hF)
    have hJ := f69_ri_j2_ok k v4 v5 v6 v7 v8 v9 _ hF
    simp (maxSteps := 999999) (disch := first | exact D (by decide) | exact K (by kernel_rfl)) only [E, EE, ↓reduceIte, simprocAttr, R69_ri_l1.st]
    try simp only [NM, EE] at hJ
    exact hJ
noncomputable def f69_ri (k : Nat) (a0 : List Int) (a1 : Int) : Option R69_ri := match k with | 0 => none | k + 1 => f69_ri_e k a0 a1
theorem f69_ri_ok (k : Nat) (a0 : List Int) (a1 : Int) (r : R69_ri) (hF : f69_ri k a0 a1 = some r) : CV k 69 [V.sl 1 (rowsOf (encI .u8) a0), V.p (Value.int .u32 a1)] [] = some r.st := by
  cases k with
  | zero => cases hF
  | succ k =>
    unfold CV
    rw [ev_call (F := Tryd.f69) (c := (nav B69 [])) rfl Tryd.func69 rfl rfl rfl rfl]
    exact f69_ri_e_ok k a0 a1 r hF
-- f56_r: f56 heliograph/sum.Sum32
inductive R56_r where
  | o0 (y : Int)
noncomputable def R56_r.st : R56_r → V × List O × List O
  | .o0 y => (V.p (Value.int .u32 y), [], [])
noncomputable def f56_r_e (k : Nat) (a0 : List Int) : Option R56_r :=
  Option.bind (f69_ri k a0 2197175160) fun o1 =>
    match o1 with
    | .o0 v4 =>
      some (R56_r.o0 v4)
theorem f56_r_e_ok (k : Nat) (a0 : List Int) (r : R56_r) (hF : f56_r_e k a0 = some r) : finK Tryd.prog Tryd.f56 0 (EX 56 k (nav B56 []) ({ n := 5, F := [(0, V.sl 1 (rowsOf (encI .u8) a0))], M := [] } : St)) = some r.st := by
  unfold f56_r_e at hF
  replace hF := Option.bind_eq_some_iff.1 hF
  obtain ⟨o1, h2, hF⟩ := hF
  have hc3 := f69_ri_ok k a0 2197175160 _ h2
  cases o1 with
  | o0 v4 =>
    (try dsimp only at hF)
    (try simp only [NM, EE, R69_ri.st] at hc3)
    cases hF
    simp (maxSteps := 999999) (disch := first | exact D (by decide) | exact K (by kernel_rfl)) only [E, EE, ↓reduceIte, simprocAttr, xk B56 [] .sq rfl, show (nav B56 [1]) = Code.region 0 _ false from rfl, hk_56_0, hz_56_0, hs_56_0, xk B56 [2] .sq rfl, show (nav B56 [1, 2]) = Code.region 1 _ false from rfl, hk_56_1, hz_56_1, hs_56_1, callStep, CL, gv, List.contains, xk B56 [2, 2] .rt rfl, finK_norm, finK_ret, fin56, R56_r.st, hc3]
noncomputable def f56_r (k : Nat) (a0 : List Int) : Option R56_r := match k with | 0 => none | k + 1 => f56_r_e k a0
theorem f56_r_ok (k : Nat) (a0 : List Int) (r : R56_r) (hF : f56_r k a0 = some r) : CV k 56 [V.sl 1 (rowsOf (encI .u8) a0)] [] = some r.st := by
  cases k with
  | zero => cases hF
  | succ k =>
    unfold CV
    rw [ev_call (F := Tryd.f56) (c := (nav B56 [])) rfl Tryd.func56 rfl rfl rfl rfl]
    exact f56_r_e_ok k a0 r hF
-- f37_r: f37 heliograph/sum.Seal32
inductive R37_r where
  | o0 (y : List Int)
noncomputable def R37_r.st : R37_r → V × List O × List O
  | .o0 y => (V.own 2000000, [], [O.row true 1 5 (rowsOf (encI .u8) y)])
noncomputable def f37_r_e (k : Nat) (a0 : List Int) : Option R37_r :=
  Option.bind (f56_r k a0) fun o1 =>
    match o1 with
    | .o0 v4 =>
      Option.bind (f54_rii k a0 v4 4) fun o5 =>
        match o5 with
        | .o0 v8 =>
          some (R37_r.o0 v8)
theorem f37_r_e_ok (k : Nat) (a0 : List Int) (r : R37_r) (hF : f37_r_e k a0 = some r) : finK Tryd.prog Tryd.f37 0 (EX 37 k (nav B37 []) ({ n := 7, F := [(0, V.sl 1 (rowsOf (encI .u8) a0))], M := [] } : St)) = some r.st := by
  unfold f37_r_e at hF
  replace hF := Option.bind_eq_some_iff.1 hF
  obtain ⟨o1, h2, hF⟩ := hF
  have hc3 := f56_r_ok k a0 _ h2
  cases o1 with
  | o0 v4 =>
    (try dsimp only at hF)
    (try simp only [NM, EE, R56_r.st] at hc3)
    replace hF := Option.bind_eq_some_iff.1 hF
    obtain ⟨o5, h6, hF⟩ := hF
    have hc7 := f54_rii_ok k a0 v4 4 _ h6
    cases o5 with
    | o0 v8 =>
      (try dsimp only at hF)
      (try simp only [NM, EE, R54_rii.st] at hc7)
      cases hF
      simp (maxSteps := 999999) (disch := first | exact D (by decide) | exact K (by kernel_rfl)) only [E, EE, ↓reduceIte, simprocAttr, xk B37 [] .sq rfl, show (nav B37 [1]) = Code.region 0 _ false from rfl, hk_37_0, hz_37_0, hs_37_0, xk B37 [2] .sq rfl, show (nav B37 [1, 2]) = Code.region 1 _ false from rfl, hk_37_1, hz_37_1, hs_37_1, callStep, CL, gv, List.contains, xk B37 [2, 2] .rt rfl, finK_norm, finK_ret, fin37, R37_r.st, hc3, hc7]
noncomputable def f37_r (k : Nat) (a0 : List Int) : Option R37_r := match k with | 0 => none | k + 1 => f37_r_e k a0
theorem f37_r_ok (k : Nat) (a0 : List Int) (r : R37_r) (hF : f37_r k a0 = some r) : CV k 37 [V.sl 1 (rowsOf (encI .u8) a0)] [] = some r.st := by
  cases k with
  | zero => cases hF
  | succ k =>
    unfold CV
    rw [ev_call (F := Tryd.f37) (c := (nav B37 [])) rfl Tryd.func37 rfl rfl rfl rfl]
    exact f37_r_e_ok k a0 r hF
-- f14_ai10rz: f14 heliograph/bundle.Encode
inductive R14_ai10rz where
  | o0 (y : List Int) (y_1 : Int)
  | o1 (y : Int) (y_1 : List Int)
noncomputable def R14_ai10rz.st : R14_ai10rz → V × List O × List O
  | .o0 y y_1 => (V.tup [V.sl 1 (rowsOf (encI .u8) y), V.p (Value.int .i64 y_1)], [], [])
  | .o1 y y_1 => (V.tup [V.own 2000000, V.p (Value.int .i64 y)], [], [O.row true 1 5 (rowsOf (encI .u8) y_1)])
noncomputable def f14_ai10rz_j3 (k : Nat) (x7 : List Int) (x58 : Bool) : Option R14_ai10rz :=
  some (R14_ai10rz.o0 x7 0)
theorem f14_ai10rz_j3_ok (k : Nat) (x7 : List Int) (x58 : Bool) (r : R14_ai10rz) (hF : f14_ai10rz_j3 k x7 x58 = some r) : finK Tryd.prog Tryd.f14 0 (EX 14 k (nav B14 [2, 2, 2, 2, 2, 2]) ({ n := 60, F := [(7, V.sl 1 (rowsOf (encI .u8) x7)), (58, V.p (Value.bool x58))], M := [] } : St)) = some r.st := by
  unfold f14_ai10rz_j3 at hF
  cases hF
  simp (maxSteps := 999999) (disch := first | exact D (by decide) | exact K (by kernel_rfl)) only [E, EE, ↓reduceIte, simprocAttr, xk B14 [2, 2, 2, 2, 2, 2] .sq rfl, show (nav B14 [1, 2, 2, 2, 2, 2, 2]) = Code.region 10 _ false from rfl, hk_14_10, hz_14_10, hs_14_10, xk B14 [2, 2, 2, 2, 2, 2, 2] .rt rfl, finK_norm, finK_ret, fin14, R14_ai10rz.st]
noncomputable def f14_ai10rz_j4 (k : Nat) (x58 : Bool) (m54 : List Int) : Option R14_ai10rz :=
  some (R14_ai10rz.o1 0 m54)
theorem f14_ai10rz_j4_ok (k : Nat) (x58 : Bool) (m54 : List Int) (r : R14_ai10rz) (hF : f14_ai10rz_j4 k x58 m54 = some r) : finK Tryd.prog Tryd.f14 0 (EX 14 k (nav B14 [2, 2, 2, 2, 2, 2]) ({ n := 60, F := [(7, V.own 54), (58, V.p (Value.bool x58))], M := [(54, O.row true 1 5 (rowsOf (encI .u8) m54))] } : St)) = some r.st := by
  unfold f14_ai10rz_j4 at hF
  cases hF
  simp (maxSteps := 999999) (disch := first | exact D (by decide) | exact K (by kernel_rfl)) only [E, EE, ↓reduceIte, simprocAttr, xk B14 [2, 2, 2, 2, 2, 2] .sq rfl, show (nav B14 [1, 2, 2, 2, 2, 2, 2]) = Code.region 10 _ false from rfl, hk_14_10, hz_14_10, hs_14_10, xk B14 [2, 2, 2, 2, 2, 2, 2] .rt rfl, finK_norm, finK_ret, fin14, R14_ai10rz.st]
noncomputable def f14_ai10rz_j2 (k : Nat) (x5 : List Int) (x39 : Bool) (m1 m1_1 m1_2 m1_3 m1_4 m1_5 m1_6 m1_7 m1_8 m1_9 : Int) (m1_10 : List Int) : Option R14_ai10rz :=
  Option.bind (f35_r k x5) fun o1 =>
    match o1 with
    | .o0 v4 =>
      Option.bind (f34_r k v4) fun o5 =>
        match o5 with
        | .o0 v8 v9 v10 v11 =>
          Option.bind (f36_i k (IntKind.u64.wrap m1_6)) fun o12 =>
            match o12 with
            | .o0 v15 v16 v17 v18 =>
              Option.bind (f37_r k m1_10) fun o19 =>
                match o19 with
                | .o0 v22 =>
                  Option.bind (f34_r k v22) fun o23 =>
                    match o23 with
                    | .o0 v26 v27 v28 v29 =>
                      Option.bind (f33_r k (([(T50.mk v8 v9 v11 v10), (T50.mk v15 v16 v17 v18), (T50.mk v26 v27 v29 v28)] : List T50))) fun o32 =>
                        match o32 with
                        | .o0 v35 v36 v37 v38 =>
                          Option.bind (f31_aiirrz k v35 v36 v37 v38) fun o39 =>
                            match o39 with
                            | .o0 v42 v43 =>
                              cond ((v43 != 0))
                                (some (R14_ai10rz.o0 [] 190))
                                (f14_ai10rz_j3 k v42 false)
                            | .o1 v45 v46 =>
                              cond ((v45 != 0))
                                (some (R14_ai10rz.o0 [] 190))
                                (f14_ai10rz_j4 k false v46)
theorem f14_ai10rz_j2_ok (k : Nat) (x5 : List Int) (x39 : Bool) (m1 m1_1 m1_2 m1_3 m1_4 m1_5 m1_6 m1_7 m1_8 m1_9 : Int) (m1_10 : List Int) (r : R14_ai10rz) (hF : f14_ai10rz_j2 k x5 x39 m1 m1_1 m1_2 m1_3 m1_4 m1_5 m1_6 m1_7 m1_8 m1_9 m1_10 = some r) : finK Tryd.prog Tryd.f14 0 (EX 14 k (nav B14 [2, 2, 2, 2]) ({ n := 60, F := [(1, V.ptr 1 0), (5, V.sl 1 (rowsOf (encI .u8) x5)), (39, V.p (Value.bool x39))], M := [(1, O.box 26 [V.p (Value.int .i64 m1), V.p (Value.int .i64 m1_1), V.p (Value.int .u32 m1_2), V.p (Value.int .i64 m1_3), V.p (Value.int .i64 m1_4), V.p (Value.int .i64 m1_5), V.p (Value.int .i64 m1_6), V.p (Value.int .i64 m1_7), V.p (Value.int .i64 m1_8), V.p (Value.int .i64 m1_9), V.sl 1 (rowsOf (encI .u8) m1_10)])] } : St)) = some r.st := by
  unfold f14_ai10rz_j2 at hF
  replace hF := Option.bind_eq_some_iff.1 hF
  obtain ⟨o1, h2, hF⟩ := hF
  have hc3 := f35_r_ok k x5 _ h2
  cases o1 with
  | o0 v4 =>
    (try dsimp only at hF)
    (try simp only [NM, EE, R35_r.st] at hc3)
    replace hF := Option.bind_eq_some_iff.1 hF
    obtain ⟨o5, h6, hF⟩ := hF
    have hc7 := f34_r_ok k v4 _ h6
    cases o5 with
    | o0 v8 v9 v10 v11 =>
      (try dsimp only at hF)
      (try simp only [NM, EE, R34_r.st] at hc7)
      replace hF := Option.bind_eq_some_iff.1 hF
      obtain ⟨o12, h13, hF⟩ := hF
      have hc14 := f36_i_ok k (IntKind.u64.wrap m1_6) _ h13
      cases o12 with
      | o0 v15 v16 v17 v18 =>
        (try dsimp only at hF)
        (try simp only [NM, EE, R36_i.st] at hc14)
        replace hF := Option.bind_eq_some_iff.1 hF
        obtain ⟨o19, h20, hF⟩ := hF
        have hc21 := f37_r_ok k m1_10 _ h20
        cases o19 with
        | o0 v22 =>
          (try dsimp only at hF)
          (try simp only [NM, EE, R37_r.st] at hc21)
          replace hF := Option.bind_eq_some_iff.1 hF
          obtain ⟨o23, h24, hF⟩ := hF
          have hc25 := f34_r_ok k v22 _ h24
          cases o23 with
          | o0 v26 v27 v28 v29 =>
            (try dsimp only at hF)
            (try simp only [NM, EE, R34_r.st] at hc25)
            have q30 : [[V.p (Value.int .i64 v8), V.p (Value.int .u64 v9), V.sl 1 (rowsOf (encI .u8) v11), V.sl 4 (rowsOf encT50 v10)], [V.p (Value.int .i64 v15), V.p (Value.int .u64 v16), V.sl 1 (rowsOf (encI .u8) v17), V.sl 4 (rowsOf encT50 v18)], [V.p (Value.int .i64 v26), V.p (Value.int .u64 v27), V.sl 1 (rowsOf (encI .u8) v29), V.sl 4 (rowsOf encT50 v28)]] = rowsOf encT50 ([(T50.mk v8 v9 v11 v10), (T50.mk v15 v16 v17 v18), (T50.mk v26 v27 v29 v28)] : List T50) := by first | rfl | simp only [rowsOf, List.map_cons, List.map_nil, encT50_eq]
            have q31 : List.map (tell [0, 0, 1, 4]) (rowsOf encT50 ([(T50.mk v8 v9 v11 v10), (T50.mk v15 v16 v17 v18), (T50.mk v26 v27 v29 v28)] : List T50)) = rowsOf encT50 ([(T50.mk v8 v9 v11 v10), (T50.mk v15 v16 v17 v18), (T50.mk v26 v27 v29 v28)] : List T50) := by first | rfl | simp only [rowsOf, List.map_cons, List.map_nil, encT50_eq]
            replace hF := Option.bind_eq_some_iff.1 hF
            obtain ⟨o32, h33, hF⟩ := hF
            have hc34 := f33_r_ok k (([(T50.mk v8 v9 v11 v10), (T50.mk v15 v16 v17 v18), (T50.mk v26 v27 v29 v28)] : List T50)) _ h33
            cases o32 with
            | o0 v35 v36 v37 v38 =>
              (try dsimp only at hF)
              (try simp only [NM, EE, R33_r.st] at hc34)
              simp (maxSteps := 999999) (disch := first | exact D (by decide) | exact K (by kernel_rfl)) only [E, EE, ↓reduceIte, simprocAttr, xk B14 [2, 2, 2, 2] .sq rfl, show (nav B14 [1, 2, 2, 2, 2]) = Code.region 7 _ true from rfl, hk_14_7, hz_14_7, hs_14_7, callStep, CL, gv, List.contains, fieldAddrV, u_26, i_26, is_26, ib_26, iz_26, u_3, i_3, is_3, ib_3, iz_3, u_47, i_47, is_47, ib_47, iz_47, convV, u_22, i_22, is_22, ib_22, iz_22, buildSliceV, fillRows, sm_50, u_48, i_48, is_48, ib_48, iz_48, u_50, i_50, is_50, ib_50, iz_50, hc3, hc7, hc14, hc21, hc25, q30, q31, hc34]
              replace hF := Option.bind_eq_some_iff.1 hF
              obtain ⟨o39, h40, hF⟩ := hF
              have hc41 := f31_aiirrz_ok k v35 v36 v37 v38 _ h40
              cases o39 with
              | o0 v42 v43 =>
                (try dsimp only at hF)
                (try simp only [NM, EE, R31_aiirrz.st] at hc41)
                simp (maxSteps := 999999) (disch := first | exact D (by decide) | exact K (by kernel_rfl)) only [E, EE, ↓reduceIte, simprocAttr, xk B14 [2, 2, 2, 2, 2] .sq rfl, xk B14 [1, 2, 2, 2, 2, 2] .sq rfl, show (nav B14 [1, 1, 2, 2, 2, 2, 2]) = Code.region 8 _ false from rfl, hk_14_8, hz_14_8, hs_14_8, xk B14 [2, 1, 2, 2, 2, 2, 2] (.cd 58) rfl, hc3, hc7, hc14, hc21, hc25, q30, q31, hc34, hc41]
                replace hF := cond_some hF
                rcases hF with ⟨h44, hF⟩ | ⟨h44, hF⟩
                · cases hF
                  simp (maxSteps := 999999) (disch := first | exact D (by decide) | exact K (by kernel_rfl)) only [E, EE, ↓reduceIte, simprocAttr, xk B14 [2, 2, 1, 2, 2, 2, 2, 2] .sq rfl, show (nav B14 [1, 2, 2, 1, 2, 2, 2, 2, 2]) = Code.region 9 _ false from rfl, hk_14_9, hz_14_9, hs_14_9, xk B14 [2, 2, 2, 1, 2, 2, 2, 2, 2] .rt rfl, finK_norm, finK_ret, fin14, R14_ai10rz.st, hc3, hc7, hc14, hc21, hc25, q30, q31, hc34, hc41, h44]
                · have hJ := f14_ai10rz_j3_ok k v42 false _ hF
                  simp (maxSteps := 999999) (disch := first | exact D (by decide) | exact K (by kernel_rfl)) only [E, EE, ↓reduceIte, simprocAttr, xk B14 [3, 2, 1, 2, 2, 2, 2, 2] .sk rfl, hc3, hc7, hc14, hc21, hc25, q30, q31, hc34, hc41, h44]
                  try simp only [NM, EE] at hJ
                  exact hJ
              | o1 v45 v46 =>
                (try dsimp only at hF)
                (try simp only [NM, EE, R31_aiirrz.st] at hc41)
                simp (maxSteps := 999999) (disch := first | exact D (by decide) | exact K (by kernel_rfl)) only [E, EE, ↓reduceIte, simprocAttr, xk B14 [2, 2, 2, 2, 2] .sq rfl, xk B14 [1, 2, 2, 2, 2, 2] .sq rfl, show (nav B14 [1, 1, 2, 2, 2, 2, 2]) = Code.region 8 _ false from rfl, hk_14_8, hz_14_8, hs_14_8, xk B14 [2, 1, 2, 2, 2, 2, 2] (.cd 58) rfl, hc3, hc7, hc14, hc21, hc25, q30, q31, hc34, hc41]
                replace hF := cond_some hF
                rcases hF with ⟨h47, hF⟩ | ⟨h47, hF⟩
                · cases hF
                  simp (maxSteps := 999999) (disch := first | exact D (by decide) | exact K (by kernel_rfl)) only [E, EE, ↓reduceIte, simprocAttr, xk B14 [2, 2, 1, 2, 2, 2, 2, 2] .sq rfl, show (nav B14 [1, 2, 2, 1, 2, 2, 2, 2, 2]) = Code.region 9 _ false from rfl, hk_14_9, hz_14_9, hs_14_9, xk B14 [2, 2, 2, 1, 2, 2, 2, 2, 2] .rt rfl, finK_norm, finK_ret, fin14, R14_ai10rz.st, hc3, hc7, hc14, hc21, hc25, q30, q31, hc34, hc41, h47]
                · have hJ := f14_ai10rz_j4_ok k false v46 _ hF
                  simp (maxSteps := 999999) (disch := first | exact D (by decide) | exact K (by kernel_rfl)) only [E, EE, ↓reduceIte, simprocAttr, xk B14 [3, 2, 1, 2, 2, 2, 2, 2] .sk rfl, hc3, hc7, hc14, hc21, hc25, q30, q31, hc34, hc41, h47]
                  try simp only [NM, EE] at hJ
                  exact hJ
noncomputable def f14_ai10rz_j5 (k : Nat) (x39 : Bool) (m1 m1_1 m1_2 m1_3 m1_4 m1_5 m1_6 m1_7 m1_8 m1_9 : Int) (m1_10 m35 : List Int) : Option R14_ai10rz :=
  Option.bind (f35_r k m35) fun o1 =>
    match o1 with
    | .o0 v4 =>
      Option.bind (f34_r k v4) fun o5 =>
        match o5 with
        | .o0 v8 v9 v10 v11 =>
          Option.bind (f36_i k (IntKind.u64.wrap m1_6)) fun o12 =>
            match o12 with
            | .o0 v15 v16 v17 v18 =>
              Option.bind (f37_r k m1_10) fun o19 =>
                match o19 with
                | .o0 v22 =>
                  Option.bind (f34_r k v22) fun o23 =>
                    match o23 with
                    | .o0 v26 v27 v28 v29 =>
                      Option.bind (f33_r k (([(T50.mk v8 v9 v11 v10), (T50.mk v15 v16 v17 v18), (T50.mk v26 v27 v29 v28)] : List T50))) fun o32 =>
                        match o32 with
                        | .o0 v35 v36 v37 v38 =>
                          Option.bind (f31_aiirrz k v35 v36 v37 v38) fun o39 =>
                            match o39 with
                            | .o0 v42 v43 =>
                              cond ((v43 != 0))
                                (some (R14_ai10rz.o0 [] 190))
                                (f14_ai10rz_j3 k v42 false)
                            | .o1 v45 v46 =>
                              cond ((v45 != 0))
                                (some (R14_ai10rz.o0 [] 190))
                                (f14_ai10rz_j4 k false v46)
theorem f14_ai10rz_j5_ok (k : Nat) (x39 : Bool) (m1 m1_1 m1_2 m1_3 m1_4 m1_5 m1_6 m1_7 m1_8 m1_9 : Int) (m1_10 m35 : List Int) (r : R14_ai10rz) (hF : f14_ai10rz_j5 k x39 m1 m1_1 m1_2 m1_3 m1_4 m1_5 m1_6 m1_7 m1_8 m1_9 m1_10 m35 = some r) : finK Tryd.prog Tryd.f14 0 (EX 14 k (nav B14 [2, 2, 2, 2]) ({ n := 60, F := [(1, V.ptr 1 0), (5, V.own 35), (39, V.p (Value.bool x39))], M := [(1, O.box 26 [V.p (Value.int .i64 m1), V.p (Value.int .i64 m1_1), V.p (Value.int .u32 m1_2), V.p (Value.int .i64 m1_3), V.p (Value.int .i64 m1_4), V.p (Value.int .i64 m1_5), V.p (Value.int .i64 m1_6), V.p (Value.int .i64 m1_7), V.p (Value.int .i64 m1_8), V.p (Value.int .i64 m1_9), V.sl 1 (rowsOf (encI .u8) m1_10)]), (35, O.row true 1 5 (rowsOf (encI .u8) m35))] } : St)) = some r.st := by
  unfold f14_ai10rz_j5 at hF
  replace hF := Option.bind_eq_some_iff.1 hF
  obtain ⟨o1, h2, hF⟩ := hF
  have hc3 := f35_r_ok k m35 _ h2
  cases o1 with
  | o0 v4 =>
    (try dsimp only at hF)
    (try simp only [NM, EE, R35_r.st] at hc3)
    replace hF := Option.bind_eq_some_iff.1 hF
    obtain ⟨o5, h6, hF⟩ := hF
    have hc7 := f34_r_ok k v4 _ h6
    cases o5 with
    | o0 v8 v9 v10 v11 =>
      (try dsimp only at hF)
      (try simp only [NM, EE, R34_r.st] at hc7)
      replace hF := Option.bind_eq_some_iff.1 hF
      obtain ⟨o12, h13, hF⟩ := hF
      have hc14 := f36_i_ok k (IntKind.u64.wrap m1_6) _ h13
      cases o12 with
      | o0 v15 v16 v17 v18 =>
        (try dsimp only at hF)
        (try simp only [NM, EE, R36_i.st] at hc14)
        replace hF := Option.bind_eq_some_iff.1 hF
        obtain ⟨o19, h20, hF⟩ := hF
        have hc21 := f37_r_ok k m1_10 _ h20
        cases o19 with
        | o0 v22 =>
          (try dsimp only at hF)
          (try simp only [NM, EE, R37_r.st] at hc21)
          replace hF := Option.bind_eq_some_iff.1 hF
          obtain ⟨o23, h24, hF⟩ := hF
          have hc25 := f34_r_ok k v22 _ h24
          cases o23 with
          | o0 v26 v27 v28 v29 =>
            (try dsimp only at hF)
            (try simp only [NM, EE, R34_r.st] at hc25)
            have q30 : [[V.p (Value.int .i64 v8), V.p (Value.int .u64 v9), V.sl 1 (rowsOf (encI .u8) v11), V.sl 4 (rowsOf encT50 v10)], [V.p (Value.int .i64 v15), V.p (Value.int .u64 v16), V.sl 1 (rowsOf (encI .u8) v17), V.sl 4 (rowsOf encT50 v18)], [V.p (Value.int .i64 v26), V.p (Value.int .u64 v27), V.sl 1 (rowsOf (encI .u8) v29), V.sl 4 (rowsOf encT50 v28)]] = rowsOf encT50 ([(T50.mk v8 v9 v11 v10), (T50.mk v15 v16 v17 v18), (T50.mk v26 v27 v29 v28)] : List T50) := by first | rfl | simp only [rowsOf, List.map_cons, List.map_nil, encT50_eq]
            have q31 : List.map (tell [0, 0, 1, 4]) (rowsOf encT50 ([(T50.mk v8 v9 v11 v10), (T50.mk v15 v16 v17 v18), (T50.mk v26 v27 v29 v28)] : List T50)) = rowsOf encT50 ([(T50.mk v8 v9 v11 v10), (T50.mk v15 v16 v17 v18), (T50.mk v26 v27 v29 v28)] : List T50) := by first | rfl | simp only [rowsOf, List.map_cons, List.map_nil, encT50_eq]
            replace hF := Option.bind_eq_some_iff.1 hF
            obtain ⟨o32, h33, hF⟩ := hF
            have hc34 := f33_r_ok k (([(T50.mk v8 v9 v11 v10), (T50.mk v15 v16 v17 v18), (T50.mk v26 v27 v29 v28)] : List T50)) _ h33
            cases o32 with
            | o0 v35 v36 v37 v38 =>
              (try dsimp only at hF)
              (try simp only [NM, EE, R33_r.st] at hc34)
              simp (maxSteps := 999999) (disch := first | exact D (by decide) | exact K (by kernel_rfl)) only [E, EE, ↓reduceIte, simprocAttr, xk B14 [2, 2, 2, 2] .sq rfl, show (nav B14 [1, 2, 2, 2, 2]) = Code.region 7 _ true from rfl, hk_14_7, hz_14_7, hs_14_7, callStep, CL, gv, List.contains, fieldAddrV, u_26, i_26, is_26, ib_26, iz_26, u_3, i_3, is_3, ib_3, iz_3, u_47, i_47, is_47, ib_47, iz_47, convV, u_22, i_22, is_22, ib_22, iz_22, buildSliceV, fillRows, sm_50, u_48, i_48, is_48, ib_48, iz_48, u_50, i_50, is_50, ib_50, iz_50, hc3, hc7, hc14, hc21, hc25, q30, q31, hc34]
              replace hF := Option.bind_eq_some_iff.1 hF
              obtain ⟨o39, h40, hF⟩ := hF
              have hc41 := f31_aiirrz_ok k v35 v36 v37 v38 _ h40
              cases o39 with
              | o0 v42 v43 =>
                (try dsimp only at hF)
                (try simp only [NM, EE, R31_aiirrz.st] at hc41)
                simp (maxSteps := 999999) (disch := first | exact D (by decide) | exact K (by kernel_rfl)) only [E, EE, ↓reduceIte, simprocAttr, xk B14 [2, 2, 2, 2, 2] .sq rfl, xk B14 [1, 2, 2, 2, 2, 2] .sq rfl, show (nav B14 [1, 1, 2, 2, 2, 2, 2]) = Code.region 8 _ false from rfl, hk_14_8, hz_14_8, hs_14_8, xk B14 [2, 1, 2, 2, 2, 2, 2] (.cd 58) rfl, hc3, hc7, hc14, hc21, hc25, q30, q31, hc34, hc41]
                replace hF := cond_some hF
                rcases hF with ⟨h44, hF⟩ | ⟨h44, hF⟩
                · cases hF
                  simp (maxSteps := 999999) (disch := first | exact D (by decide) | exact K (by kernel_rfl)) only [E, EE, ↓reduceIte, simprocAttr, xk B14 [2, 2, 1, 2, 2, 2, 2, 2] .sq rfl, show (nav B14 [1, 2, 2, 1, 2, 2, 2, 2, 2]) = Code.region 9 _ false from rfl, hk_14_9, hz_14_9, hs_14_9, xk B14 [2, 2, 2, 1, 2, 2, 2, 2, 2] .rt rfl, finK_norm, finK_ret, fin14, R14_ai10rz.st, hc3, hc7, hc14, hc21, hc25, q30, q31, hc34, hc41, h44]
                · have hJ := f14_ai10rz_j3_ok k v42 false _ hF
                  simp (maxSteps := 999999) (disch := first | exact D (by decide) | exact K (by kernel_rfl)) only [E, EE, ↓reduceIte, simprocAttr, xk B14 [3, 2, 1, 2, 2, 2, 2, 2] .sk rfl, hc3, hc7, hc14, hc21, hc25, q30, q31, hc34, hc41, h44]
                  try simp only [NM, EE] at hJ
                  exact hJ
              | o1 v45 v46 =>
                (try dsimp only at hF)
                (try simp only [NM, EE, R31_aiirrz.st] at hc41)
                simp (maxSteps := 999999) (disch := first | exact D (by decide) | exact K (by kernel_rfl)) only [E, EE, ↓reduceIte, simprocAttr, xk B14 [2, 2, 2, 2, 2] .sq rfl, xk B14 [1, 2, 2, 2, 2, 2] .sq rfl, show (nav B14 [1, 1, 2, 2, 2, 2, 2]) = Code.region 8 _ false from rfl, hk_14_8, hz_14_8, hs_14_8, xk B14 [2, 1, 2, 2, 2, 2, 2] (.cd 58) rfl, hc3, hc7, hc14, hc21, hc25, q30, q31, hc34, hc41]
                replace hF := cond_some hF
                rcases hF with ⟨h47, hF⟩ | ⟨h47, hF⟩
                · cases hF
                  simp (maxSteps := 999999) (disch := first | exact D (by decide) | exact K (by kernel_rfl)) only [E, EE, ↓reduceIte, simprocAttr, xk B14 [2, 2, 1, 2, 2, 2, 2, 2] .sq rfl, show (nav B14 [1, 2, 2, 1, 2, 2, 2, 2, 2]) = Code.region 9 _ false from rfl, hk_14_9, hz_14_9, hs_14_9, xk B14 [2, 2, 2, 1, 2, 2, 2, 2, 2] .rt rfl, finK_norm, finK_ret, fin14, R14_ai10rz.st, hc3, hc7, hc14, hc21, hc25, q30, q31, hc34, hc41, h47]
                · have hJ := f14_ai10rz_j4_ok k false v46 _ hF
                  simp (maxSteps := 999999) (disch := first | exact D (by decide) | exact K (by kernel_rfl)) only [E, EE, ↓reduceIte, simprocAttr, xk B14 [3, 2, 1, 2, 2, 2, 2, 2] .sk rfl, hc3, hc7, hc14, hc21, hc25, q30, q31, hc34, hc41, h47]
                  try simp only [NM, EE] at hJ
                  exact hJ
noncomputable def f14_ai10rz_j1 (k : Nat) (x4 : Int) (x11 : Bool) (m1 m1_1 m1_2 m1_3 m1_4 m1_5 m1_6 m1_7 m1_8 m1_9 : Int) (m1_10 : List Int) : Option R14_ai10rz :=
  Option.bind (f32_r k ([7, m1_1, m1, (IntKind.i64.wrap m1_2), m1_3, m1_4, m1_8, m1_9, m1_7, m1_5] : List Int)) fun o3 =>
    match o3 with
    | .o0 v6 v7 v8 v9 =>
      Option.bind (f31_aiirrz k v6 v7 v8 v9) fun o10 =>
        match o10 with
        | .o0 v13 v14 =>
          cond ((v14 != 0))
            (some (R14_ai10rz.o0 [] 190))
            (f14_ai10rz_j2 k v13 false m1 m1_1 m1_2 m1_3 m1_4 m1_5 m1_6 m1_7 m1_8 m1_9 m1_10)
        | .o1 v16 v17 =>
          cond ((v16 != 0))
            (some (R14_ai10rz.o0 [] 190))
            (f14_ai10rz_j5 k false m1 m1_1 m1_2 m1_3 m1_4 m1_5 m1_6 m1_7 m1_8 m1_9 m1_10 v17)
theorem f14_ai10rz_j1_ok (k : Nat) (x4 : Int) (x11 : Bool) (m1 m1_1 m1_2 m1_3 m1_4 m1_5 m1_6 m1_7 m1_8 m1_9 : Int) (m1_10 : List Int) (r : R14_ai10rz) (hF : f14_ai10rz_j1 k x4 x11 m1 m1_1 m1_2 m1_3 m1_4 m1_5 m1_6 m1_7 m1_8 m1_9 m1_10 = some r) : finK Tryd.prog Tryd.f14 0 (EX 14 k (nav B14 [2, 2]) ({ n := 60, F := [(1, V.ptr 1 0), (4, V.p (Value.int .i64 x4)), (11, V.p (Value.bool x11))], M := [(1, O.box 26 [V.p (Value.int .i64 m1), V.p (Value.int .i64 m1_1), V.p (Value.int .u32 m1_2), V.p (Value.int .i64 m1_3), V.p (Value.int .i64 m1_4), V.p (Value.int .i64 m1_5), V.p (Value.int .i64 m1_6), V.p (Value.int .i64 m1_7), V.p (Value.int .i64 m1_8), V.p (Value.int .i64 m1_9), V.sl 1 (rowsOf (encI .u8) m1_10)])] } : St)) = some r.st := by
  unfold f14_ai10rz_j1 at hF
  have q1 : [[V.p (Value.int .i64 7)], [V.p (Value.int .i64 m1_1)], [V.p (Value.int .i64 m1)], [V.p (Value.int .i64 (IntKind.i64.wrap m1_2))], [V.p (Value.int .i64 m1_3)], [V.p (Value.int .i64 m1_4)], [V.p (Value.int .i64 m1_8)], [V.p (Value.int .i64 m1_9)], [V.p (Value.int .i64 m1_7)], [V.p (Value.int .i64 m1_5)]] = rowsOf (encI .i64) ([7, m1_1, m1, (IntKind.i64.wrap m1_2), m1_3, m1_4, m1_8, m1_9, m1_7, m1_5] : List Int) := rfl
  have q2 : List.map (tell [0]) (rowsOf (encI .i64) ([7, m1_1, m1, (IntKind.i64.wrap m1_2), m1_3, m1_4, m1_8, m1_9, m1_7, m1_5] : List Int)) = rowsOf (encI .i64) ([7, m1_1, m1, (IntKind.i64.wrap m1_2), m1_3, m1_4, m1_8, m1_9, m1_7, m1_5] : List Int) := rfl
  replace hF := Option.bind_eq_some_iff.1 hF
  obtain ⟨o3, h4, hF⟩ := hF
  have hc5 := f32_r_ok k ([7, m1_1, m1, (IntKind.i64.wrap m1_2), m1_3, m1_4, m1_8, m1_9, m1_7, m1_5] : List Int) _ h4
  cases o3 with
  | o0 v6 v7 v8 v9 =>
    (try dsimp only at hF)
    (try simp only [NM, EE, R32_r.st] at hc5)
    simp (maxSteps := 999999) (disch := first | exact D (by decide) | exact K (by kernel_rfl)) only [E, EE, ↓reduceIte, simprocAttr, xk B14 [2, 2] .sq rfl, show (nav B14 [1, 2, 2]) = Code.region 4 _ false from rfl, hk_14_4, hz_14_4, hs_14_4, fieldAddrV, u_26, i_26, is_26, ib_26, iz_26, u_3, i_3, is_3, ib_3, iz_3, u_24, i_24, is_24, ib_24, iz_24, convV, buildSliceV, fillRows, sm_3, u_66, i_66, is_66, ib_66, iz_66, callStep, CL, gv, List.contains, q1, q2, hc5]
    replace hF := Option.bind_eq_some_iff.1 hF
    obtain ⟨o10, h11, hF⟩ := hF
    have hc12 := f31_aiirrz_ok k v6 v7 v8 v9 _ h11
    cases o10 with
    | o0 v13 v14 =>
      (try dsimp only at hF)
      (try simp only [NM, EE, R31_aiirrz.st] at hc12)
      simp (maxSteps := 999999) (disch := first | exact D (by decide) | exact K (by kernel_rfl)) only [E, EE, ↓reduceIte, simprocAttr, xk B14 [2, 2, 2] .sq rfl, xk B14 [1, 2, 2, 2] .sq rfl, show (nav B14 [1, 1, 2, 2, 2]) = Code.region 5 _ false from rfl, hk_14_5, hz_14_5, hs_14_5, xk B14 [2, 1, 2, 2, 2] (.cd 39) rfl, q1, q2, hc5, hc12]
      replace hF := cond_some hF
      rcases hF with ⟨h15, hF⟩ | ⟨h15, hF⟩
      · cases hF
        simp (maxSteps := 999999) (disch := first | exact D (by decide) | exact K (by kernel_rfl)) only [E, EE, ↓reduceIte, simprocAttr, xk B14 [2, 2, 1, 2, 2, 2] .sq rfl, show (nav B14 [1, 2, 2, 1, 2, 2, 2]) = Code.region 6 _ false from rfl, hk_14_6, hz_14_6, hs_14_6, xk B14 [2, 2, 2, 1, 2, 2, 2] .rt rfl, finK_norm, finK_ret, fin14, R14_ai10rz.st, q1, q2, hc5, hc12, h15]
      · have hJ := f14_ai10rz_j2_ok k v13 false m1 m1_1 m1_2 m1_3 m1_4 m1_5 m1_6 m1_7 m1_8 m1_9 m1_10 _ hF
        simp (maxSteps := 999999) (disch := first | exact D (by decide) | exact K (by kernel_rfl)) only [E, EE, ↓reduceIte, simprocAttr, xk B14 [3, 2, 1, 2, 2, 2] .sk rfl, q1, q2, hc5, hc12, h15]
        try simp only [NM, EE] at hJ
        exact hJ
    | o1 v16 v17 =>
      (try dsimp only at hF)
      (try simp only [NM, EE, R31_aiirrz.st] at hc12)
      simp (maxSteps := 999999) (disch := first | exact D (by decide) | exact K (by kernel_rfl)) only [E, EE, ↓reduceIte, simprocAttr, xk B14 [2, 2, 2] .sq rfl, xk B14 [1, 2, 2, 2] .sq rfl, show (nav B14 [1, 1, 2, 2, 2]) = Code.region 5 _ false from rfl, hk_14_5, hz_14_5, hs_14_5, xk B14 [2, 1, 2, 2, 2] (.cd 39) rfl, q1, q2, hc5, hc12]
      replace hF := cond_some hF
      rcases hF with ⟨h18, hF⟩ | ⟨h18, hF⟩
      · cases hF
        simp (maxSteps := 999999) (disch := first | exact D (by decide) | exact K (by kernel_rfl)) only [E, EE, ↓reduceIte, simprocAttr, xk B14 [2, 2, 1, 2, 2, 2] .sq rfl, show (nav B14 [1, 2, 2, 1, 2, 2, 2]) = Code.region 6 _ false from rfl, hk_14_6, hz_14_6, hs_14_6, xk B14 [2, 2, 2, 1, 2, 2, 2] .rt rfl, finK_norm, finK_ret, fin14, R14_ai10rz.st, q1, q2, hc5, hc12, h18]
      · have hJ := f14_ai10rz_j5_ok k false m1 m1_1 m1_2 m1_3 m1_4 m1_5 m1_6 m1_7 m1_8 m1_9 m1_10 v17 _ hF
        simp (maxSteps := 999999) (disch := first | exact D (by decide) | exact K (by kernel_rfl)) only [E, EE, ↓reduceIte, simprocAttr, xk B14 [3, 2, 1, 2, 2, 2] .sk rfl, q1, q2, hc5, hc12, h18]
        try simp only [NM, EE] at hJ
        exact hJ
noncomputable def f14_ai10rz_e (k : Nat) (a0 a0_1 a0_2 a0_3 a0_4 a0_5 a0_6 a0_7 a0_8 a0_9 : Int) (a0_10 : List Int) : Option R14_ai10rz :=
  Option.bind (f16_ai10rz k a0 a0_1 a0_2 a0_3 a0_4 a0_5 a0_6 a0_7 a0_8 a0_9 a0_10) fun o1 =>
    match o1 with
    | .o0 v4 =>
      cond ((v4 != 0))
        (some (R14_ai10rz.o0 [] v4))
        (f14_ai10rz_j1 k v4 false a0 a0_1 a0_2 a0_3 a0_4 a0_5 a0_6 a0_7 a0_8 a0_9 a0_10)
theorem f14_ai10rz_e_ok (k : Nat) (a0 a0_1 a0_2 a0_3 a0_4 a0_5 a0_6 a0_7 a0_8 a0_9 : Int) (a0_10 : List Int) (r : R14_ai10rz) (hF : f14_ai10rz_e k a0 a0_1 a0_2 a0_3 a0_4 a0_5 a0_6 a0_7 a0_8 a0_9 a0_10 = some r) : finK Tryd.prog Tryd.f14 0 (EX 14 k (nav B14 []) ({ n := 60, F := [(0, V.agg [V.p (Value.int .i64 a0), V.p (Value.int .i64 a0_1), V.p (Value.int .u32 a0_2), V.p (Value.int .i64 a0_3), V.p (Value.int .i64 a0_4), V.p (Value.int .i64 a0_5), V.p (Value.int .i64 a0_6), V.p (Value.int .i64 a0_7), V.p (Value.int .i64 a0_8), V.p (Value.int .i64 a0_9), V.sl 1 (rowsOf (encI .u8) a0_10)])], M := [] } : St)) = some r.st := by
  unfold f14_ai10rz_e at hF
  replace hF := Option.bind_eq_some_iff.1 hF
  obtain ⟨o1, h2, hF⟩ := hF
  have hc3 := f16_ai10rz_ok k a0 a0_1 a0_2 a0_3 a0_4 a0_5 a0_6 a0_7 a0_8 a0_9 a0_10 _ h2
  cases o1 with
  | o0 v4 =>
    (try dsimp only at hF)
    (try simp only [NM, EE, R16_ai10rz.st] at hc3)
    simp (maxSteps := 999999) (disch := first | exact D (by decide) | exact K (by kernel_rfl)) only [E, EE, ↓reduceIte, simprocAttr, xk B14 [] .sq rfl, show (nav B14 [1]) = Code.region 0 _ false from rfl, hk_14_0, hz_14_0, hs_14_0, xk B14 [2] .sq rfl, xk B14 [1, 2] .sq rfl, show (nav B14 [1, 1, 2]) = Code.region 1 _ false from rfl, hk_14_1, hz_14_1, hs_14_1, u_26, i_26, is_26, ib_26, iz_26, callStep, CL, gv, List.contains, xk B14 [2, 1, 2] .sq rfl, show (nav B14 [1, 2, 1, 2]) = Code.region 2 _ false from rfl, hk_14_2, hz_14_2, hs_14_2, xk B14 [2, 2, 1, 2] (.cd 11) rfl, hc3]
    replace hF := cond_some hF
    rcases hF with ⟨h5, hF⟩ | ⟨h5, hF⟩
    · cases hF
      simp (maxSteps := 999999) (disch := first | exact D (by decide) | exact K (by kernel_rfl)) only [E, EE, ↓reduceIte, simprocAttr, xk B14 [2, 2, 2, 1, 2] .sq rfl, show (nav B14 [1, 2, 2, 2, 1, 2]) = Code.region 3 _ false from rfl, hk_14_3, hz_14_3, hs_14_3, xk B14 [2, 2, 2, 2, 1, 2] .rt rfl, finK_norm, finK_ret, fin14, R14_ai10rz.st, hc3, h5]
    · have hJ := f14_ai10rz_j1_ok k v4 false a0 a0_1 a0_2 a0_3 a0_4 a0_5 a0_6 a0_7 a0_8 a0_9 a0_10 _ hF
      simp (maxSteps := 999999) (disch := first | exact D (by decide) | exact K (by kernel_rfl)) only [E, EE, ↓reduceIte, simprocAttr, xk B14 [3, 2, 2, 1, 2] .sk rfl, hc3, h5]
      try simp only [NM, EE] at hJ
      exact hJ
noncomputable def f14_ai10rz (k : Nat) (a0 a0_1 a0_2 a0_3 a0_4 a0_5 a0_6 a0_7 a0_8 a0_9 : Int) (a0_10 : List Int) : Option R14_ai10rz := match k with | 0 => none | k + 1 => f14_ai10rz_e k a0 a0_1 a0_2 a0_3 a0_4 a0_5 a0_6 a0_7 a0_8 a0_9 a0_10
theorem f14_ai10rz_ok (k : Nat) (a0 a0_1 a0_2 a0_3 a0_4 a0_5 a0_6 a0_7 a0_8 a0_9 : Int) (a0_10 : List Int) (r : R14_ai10rz) (hF : f14_ai10rz k a0 a0_1 a0_2 a0_3 a0_4 a0_5 a0_6 a0_7 a0_8 a0_9 a0_10 = some r) : CV k 14 [V.agg [V.p (Value.int .i64 a0), V.p (Value.int .i64 a0_1), V.p (Value.int .u32 a0_2), V.p (Value.int .i64 a0_3), V.p (Value.int .i64 a0_4), V.p (Value.int .i64 a0_5), V.p (Value.int .i64 a0_6), V.p (Value.int .i64 a0_7), V.p (Value.int .i64 a0_8), V.p (Value.int .i64 a0_9), V.sl 1 (rowsOf (encI .u8) a0_10)]] [] = some r.st := by
  cases k with
  | zero => cases hF
  | succ k =>
    unfold CV
    rw [ev_call (F := Tryd.f14) (c := (nav B14 [])) rfl Tryd.func14 rfl rfl rfl rfl]
    exact f14_ai10rz_e_ok k a0 a0_1 a0_2 a0_3 a0_4 a0_5 a0_6 a0_7 a0_8 a0_9 a0_10 r hF
end Go.Proofs.YtbnnmplkbpgcaaaDoorV
