/- What the program's functions answer: plain functions, and that the interpreter answers what they do. Written by a program of this session, out of the translation. -/
import Derived.Test.YtbnnmplkbpgcaaaDoorVP1
namespace Go.Proofs.YtbnnmplkbpgcaaaDoorV
open Go
set_option linter.unusedVariables false
set_option linter.unusedSimpArgs false
set_option maxRecDepth 8000
set_option maxHeartbeats 4000000
-- f32_r: f32 heliograph/bundle.numbers
inductive R32_r where
  | o0 (y y_1 : Int) (y_2 : List Int) (y_3 : List T50)
noncomputable def R32_r.st : R32_r → V × List O × List O
  | .o0 y y_1 y_2 y_3 => (V.agg [V.p (Value.int .i64 y), V.p (Value.int .u64 y_1), V.sl 1 (rowsOf (encI .u8) y_2), V.own 2000000], [], [O.row true 4 50 (rowsOf encT50 y_3)])
inductive R32_r_l1 where
  | o0 (y : List Int) (y_1 y_2 y_3 y_4 : Int) (y_5 : List Int) (y_6 y_7 : List T50)
  | o1 (y : List Int) (y_1 y_2 : Int) (y_3 : Bool) (y_4 y_5 : Int) (y_6 : List Int) (y_7 y_8 : List T50)
noncomputable def R32_r_l1.st : R32_r_l1 → Out × St
  | .o0 y y_1 y_2 y_3 y_4 y_5 y_6 y_7 => (.norm, ({ n := 21, F := [(2, V.ptr 30000 0), (3, V.own 17), (6, V.sl 1 (rowsOf (encI .i64) y)), (7, V.p (Value.int .i64 y_1)), (8, V.p (Value.int .i64 y_2))], M := [(30000, O.box 50 [V.p (Value.int .i64 y_3), V.p (Value.int .u64 y_4), V.sl 1 (rowsOf (encI .u8) y_5), V.own 30001]), (30001, O.row true 4 50 (rowsOf encT50 y_6)), (17, O.row true 4 50 (rowsOf encT50 y_7))] } : St))
  | .o1 y y_1 y_2 y_3 y_4 y_5 y_6 y_7 y_8 => (.exit 0, ({ n := 21, F := [(2, V.ptr 30000 0), (3, V.own 30002), (6, V.sl 1 (rowsOf (encI .i64) y)), (7, V.p (Value.int .i64 y_1)), (8, V.p (Value.int .i64 y_2)), (9, V.p (Value.bool y_3))], M := [(30000, O.box 50 [V.p (Value.int .i64 y_4), V.p (Value.int .u64 y_5), V.sl 1 (rowsOf (encI .u8) y_6), V.own 30001]), (30001, O.row true 4 50 (rowsOf encT50 y_7)), (30002, O.row true 4 50 (rowsOf encT50 y_8))] } : St))
noncomputable def f32_r_l1_j2 (k : Nat) (x6 : List Int) (x7 x8 h0_ h0__1 : Int) (h0__2 : List Int) (h1_ m17 : List T50) : Option R32_r_l1 :=
  some (R32_r_l1.o0 x6 x7 (IntKind.i64.wrap (x8 + (1 : Int))) h0_ h0__1 h0__2 h1_ m17)
theorem f32_r_l1_j2_ok (k : Nat) (x6 : List Int) (x7 x8 h0_ h0__1 : Int) (h0__2 : List Int) (h1_ m17 : List T50) (r : R32_r_l1) (hF : f32_r_l1_j2 k x6 x7 x8 h0_ h0__1 h0__2 h1_ m17 = some r) : EX 32 k (nav B32 [2, 2, 2, 1, 2, 2, 1, 2, 2]) ({ n := 21, F := [(2, V.ptr 30000 0), (3, V.own 17), (6, V.sl 1 (rowsOf (encI .i64) x6)), (7, V.p (Value.int .i64 x7)), (8, V.p (Value.int .i64 x8))], M := [(30000, O.box 50 [V.p (Value.int .i64 h0_), V.p (Value.int .u64 h0__1), V.sl 1 (rowsOf (encI .u8) h0__2), V.own 30001]), (30001, O.row true 4 50 (rowsOf encT50 h1_)), (17, O.row true 4 50 (rowsOf encT50 m17))] } : St) = some r.st := by
  unfold f32_r_l1_j2 at hF
  cases hF
  simp (maxSteps := 999999) (disch := first | exact D (by decide) | exact K (by kernel_rfl)) only [E, EE, ↓reduceIte, simprocAttr, show (nav B32 [2, 2, 2, 1, 2, 2, 1, 2, 2]) = Code.region 6 _ false from rfl, hk_32_6, hz_32_6, hs_32_6, R32_r_l1.st]
noncomputable def f32_r_l1_j1 (k : Nat) (x6 : List Int) (x7 x8 : Int) (x9 : Bool) (h0_ h0__1 : Int) (h0__2 : List Int) (h1_ h2_ : List T50) : Option R32_r_l1 :=
  ifE ((0 : Int) ≤ x8) (
    Option.bind (x6[(Int.toNat x8)]?) fun v2 =>
      Option.bind (f36_i k (IntKind.u64.wrap v2)) fun o4 =>
        match o4 with
        | .o0 v7 v8 v9 v10 =>
          ifE (((List.length h2_) + 1) * 64 ≤ roomy) (
            f32_r_l1_j2 k x6 x7 x8 h0_ h0__1 h0__2 h1_ (h2_ ++ ([(T50.mk v7 v8 v9 v10)] : List T50))))
theorem f32_r_l1_j1_ok (k : Nat) (x6 : List Int) (x7 x8 : Int) (x9 : Bool) (h0_ h0__1 : Int) (h0__2 : List Int) (h1_ h2_ : List T50) (r : R32_r_l1) (hF : f32_r_l1_j1 k x6 x7 x8 x9 h0_ h0__1 h0__2 h1_ h2_ = some r) : EX 32 k (nav B32 [2, 2, 1, 2, 2, 1, 2, 2]) ({ n := 21, F := [(2, V.ptr 30000 0), (3, V.own 30002), (6, V.sl 1 (rowsOf (encI .i64) x6)), (7, V.p (Value.int .i64 x7)), (8, V.p (Value.int .i64 x8)), (9, V.p (Value.bool x9))], M := [(30000, O.box 50 [V.p (Value.int .i64 h0_), V.p (Value.int .u64 h0__1), V.sl 1 (rowsOf (encI .u8) h0__2), V.own 30001]), (30001, O.row true 4 50 (rowsOf encT50 h1_)), (30002, O.row true 4 50 (rowsOf encT50 h2_))] } : St) = some r.st := by
  unfold f32_r_l1_j1 at hF
  replace hF := ifE_some.1 hF
  obtain ⟨h1, hF⟩ := hF
  replace hF := Option.bind_eq_some_iff.1 hF
  obtain ⟨v2, h3, hF⟩ := hF
  replace hF := Option.bind_eq_some_iff.1 hF
  obtain ⟨o4, h5, hF⟩ := hF
  have hc6 := f36_i_ok k (IntKind.u64.wrap v2) _ h5
  cases o4 with
  | o0 v7 v8 v9 v10 =>
    (try dsimp only at hF)
    (try simp only [NM, EE, R36_i.st] at hc6)
    have q11 : [[V.p (Value.int .i64 v7), V.p (Value.int .u64 v8), V.sl 1 (rowsOf (encI .u8) v9), V.sl 4 (rowsOf encT50 v10)]] = rowsOf encT50 ([(T50.mk v7 v8 v9 v10)] : List T50) := by first | rfl | simp only [rowsOf, List.map_cons, List.map_nil, encT50_eq]
    have q12 : List.map (tell [0, 0, 1, 4]) (rowsOf encT50 ([(T50.mk v7 v8 v9 v10)] : List T50)) = rowsOf encT50 ([(T50.mk v7 v8 v9 v10)] : List T50) := by first | rfl | simp only [rowsOf, List.map_cons, List.map_nil, encT50_eq]
    replace hF := ifE_some.1 hF
    obtain ⟨h13, hF⟩ := hF
    have hJ := f32_r_l1_j2_ok k x6 x7 x8 h0_ h0__1 h0__2 h1_ (h2_ ++ ([(T50.mk v7 v8 v9 v10)] : List T50)) _ hF
    simp (maxSteps := 999999) (disch := first | exact D (by decide) | exact K (by kernel_rfl)) only [E, EE, ↓reduceIte, simprocAttr, xk B32 [2, 2, 1, 2, 2, 1, 2, 2] .sq rfl, xk B32 [1, 2, 2, 1, 2, 2, 1, 2, 2] (.bk 1) rfl, xk B32 [2, 1, 2, 2, 1, 2, 2, 1, 2, 2] .sq rfl, show (nav B32 [1, 2, 1, 2, 2, 1, 2, 2, 1, 2, 2]) = Code.region 4 _ false from rfl, hk_32_4, hz_32_4, hs_32_4, indexAddrV, u_66, i_66, is_66, ib_66, iz_66, u_3, i_3, is_3, ib_3, iz_3, encI_eq, show (nav B32 [2, 2, 1, 2, 2, 1, 2, 2, 1, 2, 2]) = Code.region 5 _ false from rfl, hk_32_5, hz_32_5, hs_32_5, u_47, i_47, is_47, ib_47, iz_47, convV, callStep, CL, gv, List.contains, buildSliceV, fillRows, sm_50, u_48, i_48, is_48, ib_48, iz_48, u_50, i_50, is_50, ib_50, iz_50, appendV, content, h1, h3, hc6, q11, q12, h13]
    try simp only [NM, EE] at hJ
    exact hJ
noncomputable def f32_r_l1_b (k : Nat) (x6 : List Int) (x7 x8 h0_ h0__1 : Int) (h0__2 : List Int) (h1_ h2_ : List T50) : Option R32_r_l1 :=
  cond ((decide (x8 < x7)))
    (f32_r_l1_j1 k x6 x7 x8 true h0_ h0__1 h0__2 h1_ h2_)
    (some (R32_r_l1.o1 x6 x7 x8 false h0_ h0__1 h0__2 h1_ h2_))
theorem f32_r_l1_b_ok (k : Nat) (x6 : List Int) (x7 x8 h0_ h0__1 : Int) (h0__2 : List Int) (h1_ h2_ : List T50) (r : R32_r_l1) (hF : f32_r_l1_b k x6 x7 x8 h0_ h0__1 h0__2 h1_ h2_ = some r) : EX 32 k (nav B32 [1, 2, 2, 1, 2, 2]) ({ n := 21, F := [(2, V.ptr 30000 0), (3, V.own 30002), (6, V.sl 1 (rowsOf (encI .i64) x6)), (7, V.p (Value.int .i64 x7)), (8, V.p (Value.int .i64 x8))], M := [(30000, O.box 50 [V.p (Value.int .i64 h0_), V.p (Value.int .u64 h0__1), V.sl 1 (rowsOf (encI .u8) h0__2), V.own 30001]), (30001, O.row true 4 50 (rowsOf encT50 h1_)), (30002, O.row true 4 50 (rowsOf encT50 h2_))] } : St) = some r.st := by
  unfold f32_r_l1_b at hF
  simp (maxSteps := 999999) (disch := first | exact D (by decide) | exact K (by kernel_rfl)) only [E, EE, ↓reduceIte, simprocAttr, xk B32 [1, 2, 2, 1, 2, 2] .sq rfl, show (nav B32 [1, 1, 2, 2, 1, 2, 2]) = Code.region 3 _ false from rfl, hk_32_3, hz_32_3, hs_32_3, xk B32 [2, 1, 2, 2, 1, 2, 2] .sq rfl, xk B32 [1, 2, 1, 2, 2, 1, 2, 2] (.cd 9) rfl]
  replace hF := cond_some hF
  rcases hF with ⟨h1, hF⟩ | ⟨h1, hF⟩
  · have hJ := f32_r_l1_j1_ok k x6 x7 x8 true h0_ h0__1 h0__2 h1_ h2_ _ hF
    simp (maxSteps := 999999) (disch := first | exact D (by decide) | exact K (by kernel_rfl)) only [E, EE, ↓reduceIte, simprocAttr, xk B32 [2, 1, 2, 1, 2, 2, 1, 2, 2] .sk rfl, h1]
    try simp only [NM, EE] at hJ
    exact hJ
  · cases hF
    simp (maxSteps := 999999) (disch := first | exact D (by decide) | exact K (by kernel_rfl)) only [E, EE, ↓reduceIte, simprocAttr, xk B32 [3, 1, 2, 1, 2, 2, 1, 2, 2] (.ex 0) rfl, R32_r_l1.st, h1]
noncomputable def f32_r_l1 (k : Nat) : Nat → (List Int) → Int → Int → Int → Int → (List Int) → (List T50) → (List T50) → Option R32_r_l1
  | 0, _, _, _, _, _, _, _, _ => none
  | n + 1, x6, x7, x8, h0_, h0__1, h0__2, h1_, h2_ => Option.bind (f32_r_l1_b k x6 x7 x8 h0_ h0__1 h0__2 h1_ h2_) fun o =>
    match o with
    | .o0 y y_1 y_2 y_3 y_4 y_5 y_6 y_7 => f32_r_l1 k n y y_1 y_2 y_3 y_4 y_5 y_6 y_7
    | .o1 y y_1 y_2 y_3 y_4 y_5 y_6 y_7 y_8 => some (.o1 y y_1 y_2 y_3 y_4 y_5 y_6 y_7 y_8)
theorem f32_r_l1_ok (k n : Nat) : ∀ (x6 : List Int) (x7 x8 h0_ h0__1 : Int) (h0__2 : List Int) (h1_ h2_ : List T50) (r : R32_r_l1) (hF : f32_r_l1 k n x6 x7 x8 h0_ h0__1 h0__2 h1_ h2_ = some r) (σ : St) (hσ : headR (hints.head 32 3) (hints.canon 32 3) σ = some ({ n := 21, F := [(2, V.ptr 30000 0), (3, V.own 30002), (6, V.sl 1 (rowsOf (encI .i64) x6)), (7, V.p (Value.int .i64 x7)), (8, V.p (Value.int .i64 x8))], M := [(30000, O.box 50 [V.p (Value.int .i64 h0_), V.p (Value.int .u64 h0__1), V.sl 1 (rowsOf (encI .u8) h0__2), V.own 30001]), (30001, O.row true 4 50 (rowsOf encT50 h1_)), (30002, O.row true 4 50 (rowsOf encT50 h2_))] } : St)), LP 32 k (nav B32 [1, 2, 2, 1, 2, 2]) n σ = some r.st := by
  induction n with
  | zero => intro x6 x7 x8 h0_ h0__1 h0__2 h1_ h2_ r hF; cases hF
  | succ n ih =>
    intro x6 x7 x8 h0_ h0__1 h0__2 h1_ h2_ r hF σ hσ
    rw [f32_r_l1] at hF
    obtain ⟨o, h, hF⟩ := Option.bind_eq_some_iff.1 hF
    have hB := f32_r_l1_b_ok k x6 x7 x8 h0_ h0__1 h0__2 h1_ h2_ o h
    unfold LP at ih ⊢
    unfold EX at hB
    rw [loopK_succ, show firstReg (nav B32 [1, 2, 2, 1, 2, 2]) = 3 from rfl, hσ, headK_some, hB]
    cases o with
    | o0 y y_1 y_2 y_3 y_4 y_5 y_6 y_7 =>
      refine ih y y_1 y_2 y_3 y_4 y_5 y_6 y_7 r hF _ ?_
      simp (maxSteps := 999999) (disch := first | exact D (by decide) | exact K (by kernel_rfl)) only [E, EE, ↓reduceIte, simprocAttr, hh_32_3, hc_32_3]
    | o1 y y_1 y_2 y_3 y_4 y_5 y_6 y_7 y_8 => cases hF; rfl
noncomputable def f32_r_j2 (k : Nat) (x6 : List Int) (x7 x8 : Int) (x9 : Bool) (h0_ h0__1 : Int) (h0__2 : List Int) (h1_ h2_ : List T50) : Option R32_r :=
  Option.bind (f33_r k h2_) fun o1 =>
    match o1 with
    | .o0 v4 v5 v6 v7 =>
      some (R32_r.o0 v4 v5 v6 v7)
theorem f32_r_j2_ok (k : Nat) (x6 : List Int) (x7 x8 : Int) (x9 : Bool) (h0_ h0__1 : Int) (h0__2 : List Int) (h1_ h2_ : List T50) (r : R32_r) (hF : f32_r_j2 k x6 x7 x8 x9 h0_ h0__1 h0__2 h1_ h2_ = some r) : finK Tryd.prog Tryd.f32 0 (EX 32 k (nav B32 [2, 2, 2]) ({ n := 21, F := [(2, V.ptr 30000 0), (3, V.own 30002), (6, V.sl 1 (rowsOf (encI .i64) x6)), (7, V.p (Value.int .i64 x7)), (8, V.p (Value.int .i64 x8)), (9, V.p (Value.bool x9))], M := [(30000, O.box 50 [V.p (Value.int .i64 h0_), V.p (Value.int .u64 h0__1), V.sl 1 (rowsOf (encI .u8) h0__2), V.own 30001]), (30001, O.row true 4 50 (rowsOf encT50 h1_)), (30002, O.row true 4 50 (rowsOf encT50 h2_))] } : St)) = some r.st := by
  unfold f32_r_j2 at hF
  replace hF := Option.bind_eq_some_iff.1 hF
  obtain ⟨o1, h2, hF⟩ := hF
  have hc3 := f33_r_ok k h2_ _ h2
  cases o1 with
  | o0 v4 v5 v6 v7 =>
    (try dsimp only at hF)
    (try simp only [NM, EE, R33_r.st] at hc3)
    cases hF
    simp (maxSteps := 999999) (disch := first | exact D (by decide) | exact K (by kernel_rfl)) only [E, EE, ↓reduceIte, simprocAttr, xk B32 [2, 2, 2] .sq rfl, show (nav B32 [1, 2, 2, 2]) = Code.region 7 _ false from rfl, hk_32_7, hz_32_7, hs_32_7, callStep, CL, gv, List.contains, u_50, i_50, is_50, ib_50, iz_50, xk B32 [2, 2, 2, 2] .rt rfl, finK_norm, finK_ret, fin32, R32_r.st, hc3]
noncomputable def f32_r_e (k : Nat) (a0 : List Int) : Option R32_r :=
  Option.bind (f32_r_l1 k k a0 ((List.length a0) : Int) 0 0 0 [] [] []) fun o1 =>
    match o1 with
    | .o0 _ _ _ _ _ _ _ _ =>
      none
    | .o1 v4 v5 v6 v7 v8 v9 v10 v11 v12 =>
      f32_r_j2 k v4 v5 v6 v7 v8 v9 v10 v11 v12
theorem f32_r_e_ok (k : Nat) (a0 : List Int) (r : R32_r) (hF : f32_r_e k a0 = some r) : finK Tryd.prog Tryd.f32 0 (EX 32 k (nav B32 []) ({ n := 21, F := [(0, V.sl 1 (rowsOf (encI .i64) a0))], M := [] } : St)) = some r.st := by
  unfold f32_r_e at hF
  replace hF := Option.bind_eq_some_iff.1 hF
  obtain ⟨o1, h2, hF⟩ := hF
  have hc3 := f32_r_l1_ok k k a0 ((List.length a0) : Int) 0 0 0 [] [] [] _ h2
  simp (maxSteps := 999999) (disch := first | exact D (by decide) | exact K (by kernel_rfl)) only [E, EE, ↓reduceIte, simprocAttr, xk B32 [] .sq rfl, show (nav B32 [1]) = Code.region 0 _ false from rfl, hk_32_0, hz_32_0, hs_32_0, u_50, i_50, is_50, ib_50, iz_50, xk B32 [2] .sq rfl, show (nav B32 [1, 2]) = Code.region 1 _ false from rfl, hk_32_1, hz_32_1, hs_32_1, xk B32 [2, 2] .sq rfl, xk B32 [1, 2, 2] .sq rfl, show (nav B32 [1, 1, 2, 2]) = Code.region 2 _ false from rfl, hk_32_2, hz_32_2, hs_32_2, u_66, i_66, is_66, ib_66, iz_66, xk B32 [2, 1, 2, 2] (.bk 0) rfl, xk B32 [2, 2, 1, 2, 2] .lp rfl, hh_32_3, hc_32_3]
  (try simp only [NM, EE] at hc3)
  rw [hc3 _ (by simp (maxSteps := 999999) (disch := first | exact D (by decide) | exact K (by kernel_rfl)) only [E, EE, ↓reduceIte, simprocAttr, hh_32_3, hc_32_3])]
  clear hc3
  cases o1 with
  | o0 _ _ _ _ _ _ _ _ =>
    (try dsimp only at hF)
    cases hF
  | o1 v4 v5 v6 v7 v8 v9 v10 v11 v12 =>
    (try dsimp only at hF)
    have hJ := f32_r_j2_ok k v4 v5 v6 v7 v8 v9 v10 v11 v12 _ hF
    simp (maxSteps := 999999) (disch := first | exact D (by decide) | exact K (by kernel_rfl)) only [E, EE, ↓reduceIte, simprocAttr, R32_r_l1.st]
    try simp only [NM, EE] at hJ
    exact hJ
noncomputable def f32_r (k : Nat) (a0 : List Int) : Option R32_r := match k with | 0 => none | k + 1 => f32_r_e k a0
theorem f32_r_ok (k : Nat) (a0 : List Int) (r : R32_r) (hF : f32_r k a0 = some r) : CV k 32 [V.sl 1 (rowsOf (encI .i64) a0)] [] = some r.st := by
  cases k with
  | zero => cases hF
  | succ k =>
    unfold CV
    rw [ev_call (F := Tryd.f32) (c := (nav B32 [])) rfl Tryd.func32 rfl rfl rfl rfl]
    exact f32_r_e_ok k a0 r hF
-- f72_aiirrz: f72 heliograph/cbor.plain
inductive R72_aiirrz where
  | o0 (y : Bool)
noncomputable def R72_aiirrz.st : R72_aiirrz → V × List O × List O
  | .o0 y => (V.p (Value.bool y), [], [])
noncomputable def f72_aiirrz_j1 (k : Nat) (m1 m1_1 : Int) (m1_2 : List Int) (m1_3 : List T50) (m3 m3_1 : Int) (m3_2 : List Int) (m3_3 : List T50) : Option R72_aiirrz :=
  cond ((m1_1 == m3_1))
    (
      cond ((((List.length m1_2) : Int) == ((List.length m3_2) : Int)))
        (some (R72_aiirrz.o0 ((((List.length m1_3) : Int) == ((List.length m3_3) : Int)))))
        (some (R72_aiirrz.o0 false)))
    (some (R72_aiirrz.o0 false))
theorem f72_aiirrz_j1_ok (k : Nat) (m1 m1_1 : Int) (m1_2 : List Int) (m1_3 : List T50) (m3 m3_1 : Int) (m3_2 : List Int) (m3_3 : List T50) (r : R72_aiirrz) (hF : f72_aiirrz_j1 k m1 m1_1 m1_2 m1_3 m3 m3_1 m3_2 m3_3 = some r) : finK Tryd.prog Tryd.f72 0 (EX 72 k (nav B72 [2, 2, 2]) ({ n := 48, F := [(1, V.ptr 1 0), (3, V.ptr 3 0)], M := [(1, O.box 50 [V.p (Value.int .i64 m1), V.p (Value.int .u64 m1_1), V.sl 1 (rowsOf (encI .u8) m1_2), V.sl 4 (rowsOf encT50 m1_3)]), (3, O.box 50 [V.p (Value.int .i64 m3), V.p (Value.int .u64 m3_1), V.sl 1 (rowsOf (encI .u8) m3_2), V.sl 4 (rowsOf encT50 m3_3)])] } : St)) = some r.st := by
  unfold f72_aiirrz_j1 at hF
  simp (maxSteps := 999999) (disch := first | exact D (by decide) | exact K (by kernel_rfl)) only [E, EE, ↓reduceIte, simprocAttr, xk B72 [2, 2, 2] .sq rfl, show (nav B72 [1, 2, 2, 2]) = Code.region 11 _ false from rfl, hk_72_11, hz_72_11, hs_72_11, fieldAddrV, u_50, i_50, is_50, ib_50, iz_50, u_47, i_47, is_47, ib_47, iz_47]
  replace hF := cond_some hF
  rcases hF with ⟨h1, hF⟩ | ⟨h1, hF⟩
  · simp (maxSteps := 999999) (disch := first | exact D (by decide) | exact K (by kernel_rfl)) only [E, EE, ↓reduceIte, simprocAttr, fieldAddrV, u_50, i_50, is_50, ib_50, iz_50, u_22, i_22, is_22, ib_22, iz_22, h1]
    replace hF := cond_some hF
    rcases hF with ⟨h2, hF⟩ | ⟨h2, hF⟩
    · cases hF
      simp (maxSteps := 999999) (disch := first | exact D (by decide) | exact K (by kernel_rfl)) only [E, EE, ↓reduceIte, simprocAttr, fieldAddrV, u_50, i_50, is_50, ib_50, iz_50, u_48, i_48, is_48, ib_48, iz_48, xk B72 [2, 2, 2, 2] .rt rfl, finK_norm, finK_ret, fin72, R72_aiirrz.st, h1, h2]
    · cases hF
      simp (maxSteps := 999999) (disch := first | exact D (by decide) | exact K (by kernel_rfl)) only [E, EE, ↓reduceIte, simprocAttr, xk B72 [2, 2, 2, 2] .rt rfl, finK_norm, finK_ret, fin72, R72_aiirrz.st, h1, h2]
  · cases hF
    simp (maxSteps := 999999) (disch := first | exact D (by decide) | exact K (by kernel_rfl)) only [E, EE, ↓reduceIte, simprocAttr, xk B72 [2, 2, 2, 2] .rt rfl, finK_norm, finK_ret, fin72, R72_aiirrz.st, h1]
noncomputable def f72_aiirrz_j2 (k : Nat) (x8 : Int) (x14 : Bool) (m1 m1_1 : Int) (m1_2 : List Int) (m1_3 : List T50) (m3 m3_1 : Int) (m3_2 : List Int) (m3_3 : List T50) : Option R72_aiirrz :=
  cond (x14)
    (f72_aiirrz_j1 k m1 m1_1 m1_2 m1_3 m3 m3_1 m1_2 m3_3)
    (
      cond ((x8 == 4))
        (f72_aiirrz_j1 k m1 m1_1 m1_2 m1_3 m3 m3_1 m3_2 m1_3)
        (some (R72_aiirrz.o0 false)))
theorem f72_aiirrz_j2_ok (k : Nat) (x8 : Int) (x14 : Bool) (m1 m1_1 : Int) (m1_2 : List Int) (m1_3 : List T50) (m3 m3_1 : Int) (m3_2 : List Int) (m3_3 : List T50) (r : R72_aiirrz) (hF : f72_aiirrz_j2 k x8 x14 m1 m1_1 m1_2 m1_3 m3 m3_1 m3_2 m3_3 = some r) : finK Tryd.prog Tryd.f72 0 (SQ 72 k (nav B72 [2, 2, 2]) (blockK 0 (EX 72 k (nav B72 [2, 3, 2, 2, 2, 1, 2, 2]) ({ n := 48, F := [(1, V.ptr 1 0), (3, V.ptr 3 0), (8, V.p (Value.int .i64 x8)), (14, V.p (Value.bool x14))], M := [(1, O.box 50 [V.p (Value.int .i64 m1), V.p (Value.int .u64 m1_1), V.sl 1 (rowsOf (encI .u8) m1_2), V.sl 4 (rowsOf encT50 m1_3)]), (3, O.box 50 [V.p (Value.int .i64 m3), V.p (Value.int .u64 m3_1), V.sl 1 (rowsOf (encI .u8) m3_2), V.sl 4 (rowsOf encT50 m3_3)])] } : St)))) = some r.st := by
  unfold f72_aiirrz_j2 at hF
  simp (maxSteps := 999999) (disch := first | exact D (by decide) | exact K (by kernel_rfl)) only [E, EE, ↓reduceIte, simprocAttr, xk B72 [2, 3, 2, 2, 2, 1, 2, 2] (.cd 14) rfl]
  replace hF := cond_some hF
  rcases hF with ⟨h1, hF⟩ | ⟨h1, hF⟩
  · have hJ := f72_aiirrz_j1_ok k m1 m1_1 m1_2 m1_3 m3 m3_1 m1_2 m3_3 _ hF
    simp (maxSteps := 999999) (disch := first | exact D (by decide) | exact K (by kernel_rfl)) only [E, EE, ↓reduceIte, simprocAttr, show (nav B72 [2, 2, 3, 2, 2, 2, 1, 2, 2]) = Code.region 8 _ false from rfl, hk_72_8, hz_72_8, hs_72_8, fieldAddrV, u_50, i_50, is_50, ib_50, iz_50, u_22, i_22, is_22, ib_22, iz_22, h1]
    try simp only [NM, EE] at hJ
    exact hJ
  · simp (maxSteps := 999999) (disch := first | exact D (by decide) | exact K (by kernel_rfl)) only [E, EE, ↓reduceIte, simprocAttr, xk B72 [3, 2, 3, 2, 2, 2, 1, 2, 2] .sq rfl, show (nav B72 [1, 3, 2, 3, 2, 2, 2, 1, 2, 2]) = Code.region 9 _ false from rfl, hk_72_9, hz_72_9, hs_72_9, xk B72 [2, 3, 2, 3, 2, 2, 2, 1, 2, 2] (.cd 20) rfl, h1]
    replace hF := cond_some hF
    rcases hF with ⟨h2, hF⟩ | ⟨h2, hF⟩
    · have hJ := f72_aiirrz_j1_ok k m1 m1_1 m1_2 m1_3 m3 m3_1 m3_2 m1_3 _ hF
      simp (maxSteps := 999999) (disch := first | exact D (by decide) | exact K (by kernel_rfl)) only [E, EE, ↓reduceIte, simprocAttr, show (nav B72 [2, 2, 3, 2, 3, 2, 2, 2, 1, 2, 2]) = Code.region 10 _ false from rfl, hk_72_10, hz_72_10, hs_72_10, fieldAddrV, u_50, i_50, is_50, ib_50, iz_50, u_48, i_48, is_48, ib_48, iz_48, h1, h2]
      try simp only [NM, EE] at hJ
      exact hJ
    · cases hF
      simp (maxSteps := 999999) (disch := first | exact D (by decide) | exact K (by kernel_rfl)) only [E, EE, ↓reduceIte, simprocAttr, xk B72 [3, 2, 3, 2, 3, 2, 2, 2, 1, 2, 2] .sq rfl, show (nav B72 [1, 3, 2, 3, 2, 3, 2, 2, 2, 1, 2, 2]) = Code.region 3 _ false from rfl, hk_72_3, hz_72_3, hs_72_3, xk B72 [2, 3, 2, 3, 2, 3, 2, 2, 2, 1, 2, 2] .rt rfl, finK_norm, finK_ret, fin72, R72_aiirrz.st, h1, h2]
noncomputable def f72_aiirrz_e (k : Nat) (a0 a0_1 : Int) (a0_2 : List Int) (a0_3 : List T50) : Option R72_aiirrz :=
  cond ((a0 == 1))
    (f72_aiirrz_j1 k a0 a0_1 a0_2 a0_3 a0 a0_1 [] [])
    (
      cond ((a0 == 2))
        (f72_aiirrz_j2 k a0 true a0 a0_1 a0_2 a0_3 a0 0 [] [])
        (f72_aiirrz_j2 k a0 (a0 == 3) a0 a0_1 a0_2 a0_3 a0 0 [] []))
theorem f72_aiirrz_e_ok (k : Nat) (a0 a0_1 : Int) (a0_2 : List Int) (a0_3 : List T50) (r : R72_aiirrz) (hF : f72_aiirrz_e k a0 a0_1 a0_2 a0_3 = some r) : finK Tryd.prog Tryd.f72 0 (EX 72 k (nav B72 []) ({ n := 48, F := [(0, V.agg [V.p (Value.int .i64 a0), V.p (Value.int .u64 a0_1), V.sl 1 (rowsOf (encI .u8) a0_2), V.sl 4 (rowsOf encT50 a0_3)])], M := [] } : St)) = some r.st := by
  unfold f72_aiirrz_e at hF
  simp (maxSteps := 999999) (disch := first | exact D (by decide) | exact K (by kernel_rfl)) only [E, EE, ↓reduceIte, simprocAttr, xk B72 [] .sq rfl, show (nav B72 [1]) = Code.region 0 _ false from rfl, hk_72_0, hz_72_0, hs_72_0, xk B72 [2] .sq rfl, show (nav B72 [1, 2]) = Code.region 1 _ false from rfl, hk_72_1, hz_72_1, hs_72_1, fieldAddrV, u_50, i_50, is_50, ib_50, iz_50, u_3, i_3, is_3, ib_3, iz_3, bl_50, xk B72 [2, 2] .sq rfl, xk B72 [1, 2, 2] .sq rfl, show (nav B72 [1, 1, 2, 2]) = Code.region 2 _ false from rfl, hk_72_2, hz_72_2, hs_72_2, xk B72 [2, 1, 2, 2] (.bk 0) rfl, xk B72 [2, 2, 1, 2, 2] .sq rfl, show (nav B72 [1, 2, 2, 1, 2, 2]) = Code.region 4 _ false from rfl, hk_72_4, hz_72_4, hs_72_4, xk B72 [2, 2, 2, 1, 2, 2] (.cd 9) rfl]
  replace hF := cond_some hF
  rcases hF with ⟨h1, hF⟩ | ⟨h1, hF⟩
  · have hJ := f72_aiirrz_j1_ok k a0 a0_1 a0_2 a0_3 a0 a0_1 [] [] _ hF
    simp (maxSteps := 999999) (disch := first | exact D (by decide) | exact K (by kernel_rfl)) only [E, EE, ↓reduceIte, simprocAttr, show (nav B72 [2, 2, 2, 2, 1, 2, 2]) = Code.region 5 _ false from rfl, hk_72_5, hz_72_5, hs_72_5, fieldAddrV, u_50, i_50, is_50, ib_50, iz_50, u_47, i_47, is_47, ib_47, iz_47, h1]
    try simp only [NM, EE] at hJ
    exact hJ
  · simp (maxSteps := 999999) (disch := first | exact D (by decide) | exact K (by kernel_rfl)) only [E, EE, ↓reduceIte, simprocAttr, xk B72 [3, 2, 2, 2, 1, 2, 2] .sq rfl, xk B72 [1, 3, 2, 2, 2, 1, 2, 2] .sq rfl, show (nav B72 [1, 1, 3, 2, 2, 2, 1, 2, 2]) = Code.region 6 _ false from rfl, hk_72_6, hz_72_6, hs_72_6, xk B72 [2, 1, 3, 2, 2, 2, 1, 2, 2] (.cd 14) rfl, h1]
    replace hF := cond_some hF
    rcases hF with ⟨h2, hF⟩ | ⟨h2, hF⟩
    · have hJ := f72_aiirrz_j2_ok k a0 true a0 a0_1 a0_2 a0_3 a0 0 [] [] _ hF
      simp (maxSteps := 999999) (disch := first | exact D (by decide) | exact K (by kernel_rfl)) only [E, EE, ↓reduceIte, simprocAttr, xk B72 [2, 2, 1, 3, 2, 2, 2, 1, 2, 2] .sk rfl, h1, h2]
      try simp only [NM, EE] at hJ
      exact hJ
    · have hJ := f72_aiirrz_j2_ok k a0 (a0 == 3) a0 a0_1 a0_2 a0_3 a0 0 [] [] _ hF
      simp (maxSteps := 999999) (disch := first | exact D (by decide) | exact K (by kernel_rfl)) only [E, EE, ↓reduceIte, simprocAttr, show (nav B72 [3, 2, 1, 3, 2, 2, 2, 1, 2, 2]) = Code.region 7 _ false from rfl, hk_72_7, hz_72_7, hs_72_7, h1, h2]
      try simp only [NM, EE] at hJ
      exact hJ
noncomputable def f72_aiirrz (k : Nat) (a0 a0_1 : Int) (a0_2 : List Int) (a0_3 : List T50) : Option R72_aiirrz := match k with | 0 => none | k + 1 => f72_aiirrz_e k a0 a0_1 a0_2 a0_3
theorem f72_aiirrz_ok (k : Nat) (a0 a0_1 : Int) (a0_2 : List Int) (a0_3 : List T50) (r : R72_aiirrz) (hF : f72_aiirrz k a0 a0_1 a0_2 a0_3 = some r) : CV k 72 [V.agg [V.p (Value.int .i64 a0), V.p (Value.int .u64 a0_1), V.sl 1 (rowsOf (encI .u8) a0_2), V.sl 4 (rowsOf encT50 a0_3)]] [] = some r.st := by
  cases k with
  | zero => cases hF
  | succ k =>
    unfold CV
    rw [ev_call (F := Tryd.f72) (c := (nav B72 [])) rfl Tryd.func72 rfl rfl rfl rfl]
    exact f72_aiirrz_e_ok k a0 a0_1 a0_2 a0_3 r hF
-- f64_r: f64 unicode/utf8.word[[]byte]
inductive R64_r where
  | o0 (y : Int)
noncomputable def R64_r.st : R64_r → V × List O × List O
  | .o0 y => (V.p (Value.int .u64 y), [], [])
noncomputable def f64_r_j1 (k : Nat) (x0 : List Int) : Option R64_r :=
  Option.bind (x0[0]?) fun v1 =>
    Option.bind (x0[1]?) fun v3 =>
      Option.bind (x0[2]?) fun v5 =>
        Option.bind (x0[3]?) fun v7 =>
          Option.bind (x0[4]?) fun v9 =>
            Option.bind (x0[5]?) fun v11 =>
              Option.bind (x0[6]?) fun v13 =>
                Option.bind (x0[7]?) fun v15 =>
                  some (R64_r.o0 ((IntKind.u64.wrap ((BitVec.ofInt (IntKind.bits .u64) (IntKind.u64.wrap ((BitVec.ofInt (IntKind.bits .u64) (IntKind.u64.wrap ((BitVec.ofInt (IntKind.bits .u64) (IntKind.u64.wrap ((BitVec.ofInt (IntKind.bits .u64) (IntKind.u64.wrap ((BitVec.ofInt (IntKind.bits .u64) (IntKind.u64.wrap ((BitVec.ofInt (IntKind.bits .u64) (IntKind.u64.wrap ((BitVec.ofInt (IntKind.bits .u64) (IntKind.u64.wrap v1) ||| BitVec.ofInt (IntKind.bits .u64) (IntKind.u64.wrap ((IntKind.u64.wrap v3) * 2 ^ (min 8 (IntKind.bits .u64))))).toNat : Nat)) ||| BitVec.ofInt (IntKind.bits .u64) (IntKind.u64.wrap ((IntKind.u64.wrap v5) * 2 ^ (min 16 (IntKind.bits .u64))))).toNat : Nat)) ||| BitVec.ofInt (IntKind.bits .u64) (IntKind.u64.wrap ((IntKind.u64.wrap v7) * 2 ^ (min 24 (IntKind.bits .u64))))).toNat : Nat)) ||| BitVec.ofInt (IntKind.bits .u64) (IntKind.u64.wrap ((IntKind.u64.wrap v9) * 2 ^ (min 32 (IntKind.bits .u64))))).toNat : Nat)) ||| BitVec.ofInt (IntKind.bits .u64) (IntKind.u64.wrap ((IntKind.u64.wrap v11) * 2 ^ (min 40 (IntKind.bits .u64))))).toNat : Nat)) ||| BitVec.ofInt (IntKind.bits .u64) (IntKind.u64.wrap ((IntKind.u64.wrap v13) * 2 ^ (min 48 (IntKind.bits .u64))))).toNat : Nat)) ||| BitVec.ofInt (IntKind.bits .u64) (IntKind.u64.wrap ((IntKind.u64.wrap v15) * 2 ^ (min 56 (IntKind.bits .u64))))).toNat : Nat))))
theorem f64_r_j1_ok (k : Nat) (x0 : List Int) (r : R64_r) (hF : f64_r_j1 k x0 = some r) : finK Tryd.prog Tryd.f64 0 (EX 64 k (nav B64 [2, 2]) ({ n := 71, F := [(0, V.sl 1 (rowsOf (encI .u8) x0))], M := [] } : St)) = some r.st := by
  unfold f64_r_j1 at hF
  replace hF := Option.bind_eq_some_iff.1 hF
  obtain ⟨v1, h2, hF⟩ := hF
  replace hF := Option.bind_eq_some_iff.1 hF
  obtain ⟨v3, h4, hF⟩ := hF
  replace hF := Option.bind_eq_some_iff.1 hF
  obtain ⟨v5, h6, hF⟩ := hF
  replace hF := Option.bind_eq_some_iff.1 hF
  obtain ⟨v7, h8, hF⟩ := hF
  replace hF := Option.bind_eq_some_iff.1 hF
  obtain ⟨v9, h10, hF⟩ := hF
  replace hF := Option.bind_eq_some_iff.1 hF
  obtain ⟨v11, h12, hF⟩ := hF
  replace hF := Option.bind_eq_some_iff.1 hF
  obtain ⟨v13, h14, hF⟩ := hF
  replace hF := Option.bind_eq_some_iff.1 hF
  obtain ⟨v15, h16, hF⟩ := hF
  cases hF
  simp (maxSteps := 999999) (disch := first | exact D (by decide) | exact K (by kernel_rfl)) only [E, EE, ↓reduceIte, simprocAttr, xk B64 [2, 2] .sq rfl, show (nav B64 [1, 2, 2]) = Code.region 2 _ true from rfl, hk_64_2, hz_64_2, hs_64_2, indexAddrV, u_22, i_22, is_22, ib_22, iz_22, u_5, i_5, is_5, ib_5, iz_5, encI_eq, u_47, i_47, is_47, ib_47, iz_47, convV, shiftV, xk B64 [2, 2, 2] .rt rfl, finK_norm, finK_ret, fin64, R64_r.st, h2, h4, h6, h8, h10, h12, h14, h16]
noncomputable def f64_r_e (k : Nat) (a0 : List Int) : Option R64_r :=
  f64_r_j1 k a0
theorem f64_r_e_ok (k : Nat) (a0 : List Int) (r : R64_r) (hF : f64_r_e k a0 = some r) : finK Tryd.prog Tryd.f64 0 (EX 64 k (nav B64 []) ({ n := 71, F := [(0, V.sl 1 (rowsOf (encI .u8) a0))], M := [] } : St)) = some r.st := by
  unfold f64_r_e at hF
  have hJ := f64_r_j1_ok k a0 _ hF
  simp (maxSteps := 999999) (disch := first | exact D (by decide) | exact K (by kernel_rfl)) only [E, EE, ↓reduceIte, simprocAttr, xk B64 [] .sq rfl, show (nav B64 [1]) = Code.region 0 _ false from rfl, hk_64_0, hz_64_0, hs_64_0, xk B64 [2] .sq rfl, xk B64 [1, 2] .cf rfl, xk B64 [3, 1, 2] .sk rfl]
  try simp only [NM, EE] at hJ
  exact hJ
noncomputable def f64_r (k : Nat) (a0 : List Int) : Option R64_r := match k with | 0 => none | k + 1 => f64_r_e k a0
theorem f64_r_ok (k : Nat) (a0 : List Int) (r : R64_r) (hF : f64_r k a0 = some r) : CV k 64 [V.sl 1 (rowsOf (encI .u8) a0)] [] = some r.st := by
  cases k with
  | zero => cases hF
  | succ k =>
    unfold CV
    rw [ev_call (F := Tryd.f64) (c := (nav B64 [])) rfl Tryd.func64 rfl rfl rfl rfl]
    exact f64_r_e_ok k a0 r hF
-- f49_r: f49 unicode/utf8.Valid
inductive R49_r where
  | o0 (y : Bool)
noncomputable def R49_r.st : R49_r → V × List O × List O
  | .o0 y => (V.p (Value.bool y), [], [])
inductive R49_r_l1_l2 where
  | o0 (y : List Int)
  | o1 (y : List Int) (y_1 : Bool)
noncomputable def R49_r_l1_l2.st : R49_r_l1_l2 → Out × St
  | .o0 y => (.norm, ({ n := 188, F := [(0, V.sl 1 (rowsOf (encI .u8) y))], M := [] } : St))
  | .o1 y y_1 => (.exit 2, ({ n := 188, F := [(0, V.sl 1 (rowsOf (encI .u8) y)), (69, V.p (Value.bool y_1))], M := [] } : St))
noncomputable def f49_r_l1_l2_j1 (k : Nat) (x0 : List Int) (x69 : Bool) : Option R49_r_l1_l2 :=
  ifE (32 ≤ (List.length x0)) (
    some (R49_r_l1_l2.o0 (List.drop 32 (List.take (List.length x0) x0))))
theorem f49_r_l1_l2_j1_ok (k : Nat) (x0 : List Int) (x69 : Bool) (r : R49_r_l1_l2) (hF : f49_r_l1_l2_j1 k x0 x69 = some r) : EX 49 k (nav B49 [2, 1, 2, 2, 2, 2, 2, 2, 2, 1, 2, 2, 2, 1, 2, 2, 2, 1, 2, 1, 2, 2]) ({ n := 188, F := [(0, V.sl 1 (rowsOf (encI .u8) x0)), (69, V.p (Value.bool x69))], M := [] } : St) = some r.st := by
  unfold f49_r_l1_l2_j1 at hF
  replace hF := ifE_some.1 hF
  obtain ⟨h1, hF⟩ := hF
  cases hF
  simp (maxSteps := 999999) (disch := first | exact D (by decide) | exact K (by kernel_rfl)) only [E, EE, ↓reduceIte, simprocAttr, xk B49 [2, 1, 2, 2, 2, 2, 2, 2, 2, 1, 2, 2, 2, 1, 2, 2, 2, 1, 2, 1, 2, 2] (.bk 3) rfl, show (nav B49 [2, 2, 1, 2, 2, 2, 2, 2, 2, 2, 1, 2, 2, 2, 1, 2, 2, 2, 1, 2, 1, 2, 2]) = Code.region 11 _ false from rfl, hk_49_11, hz_49_11, hs_49_11, sliceV, bound, u_22, i_22, is_22, ib_22, iz_22, u_5, i_5, is_5, ib_5, iz_5, R49_r_l1_l2.st, h1]
noncomputable def f49_r_l1_l2_b (k : Nat) (x0 : List Int) : Option R49_r_l1_l2 :=
  cond ((decide (((List.length x0) : Int) > 32)))
    (
      Option.bind (f64_r k x0) fun o2 =>
        match o2 with
        | .o0 v5 =>
          ifE (8 ≤ (List.length x0)) (
            Option.bind (f64_r k (List.drop 8 (List.take (List.length x0) x0))) fun o7 =>
              match o7 with
              | .o0 v10 =>
                ifE (16 ≤ (List.length x0)) (
                  Option.bind (f64_r k (List.drop 16 (List.take (List.length x0) x0))) fun o12 =>
                    match o12 with
                    | .o0 v15 =>
                      ifE (24 ≤ (List.length x0)) (
                        Option.bind (f64_r k (List.drop 24 (List.take (List.length x0) x0))) fun o17 =>
                          match o17 with
                          | .o0 v20 =>
                            cond (((IntKind.u64.wrap ((BitVec.ofInt (IntKind.bits .u64) (IntKind.u64.wrap ((BitVec.ofInt (IntKind.bits .u64) (IntKind.u64.wrap ((BitVec.ofInt (IntKind.bits .u64) v5 ||| BitVec.ofInt (IntKind.bits .u64) v10).toNat : Nat)) ||| BitVec.ofInt (IntKind.bits .u64) (IntKind.u64.wrap ((BitVec.ofInt (IntKind.bits .u64) v15 ||| BitVec.ofInt (IntKind.bits .u64) v20).toNat : Nat))).toNat : Nat)) &&& BitVec.ofInt (IntKind.bits .u64) (9259542123273814144 : Int)).toNat : Nat)) == 0))
                              (f49_r_l1_l2_j1 k x0 true)
                              (some (R49_r_l1_l2.o1 x0 false))))))
    (some (R49_r_l1_l2.o1 x0 false))
theorem f49_r_l1_l2_b_ok (k : Nat) (x0 : List Int) (r : R49_r_l1_l2) (hF : f49_r_l1_l2_b k x0 = some r) : EX 49 k (nav B49 [1, 2, 2, 2, 2, 2, 2, 2, 1, 2, 2, 2, 1, 2, 2, 2, 1, 2, 1, 2, 2]) ({ n := 188, F := [(0, V.sl 1 (rowsOf (encI .u8) x0))], M := [] } : St) = some r.st := by
  unfold f49_r_l1_l2_b at hF
  simp (maxSteps := 999999) (disch := first | exact D (by decide) | exact K (by kernel_rfl)) only [E, EE, ↓reduceIte, simprocAttr, xk B49 [1, 2, 2, 2, 2, 2, 2, 2, 1, 2, 2, 2, 1, 2, 2, 2, 1, 2, 1, 2, 2] .sq rfl, xk B49 [1, 1, 2, 2, 2, 2, 2, 2, 2, 1, 2, 2, 2, 1, 2, 2, 2, 1, 2, 1, 2, 2] .sq rfl, show (nav B49 [1, 1, 1, 2, 2, 2, 2, 2, 2, 2, 1, 2, 2, 2, 1, 2, 2, 2, 1, 2, 1, 2, 2]) = Code.region 10 _ true from rfl, hk_49_10, hz_49_10, hs_49_10, u_22, i_22, is_22, ib_22, iz_22]
  replace hF := cond_some hF
  rcases hF with ⟨h1, hF⟩ | ⟨h1, hF⟩
  · replace hF := Option.bind_eq_some_iff.1 hF
    obtain ⟨o2, h3, hF⟩ := hF
    have hc4 := f64_r_ok k x0 _ h3
    cases o2 with
    | o0 v5 =>
      (try dsimp only at hF)
      (try simp only [NM, EE, R64_r.st] at hc4)
      replace hF := ifE_some.1 hF
      obtain ⟨h6, hF⟩ := hF
      replace hF := Option.bind_eq_some_iff.1 hF
      obtain ⟨o7, h8, hF⟩ := hF
      have hc9 := f64_r_ok k (List.drop 8 (List.take (List.length x0) x0)) _ h8
      cases o7 with
      | o0 v10 =>
        (try dsimp only at hF)
        (try simp only [NM, EE, R64_r.st] at hc9)
        replace hF := ifE_some.1 hF
        obtain ⟨h11, hF⟩ := hF
        replace hF := Option.bind_eq_some_iff.1 hF
        obtain ⟨o12, h13, hF⟩ := hF
        have hc14 := f64_r_ok k (List.drop 16 (List.take (List.length x0) x0)) _ h13
        cases o12 with
        | o0 v15 =>
          (try dsimp only at hF)
          (try simp only [NM, EE, R64_r.st] at hc14)
          replace hF := ifE_some.1 hF
          obtain ⟨h16, hF⟩ := hF
          replace hF := Option.bind_eq_some_iff.1 hF
          obtain ⟨o17, h18, hF⟩ := hF
          have hc19 := f64_r_ok k (List.drop 24 (List.take (List.length x0) x0)) _ h18
          cases o17 with
          | o0 v20 =>
            (try dsimp only at hF)
            (try simp only [NM, EE, R64_r.st] at hc19)
            simp (maxSteps := 999999) (disch := first | exact D (by decide) | exact K (by kernel_rfl)) only [E, EE, ↓reduceIte, simprocAttr, callStep, CL, gv, List.contains, sliceV, bound, u_22, i_22, is_22, ib_22, iz_22, u_5, i_5, is_5, ib_5, iz_5, xk B49 [2, 1, 1, 2, 2, 2, 2, 2, 2, 2, 1, 2, 2, 2, 1, 2, 2, 2, 1, 2, 1, 2, 2] (.cd 69) rfl, h1, hc4, h6, hc9, h11, hc14, h16, hc19]
            replace hF := cond_some hF
            rcases hF with ⟨h21, hF⟩ | ⟨h21, hF⟩
            · have hJ := f49_r_l1_l2_j1_ok k x0 true _ hF
              simp (maxSteps := 999999) (disch := first | exact D (by decide) | exact K (by kernel_rfl)) only [E, EE, ↓reduceIte, simprocAttr, xk B49 [2, 2, 1, 1, 2, 2, 2, 2, 2, 2, 2, 1, 2, 2, 2, 1, 2, 2, 2, 1, 2, 1, 2, 2] .sk rfl, h1, hc4, h6, hc9, h11, hc14, h16, hc19, h21]
              try simp only [NM, EE] at hJ
              exact hJ
            · cases hF
              simp (maxSteps := 999999) (disch := first | exact D (by decide) | exact K (by kernel_rfl)) only [E, EE, ↓reduceIte, simprocAttr, xk B49 [3, 2, 1, 1, 2, 2, 2, 2, 2, 2, 2, 1, 2, 2, 2, 1, 2, 2, 2, 1, 2, 1, 2, 2] (.ex 2) rfl, R49_r_l1_l2.st, h1, hc4, h6, hc9, h11, hc14, h16, hc19, h21]
  · cases hF
    simp (maxSteps := 999999) (disch := first | exact D (by decide) | exact K (by kernel_rfl)) only [E, EE, ↓reduceIte, simprocAttr, xk B49 [2, 1, 1, 2, 2, 2, 2, 2, 2, 2, 1, 2, 2, 2, 1, 2, 2, 2, 1, 2, 1, 2, 2] (.cd 69) rfl, xk B49 [3, 2, 1, 1, 2, 2, 2, 2, 2, 2, 2, 1, 2, 2, 2, 1, 2, 2, 2, 1, 2, 1, 2, 2] (.ex 2) rfl, R49_r_l1_l2.st, h1]
noncomputable def f49_r_l1_l2 (k : Nat) : Nat → (List Int) → Option R49_r_l1_l2
  | 0, _ => none
  | n + 1, x0 => Option.bind (f49_r_l1_l2_b k x0) fun o =>
    match o with
    | .o0 y => f49_r_l1_l2 k n y
    | .o1 y y_1 => some (.o1 y y_1)
theorem f49_r_l1_l2_ok (k n : Nat) : ∀ (x0 : List Int) (r : R49_r_l1_l2) (hF : f49_r_l1_l2 k n x0 = some r) (σ : St) (hσ : headR (hints.head 49 10) (hints.canon 49 10) σ = some ({ n := 188, F := [(0, V.sl 1 (rowsOf (encI .u8) x0))], M := [] } : St)), LP 49 k (nav B49 [1, 2, 2, 2, 2, 2, 2, 2, 1, 2, 2, 2, 1, 2, 2, 2, 1, 2, 1, 2, 2]) n σ = some r.st := by
  induction n with
  | zero => intro x0 r hF; cases hF
  | succ n ih =>
    intro x0 r hF σ hσ
    rw [f49_r_l1_l2] at hF
    obtain ⟨o, h, hF⟩ := Option.bind_eq_some_iff.1 hF
    have hB := f49_r_l1_l2_b_ok k x0 o h
    unfold LP at ih ⊢
    unfold EX at hB
    rw [loopK_succ, show firstReg (nav B49 [1, 2, 2, 2, 2, 2, 2, 2, 1, 2, 2, 2, 1, 2, 2, 2, 1, 2, 1, 2, 2]) = 10 from rfl, hσ, headK_some, hB]
    cases o with
    | o0 y =>
      refine ih y r hF _ ?_
      simp (maxSteps := 999999) (disch := first | exact D (by decide) | exact K (by kernel_rfl)) only [E, EE, ↓reduceIte, simprocAttr, hh_49_10, hc_49_10]
    | o1 y y_1 => cases hF; rfl
inductive R49_r_l1 where
  | o0 (y : List Int) (y_1 : Bool)
  | o1 (y : List Int) (y_1 : Bool)
  | o2 (y : List Int) (y_1 : Bool)
  | o3 (y : List Int) (y_1 : Bool)
noncomputable def R49_r_l1.st : R49_r_l1 → Out × St
  | .o0 y y_1 => (.norm, ({ n := 188, F := [(0, V.sl 1 (rowsOf (encI .u8) y)), (69, V.p (Value.bool y_1))], M := [] } : St))
  | .o1 y y_1 => (.norm, ({ n := 188, F := [(0, V.sl 1 (rowsOf (encI .u8) y)), (46, V.p (Value.bool y_1))], M := [] } : St))
  | .o2 y y_1 => (.norm, ({ n := 188, F := [(0, V.sl 1 (rowsOf (encI .u8) y)), (31, V.p (Value.bool y_1))], M := [] } : St))
  | .o3 y y_1 => (.exit 0, ({ n := 188, F := [(0, V.sl 1 (rowsOf (encI .u8) y)), (15, V.p (Value.bool y_1))], M := [] } : St))
noncomputable def f49_r_l1_j3 (k : Nat) (x0 : List Int) (x69 : Bool) : Option R49_r_l1 :=
  some (R49_r_l1.o0 x0 x69)
theorem f49_r_l1_j3_ok (k : Nat) (x0 : List Int) (x69 : Bool) (r : R49_r_l1) (hF : f49_r_l1_j3 k x0 x69 = some r) : blockK 1 (SQ 49 k (nav B49 [2, 2, 2, 2, 1, 2, 1, 2, 2]) (EX 49 k (nav B49 [2, 2, 2, 2, 1, 2, 2, 2, 1, 2, 1, 2, 2]) ({ n := 188, F := [(0, V.sl 1 (rowsOf (encI .u8) x0)), (69, V.p (Value.bool x69))], M := [] } : St))) = some r.st := by
  unfold f49_r_l1_j3 at hF
  cases hF
  simp (maxSteps := 999999) (disch := first | exact D (by decide) | exact K (by kernel_rfl)) only [E, EE, ↓reduceIte, simprocAttr, xk B49 [2, 2, 2, 2, 1, 2, 2, 2, 1, 2, 1, 2, 2] (.ex 1) rfl, R49_r_l1.st]
noncomputable def f49_r_l1_j4 (k : Nat) (x0 : List Int) (x46 : Bool) : Option R49_r_l1 :=
  some (R49_r_l1.o1 x0 x46)
theorem f49_r_l1_j4_ok (k : Nat) (x0 : List Int) (x46 : Bool) (r : R49_r_l1) (hF : f49_r_l1_j4 k x0 x46 = some r) : blockK 1 (SQ 49 k (nav B49 [2, 2, 2, 2, 1, 2, 1, 2, 2]) (EX 49 k (nav B49 [2, 2, 2, 2, 1, 2, 2, 2, 1, 2, 1, 2, 2]) ({ n := 188, F := [(0, V.sl 1 (rowsOf (encI .u8) x0)), (46, V.p (Value.bool x46))], M := [] } : St))) = some r.st := by
  unfold f49_r_l1_j4 at hF
  cases hF
  simp (maxSteps := 999999) (disch := first | exact D (by decide) | exact K (by kernel_rfl)) only [E, EE, ↓reduceIte, simprocAttr, xk B49 [2, 2, 2, 2, 1, 2, 2, 2, 1, 2, 1, 2, 2] (.ex 1) rfl, R49_r_l1.st]
noncomputable def f49_r_l1_j5 (k : Nat) (x0 : List Int) (x31 : Bool) : Option R49_r_l1 :=
  some (R49_r_l1.o2 x0 x31)
theorem f49_r_l1_j5_ok (k : Nat) (x0 : List Int) (x31 : Bool) (r : R49_r_l1) (hF : f49_r_l1_j5 k x0 x31 = some r) : blockK 1 (SQ 49 k (nav B49 [2, 2, 2, 2, 1, 2, 1, 2, 2]) (EX 49 k (nav B49 [2, 2, 2, 2, 1, 2, 2, 2, 1, 2, 1, 2, 2]) ({ n := 188, F := [(0, V.sl 1 (rowsOf (encI .u8) x0)), (31, V.p (Value.bool x31))], M := [] } : St))) = some r.st := by
  unfold f49_r_l1_j5 at hF
  cases hF
  simp (maxSteps := 999999) (disch := first | exact D (by decide) | exact K (by kernel_rfl)) only [E, EE, ↓reduceIte, simprocAttr, xk B49 [2, 2, 2, 2, 1, 2, 2, 2, 1, 2, 1, 2, 2] (.ex 1) rfl, R49_r_l1.st]
noncomputable def f49_r_l1_j6 (k : Nat) (x0 : List Int) (x3 : Int) (x20 : Bool) : Option R49_r_l1 :=
  none
theorem f49_r_l1_j6_ok (k : Nat) (x0 : List Int) (x3 : Int) (x20 : Bool) (r : R49_r_l1) (hF : f49_r_l1_j6 k x0 x3 x20 = some r) : blockK 1 (EX 49 k (nav B49 [2, 2, 2, 2, 1, 2, 1, 2, 2]) ({ n := 188, F := [(0, V.sl 1 (rowsOf (encI .u8) x0)), (3, V.p (Value.int .u8 x3)), (20, V.p (Value.bool x20))], M := [] } : St)) = some r.st := by
  unfold f49_r_l1_j6 at hF
  cases hF
noncomputable def f49_r_l1_j1 (k : Nat) (x0 : List Int) (x15 : Bool) : Option R49_r_l1 :=
  Option.bind (x0[0]?) fun v1 =>
    cond ((decide (v1 < 128)))
      (
        ifE (1 ≤ (List.length x0)) (
          cond ((decide (((List.length (List.drop 1 (List.take (List.length x0) x0))) : Int) > 8)))
            (
              Option.bind (f64_r k (List.drop 1 (List.take (List.length x0) x0))) fun o6 =>
                match o6 with
                | .o0 v9 =>
                  cond (((IntKind.u64.wrap ((BitVec.ofInt (IntKind.bits .u64) v9 &&& BitVec.ofInt (IntKind.bits .u64) (9259542123273814144 : Int)).toNat : Nat)) == 0))
                    (
                      ifE (8 ≤ (List.length (List.drop 1 (List.take (List.length x0) x0)))) (
                        cond ((decide (((List.length ((List.drop 8 ((List.take (List.length (List.drop 1 (List.take (List.length x0) x0))) (List.drop 1 (List.take (List.length x0) x0))))))) : Int) > 16)))
                          (
                            Option.bind (f64_r k ((List.drop 8 ((List.take (List.length (List.drop 1 (List.take (List.length x0) x0))) (List.drop 1 (List.take (List.length x0) x0))))))) fun o13 =>
                              match o13 with
                              | .o0 v16 =>
                                ifE (8 ≤ (List.length ((List.drop 8 ((List.take (List.length (List.drop 1 (List.take (List.length x0) x0))) (List.drop 1 (List.take (List.length x0) x0)))))))) (
                                  Option.bind (f64_r k ((List.drop 8 ((List.take ((List.length ((List.drop 8 ((List.take (List.length (List.drop 1 (List.take (List.length x0) x0))) (List.drop 1 (List.take (List.length x0) x0)))))))) ((List.drop 8 ((List.take (List.length (List.drop 1 (List.take (List.length x0) x0))) (List.drop 1 (List.take (List.length x0) x0))))))))))) fun o18 =>
                                    match o18 with
                                    | .o0 v21 =>
                                      cond (((IntKind.u64.wrap ((BitVec.ofInt (IntKind.bits .u64) (IntKind.u64.wrap ((BitVec.ofInt (IntKind.bits .u64) v16 ||| BitVec.ofInt (IntKind.bits .u64) v21).toNat : Nat)) &&& BitVec.ofInt (IntKind.bits .u64) (9259542123273814144 : Int)).toNat : Nat)) == 0))
                                        (
                                          ifE (16 ≤ (List.length ((List.drop 8 ((List.take (List.length (List.drop 1 (List.take (List.length x0) x0))) (List.drop 1 (List.take (List.length x0) x0)))))))) (
                                            Option.bind (f49_r_l1_l2 k k ((List.drop 16 ((List.take ((List.length ((List.drop 8 ((List.take (List.length (List.drop 1 (List.take (List.length x0) x0))) (List.drop 1 (List.take (List.length x0) x0)))))))) ((List.drop 8 ((List.take (List.length (List.drop 1 (List.take (List.length x0) x0))) (List.drop 1 (List.take (List.length x0) x0))))))))))) fun o24 =>
                                              match o24 with
                                              | .o0 _ =>
                                                none
                                              | .o1 v27 v28 =>
                                                f49_r_l1_j3 k v27 v28))
                                        (f49_r_l1_j4 k ((List.drop 8 ((List.take (List.length (List.drop 1 (List.take (List.length x0) x0))) (List.drop 1 (List.take (List.length x0) x0)))))) false)))
                          (f49_r_l1_j4 k ((List.drop 8 ((List.take (List.length (List.drop 1 (List.take (List.length x0) x0))) (List.drop 1 (List.take (List.length x0) x0)))))) false)))
                    (f49_r_l1_j5 k (List.drop 1 (List.take (List.length x0) x0)) false))
            (f49_r_l1_j5 k (List.drop 1 (List.take (List.length x0) x0)) false)))
      (f49_r_l1_j6 k x0 v1 false)
theorem f49_r_l1_j1_ok (k : Nat) (x0 : List Int) (x15 : Bool) (r : R49_r_l1) (hF : f49_r_l1_j1 k x0 x15 = some r) : EX 49 k (nav B49 [2, 1, 2, 1, 2, 2]) ({ n := 188, F := [(0, V.sl 1 (rowsOf (encI .u8) x0)), (15, V.p (Value.bool x15))], M := [] } : St) = some r.st := by
  unfold f49_r_l1_j1 at hF
  replace hF := Option.bind_eq_some_iff.1 hF
  obtain ⟨v1, h2, hF⟩ := hF
  simp (maxSteps := 999999) (disch := first | exact D (by decide) | exact K (by kernel_rfl)) only [E, EE, ↓reduceIte, simprocAttr, xk B49 [2, 1, 2, 1, 2, 2] (.bk 1) rfl, xk B49 [2, 2, 1, 2, 1, 2, 2] .sq rfl, show (nav B49 [1, 2, 2, 1, 2, 1, 2, 2]) = Code.region 3 _ false from rfl, hk_49_3, hz_49_3, hs_49_3, indexAddrV, u_22, i_22, is_22, ib_22, iz_22, u_5, i_5, is_5, ib_5, iz_5, encI_eq, xk B49 [2, 2, 2, 1, 2, 1, 2, 2] .sq rfl, xk B49 [1, 2, 2, 2, 1, 2, 1, 2, 2] .sq rfl, show (nav B49 [1, 1, 2, 2, 2, 1, 2, 1, 2, 2]) = Code.region 4 _ false from rfl, hk_49_4, hz_49_4, hs_49_4, xk B49 [2, 1, 2, 2, 2, 1, 2, 1, 2, 2] (.cd 20) rfl, h2]
  replace hF := cond_some hF
  rcases hF with ⟨h3, hF⟩ | ⟨h3, hF⟩
  · replace hF := ifE_some.1 hF
    obtain ⟨h4, hF⟩ := hF
    simp (maxSteps := 999999) (disch := first | exact D (by decide) | exact K (by kernel_rfl)) only [E, EE, ↓reduceIte, simprocAttr, xk B49 [2, 2, 1, 2, 2, 2, 1, 2, 1, 2, 2] .sq rfl, show (nav B49 [1, 2, 2, 1, 2, 2, 2, 1, 2, 1, 2, 2]) = Code.region 5 _ false from rfl, hk_49_5, hz_49_5, hs_49_5, sliceV, bound, u_22, i_22, is_22, ib_22, iz_22, u_5, i_5, is_5, ib_5, iz_5, xk B49 [2, 2, 2, 1, 2, 2, 2, 1, 2, 1, 2, 2] .sq rfl, xk B49 [1, 2, 2, 2, 1, 2, 2, 2, 1, 2, 1, 2, 2] .sq rfl, show (nav B49 [1, 1, 2, 2, 2, 1, 2, 2, 2, 1, 2, 1, 2, 2]) = Code.region 6 _ false from rfl, hk_49_6, hz_49_6, hs_49_6, h2, h3, h4]
    replace hF := cond_some hF
    rcases hF with ⟨h5, hF⟩ | ⟨h5, hF⟩
    · replace hF := Option.bind_eq_some_iff.1 hF
      obtain ⟨o6, h7, hF⟩ := hF
      have hc8 := f64_r_ok k (List.drop 1 (List.take (List.length x0) x0)) _ h7
      cases o6 with
      | o0 v9 =>
        (try dsimp only at hF)
        (try simp only [NM, EE, R64_r.st] at hc8)
        simp (maxSteps := 999999) (disch := first | exact D (by decide) | exact K (by kernel_rfl)) only [E, EE, ↓reduceIte, simprocAttr, callStep, CL, gv, List.contains, xk B49 [2, 1, 2, 2, 2, 1, 2, 2, 2, 1, 2, 1, 2, 2] (.cd 31) rfl, h2, h3, h4, h5, hc8]
        replace hF := cond_some hF
        rcases hF with ⟨h10, hF⟩ | ⟨h10, hF⟩
        · replace hF := ifE_some.1 hF
          obtain ⟨h11, hF⟩ := hF
          simp (maxSteps := 999999) (disch := first | exact D (by decide) | exact K (by kernel_rfl)) only [E, EE, ↓reduceIte, simprocAttr, xk B49 [2, 2, 1, 2, 2, 2, 1, 2, 2, 2, 1, 2, 1, 2, 2] .sq rfl, show (nav B49 [1, 2, 2, 1, 2, 2, 2, 1, 2, 2, 2, 1, 2, 1, 2, 2]) = Code.region 7 _ false from rfl, hk_49_7, hz_49_7, hs_49_7, sliceV, bound, u_22, i_22, is_22, ib_22, iz_22, u_5, i_5, is_5, ib_5, iz_5, xk B49 [2, 2, 2, 1, 2, 2, 2, 1, 2, 2, 2, 1, 2, 1, 2, 2] .sq rfl, show (nav B49 [1, 2, 2, 2, 1, 2, 2, 2, 1, 2, 2, 2, 1, 2, 1, 2, 2]) = Code.region 8 _ true from rfl, hk_49_8, hz_49_8, hs_49_8, h2, h3, h4, h5, hc8, h10, h11]
          replace hF := cond_some hF
          rcases hF with ⟨h12, hF⟩ | ⟨h12, hF⟩
          · replace hF := Option.bind_eq_some_iff.1 hF
            obtain ⟨o13, h14, hF⟩ := hF
            have hc15 := f64_r_ok k ((List.drop 8 ((List.take (List.length (List.drop 1 (List.take (List.length x0) x0))) (List.drop 1 (List.take (List.length x0) x0)))))) _ h14
            cases o13 with
            | o0 v16 =>
              (try dsimp only at hF)
              (try simp only [NM, EE, R64_r.st] at hc15)
              replace hF := ifE_some.1 hF
              obtain ⟨h17, hF⟩ := hF
              replace hF := Option.bind_eq_some_iff.1 hF
              obtain ⟨o18, h19, hF⟩ := hF
              have hc20 := f64_r_ok k ((List.drop 8 ((List.take ((List.length ((List.drop 8 ((List.take (List.length (List.drop 1 (List.take (List.length x0) x0))) (List.drop 1 (List.take (List.length x0) x0)))))))) ((List.drop 8 ((List.take (List.length (List.drop 1 (List.take (List.length x0) x0))) (List.drop 1 (List.take (List.length x0) x0)))))))))) _ h19
              cases o18 with
              | o0 v21 =>
                (try dsimp only at hF)
                (try simp only [NM, EE, R64_r.st] at hc20)
                simp (maxSteps := 999999) (disch := first | exact D (by decide) | exact K (by kernel_rfl)) only [E, EE, ↓reduceIte, simprocAttr, callStep, CL, gv, List.contains, sliceV, bound, u_22, i_22, is_22, ib_22, iz_22, u_5, i_5, is_5, ib_5, iz_5, xk B49 [2, 2, 2, 2, 1, 2, 2, 2, 1, 2, 2, 2, 1, 2, 1, 2, 2] (.cd 46) rfl, h2, h3, h4, h5, hc8, h10, h11, h12, hc15, h17, hc20]
                replace hF := cond_some hF
                rcases hF with ⟨h22, hF⟩ | ⟨h22, hF⟩
                · replace hF := ifE_some.1 hF
                  obtain ⟨h23, hF⟩ := hF
                  replace hF := Option.bind_eq_some_iff.1 hF
                  obtain ⟨o24, h25, hF⟩ := hF
                  have hc26 := f49_r_l1_l2_ok k k ((List.drop 16 ((List.take ((List.length ((List.drop 8 ((List.take (List.length (List.drop 1 (List.take (List.length x0) x0))) (List.drop 1 (List.take (List.length x0) x0)))))))) ((List.drop 8 ((List.take (List.length (List.drop 1 (List.take (List.length x0) x0))) (List.drop 1 (List.take (List.length x0) x0)))))))))) _ h25
                  simp (maxSteps := 999999) (disch := first | exact D (by decide) | exact K (by kernel_rfl)) only [E, EE, ↓reduceIte, simprocAttr, xk B49 [2, 2, 2, 2, 2, 1, 2, 2, 2, 1, 2, 2, 2, 1, 2, 1, 2, 2] .sq rfl, show (nav B49 [1, 2, 2, 2, 2, 2, 1, 2, 2, 2, 1, 2, 2, 2, 1, 2, 1, 2, 2]) = Code.region 9 _ false from rfl, hk_49_9, hz_49_9, hs_49_9, sliceV, bound, u_22, i_22, is_22, ib_22, iz_22, u_5, i_5, is_5, ib_5, iz_5, xk B49 [2, 2, 2, 2, 2, 2, 1, 2, 2, 2, 1, 2, 2, 2, 1, 2, 1, 2, 2] (.bk 2) rfl, xk B49 [2, 2, 2, 2, 2, 2, 2, 1, 2, 2, 2, 1, 2, 2, 2, 1, 2, 1, 2, 2] .lp rfl, hh_49_10, hc_49_10, h2, h3, h4, h5, hc8, h10, h11, h12, hc15, h17, hc20, h22, h23]
                  (try simp only [NM, EE] at hc26)
                  rw [hc26 _ (by simp (maxSteps := 999999) (disch := first | exact D (by decide) | exact K (by kernel_rfl)) only [E, EE, ↓reduceIte, simprocAttr, hh_49_10, hc_49_10, h2, h3, h4, h5, hc8, h10, h11, h12, hc15, h17, hc20, h22, h23])]
                  clear hc26
                  cases o24 with
                  | o0 _ =>
                    (try dsimp only at hF)
                    cases hF
                  | o1 v27 v28 =>
                    (try dsimp only at hF)
                    have hJ := f49_r_l1_j3_ok k v27 v28 _ hF
                    simp (maxSteps := 999999) (disch := first | exact D (by decide) | exact K (by kernel_rfl)) only [E, EE, ↓reduceIte, simprocAttr, R49_r_l1_l2.st, h2, h3, h4, h5, hc8, h10, h11, h12, hc15, h17, hc20, h22, h23]
                    try simp only [NM, EE] at hJ
                    exact hJ
                · have hJ := f49_r_l1_j4_ok k ((List.drop 8 ((List.take (List.length (List.drop 1 (List.take (List.length x0) x0))) (List.drop 1 (List.take (List.length x0) x0)))))) false _ hF
                  simp (maxSteps := 999999) (disch := first | exact D (by decide) | exact K (by kernel_rfl)) only [E, EE, ↓reduceIte, simprocAttr, xk B49 [3, 2, 2, 2, 2, 1, 2, 2, 2, 1, 2, 2, 2, 1, 2, 1, 2, 2] .sk rfl, h2, h3, h4, h5, hc8, h10, h11, h12, hc15, h17, hc20, h22]
                  try simp only [NM, EE] at hJ
                  exact hJ
          · have hJ := f49_r_l1_j4_ok k ((List.drop 8 ((List.take (List.length (List.drop 1 (List.take (List.length x0) x0))) (List.drop 1 (List.take (List.length x0) x0)))))) false _ hF
            simp (maxSteps := 999999) (disch := first | exact D (by decide) | exact K (by kernel_rfl)) only [E, EE, ↓reduceIte, simprocAttr, xk B49 [2, 2, 2, 2, 1, 2, 2, 2, 1, 2, 2, 2, 1, 2, 1, 2, 2] (.cd 46) rfl, xk B49 [3, 2, 2, 2, 2, 1, 2, 2, 2, 1, 2, 2, 2, 1, 2, 1, 2, 2] .sk rfl, h2, h3, h4, h5, hc8, h10, h11, h12]
            try simp only [NM, EE] at hJ
            exact hJ
        · have hJ := f49_r_l1_j5_ok k (List.drop 1 (List.take (List.length x0) x0)) false _ hF
          simp (maxSteps := 999999) (disch := first | exact D (by decide) | exact K (by kernel_rfl)) only [E, EE, ↓reduceIte, simprocAttr, xk B49 [3, 2, 1, 2, 2, 2, 1, 2, 2, 2, 1, 2, 1, 2, 2] .sk rfl, h2, h3, h4, h5, hc8, h10]
          try simp only [NM, EE] at hJ
          exact hJ
    · have hJ := f49_r_l1_j5_ok k (List.drop 1 (List.take (List.length x0) x0)) false _ hF
      simp (maxSteps := 999999) (disch := first | exact D (by decide) | exact K (by kernel_rfl)) only [E, EE, ↓reduceIte, simprocAttr, xk B49 [2, 1, 2, 2, 2, 1, 2, 2, 2, 1, 2, 1, 2, 2] (.cd 31) rfl, xk B49 [3, 2, 1, 2, 2, 2, 1, 2, 2, 2, 1, 2, 1, 2, 2] .sk rfl, h2, h3, h4, h5]
      try simp only [NM, EE] at hJ
      exact hJ
  · have hJ := f49_r_l1_j6_ok k x0 v1 false _ hF
    simp (maxSteps := 999999) (disch := first | exact D (by decide) | exact K (by kernel_rfl)) only [E, EE, ↓reduceIte, simprocAttr, xk B49 [3, 2, 1, 2, 2, 2, 1, 2, 1, 2, 2] .sk rfl, h2, h3]
    try simp only [NM, EE] at hJ
    exact hJ
noncomputable def f49_r_l1_b (k : Nat) (x0 : List Int) : Option R49_r_l1 :=
  cond ((decide (((List.length x0) : Int) > 0)))
    (f49_r_l1_j1 k x0 true)
    (some (R49_r_l1.o3 x0 false))
theorem f49_r_l1_b_ok (k : Nat) (x0 : List Int) (r : R49_r_l1) (hF : f49_r_l1_b k x0 = some r) : EX 49 k (nav B49 [1, 2, 1, 2, 2]) ({ n := 188, F := [(0, V.sl 1 (rowsOf (encI .u8) x0))], M := [] } : St) = some r.st := by
  unfold f49_r_l1_b at hF
  simp (maxSteps := 999999) (disch := first | exact D (by decide) | exact K (by kernel_rfl)) only [E, EE, ↓reduceIte, simprocAttr, xk B49 [1, 2, 1, 2, 2] .sq rfl, xk B49 [1, 1, 2, 1, 2, 2] .sq rfl, show (nav B49 [1, 1, 1, 2, 1, 2, 2]) = Code.region 2 _ false from rfl, hk_49_2, hz_49_2, hs_49_2, u_22, i_22, is_22, ib_22, iz_22, xk B49 [2, 1, 1, 2, 1, 2, 2] (.cd 15) rfl]
  replace hF := cond_some hF
  rcases hF with ⟨h1, hF⟩ | ⟨h1, hF⟩
  · have hJ := f49_r_l1_j1_ok k x0 true _ hF
    simp (maxSteps := 999999) (disch := first | exact D (by decide) | exact K (by kernel_rfl)) only [E, EE, ↓reduceIte, simprocAttr, xk B49 [2, 2, 1, 1, 2, 1, 2, 2] .sk rfl, h1]
    try simp only [NM, EE] at hJ
    exact hJ
  · cases hF
    simp (maxSteps := 999999) (disch := first | exact D (by decide) | exact K (by kernel_rfl)) only [E, EE, ↓reduceIte, simprocAttr, xk B49 [3, 2, 1, 1, 2, 1, 2, 2] (.ex 0) rfl, R49_r_l1.st, h1]
noncomputable def f49_r_l1 (k : Nat) : Nat → (List Int) → Option R49_r_l1
  | 0, _ => none
  | n + 1, x0 => Option.bind (f49_r_l1_b k x0) fun o =>
    match o with
    | .o0 y y_1 => f49_r_l1 k n y
    | .o1 y y_1 => f49_r_l1 k n y
    | .o2 y y_1 => f49_r_l1 k n y
    | .o3 y y_1 => some (.o3 y y_1)
theorem f49_r_l1_ok (k n : Nat) : ∀ (x0 : List Int) (r : R49_r_l1) (hF : f49_r_l1 k n x0 = some r) (σ : St) (hσ : headR (hints.head 49 2) (hints.canon 49 2) σ = some ({ n := 188, F := [(0, V.sl 1 (rowsOf (encI .u8) x0))], M := [] } : St)), LP 49 k (nav B49 [1, 2, 1, 2, 2]) n σ = some r.st := by
  induction n with
  | zero => intro x0 r hF; cases hF
  | succ n ih =>
    intro x0 r hF σ hσ
    rw [f49_r_l1] at hF
    obtain ⟨o, h, hF⟩ := Option.bind_eq_some_iff.1 hF
    have hB := f49_r_l1_b_ok k x0 o h
    unfold LP at ih ⊢
    unfold EX at hB
    rw [loopK_succ, show firstReg (nav B49 [1, 2, 1, 2, 2]) = 2 from rfl, hσ, headK_some, hB]
    cases o with
    | o0 y y_1 =>
      refine ih y r hF _ ?_
      simp (maxSteps := 999999) (disch := first | exact D (by decide) | exact K (by kernel_rfl)) only [E, EE, ↓reduceIte, simprocAttr, hh_49_2, hc_49_2]
    | o1 y y_1 =>
      refine ih y r hF _ ?_
      simp (maxSteps := 999999) (disch := first | exact D (by decide) | exact K (by kernel_rfl)) only [E, EE, ↓reduceIte, simprocAttr, hh_49_2, hc_49_2]
    | o2 y y_1 =>
      refine ih y r hF _ ?_
      simp (maxSteps := 999999) (disch := first | exact D (by decide) | exact K (by kernel_rfl)) only [E, EE, ↓reduceIte, simprocAttr, hh_49_2, hc_49_2]
    | o3 y y_1 => cases hF; rfl
noncomputable def f49_r_j2 (k : Nat) (x0 : List Int) (x15 : Bool) : Option R49_r :=
  some (R49_r.o0 true)
theorem f49_r_j2_ok (k : Nat) (x0 : List Int) (x15 : Bool) (r : R49_r) (hF : f49_r_j2 k x0 x15 = some r) : finK Tryd.prog Tryd.f49 0 (EX 49 k (nav B49 [2, 2, 2]) ({ n := 188, F := [(0, V.sl 1 (rowsOf (encI .u8) x0)), (15, V.p (Value.bool x15))], M := [] } : St)) = some r.st := by
  unfold f49_r_j2 at hF
  cases hF
  simp (maxSteps := 999999) (disch := first | exact D (by decide) | exact K (by kernel_rfl)) only [E, EE, ↓reduceIte, simprocAttr, xk B49 [2, 2, 2] .sq rfl, show (nav B49 [1, 2, 2, 2]) = Code.region 29 _ false from rfl, hk_49_29, hz_49_29, hs_49_29, xk B49 [2, 2, 2, 2] .rt rfl, finK_norm, finK_ret, fin49, R49_r.st]
noncomputable def f49_r_e (k : Nat) (a0 : List Int) : Option R49_r :=
  ifE ((0 : Int) ≤ ((List.length a0) : Int)) (
    ifE ((Int.toNat ((List.length a0) : Int)) ≤ (List.length a0)) (
      Option.bind (f49_r_l1 k k (List.take (Int.toNat ((List.length a0) : Int)) a0)) fun o3 =>
        match o3 with
        | .o0 _ _ =>
          none
        | .o1 _ _ =>
          none
        | .o2 _ _ =>
          none
        | .o3 v6 v7 =>
          f49_r_j2 k v6 v7))
theorem f49_r_e_ok (k : Nat) (a0 : List Int) (r : R49_r) (hF : f49_r_e k a0 = some r) : finK Tryd.prog Tryd.f49 0 (EX 49 k (nav B49 []) ({ n := 188, F := [(0, V.sl 1 (rowsOf (encI .u8) a0))], M := [] } : St)) = some r.st := by
  unfold f49_r_e at hF
  replace hF := ifE_some.1 hF
  obtain ⟨h1, hF⟩ := hF
  replace hF := ifE_some.1 hF
  obtain ⟨h2, hF⟩ := hF
  replace hF := Option.bind_eq_some_iff.1 hF
  obtain ⟨o3, h4, hF⟩ := hF
  have hc5 := f49_r_l1_ok k k (List.take (Int.toNat ((List.length a0) : Int)) a0) _ h4
  simp (maxSteps := 999999) (disch := first | exact D (by decide) | exact K (by kernel_rfl)) only [E, EE, ↓reduceIte, simprocAttr, xk B49 [] .sq rfl, show (nav B49 [1]) = Code.region 0 _ false from rfl, hk_49_0, hz_49_0, hs_49_0, xk B49 [2] .sq rfl, show (nav B49 [1, 2]) = Code.region 1 _ false from rfl, hk_49_1, hz_49_1, hs_49_1, u_22, i_22, is_22, ib_22, iz_22, sliceV, bound, u_5, i_5, is_5, ib_5, iz_5, xk B49 [2, 2] .sq rfl, xk B49 [1, 2, 2] (.bk 0) rfl, xk B49 [2, 1, 2, 2] .lp rfl, hh_49_2, hc_49_2, h1, h2]
  (try simp only [NM, EE] at hc5)
  rw [hc5 _ (by simp (maxSteps := 999999) (disch := first | exact D (by decide) | exact K (by kernel_rfl)) only [E, EE, ↓reduceIte, simprocAttr, hh_49_2, hc_49_2, h1, h2])]
  clear hc5
  cases o3 with
  | o0 _ _ =>
    (try dsimp only at hF)
    cases hF
  | o1 _ _ =>
    (try dsimp only at hF)
    cases hF
  | o2 _ _ =>
    (try dsimp only at hF)
    cases hF
  | o3 v6 v7 =>
    (try dsimp only at hF)
    have hJ := f49_r_j2_ok k v6 v7 _ hF
    simp (maxSteps := 999999) (disch := first | exact D (by decide) | exact K (by kernel_rfl)) only [E, EE, ↓reduceIte, simprocAttr, R49_r_l1.st, h1, h2]
    try simp only [NM, EE] at hJ
    exact hJ
noncomputable def f49_r (k : Nat) (a0 : List Int) : Option R49_r := match k with | 0 => none | k + 1 => f49_r_e k a0
theorem f49_r_ok (k : Nat) (a0 : List Int) (r : R49_r) (hF : f49_r k a0 = some r) : CV k 49 [V.sl 1 (rowsOf (encI .u8) a0)] [] = some r.st := by
  cases k with
  | zero => cases hF
  | succ k =>
    unfold CV
    rw [ev_call (F := Tryd.f49) (c := (nav B49 [])) rfl Tryd.func49 rfl rfl rfl rfl]
    exact f49_r_e_ok k a0 r hF
end Go.Proofs.YtbnnmplkbpgcaaaDoorV
