/- What the program's functions answer: plain functions, and that the interpreter answers what they do. Written by a program of this session, out of the translation. -/
import Derived.Test.YtbnnmplkbpgcaaaDoorVP7
namespace Go.Proofs.YtbnnmplkbpgcaaaDoorV
open Go
set_option linter.unusedVariables false
set_option linter.unusedSimpArgs false
set_option maxRecDepth 8000
set_option maxHeartbeats 4000000
-- f18_ai10rz: f18 heliograph/heliographref09.Bytes
inductive R18_ai10rz where
  | o0 (y : List Int)
noncomputable def R18_ai10rz.st : R18_ai10rz → V × List O × List O
  | .o0 y => (V.own 2000000, [], [O.row true 1 5 (rowsOf (encI .u8) y)])
inductive R18_ai10rz_l1 where
  | o0 (y y_1 y_2 y_3 y_4 y_5 y_6 y_7 y_8 y_9 y_10 : Int) (y_11 y_12 y_13 : List Int)
  | o1 (y : Int) (y_1 : Bool) (y_2 y_3 y_4 y_5 y_6 y_7 y_8 y_9 y_10 y_11 : Int) (y_12 y_13 y_14 : List Int)
noncomputable def R18_ai10rz_l1.st : R18_ai10rz_l1 → Out × St
  | .o0 y y_1 y_2 y_3 y_4 y_5 y_6 y_7 y_8 y_9 y_10 y_11 y_12 y_13 => (.norm, ({ n := 70, F := [(1, V.ptr 30000 0), (3, V.own 42), (4, V.own 30002), (5, V.p (Value.int .i64 y))], M := [(30000, O.box 26 [V.p (Value.int .i64 y_1), V.p (Value.int .i64 y_2), V.p (Value.int .u32 y_3), V.p (Value.int .i64 y_4), V.p (Value.int .i64 y_5), V.p (Value.int .i64 y_6), V.p (Value.int .i64 y_7), V.p (Value.int .i64 y_8), V.p (Value.int .i64 y_9), V.p (Value.int .i64 y_10), V.sl 1 (rowsOf (encI .u8) y_11)]), (42, O.row true 1 5 (rowsOf (encI .u8) y_12)), (30002, O.row true 1 3 (rowsOf (encI .i64) y_13))] } : St))
  | .o1 y y_1 y_2 y_3 y_4 y_5 y_6 y_7 y_8 y_9 y_10 y_11 y_12 y_13 y_14 => (.exit 0, ({ n := 70, F := [(1, V.ptr 30000 0), (3, V.own 30001), (4, V.own 30002), (5, V.p (Value.int .i64 y)), (32, V.p (Value.bool y_1))], M := [(30000, O.box 26 [V.p (Value.int .i64 y_2), V.p (Value.int .i64 y_3), V.p (Value.int .u32 y_4), V.p (Value.int .i64 y_5), V.p (Value.int .i64 y_6), V.p (Value.int .i64 y_7), V.p (Value.int .i64 y_8), V.p (Value.int .i64 y_9), V.p (Value.int .i64 y_10), V.p (Value.int .i64 y_11), V.sl 1 (rowsOf (encI .u8) y_12)]), (30001, O.row true 1 5 (rowsOf (encI .u8) y_13)), (30002, O.row true 1 3 (rowsOf (encI .i64) y_14))] } : St))
noncomputable def f18_ai10rz_l1_j2 (k : Nat) (x5 h0_ h0__1 h0__2 h0__3 h0__4 h0__5 h0__6 h0__7 h0__8 h0__9 : Int) (h0__10 m42 h2_ : List Int) : Option R18_ai10rz_l1 :=
  some (R18_ai10rz_l1.o0 (IntKind.i64.wrap (x5 + (1 : Int))) h0_ h0__1 h0__2 h0__3 h0__4 h0__5 h0__6 h0__7 h0__8 h0__9 h0__10 m42 h2_)
theorem f18_ai10rz_l1_j2_ok (k : Nat) (x5 h0_ h0__1 h0__2 h0__3 h0__4 h0__5 h0__6 h0__7 h0__8 h0__9 : Int) (h0__10 m42 h2_ : List Int) (r : R18_ai10rz_l1) (hF : f18_ai10rz_l1_j2 k x5 h0_ h0__1 h0__2 h0__3 h0__4 h0__5 h0__6 h0__7 h0__8 h0__9 h0__10 m42 h2_ = some r) : EX 18 k (nav B18 [2, 2, 1, 2, 2, 1, 2, 2, 2]) ({ n := 70, F := [(1, V.ptr 30000 0), (3, V.own 42), (4, V.own 30002), (5, V.p (Value.int .i64 x5))], M := [(30000, O.box 26 [V.p (Value.int .i64 h0_), V.p (Value.int .i64 h0__1), V.p (Value.int .u32 h0__2), V.p (Value.int .i64 h0__3), V.p (Value.int .i64 h0__4), V.p (Value.int .i64 h0__5), V.p (Value.int .i64 h0__6), V.p (Value.int .i64 h0__7), V.p (Value.int .i64 h0__8), V.p (Value.int .i64 h0__9), V.sl 1 (rowsOf (encI .u8) h0__10)]), (42, O.row true 1 5 (rowsOf (encI .u8) m42)), (30002, O.row true 1 3 (rowsOf (encI .i64) h2_))] } : St) = some r.st := by
  unfold f18_ai10rz_l1_j2 at hF
  cases hF
  simp (maxSteps := 999999) (disch := first | exact D (by decide) | exact K (by kernel_rfl)) only [E, EE, ↓reduceIte, simprocAttr, show (nav B18 [2, 2, 1, 2, 2, 1, 2, 2, 2]) = Code.region 5 _ false from rfl, hk_18_5, hz_18_5, hs_18_5, R18_ai10rz_l1.st]
noncomputable def f18_ai10rz_l1_j1 (k : Nat) (x5 : Int) (x32 : Bool) (h0_ h0__1 h0__2 h0__3 h0__4 h0__5 h0__6 h0__7 h0__8 h0__9 : Int) (h0__10 h1_ h2_ : List Int) : Option R18_ai10rz_l1 :=
  ifE ((0 : Int) ≤ x5) (
    ifE (x5 < ((List.length h2_) : Int)) (
      Option.bind (h2_[(Int.toNat x5)]?) fun v3 =>
        Option.bind (f39_ii k 0 (IntKind.u64.wrap v3)) fun o5 =>
          match o5 with
          | .o0 v8 =>
            Option.bind (f40_rr k h1_ v8) fun o9 =>
              match o9 with
              | .o0 v12 =>
                f18_ai10rz_l1_j2 k x5 h0_ h0__1 h0__2 h0__3 h0__4 h0__5 h0__6 h0__7 h0__8 h0__9 h0__10 v12 h2_))
theorem f18_ai10rz_l1_j1_ok (k : Nat) (x5 : Int) (x32 : Bool) (h0_ h0__1 h0__2 h0__3 h0__4 h0__5 h0__6 h0__7 h0__8 h0__9 : Int) (h0__10 h1_ h2_ : List Int) (r : R18_ai10rz_l1) (hF : f18_ai10rz_l1_j1 k x5 x32 h0_ h0__1 h0__2 h0__3 h0__4 h0__5 h0__6 h0__7 h0__8 h0__9 h0__10 h1_ h2_ = some r) : EX 18 k (nav B18 [2, 1, 2, 2, 1, 2, 2, 2]) ({ n := 70, F := [(1, V.ptr 30000 0), (3, V.own 30001), (4, V.own 30002), (5, V.p (Value.int .i64 x5)), (32, V.p (Value.bool x32))], M := [(30000, O.box 26 [V.p (Value.int .i64 h0_), V.p (Value.int .i64 h0__1), V.p (Value.int .u32 h0__2), V.p (Value.int .i64 h0__3), V.p (Value.int .i64 h0__4), V.p (Value.int .i64 h0__5), V.p (Value.int .i64 h0__6), V.p (Value.int .i64 h0__7), V.p (Value.int .i64 h0__8), V.p (Value.int .i64 h0__9), V.sl 1 (rowsOf (encI .u8) h0__10)]), (30001, O.row true 1 5 (rowsOf (encI .u8) h1_)), (30002, O.row true 1 3 (rowsOf (encI .i64) h2_))] } : St) = some r.st := by
  unfold f18_ai10rz_l1_j1 at hF
  replace hF := ifE_some.1 hF
  obtain ⟨h1, hF⟩ := hF
  replace hF := ifE_some.1 hF
  obtain ⟨h2, hF⟩ := hF
  replace hF := Option.bind_eq_some_iff.1 hF
  obtain ⟨v3, h4, hF⟩ := hF
  replace hF := Option.bind_eq_some_iff.1 hF
  obtain ⟨o5, h6, hF⟩ := hF
  have hc7 := f39_ii_ok k 0 (IntKind.u64.wrap v3) _ h6
  cases o5 with
  | o0 v8 =>
    (try dsimp only at hF)
    (try simp only [NM, EE, R39_ii.st] at hc7)
    replace hF := Option.bind_eq_some_iff.1 hF
    obtain ⟨o9, h10, hF⟩ := hF
    have hc11 := f40_rr_ok k h1_ v8 _ h10
    cases o9 with
    | o0 v12 =>
      (try dsimp only at hF)
      (try simp only [NM, EE, R40_rr.st] at hc11)
      have hJ := f18_ai10rz_l1_j2_ok k x5 h0_ h0__1 h0__2 h0__3 h0__4 h0__5 h0__6 h0__7 h0__8 h0__9 h0__10 v12 h2_ _ hF
      simp (maxSteps := 999999) (disch := first | exact D (by decide) | exact K (by kernel_rfl)) only [E, EE, ↓reduceIte, simprocAttr, xk B18 [2, 1, 2, 2, 1, 2, 2, 2] .sq rfl, xk B18 [1, 2, 1, 2, 2, 1, 2, 2, 2] (.bk 1) rfl, show (nav B18 [2, 1, 2, 1, 2, 2, 1, 2, 2, 2]) = Code.region 6 _ false from rfl, hk_18_6, hz_18_6, hs_18_6, indexAddrV, u_66, i_66, is_66, ib_66, iz_66, u_3, i_3, is_3, ib_3, iz_3, encI_eq, u_47, i_47, is_47, ib_47, iz_47, convV, callStep, CL, gv, List.contains, h1, h2, h4, hc7, hc11]
      try simp only [NM, EE] at hJ
      exact hJ
noncomputable def f18_ai10rz_l1_b (k : Nat) (x5 h0_ h0__1 h0__2 h0__3 h0__4 h0__5 h0__6 h0__7 h0__8 h0__9 : Int) (h0__10 h1_ h2_ : List Int) : Option R18_ai10rz_l1 :=
  cond ((decide (x5 < ((List.length h2_) : Int))))
    (f18_ai10rz_l1_j1 k x5 true h0_ h0__1 h0__2 h0__3 h0__4 h0__5 h0__6 h0__7 h0__8 h0__9 h0__10 h1_ h2_)
    (some (R18_ai10rz_l1.o1 x5 false h0_ h0__1 h0__2 h0__3 h0__4 h0__5 h0__6 h0__7 h0__8 h0__9 h0__10 h1_ h2_))
theorem f18_ai10rz_l1_b_ok (k : Nat) (x5 h0_ h0__1 h0__2 h0__3 h0__4 h0__5 h0__6 h0__7 h0__8 h0__9 : Int) (h0__10 h1_ h2_ : List Int) (r : R18_ai10rz_l1) (hF : f18_ai10rz_l1_b k x5 h0_ h0__1 h0__2 h0__3 h0__4 h0__5 h0__6 h0__7 h0__8 h0__9 h0__10 h1_ h2_ = some r) : EX 18 k (nav B18 [1, 2, 2, 1, 2, 2, 2]) ({ n := 70, F := [(1, V.ptr 30000 0), (3, V.own 30001), (4, V.own 30002), (5, V.p (Value.int .i64 x5))], M := [(30000, O.box 26 [V.p (Value.int .i64 h0_), V.p (Value.int .i64 h0__1), V.p (Value.int .u32 h0__2), V.p (Value.int .i64 h0__3), V.p (Value.int .i64 h0__4), V.p (Value.int .i64 h0__5), V.p (Value.int .i64 h0__6), V.p (Value.int .i64 h0__7), V.p (Value.int .i64 h0__8), V.p (Value.int .i64 h0__9), V.sl 1 (rowsOf (encI .u8) h0__10)]), (30001, O.row true 1 5 (rowsOf (encI .u8) h1_)), (30002, O.row true 1 3 (rowsOf (encI .i64) h2_))] } : St) = some r.st := by
  unfold f18_ai10rz_l1_b at hF
  simp (maxSteps := 999999) (disch := first | exact D (by decide) | exact K (by kernel_rfl)) only [E, EE, ↓reduceIte, simprocAttr, xk B18 [1, 2, 2, 1, 2, 2, 2] .sq rfl, xk B18 [1, 1, 2, 2, 1, 2, 2, 2] .sq rfl, show (nav B18 [1, 1, 1, 2, 2, 1, 2, 2, 2]) = Code.region 4 _ false from rfl, hk_18_4, hz_18_4, hs_18_4, u_66, i_66, is_66, ib_66, iz_66, xk B18 [2, 1, 1, 2, 2, 1, 2, 2, 2] (.cd 32) rfl]
  replace hF := cond_some hF
  rcases hF with ⟨h1, hF⟩ | ⟨h1, hF⟩
  · have hJ := f18_ai10rz_l1_j1_ok k x5 true h0_ h0__1 h0__2 h0__3 h0__4 h0__5 h0__6 h0__7 h0__8 h0__9 h0__10 h1_ h2_ _ hF
    simp (maxSteps := 999999) (disch := first | exact D (by decide) | exact K (by kernel_rfl)) only [E, EE, ↓reduceIte, simprocAttr, xk B18 [2, 2, 1, 1, 2, 2, 1, 2, 2, 2] .sk rfl, h1]
    try simp only [NM, EE] at hJ
    exact hJ
  · cases hF
    simp (maxSteps := 999999) (disch := first | exact D (by decide) | exact K (by kernel_rfl)) only [E, EE, ↓reduceIte, simprocAttr, xk B18 [3, 2, 1, 1, 2, 2, 1, 2, 2, 2] (.ex 0) rfl, R18_ai10rz_l1.st, h1]
noncomputable def f18_ai10rz_l1 (k : Nat) : Nat → Int → Int → Int → Int → Int → Int → Int → Int → Int → Int → Int → (List Int) → (List Int) → (List Int) → Option R18_ai10rz_l1
  | 0, _, _, _, _, _, _, _, _, _, _, _, _, _, _ => none
  | n + 1, x5, h0_, h0__1, h0__2, h0__3, h0__4, h0__5, h0__6, h0__7, h0__8, h0__9, h0__10, h1_, h2_ => Option.bind (f18_ai10rz_l1_b k x5 h0_ h0__1 h0__2 h0__3 h0__4 h0__5 h0__6 h0__7 h0__8 h0__9 h0__10 h1_ h2_) fun o =>
    match o with
    | .o0 y y_1 y_2 y_3 y_4 y_5 y_6 y_7 y_8 y_9 y_10 y_11 y_12 y_13 => f18_ai10rz_l1 k n y y_1 y_2 y_3 y_4 y_5 y_6 y_7 y_8 y_9 y_10 y_11 y_12 y_13
    | .o1 y y_1 y_2 y_3 y_4 y_5 y_6 y_7 y_8 y_9 y_10 y_11 y_12 y_13 y_14 => some (.o1 y y_1 y_2 y_3 y_4 y_5 y_6 y_7 y_8 y_9 y_10 y_11 y_12 y_13 y_14)
theorem f18_ai10rz_l1_ok (k n : Nat) : ∀ (x5 h0_ h0__1 h0__2 h0__3 h0__4 h0__5 h0__6 h0__7 h0__8 h0__9 : Int) (h0__10 h1_ h2_ : List Int) (r : R18_ai10rz_l1) (hF : f18_ai10rz_l1 k n x5 h0_ h0__1 h0__2 h0__3 h0__4 h0__5 h0__6 h0__7 h0__8 h0__9 h0__10 h1_ h2_ = some r) (σ : St) (hσ : headR (hints.head 18 4) (hints.canon 18 4) σ = some ({ n := 70, F := [(1, V.ptr 30000 0), (3, V.own 30001), (4, V.own 30002), (5, V.p (Value.int .i64 x5))], M := [(30000, O.box 26 [V.p (Value.int .i64 h0_), V.p (Value.int .i64 h0__1), V.p (Value.int .u32 h0__2), V.p (Value.int .i64 h0__3), V.p (Value.int .i64 h0__4), V.p (Value.int .i64 h0__5), V.p (Value.int .i64 h0__6), V.p (Value.int .i64 h0__7), V.p (Value.int .i64 h0__8), V.p (Value.int .i64 h0__9), V.sl 1 (rowsOf (encI .u8) h0__10)]), (30001, O.row true 1 5 (rowsOf (encI .u8) h1_)), (30002, O.row true 1 3 (rowsOf (encI .i64) h2_))] } : St)), LP 18 k (nav B18 [1, 2, 2, 1, 2, 2, 2]) n σ = some r.st := by
  induction n with
  | zero => intro x5 h0_ h0__1 h0__2 h0__3 h0__4 h0__5 h0__6 h0__7 h0__8 h0__9 h0__10 h1_ h2_ r hF; cases hF
  | succ n ih =>
    intro x5 h0_ h0__1 h0__2 h0__3 h0__4 h0__5 h0__6 h0__7 h0__8 h0__9 h0__10 h1_ h2_ r hF σ hσ
    rw [f18_ai10rz_l1] at hF
    obtain ⟨o, h, hF⟩ := Option.bind_eq_some_iff.1 hF
    have hB := f18_ai10rz_l1_b_ok k x5 h0_ h0__1 h0__2 h0__3 h0__4 h0__5 h0__6 h0__7 h0__8 h0__9 h0__10 h1_ h2_ o h
    unfold LP at ih ⊢
    unfold EX at hB
    rw [loopK_succ, show firstReg (nav B18 [1, 2, 2, 1, 2, 2, 2]) = 4 from rfl, hσ, headK_some, hB]
    cases o with
    | o0 y y_1 y_2 y_3 y_4 y_5 y_6 y_7 y_8 y_9 y_10 y_11 y_12 y_13 =>
      refine ih y y_1 y_2 y_3 y_4 y_5 y_6 y_7 y_8 y_9 y_10 y_11 y_12 y_13 r hF _ ?_
      simp (maxSteps := 999999) (disch := first | exact D (by decide) | exact K (by kernel_rfl)) only [E, EE, ↓reduceIte, simprocAttr, hh_18_4, hc_18_4]
    | o1 y y_1 y_2 y_3 y_4 y_5 y_6 y_7 y_8 y_9 y_10 y_11 y_12 y_13 y_14 => cases hF; rfl
noncomputable def f18_ai10rz_j2 (k : Nat) (x5 : Int) (x32 : Bool) (h0_ h0__1 h0__2 h0__3 h0__4 h0__5 h0__6 h0__7 h0__8 h0__9 : Int) (h0__10 h1_ h2_ : List Int) : Option R18_ai10rz :=
  Option.bind (f41_ri k h1_ 16) fun o1 =>
    match o1 with
    | .o0 v4 =>
      Option.bind (f41_ri k h0__10 32) fun o5 =>
        match o5 with
        | .o0 v8 =>
          Option.bind (f39_ii k 4 3) fun o9 =>
            match o9 with
            | .o0 v12 =>
              Option.bind (f39_ii k 2 (IntKind.u64.wrap ((List.length v4) : Int))) fun o13 =>
                match o13 with
                | .o0 v16 =>
                  Option.bind (f40_rr k v16 v4) fun o17 =>
                    match o17 with
                    | .o0 v20 =>
                      Option.bind (f40_rr k v12 v20) fun o21 =>
                        match o21 with
                        | .o0 v24 =>
                          Option.bind (f39_ii k 0 (IntKind.u64.wrap h0__6)) fun o25 =>
                            match o25 with
                            | .o0 v28 =>
                              Option.bind (f40_rr k v24 v28) fun o29 =>
                                match o29 with
                                | .o0 v32 =>
                                  Option.bind (f39_ii k 2 (IntKind.u64.wrap ((List.length v8) : Int))) fun o33 =>
                                    match o33 with
                                    | .o0 v36 =>
                                      Option.bind (f40_rr k v36 v8) fun o37 =>
                                        match o37 with
                                        | .o0 v40 =>
                                          Option.bind (f40_rr k v32 v40) fun o41 =>
                                            match o41 with
                                            | .o0 v44 =>
                                              some (R18_ai10rz.o0 v44)
theorem f18_ai10rz_j2_ok (k : Nat) (x5 : Int) (x32 : Bool) (h0_ h0__1 h0__2 h0__3 h0__4 h0__5 h0__6 h0__7 h0__8 h0__9 : Int) (h0__10 h1_ h2_ : List Int) (r : R18_ai10rz) (hF : f18_ai10rz_j2 k x5 x32 h0_ h0__1 h0__2 h0__3 h0__4 h0__5 h0__6 h0__7 h0__8 h0__9 h0__10 h1_ h2_ = some r) : finK Tryd.prog Tryd.f18 0 (EX 18 k (nav B18 [2, 2, 2, 2]) ({ n := 70, F := [(1, V.ptr 30000 0), (3, V.own 30001), (4, V.own 30002), (5, V.p (Value.int .i64 x5)), (32, V.p (Value.bool x32))], M := [(30000, O.box 26 [V.p (Value.int .i64 h0_), V.p (Value.int .i64 h0__1), V.p (Value.int .u32 h0__2), V.p (Value.int .i64 h0__3), V.p (Value.int .i64 h0__4), V.p (Value.int .i64 h0__5), V.p (Value.int .i64 h0__6), V.p (Value.int .i64 h0__7), V.p (Value.int .i64 h0__8), V.p (Value.int .i64 h0__9), V.sl 1 (rowsOf (encI .u8) h0__10)]), (30001, O.row true 1 5 (rowsOf (encI .u8) h1_)), (30002, O.row true 1 3 (rowsOf (encI .i64) h2_))] } : St)) = some r.st := by
  unfold f18_ai10rz_j2 at hF
  replace hF := Option.bind_eq_some_iff.1 hF
  obtain ⟨o1, h2, hF⟩ := hF
  have hc3 := f41_ri_ok k h1_ 16 _ h2
  cases o1 with
  | o0 v4 =>
    (try dsimp only at hF)
    (try simp only [NM, EE, R41_ri.st] at hc3)
    replace hF := Option.bind_eq_some_iff.1 hF
    obtain ⟨o5, h6, hF⟩ := hF
    have hc7 := f41_ri_ok k h0__10 32 _ h6
    cases o5 with
    | o0 v8 =>
      (try dsimp only at hF)
      (try simp only [NM, EE, R41_ri.st] at hc7)
      replace hF := Option.bind_eq_some_iff.1 hF
      obtain ⟨o9, h10, hF⟩ := hF
      have hc11 := f39_ii_ok k 4 3 _ h10
      cases o9 with
      | o0 v12 =>
        (try dsimp only at hF)
        (try simp only [NM, EE, R39_ii.st] at hc11)
        replace hF := Option.bind_eq_some_iff.1 hF
        obtain ⟨o13, h14, hF⟩ := hF
        have hc15 := f39_ii_ok k 2 (IntKind.u64.wrap ((List.length v4) : Int)) _ h14
        cases o13 with
        | o0 v16 =>
          (try dsimp only at hF)
          (try simp only [NM, EE, R39_ii.st] at hc15)
          replace hF := Option.bind_eq_some_iff.1 hF
          obtain ⟨o17, h18, hF⟩ := hF
          have hc19 := f40_rr_ok k v16 v4 _ h18
          cases o17 with
          | o0 v20 =>
            (try dsimp only at hF)
            (try simp only [NM, EE, R40_rr.st] at hc19)
            replace hF := Option.bind_eq_some_iff.1 hF
            obtain ⟨o21, h22, hF⟩ := hF
            have hc23 := f40_rr_ok k v12 v20 _ h22
            cases o21 with
            | o0 v24 =>
              (try dsimp only at hF)
              (try simp only [NM, EE, R40_rr.st] at hc23)
              replace hF := Option.bind_eq_some_iff.1 hF
              obtain ⟨o25, h26, hF⟩ := hF
              have hc27 := f39_ii_ok k 0 (IntKind.u64.wrap h0__6) _ h26
              cases o25 with
              | o0 v28 =>
                (try dsimp only at hF)
                (try simp only [NM, EE, R39_ii.st] at hc27)
                replace hF := Option.bind_eq_some_iff.1 hF
                obtain ⟨o29, h30, hF⟩ := hF
                have hc31 := f40_rr_ok k v24 v28 _ h30
                cases o29 with
                | o0 v32 =>
                  (try dsimp only at hF)
                  (try simp only [NM, EE, R40_rr.st] at hc31)
                  replace hF := Option.bind_eq_some_iff.1 hF
                  obtain ⟨o33, h34, hF⟩ := hF
                  have hc35 := f39_ii_ok k 2 (IntKind.u64.wrap ((List.length v8) : Int)) _ h34
                  cases o33 with
                  | o0 v36 =>
                    (try dsimp only at hF)
                    (try simp only [NM, EE, R39_ii.st] at hc35)
                    replace hF := Option.bind_eq_some_iff.1 hF
                    obtain ⟨o37, h38, hF⟩ := hF
                    have hc39 := f40_rr_ok k v36 v8 _ h38
                    cases o37 with
                    | o0 v40 =>
                      (try dsimp only at hF)
                      (try simp only [NM, EE, R40_rr.st] at hc39)
                      replace hF := Option.bind_eq_some_iff.1 hF
                      obtain ⟨o41, h42, hF⟩ := hF
                      have hc43 := f40_rr_ok k v32 v40 _ h42
                      cases o41 with
                      | o0 v44 =>
                        (try dsimp only at hF)
                        (try simp only [NM, EE, R40_rr.st] at hc43)
                        cases hF
                        simp (maxSteps := 999999) (disch := first | exact D (by decide) | exact K (by kernel_rfl)) only [E, EE, ↓reduceIte, simprocAttr, xk B18 [2, 2, 2, 2] .sq rfl, show (nav B18 [1, 2, 2, 2, 2]) = Code.region 7 _ false from rfl, hk_18_7, hz_18_7, hs_18_7, callStep, CL, gv, List.contains, xk B18 [2, 2, 2, 2, 2] .sq rfl, show (nav B18 [1, 2, 2, 2, 2, 2]) = Code.region 8 _ false from rfl, hk_18_8, hz_18_8, hs_18_8, fieldAddrV, u_26, i_26, is_26, ib_26, iz_26, u_22, i_22, is_22, ib_22, iz_22, xk B18 [2, 2, 2, 2, 2, 2] .sq rfl, show (nav B18 [1, 2, 2, 2, 2, 2, 2]) = Code.region 9 _ false from rfl, hk_18_9, hz_18_9, hs_18_9, u_3, i_3, is_3, ib_3, iz_3, u_47, i_47, is_47, ib_47, iz_47, convV, xk B18 [2, 2, 2, 2, 2, 2, 2] .sq rfl, show (nav B18 [1, 2, 2, 2, 2, 2, 2, 2]) = Code.region 10 _ false from rfl, hk_18_10, hz_18_10, hs_18_10, xk B18 [2, 2, 2, 2, 2, 2, 2, 2] .sq rfl, show (nav B18 [1, 2, 2, 2, 2, 2, 2, 2, 2]) = Code.region 11 _ false from rfl, hk_18_11, hz_18_11, hs_18_11, xk B18 [2, 2, 2, 2, 2, 2, 2, 2, 2] .rt rfl, finK_norm, finK_ret, fin18, R18_ai10rz.st, hc3, hc7, hc11, hc15, hc19, hc23, hc27, hc31, hc35, hc39, hc43]
noncomputable def f18_ai10rz_e (k : Nat) (a0 a0_1 a0_2 a0_3 a0_4 a0_5 a0_6 a0_7 a0_8 a0_9 : Int) (a0_10 : List Int) : Option R18_ai10rz :=
  Option.bind (f39_ii k 4 10) fun o1 =>
    match o1 with
    | .o0 v4 =>
      Option.bind (f18_ai10rz_l1 k k 0 a0 a0_1 a0_2 a0_3 a0_4 a0_5 a0_6 a0_7 a0_8 a0_9 a0_10 v4 ([7, a0_1, a0, (IntKind.i64.wrap a0_2), a0_3, a0_4, a0_8, a0_9, a0_7, a0_5] : List Int)) fun o7 =>
        match o7 with
        | .o0 _ _ _ _ _ _ _ _ _ _ _ _ _ _ =>
          none
        | .o1 v10 v11 v12 v13 v14 v15 v16 v17 v18 v19 v20 v21 v22 v23 v24 =>
          f18_ai10rz_j2 k v10 v11 v12 v13 v14 v15 v16 v17 v18 v19 v20 v21 v22 v23 v24
theorem f18_ai10rz_e_ok (k : Nat) (a0 a0_1 a0_2 a0_3 a0_4 a0_5 a0_6 a0_7 a0_8 a0_9 : Int) (a0_10 : List Int) (r : R18_ai10rz) (hF : f18_ai10rz_e k a0 a0_1 a0_2 a0_3 a0_4 a0_5 a0_6 a0_7 a0_8 a0_9 a0_10 = some r) : finK Tryd.prog Tryd.f18 0 (EX 18 k (nav B18 []) ({ n := 70, F := [(0, V.agg [V.p (Value.int .i64 a0), V.p (Value.int .i64 a0_1), V.p (Value.int .u32 a0_2), V.p (Value.int .i64 a0_3), V.p (Value.int .i64 a0_4), V.p (Value.int .i64 a0_5), V.p (Value.int .i64 a0_6), V.p (Value.int .i64 a0_7), V.p (Value.int .i64 a0_8), V.p (Value.int .i64 a0_9), V.sl 1 (rowsOf (encI .u8) a0_10)])], M := [] } : St)) = some r.st := by
  unfold f18_ai10rz_e at hF
  replace hF := Option.bind_eq_some_iff.1 hF
  obtain ⟨o1, h2, hF⟩ := hF
  have hc3 := f39_ii_ok k 4 10 _ h2
  cases o1 with
  | o0 v4 =>
    (try dsimp only at hF)
    (try simp only [NM, EE, R39_ii.st] at hc3)
    have q5 : [[V.p (Value.int .i64 7)], [V.p (Value.int .i64 a0_1)], [V.p (Value.int .i64 a0)], [V.p (Value.int .i64 (IntKind.i64.wrap a0_2))], [V.p (Value.int .i64 a0_3)], [V.p (Value.int .i64 a0_4)], [V.p (Value.int .i64 a0_8)], [V.p (Value.int .i64 a0_9)], [V.p (Value.int .i64 a0_7)], [V.p (Value.int .i64 a0_5)]] = rowsOf (encI .i64) ([7, a0_1, a0, (IntKind.i64.wrap a0_2), a0_3, a0_4, a0_8, a0_9, a0_7, a0_5] : List Int) := rfl
    have q6 : List.map (tell [0]) (rowsOf (encI .i64) ([7, a0_1, a0, (IntKind.i64.wrap a0_2), a0_3, a0_4, a0_8, a0_9, a0_7, a0_5] : List Int)) = rowsOf (encI .i64) ([7, a0_1, a0, (IntKind.i64.wrap a0_2), a0_3, a0_4, a0_8, a0_9, a0_7, a0_5] : List Int) := rfl
    replace hF := Option.bind_eq_some_iff.1 hF
    obtain ⟨o7, h8, hF⟩ := hF
    have hc9 := f18_ai10rz_l1_ok k k 0 a0 a0_1 a0_2 a0_3 a0_4 a0_5 a0_6 a0_7 a0_8 a0_9 a0_10 v4 ([7, a0_1, a0, (IntKind.i64.wrap a0_2), a0_3, a0_4, a0_8, a0_9, a0_7, a0_5] : List Int) _ h8
    simp (maxSteps := 999999) (disch := first | exact D (by decide) | exact K (by kernel_rfl)) only [E, EE, ↓reduceIte, simprocAttr, xk B18 [] .sq rfl, show (nav B18 [1]) = Code.region 0 _ false from rfl, hk_18_0, hz_18_0, hs_18_0, xk B18 [2] .sq rfl, show (nav B18 [1, 2]) = Code.region 1 _ false from rfl, hk_18_1, hz_18_1, hs_18_1, callStep, CL, gv, List.contains, xk B18 [2, 2] .sq rfl, show (nav B18 [1, 2, 2]) = Code.region 2 _ false from rfl, hk_18_2, hz_18_2, hs_18_2, fieldAddrV, u_26, i_26, is_26, ib_26, iz_26, u_3, i_3, is_3, ib_3, iz_3, u_24, i_24, is_24, ib_24, iz_24, convV, buildSliceV, fillRows, sm_3, u_66, i_66, is_66, ib_66, iz_66, xk B18 [2, 2, 2] .sq rfl, xk B18 [1, 2, 2, 2] .sq rfl, show (nav B18 [1, 1, 2, 2, 2]) = Code.region 3 _ false from rfl, hk_18_3, hz_18_3, hs_18_3, xk B18 [2, 1, 2, 2, 2] (.bk 0) rfl, xk B18 [2, 2, 1, 2, 2, 2] .lp rfl, hh_18_4, hc_18_4, hc3, q5, q6]
    (try simp only [NM, EE] at hc9)
    rw [hc9 _ (by simp (maxSteps := 999999) (disch := first | exact D (by decide) | exact K (by kernel_rfl)) only [E, EE, ↓reduceIte, simprocAttr, hh_18_4, hc_18_4, hc3, q5, q6])]
    clear hc9
    cases o7 with
    | o0 _ _ _ _ _ _ _ _ _ _ _ _ _ _ =>
      (try dsimp only at hF)
      cases hF
    | o1 v10 v11 v12 v13 v14 v15 v16 v17 v18 v19 v20 v21 v22 v23 v24 =>
      (try dsimp only at hF)
      have hJ := f18_ai10rz_j2_ok k v10 v11 v12 v13 v14 v15 v16 v17 v18 v19 v20 v21 v22 v23 v24 _ hF
      simp (maxSteps := 999999) (disch := first | exact D (by decide) | exact K (by kernel_rfl)) only [E, EE, ↓reduceIte, simprocAttr, R18_ai10rz_l1.st, hc3, q5, q6]
      try simp only [NM, EE] at hJ
      exact hJ
noncomputable def f18_ai10rz (k : Nat) (a0 a0_1 a0_2 a0_3 a0_4 a0_5 a0_6 a0_7 a0_8 a0_9 : Int) (a0_10 : List Int) : Option R18_ai10rz := match k with | 0 => none | k + 1 => f18_ai10rz_e k a0 a0_1 a0_2 a0_3 a0_4 a0_5 a0_6 a0_7 a0_8 a0_9 a0_10
theorem f18_ai10rz_ok (k : Nat) (a0 a0_1 a0_2 a0_3 a0_4 a0_5 a0_6 a0_7 a0_8 a0_9 : Int) (a0_10 : List Int) (r : R18_ai10rz) (hF : f18_ai10rz k a0 a0_1 a0_2 a0_3 a0_4 a0_5 a0_6 a0_7 a0_8 a0_9 a0_10 = some r) : CV k 18 [V.agg [V.p (Value.int .i64 a0), V.p (Value.int .i64 a0_1), V.p (Value.int .u32 a0_2), V.p (Value.int .i64 a0_3), V.p (Value.int .i64 a0_4), V.p (Value.int .i64 a0_5), V.p (Value.int .i64 a0_6), V.p (Value.int .i64 a0_7), V.p (Value.int .i64 a0_8), V.p (Value.int .i64 a0_9), V.sl 1 (rowsOf (encI .u8) a0_10)]] [] = some r.st := by
  cases k with
  | zero => cases hF
  | succ k =>
    unfold CV
    rw [ev_call (F := Tryd.f18) (c := (nav B18 [])) rfl Tryd.func18 rfl rfl rfl rfl]
    exact f18_ai10rz_e_ok k a0 a0_1 a0_2 a0_3 a0_4 a0_5 a0_6 a0_7 a0_8 a0_9 a0_10 r hF
-- f19_rr: f19 heliograph/heliographref01.Same
inductive R19_rr where
  | o0 (y : Bool)
noncomputable def R19_rr.st : R19_rr → V × List O × List O
  | .o0 y => (V.p (Value.bool y), [], [])
inductive R19_rr_l2 where
  | o0 (y : Bool)
  | o1 (y y_1 : List Int) (y_2 : Int)
  | o2 (y y_1 : List Int) (y_2 : Int) (y_3 : Bool)
noncomputable def R19_rr_l2.st : R19_rr_l2 → Out × St
  | .o0 y => (.ret, ({ n := 26, F := [(4, V.p (Value.bool y))], M := [] } : St))
  | .o1 y y_1 y_2 => (.norm, ({ n := 26, F := [(0, V.sl 1 (rowsOf (encI .u8) y)), (1, V.sl 1 (rowsOf (encI .u8) y_1)), (5, V.p (Value.int .i64 y_2))], M := [] } : St))
  | .o2 y y_1 y_2 y_3 => (.exit 0, ({ n := 26, F := [(0, V.sl 1 (rowsOf (encI .u8) y)), (1, V.sl 1 (rowsOf (encI .u8) y_1)), (5, V.p (Value.int .i64 y_2)), (14, V.p (Value.bool y_3))], M := [] } : St))
noncomputable def f19_rr_l2_j2 (k : Nat) (x0 x1 : List Int) (x5 : Int) (x25 : Bool) : Option R19_rr_l2 :=
  some (R19_rr_l2.o1 x0 x1 (IntKind.i64.wrap (x5 + (1 : Int))))
theorem f19_rr_l2_j2_ok (k : Nat) (x0 x1 : List Int) (x5 : Int) (x25 : Bool) (r : R19_rr_l2) (hF : f19_rr_l2_j2 k x0 x1 x5 x25 = some r) : EX 19 k (nav B19 [2, 2, 1, 2, 2, 1, 2, 2]) ({ n := 26, F := [(0, V.sl 1 (rowsOf (encI .u8) x0)), (1, V.sl 1 (rowsOf (encI .u8) x1)), (5, V.p (Value.int .i64 x5)), (25, V.p (Value.bool x25))], M := [] } : St) = some r.st := by
  unfold f19_rr_l2_j2 at hF
  cases hF
  simp (maxSteps := 999999) (disch := first | exact D (by decide) | exact K (by kernel_rfl)) only [E, EE, ↓reduceIte, simprocAttr, show (nav B19 [2, 2, 1, 2, 2, 1, 2, 2]) = Code.region 5 _ false from rfl, hk_19_5, hz_19_5, hs_19_5, R19_rr_l2.st]
noncomputable def f19_rr_l2_j1 (k : Nat) (x0 x1 : List Int) (x5 : Int) (x14 : Bool) : Option R19_rr_l2 :=
  ifE ((0 : Int) ≤ x5) (
    Option.bind (x0[(Int.toNat x5)]?) fun v2 =>
      Option.bind (x1[(Int.toNat x5)]?) fun v4 =>
        cond ((v2 != v4))
          (some (R19_rr_l2.o0 false))
          (f19_rr_l2_j2 k x0 x1 x5 false))
theorem f19_rr_l2_j1_ok (k : Nat) (x0 x1 : List Int) (x5 : Int) (x14 : Bool) (r : R19_rr_l2) (hF : f19_rr_l2_j1 k x0 x1 x5 x14 = some r) : EX 19 k (nav B19 [2, 1, 2, 2, 1, 2, 2]) ({ n := 26, F := [(0, V.sl 1 (rowsOf (encI .u8) x0)), (1, V.sl 1 (rowsOf (encI .u8) x1)), (5, V.p (Value.int .i64 x5)), (14, V.p (Value.bool x14))], M := [] } : St) = some r.st := by
  unfold f19_rr_l2_j1 at hF
  replace hF := ifE_some.1 hF
  obtain ⟨h1, hF⟩ := hF
  replace hF := Option.bind_eq_some_iff.1 hF
  obtain ⟨v2, h3, hF⟩ := hF
  replace hF := Option.bind_eq_some_iff.1 hF
  obtain ⟨v4, h5, hF⟩ := hF
  simp (maxSteps := 999999) (disch := first | exact D (by decide) | exact K (by kernel_rfl)) only [E, EE, ↓reduceIte, simprocAttr, xk B19 [2, 1, 2, 2, 1, 2, 2] .sq rfl, xk B19 [1, 2, 1, 2, 2, 1, 2, 2] (.bk 1) rfl, xk B19 [2, 1, 2, 1, 2, 2, 1, 2, 2] .sq rfl, show (nav B19 [1, 2, 1, 2, 1, 2, 2, 1, 2, 2]) = Code.region 6 _ true from rfl, hk_19_6, hz_19_6, hs_19_6, indexAddrV, u_22, i_22, is_22, ib_22, iz_22, u_5, i_5, is_5, ib_5, iz_5, encI_eq, xk B19 [2, 2, 1, 2, 1, 2, 2, 1, 2, 2] (.cd 25) rfl, h1, h3, h5]
  replace hF := cond_some hF
  rcases hF with ⟨h6, hF⟩ | ⟨h6, hF⟩
  · cases hF
    simp (maxSteps := 999999) (disch := first | exact D (by decide) | exact K (by kernel_rfl)) only [E, EE, ↓reduceIte, simprocAttr, xk B19 [2, 2, 2, 1, 2, 1, 2, 2, 1, 2, 2] .sq rfl, show (nav B19 [1, 2, 2, 2, 1, 2, 1, 2, 2, 1, 2, 2]) = Code.region 7 _ false from rfl, hk_19_7, hz_19_7, hs_19_7, xk B19 [2, 2, 2, 2, 1, 2, 1, 2, 2, 1, 2, 2] .rt rfl, R19_rr_l2.st, h1, h3, h5, h6]
  · have hJ := f19_rr_l2_j2_ok k x0 x1 x5 false _ hF
    simp (maxSteps := 999999) (disch := first | exact D (by decide) | exact K (by kernel_rfl)) only [E, EE, ↓reduceIte, simprocAttr, xk B19 [3, 2, 2, 1, 2, 1, 2, 2, 1, 2, 2] .sk rfl, h1, h3, h5, h6]
    try simp only [NM, EE] at hJ
    exact hJ
noncomputable def f19_rr_l2_b (k : Nat) (x0 x1 : List Int) (x5 : Int) : Option R19_rr_l2 :=
  cond ((decide (x5 < ((List.length x0) : Int))))
    (f19_rr_l2_j1 k x0 x1 x5 true)
    (some (R19_rr_l2.o2 x0 x1 x5 false))
theorem f19_rr_l2_b_ok (k : Nat) (x0 x1 : List Int) (x5 : Int) (r : R19_rr_l2) (hF : f19_rr_l2_b k x0 x1 x5 = some r) : EX 19 k (nav B19 [1, 2, 2, 1, 2, 2]) ({ n := 26, F := [(0, V.sl 1 (rowsOf (encI .u8) x0)), (1, V.sl 1 (rowsOf (encI .u8) x1)), (5, V.p (Value.int .i64 x5))], M := [] } : St) = some r.st := by
  unfold f19_rr_l2_b at hF
  simp (maxSteps := 999999) (disch := first | exact D (by decide) | exact K (by kernel_rfl)) only [E, EE, ↓reduceIte, simprocAttr, xk B19 [1, 2, 2, 1, 2, 2] .sq rfl, xk B19 [1, 1, 2, 2, 1, 2, 2] .sq rfl, show (nav B19 [1, 1, 1, 2, 2, 1, 2, 2]) = Code.region 4 _ false from rfl, hk_19_4, hz_19_4, hs_19_4, u_22, i_22, is_22, ib_22, iz_22, xk B19 [2, 1, 1, 2, 2, 1, 2, 2] (.cd 14) rfl]
  replace hF := cond_some hF
  rcases hF with ⟨h1, hF⟩ | ⟨h1, hF⟩
  · have hJ := f19_rr_l2_j1_ok k x0 x1 x5 true _ hF
    simp (maxSteps := 999999) (disch := first | exact D (by decide) | exact K (by kernel_rfl)) only [E, EE, ↓reduceIte, simprocAttr, xk B19 [2, 2, 1, 1, 2, 2, 1, 2, 2] .sk rfl, h1]
    try simp only [NM, EE] at hJ
    exact hJ
  · cases hF
    simp (maxSteps := 999999) (disch := first | exact D (by decide) | exact K (by kernel_rfl)) only [E, EE, ↓reduceIte, simprocAttr, xk B19 [3, 2, 1, 1, 2, 2, 1, 2, 2] (.ex 0) rfl, R19_rr_l2.st, h1]
noncomputable def f19_rr_l2 (k : Nat) : Nat → (List Int) → (List Int) → Int → Option R19_rr_l2
  | 0, _, _, _ => none
  | n + 1, x0, x1, x5 => Option.bind (f19_rr_l2_b k x0 x1 x5) fun o =>
    match o with
    | .o0 y => some (.o0 y)
    | .o1 y y_1 y_2 => f19_rr_l2 k n y y_1 y_2
    | .o2 y y_1 y_2 y_3 => some (.o2 y y_1 y_2 y_3)
theorem f19_rr_l2_ok (k n : Nat) : ∀ (x0 x1 : List Int) (x5 : Int) (r : R19_rr_l2) (hF : f19_rr_l2 k n x0 x1 x5 = some r) (σ : St) (hσ : headR (hints.head 19 4) (hints.canon 19 4) σ = some ({ n := 26, F := [(0, V.sl 1 (rowsOf (encI .u8) x0)), (1, V.sl 1 (rowsOf (encI .u8) x1)), (5, V.p (Value.int .i64 x5))], M := [] } : St)), LP 19 k (nav B19 [1, 2, 2, 1, 2, 2]) n σ = some r.st := by
  induction n with
  | zero => intro x0 x1 x5 r hF; cases hF
  | succ n ih =>
    intro x0 x1 x5 r hF σ hσ
    rw [f19_rr_l2] at hF
    obtain ⟨o, h, hF⟩ := Option.bind_eq_some_iff.1 hF
    have hB := f19_rr_l2_b_ok k x0 x1 x5 o h
    unfold LP at ih ⊢
    unfold EX at hB
    rw [loopK_succ, show firstReg (nav B19 [1, 2, 2, 1, 2, 2]) = 4 from rfl, hσ, headK_some, hB]
    cases o with
    | o0 y => cases hF; rfl
    | o1 y y_1 y_2 =>
      refine ih y y_1 y_2 r hF _ ?_
      simp (maxSteps := 999999) (disch := first | exact D (by decide) | exact K (by kernel_rfl)) only [E, EE, ↓reduceIte, simprocAttr, hh_19_4, hc_19_4]
    | o2 y y_1 y_2 y_3 => cases hF; rfl
noncomputable def f19_rr_j3 (k : Nat) (x0 x1 : List Int) (x5 : Int) (x14 : Bool) : Option R19_rr :=
  some (R19_rr.o0 true)
theorem f19_rr_j3_ok (k : Nat) (x0 x1 : List Int) (x5 : Int) (x14 : Bool) (r : R19_rr) (hF : f19_rr_j3 k x0 x1 x5 x14 = some r) : finK Tryd.prog Tryd.f19 0 (EX 19 k (nav B19 [2, 2, 2]) ({ n := 26, F := [(0, V.sl 1 (rowsOf (encI .u8) x0)), (1, V.sl 1 (rowsOf (encI .u8) x1)), (5, V.p (Value.int .i64 x5)), (14, V.p (Value.bool x14))], M := [] } : St)) = some r.st := by
  unfold f19_rr_j3 at hF
  cases hF
  simp (maxSteps := 999999) (disch := first | exact D (by decide) | exact K (by kernel_rfl)) only [E, EE, ↓reduceIte, simprocAttr, xk B19 [2, 2, 2] .sq rfl, show (nav B19 [1, 2, 2, 2]) = Code.region 8 _ false from rfl, hk_19_8, hz_19_8, hs_19_8, xk B19 [2, 2, 2, 2] .rt rfl, finK_norm, finK_ret, fin19, R19_rr.st]
noncomputable def f19_rr_j1 (k : Nat) (x0 x1 : List Int) (x10 : Bool) : Option R19_rr :=
  Option.bind (f19_rr_l2 k k x0 x1 0) fun o1 =>
    match o1 with
    | .o0 v4 =>
      some (R19_rr.o0 v4)
    | .o1 _ _ _ =>
      none
    | .o2 v5 v6 v7 v8 =>
      f19_rr_j3 k v5 v6 v7 v8
theorem f19_rr_j1_ok (k : Nat) (x0 x1 : List Int) (x10 : Bool) (r : R19_rr) (hF : f19_rr_j1 k x0 x1 x10 = some r) : finK Tryd.prog Tryd.f19 0 (EX 19 k (nav B19 [2, 2]) ({ n := 26, F := [(0, V.sl 1 (rowsOf (encI .u8) x0)), (1, V.sl 1 (rowsOf (encI .u8) x1)), (10, V.p (Value.bool x10))], M := [] } : St)) = some r.st := by
  unfold f19_rr_j1 at hF
  replace hF := Option.bind_eq_some_iff.1 hF
  obtain ⟨o1, h2, hF⟩ := hF
  have hc3 := f19_rr_l2_ok k k x0 x1 0 _ h2
  simp (maxSteps := 999999) (disch := first | exact D (by decide) | exact K (by kernel_rfl)) only [E, EE, ↓reduceIte, simprocAttr, xk B19 [2, 2] .sq rfl, xk B19 [1, 2, 2] .sq rfl, show (nav B19 [1, 1, 2, 2]) = Code.region 3 _ false from rfl, hk_19_3, hz_19_3, hs_19_3, xk B19 [2, 1, 2, 2] (.bk 0) rfl, xk B19 [2, 2, 1, 2, 2] .lp rfl, hh_19_4, hc_19_4]
  (try simp only [NM, EE] at hc3)
  rw [hc3 _ (by simp (maxSteps := 999999) (disch := first | exact D (by decide) | exact K (by kernel_rfl)) only [E, EE, ↓reduceIte, simprocAttr, hh_19_4, hc_19_4])]
  clear hc3
  cases o1 with
  | o0 v4 =>
    (try dsimp only at hF)
    cases hF
    simp (maxSteps := 999999) (disch := first | exact D (by decide) | exact K (by kernel_rfl)) only [E, EE, ↓reduceIte, simprocAttr, R19_rr_l2.st, finK_norm, finK_ret, fin19, R19_rr.st]
  | o1 _ _ _ =>
    (try dsimp only at hF)
    cases hF
  | o2 v5 v6 v7 v8 =>
    (try dsimp only at hF)
    have hJ := f19_rr_j3_ok k v5 v6 v7 v8 _ hF
    simp (maxSteps := 999999) (disch := first | exact D (by decide) | exact K (by kernel_rfl)) only [E, EE, ↓reduceIte, simprocAttr, R19_rr_l2.st]
    try simp only [NM, EE] at hJ
    exact hJ
noncomputable def f19_rr_e (k : Nat) (a0 a1 : List Int) : Option R19_rr :=
  cond ((((List.length a0) : Int) != ((List.length a1) : Int)))
    (some (R19_rr.o0 false))
    (f19_rr_j1 k a0 a1 false)
theorem f19_rr_e_ok (k : Nat) (a0 a1 : List Int) (r : R19_rr) (hF : f19_rr_e k a0 a1 = some r) : finK Tryd.prog Tryd.f19 0 (EX 19 k (nav B19 []) ({ n := 26, F := [(0, V.sl 1 (rowsOf (encI .u8) a0)), (1, V.sl 1 (rowsOf (encI .u8) a1))], M := [] } : St)) = some r.st := by
  unfold f19_rr_e at hF
  simp (maxSteps := 999999) (disch := first | exact D (by decide) | exact K (by kernel_rfl)) only [E, EE, ↓reduceIte, simprocAttr, xk B19 [] .sq rfl, show (nav B19 [1]) = Code.region 0 _ false from rfl, hk_19_0, hz_19_0, hs_19_0, xk B19 [2] .sq rfl, xk B19 [1, 2] .sq rfl, show (nav B19 [1, 1, 2]) = Code.region 1 _ false from rfl, hk_19_1, hz_19_1, hs_19_1, u_22, i_22, is_22, ib_22, iz_22, xk B19 [2, 1, 2] (.cd 10) rfl]
  replace hF := cond_some hF
  rcases hF with ⟨h1, hF⟩ | ⟨h1, hF⟩
  · cases hF
    simp (maxSteps := 999999) (disch := first | exact D (by decide) | exact K (by kernel_rfl)) only [E, EE, ↓reduceIte, simprocAttr, xk B19 [2, 2, 1, 2] .sq rfl, show (nav B19 [1, 2, 2, 1, 2]) = Code.region 2 _ false from rfl, hk_19_2, hz_19_2, hs_19_2, xk B19 [2, 2, 2, 1, 2] .rt rfl, finK_norm, finK_ret, fin19, R19_rr.st, h1]
  · have hJ := f19_rr_j1_ok k a0 a1 false _ hF
    simp (maxSteps := 999999) (disch := first | exact D (by decide) | exact K (by kernel_rfl)) only [E, EE, ↓reduceIte, simprocAttr, xk B19 [3, 2, 1, 2] .sk rfl, h1]
    try simp only [NM, EE] at hJ
    exact hJ
noncomputable def f19_rr (k : Nat) (a0 a1 : List Int) : Option R19_rr := match k with | 0 => none | k + 1 => f19_rr_e k a0 a1
theorem f19_rr_ok (k : Nat) (a0 a1 : List Int) (r : R19_rr) (hF : f19_rr k a0 a1 = some r) : CV k 19 [V.sl 1 (rowsOf (encI .u8) a0), V.sl 1 (rowsOf (encI .u8) a1)] [] = some r.st := by
  cases k with
  | zero => cases hF
  | succ k =>
    unfold CV
    rw [ev_call (F := Tryd.f19) (c := (nav B19 [])) rfl Tryd.func19 rfl rfl rfl rfl]
    exact f19_rr_e_ok k a0 a1 r hF
-- f6_ai10rz: f6 heliograph/heliographlaw09.BundleEncodes
inductive R6_ai10rz where
  | o0 (y : Bool)
noncomputable def R6_ai10rz.st : R6_ai10rz → V × List O × List O
  | .o0 y => (V.p (Value.bool y), [], [])
noncomputable def f6_ai10rz_j3 (k : Nat) (x3 : List Int) (x4 : Int) (x20 : Bool) (m1 m1_1 m1_2 m1_3 m1_4 m1_5 m1_6 m1_7 m1_8 m1_9 : Int) (m1_10 : List Int) : Option R6_ai10rz :=
  Option.bind (f18_ai10rz k m1 m1_1 m1_2 m1_3 m1_4 m1_5 m1_6 m1_7 m1_8 m1_9 m1_10) fun o1 =>
    match o1 with
    | .o0 v4 =>
      cond ((x4 == 0))
        (
          Option.bind (f13_ai10rz k m1 m1_1 m1_2 m1_3 m1_4 m1_5 m1_6 m1_7 m1_8 m1_9 m1_10) fun o6 =>
            match o6 with
            | .o0 v9 v10 v11 v12 v13 v14 v15 v16 v17 v18 v19 =>
              Option.bind (f16_ai10rz k v9 v10 v11 v12 v13 v14 v15 v16 v17 v18 v19) fun o20 =>
                match o20 with
                | .o0 v23 =>
                  cond ((v23 == 0))
                    (
                      Option.bind (f19_rr k x3 v4) fun o25 =>
                        match o25 with
                        | .o0 v28 =>
                          cond (v28)
                            (
                              Option.bind (f17_ai10rz k m1 m1_1 m1_2 m1_3 m1_4 m1_5 m1_6 m1_7 m1_8 m1_9 m1_10) fun o30 =>
                                match o30 with
                                | .o0 v33 =>
                                  cond ((v33 == ((List.length v4) : Int)))
                                    (some (R6_ai10rz.o0 (decide (((List.length v4) : Int) ≤ 512))))
                                    (some (R6_ai10rz.o0 false)))
                            (some (R6_ai10rz.o0 false)))
                    (some (R6_ai10rz.o0 false)))
        (some (R6_ai10rz.o0 false))
theorem f6_ai10rz_j3_ok (k : Nat) (x3 : List Int) (x4 : Int) (x20 : Bool) (m1 m1_1 m1_2 m1_3 m1_4 m1_5 m1_6 m1_7 m1_8 m1_9 : Int) (m1_10 : List Int) (r : R6_ai10rz) (hF : f6_ai10rz_j3 k x3 x4 x20 m1 m1_1 m1_2 m1_3 m1_4 m1_5 m1_6 m1_7 m1_8 m1_9 m1_10 = some r) : finK Tryd.prog Tryd.f6 0 (EX 6 k (nav B6 [2, 2, 2, 2, 2]) ({ n := 66, F := [(1, V.ptr 1 0), (3, V.sl 1 (rowsOf (encI .u8) x3)), (4, V.p (Value.int .i64 x4)), (20, V.p (Value.bool x20))], M := [(1, O.box 26 [V.p (Value.int .i64 m1), V.p (Value.int .i64 m1_1), V.p (Value.int .u32 m1_2), V.p (Value.int .i64 m1_3), V.p (Value.int .i64 m1_4), V.p (Value.int .i64 m1_5), V.p (Value.int .i64 m1_6), V.p (Value.int .i64 m1_7), V.p (Value.int .i64 m1_8), V.p (Value.int .i64 m1_9), V.sl 1 (rowsOf (encI .u8) m1_10)])] } : St)) = some r.st := by
  unfold f6_ai10rz_j3 at hF
  replace hF := Option.bind_eq_some_iff.1 hF
  obtain ⟨o1, h2, hF⟩ := hF
  have hc3 := f18_ai10rz_ok k m1 m1_1 m1_2 m1_3 m1_4 m1_5 m1_6 m1_7 m1_8 m1_9 m1_10 _ h2
  cases o1 with
  | o0 v4 =>
    (try dsimp only at hF)
    (try simp only [NM, EE, R18_ai10rz.st] at hc3)
    simp (maxSteps := 999999) (disch := first | exact D (by decide) | exact K (by kernel_rfl)) only [E, EE, ↓reduceIte, simprocAttr, xk B6 [2, 2, 2, 2, 2] .sq rfl, show (nav B6 [1, 2, 2, 2, 2, 2]) = Code.region 8 _ false from rfl, hk_6_8, hz_6_8, hs_6_8, u_26, i_26, is_26, ib_26, iz_26, callStep, CL, gv, List.contains, xk B6 [2, 2, 2, 2, 2, 2] .sq rfl, show (nav B6 [1, 2, 2, 2, 2, 2, 2]) = Code.region 9 _ false from rfl, hk_6_9, hz_6_9, hs_6_9, hc3]
    replace hF := cond_some hF
    rcases hF with ⟨h5, hF⟩ | ⟨h5, hF⟩
    · replace hF := Option.bind_eq_some_iff.1 hF
      obtain ⟨o6, h7, hF⟩ := hF
      have hc8 := f13_ai10rz_ok k m1 m1_1 m1_2 m1_3 m1_4 m1_5 m1_6 m1_7 m1_8 m1_9 m1_10 _ h7
      cases o6 with
      | o0 v9 v10 v11 v12 v13 v14 v15 v16 v17 v18 v19 =>
        (try dsimp only at hF)
        (try simp only [NM, EE, R13_ai10rz.st] at hc8)
        replace hF := Option.bind_eq_some_iff.1 hF
        obtain ⟨o20, h21, hF⟩ := hF
        have hc22 := f16_ai10rz_ok k v9 v10 v11 v12 v13 v14 v15 v16 v17 v18 v19 _ h21
        cases o20 with
        | o0 v23 =>
          (try dsimp only at hF)
          (try simp only [NM, EE, R16_ai10rz.st] at hc22)
          simp (maxSteps := 999999) (disch := first | exact D (by decide) | exact K (by kernel_rfl)) only [E, EE, ↓reduceIte, simprocAttr, u_26, i_26, is_26, ib_26, iz_26, callStep, CL, gv, List.contains, hc3, h5, hc8, hc22]
          replace hF := cond_some hF
          rcases hF with ⟨h24, hF⟩ | ⟨h24, hF⟩
          · replace hF := Option.bind_eq_some_iff.1 hF
            obtain ⟨o25, h26, hF⟩ := hF
            have hc27 := f19_rr_ok k x3 v4 _ h26
            cases o25 with
            | o0 v28 =>
              (try dsimp only at hF)
              (try simp only [NM, EE, R19_rr.st] at hc27)
              simp (maxSteps := 999999) (disch := first | exact D (by decide) | exact K (by kernel_rfl)) only [E, EE, ↓reduceIte, simprocAttr, callStep, CL, gv, List.contains, hc3, h5, hc8, hc22, h24, hc27]
              replace hF := cond_some hF
              rcases hF with ⟨h29, hF⟩ | ⟨h29, hF⟩
              · replace hF := Option.bind_eq_some_iff.1 hF
                obtain ⟨o30, h31, hF⟩ := hF
                have hc32 := f17_ai10rz_ok k m1 m1_1 m1_2 m1_3 m1_4 m1_5 m1_6 m1_7 m1_8 m1_9 m1_10 _ h31
                cases o30 with
                | o0 v33 =>
                  (try dsimp only at hF)
                  (try simp only [NM, EE, R17_ai10rz.st] at hc32)
                  simp (maxSteps := 999999) (disch := first | exact D (by decide) | exact K (by kernel_rfl)) only [E, EE, ↓reduceIte, simprocAttr, u_26, i_26, is_26, ib_26, iz_26, callStep, CL, gv, List.contains, u_22, i_22, is_22, ib_22, iz_22, hc3, h5, hc8, hc22, h24, hc27, h29, hc32]
                  replace hF := cond_some hF
                  rcases hF with ⟨h34, hF⟩ | ⟨h34, hF⟩
                  · cases hF
                    simp (maxSteps := 999999) (disch := first | exact D (by decide) | exact K (by kernel_rfl)) only [E, EE, ↓reduceIte, simprocAttr, u_22, i_22, is_22, ib_22, iz_22, xk B6 [2, 2, 2, 2, 2, 2, 2] .rt rfl, finK_norm, finK_ret, fin6, R6_ai10rz.st, hc3, h5, hc8, hc22, h24, hc27, h29, hc32, h34]
                  · cases hF
                    simp (maxSteps := 999999) (disch := first | exact D (by decide) | exact K (by kernel_rfl)) only [E, EE, ↓reduceIte, simprocAttr, xk B6 [2, 2, 2, 2, 2, 2, 2] .rt rfl, finK_norm, finK_ret, fin6, R6_ai10rz.st, hc3, h5, hc8, hc22, h24, hc27, h29, hc32, h34]
              · cases hF
                simp (maxSteps := 999999) (disch := first | exact D (by decide) | exact K (by kernel_rfl)) only [E, EE, ↓reduceIte, simprocAttr, xk B6 [2, 2, 2, 2, 2, 2, 2] .rt rfl, finK_norm, finK_ret, fin6, R6_ai10rz.st, hc3, h5, hc8, hc22, h24, hc27, h29]
          · cases hF
            simp (maxSteps := 999999) (disch := first | exact D (by decide) | exact K (by kernel_rfl)) only [E, EE, ↓reduceIte, simprocAttr, xk B6 [2, 2, 2, 2, 2, 2, 2] .rt rfl, finK_norm, finK_ret, fin6, R6_ai10rz.st, hc3, h5, hc8, hc22, h24]
    · cases hF
      simp (maxSteps := 999999) (disch := first | exact D (by decide) | exact K (by kernel_rfl)) only [E, EE, ↓reduceIte, simprocAttr, xk B6 [2, 2, 2, 2, 2, 2, 2] .rt rfl, finK_norm, finK_ret, fin6, R6_ai10rz.st, hc3, h5]
noncomputable def f6_ai10rz_j4 (k : Nat) (x4 : Int) (x20 : Bool) (m1 m1_1 m1_2 m1_3 m1_4 m1_5 m1_6 m1_7 m1_8 m1_9 : Int) (m1_10 m15 : List Int) : Option R6_ai10rz :=
  Option.bind (f18_ai10rz k m1 m1_1 m1_2 m1_3 m1_4 m1_5 m1_6 m1_7 m1_8 m1_9 m1_10) fun o1 =>
    match o1 with
    | .o0 v4 =>
      cond ((x4 == 0))
        (
          Option.bind (f13_ai10rz k m1 m1_1 m1_2 m1_3 m1_4 m1_5 m1_6 m1_7 m1_8 m1_9 m1_10) fun o6 =>
            match o6 with
            | .o0 v9 v10 v11 v12 v13 v14 v15 v16 v17 v18 v19 =>
              Option.bind (f16_ai10rz k v9 v10 v11 v12 v13 v14 v15 v16 v17 v18 v19) fun o20 =>
                match o20 with
                | .o0 v23 =>
                  cond ((v23 == 0))
                    (
                      Option.bind (f19_rr k m15 v4) fun o25 =>
                        match o25 with
                        | .o0 v28 =>
                          cond (v28)
                            (
                              Option.bind (f17_ai10rz k m1 m1_1 m1_2 m1_3 m1_4 m1_5 m1_6 m1_7 m1_8 m1_9 m1_10) fun o30 =>
                                match o30 with
                                | .o0 v33 =>
                                  cond ((v33 == ((List.length v4) : Int)))
                                    (some (R6_ai10rz.o0 (decide (((List.length v4) : Int) ≤ 512))))
                                    (some (R6_ai10rz.o0 false)))
                            (some (R6_ai10rz.o0 false)))
                    (some (R6_ai10rz.o0 false)))
        (some (R6_ai10rz.o0 false))
theorem f6_ai10rz_j4_ok (k : Nat) (x4 : Int) (x20 : Bool) (m1 m1_1 m1_2 m1_3 m1_4 m1_5 m1_6 m1_7 m1_8 m1_9 : Int) (m1_10 m15 : List Int) (r : R6_ai10rz) (hF : f6_ai10rz_j4 k x4 x20 m1 m1_1 m1_2 m1_3 m1_4 m1_5 m1_6 m1_7 m1_8 m1_9 m1_10 m15 = some r) : finK Tryd.prog Tryd.f6 0 (EX 6 k (nav B6 [2, 2, 2, 2, 2]) ({ n := 66, F := [(1, V.ptr 1 0), (3, V.own 15), (4, V.p (Value.int .i64 x4)), (20, V.p (Value.bool x20))], M := [(1, O.box 26 [V.p (Value.int .i64 m1), V.p (Value.int .i64 m1_1), V.p (Value.int .u32 m1_2), V.p (Value.int .i64 m1_3), V.p (Value.int .i64 m1_4), V.p (Value.int .i64 m1_5), V.p (Value.int .i64 m1_6), V.p (Value.int .i64 m1_7), V.p (Value.int .i64 m1_8), V.p (Value.int .i64 m1_9), V.sl 1 (rowsOf (encI .u8) m1_10)]), (15, O.row true 1 5 (rowsOf (encI .u8) m15))] } : St)) = some r.st := by
  unfold f6_ai10rz_j4 at hF
  replace hF := Option.bind_eq_some_iff.1 hF
  obtain ⟨o1, h2, hF⟩ := hF
  have hc3 := f18_ai10rz_ok k m1 m1_1 m1_2 m1_3 m1_4 m1_5 m1_6 m1_7 m1_8 m1_9 m1_10 _ h2
  cases o1 with
  | o0 v4 =>
    (try dsimp only at hF)
    (try simp only [NM, EE, R18_ai10rz.st] at hc3)
    simp (maxSteps := 999999) (disch := first | exact D (by decide) | exact K (by kernel_rfl)) only [E, EE, ↓reduceIte, simprocAttr, xk B6 [2, 2, 2, 2, 2] .sq rfl, show (nav B6 [1, 2, 2, 2, 2, 2]) = Code.region 8 _ false from rfl, hk_6_8, hz_6_8, hs_6_8, u_26, i_26, is_26, ib_26, iz_26, callStep, CL, gv, List.contains, xk B6 [2, 2, 2, 2, 2, 2] .sq rfl, show (nav B6 [1, 2, 2, 2, 2, 2, 2]) = Code.region 9 _ false from rfl, hk_6_9, hz_6_9, hs_6_9, hc3]
    replace hF := cond_some hF
    rcases hF with ⟨h5, hF⟩ | ⟨h5, hF⟩
    · replace hF := Option.bind_eq_some_iff.1 hF
      obtain ⟨o6, h7, hF⟩ := hF
      have hc8 := f13_ai10rz_ok k m1 m1_1 m1_2 m1_3 m1_4 m1_5 m1_6 m1_7 m1_8 m1_9 m1_10 _ h7
      cases o6 with
      | o0 v9 v10 v11 v12 v13 v14 v15 v16 v17 v18 v19 =>
        (try dsimp only at hF)
        (try simp only [NM, EE, R13_ai10rz.st] at hc8)
        replace hF := Option.bind_eq_some_iff.1 hF
        obtain ⟨o20, h21, hF⟩ := hF
        have hc22 := f16_ai10rz_ok k v9 v10 v11 v12 v13 v14 v15 v16 v17 v18 v19 _ h21
        cases o20 with
        | o0 v23 =>
          (try dsimp only at hF)
          (try simp only [NM, EE, R16_ai10rz.st] at hc22)
          simp (maxSteps := 999999) (disch := first | exact D (by decide) | exact K (by kernel_rfl)) only [E, EE, ↓reduceIte, simprocAttr, u_26, i_26, is_26, ib_26, iz_26, callStep, CL, gv, List.contains, hc3, h5, hc8, hc22]
          replace hF := cond_some hF
          rcases hF with ⟨h24, hF⟩ | ⟨h24, hF⟩
          · replace hF := Option.bind_eq_some_iff.1 hF
            obtain ⟨o25, h26, hF⟩ := hF
            have hc27 := f19_rr_ok k m15 v4 _ h26
            cases o25 with
            | o0 v28 =>
              (try dsimp only at hF)
              (try simp only [NM, EE, R19_rr.st] at hc27)
              simp (maxSteps := 999999) (disch := first | exact D (by decide) | exact K (by kernel_rfl)) only [E, EE, ↓reduceIte, simprocAttr, callStep, CL, gv, List.contains, hc3, h5, hc8, hc22, h24, hc27]
              replace hF := cond_some hF
              rcases hF with ⟨h29, hF⟩ | ⟨h29, hF⟩
              · replace hF := Option.bind_eq_some_iff.1 hF
                obtain ⟨o30, h31, hF⟩ := hF
                have hc32 := f17_ai10rz_ok k m1 m1_1 m1_2 m1_3 m1_4 m1_5 m1_6 m1_7 m1_8 m1_9 m1_10 _ h31
                cases o30 with
                | o0 v33 =>
                  (try dsimp only at hF)
                  (try simp only [NM, EE, R17_ai10rz.st] at hc32)
                  simp (maxSteps := 999999) (disch := first | exact D (by decide) | exact K (by kernel_rfl)) only [E, EE, ↓reduceIte, simprocAttr, u_26, i_26, is_26, ib_26, iz_26, callStep, CL, gv, List.contains, u_22, i_22, is_22, ib_22, iz_22, hc3, h5, hc8, hc22, h24, hc27, h29, hc32]
                  replace hF := cond_some hF
                  rcases hF with ⟨h34, hF⟩ | ⟨h34, hF⟩
                  · cases hF
                    simp (maxSteps := 999999) (disch := first | exact D (by decide) | exact K (by kernel_rfl)) only [E, EE, ↓reduceIte, simprocAttr, u_22, i_22, is_22, ib_22, iz_22, xk B6 [2, 2, 2, 2, 2, 2, 2] .rt rfl, finK_norm, finK_ret, fin6, R6_ai10rz.st, hc3, h5, hc8, hc22, h24, hc27, h29, hc32, h34]
                  · cases hF
                    simp (maxSteps := 999999) (disch := first | exact D (by decide) | exact K (by kernel_rfl)) only [E, EE, ↓reduceIte, simprocAttr, xk B6 [2, 2, 2, 2, 2, 2, 2] .rt rfl, finK_norm, finK_ret, fin6, R6_ai10rz.st, hc3, h5, hc8, hc22, h24, hc27, h29, hc32, h34]
              · cases hF
                simp (maxSteps := 999999) (disch := first | exact D (by decide) | exact K (by kernel_rfl)) only [E, EE, ↓reduceIte, simprocAttr, xk B6 [2, 2, 2, 2, 2, 2, 2] .rt rfl, finK_norm, finK_ret, fin6, R6_ai10rz.st, hc3, h5, hc8, hc22, h24, hc27, h29]
          · cases hF
            simp (maxSteps := 999999) (disch := first | exact D (by decide) | exact K (by kernel_rfl)) only [E, EE, ↓reduceIte, simprocAttr, xk B6 [2, 2, 2, 2, 2, 2, 2] .rt rfl, finK_norm, finK_ret, fin6, R6_ai10rz.st, hc3, h5, hc8, hc22, h24]
    · cases hF
      simp (maxSteps := 999999) (disch := first | exact D (by decide) | exact K (by kernel_rfl)) only [E, EE, ↓reduceIte, simprocAttr, xk B6 [2, 2, 2, 2, 2, 2, 2] .rt rfl, finK_norm, finK_ret, fin6, R6_ai10rz.st, hc3, h5]
noncomputable def f6_ai10rz_j2 (k : Nat) (x11 : Bool) (m1 m1_1 m1_2 m1_3 m1_4 m1_5 m1_6 m1_7 m1_8 m1_9 : Int) (m1_10 : List Int) : Option R6_ai10rz :=
  Option.bind (f13_ai10rz k m1 m1_1 m1_2 m1_3 m1_4 m1_5 m1_6 m1_7 m1_8 m1_9 m1_10) fun o1 =>
    match o1 with
    | .o0 v4 v5 v6 v7 v8 v9 v10 v11 v12 v13 v14 =>
      Option.bind (f14_ai10rz k v4 v5 v6 v7 v8 v9 v10 v11 v12 v13 v14) fun o15 =>
        match o15 with
        | .o0 v18 v19 =>
          Option.bind (f15_ai10rz k m1 m1_1 m1_2 m1_3 m1_4 m1_5 m1_6 m1_7 m1_8 m1_9 m1_10) fun o20 =>
            match o20 with
            | .o0 v23 =>
              cond ((!v23))
                (
                  cond ((((List.length v18) : Int) == 0))
                    (
                      cond ((v19 == 190))
                        (
                          Option.bind (f16_ai10rz k v4 v5 v6 v7 v8 v9 v10 v11 v12 v13 v14) fun o30 =>
                            match o30 with
                            | .o0 v33 =>
                              cond ((v33 == 190))
                                (
                                  Option.bind (f17_ai10rz k m1 m1_1 m1_2 m1_3 m1_4 m1_5 m1_6 m1_7 m1_8 m1_9 m1_10) fun o35 =>
                                    match o35 with
                                    | .o0 v38 =>
                                      some (R6_ai10rz.o0 (v38 == 0)))
                                (some (R6_ai10rz.o0 false)))
                        (some (R6_ai10rz.o0 false)))
                    (some (R6_ai10rz.o0 false)))
                (f6_ai10rz_j3 k v18 v19 false m1 m1_1 m1_2 m1_3 m1_4 m1_5 m1_6 m1_7 m1_8 m1_9 m1_10)
        | .o1 v39 v40 =>
          Option.bind (f15_ai10rz k m1 m1_1 m1_2 m1_3 m1_4 m1_5 m1_6 m1_7 m1_8 m1_9 m1_10) fun o41 =>
            match o41 with
            | .o0 v44 =>
              cond ((!v44))
                (
                  cond ((((List.length v40) : Int) == 0))
                    (
                      cond ((v39 == 190))
                        (
                          Option.bind (f16_ai10rz k v4 v5 v6 v7 v8 v9 v10 v11 v12 v13 v14) fun o51 =>
                            match o51 with
                            | .o0 v54 =>
                              cond ((v54 == 190))
                                (
                                  Option.bind (f17_ai10rz k m1 m1_1 m1_2 m1_3 m1_4 m1_5 m1_6 m1_7 m1_8 m1_9 m1_10) fun o56 =>
                                    match o56 with
                                    | .o0 v59 =>
                                      some (R6_ai10rz.o0 (v59 == 0)))
                                (some (R6_ai10rz.o0 false)))
                        (some (R6_ai10rz.o0 false)))
                    (some (R6_ai10rz.o0 false)))
                (f6_ai10rz_j4 k v39 false m1 m1_1 m1_2 m1_3 m1_4 m1_5 m1_6 m1_7 m1_8 m1_9 m1_10 v40)
theorem f6_ai10rz_j2_ok (k : Nat) (x11 : Bool) (m1 m1_1 m1_2 m1_3 m1_4 m1_5 m1_6 m1_7 m1_8 m1_9 : Int) (m1_10 : List Int) (r : R6_ai10rz) (hF : f6_ai10rz_j2 k x11 m1 m1_1 m1_2 m1_3 m1_4 m1_5 m1_6 m1_7 m1_8 m1_9 m1_10 = some r) : finK Tryd.prog Tryd.f6 0 (EX 6 k (nav B6 [2, 2, 2]) ({ n := 66, F := [(1, V.ptr 1 0), (11, V.p (Value.bool x11))], M := [(1, O.box 26 [V.p (Value.int .i64 m1), V.p (Value.int .i64 m1_1), V.p (Value.int .u32 m1_2), V.p (Value.int .i64 m1_3), V.p (Value.int .i64 m1_4), V.p (Value.int .i64 m1_5), V.p (Value.int .i64 m1_6), V.p (Value.int .i64 m1_7), V.p (Value.int .i64 m1_8), V.p (Value.int .i64 m1_9), V.sl 1 (rowsOf (encI .u8) m1_10)])] } : St)) = some r.st := by
  unfold f6_ai10rz_j2 at hF
  replace hF := Option.bind_eq_some_iff.1 hF
  obtain ⟨o1, h2, hF⟩ := hF
  have hc3 := f13_ai10rz_ok k m1 m1_1 m1_2 m1_3 m1_4 m1_5 m1_6 m1_7 m1_8 m1_9 m1_10 _ h2
  cases o1 with
  | o0 v4 v5 v6 v7 v8 v9 v10 v11 v12 v13 v14 =>
    (try dsimp only at hF)
    (try simp only [NM, EE, R13_ai10rz.st] at hc3)
    simp (maxSteps := 999999) (disch := first | exact D (by decide) | exact K (by kernel_rfl)) only [E, EE, ↓reduceIte, simprocAttr, xk B6 [2, 2, 2] .sq rfl, show (nav B6 [1, 2, 2, 2]) = Code.region 5 _ false from rfl, hk_6_5, hz_6_5, hs_6_5, u_26, i_26, is_26, ib_26, iz_26, callStep, CL, gv, List.contains, hc3]
    replace hF := Option.bind_eq_some_iff.1 hF
    obtain ⟨o15, h16, hF⟩ := hF
    have hc17 := f14_ai10rz_ok k v4 v5 v6 v7 v8 v9 v10 v11 v12 v13 v14 _ h16
    cases o15 with
    | o0 v18 v19 =>
      (try dsimp only at hF)
      (try simp only [NM, EE, R14_ai10rz.st] at hc17)
      replace hF := Option.bind_eq_some_iff.1 hF
      obtain ⟨o20, h21, hF⟩ := hF
      have hc22 := f15_ai10rz_ok k m1 m1_1 m1_2 m1_3 m1_4 m1_5 m1_6 m1_7 m1_8 m1_9 m1_10 _ h21
      cases o20 with
      | o0 v23 =>
        (try dsimp only at hF)
        (try simp only [NM, EE, R15_ai10rz.st] at hc22)
        simp (maxSteps := 999999) (disch := first | exact D (by decide) | exact K (by kernel_rfl)) only [E, EE, ↓reduceIte, simprocAttr, xk B6 [2, 2, 2, 2] .sq rfl, xk B6 [1, 2, 2, 2, 2] .sq rfl, show (nav B6 [1, 1, 2, 2, 2, 2]) = Code.region 6 _ false from rfl, hk_6_6, hz_6_6, hs_6_6, u_26, i_26, is_26, ib_26, iz_26, callStep, CL, gv, List.contains, xk B6 [2, 1, 2, 2, 2, 2] (.cd 20) rfl, hc3, hc17, hc22]
        replace hF := cond_some hF
        rcases hF with ⟨h24, hF⟩ | ⟨h24, hF⟩
        · simp (maxSteps := 999999) (disch := first | exact D (by decide) | exact K (by kernel_rfl)) only [E, EE, ↓reduceIte, simprocAttr, xk B6 [2, 2, 1, 2, 2, 2, 2] .sq rfl, show (nav B6 [1, 2, 2, 1, 2, 2, 2, 2]) = Code.region 7 _ false from rfl, hk_6_7, hz_6_7, hs_6_7, u_22, i_22, is_22, ib_22, iz_22, hc3, hc17, hc22, h24]
          replace hF := cond_some hF
          rcases hF with ⟨h25, hF⟩ | ⟨h25, hF⟩
          · replace hF := cond_some hF
            rcases hF with ⟨h26, hF⟩ | ⟨h26, hF⟩
            · replace hF := Option.bind_eq_some_iff.1 hF
              obtain ⟨o30, h31, hF⟩ := hF
              have hc32 := f16_ai10rz_ok k v4 v5 v6 v7 v8 v9 v10 v11 v12 v13 v14 _ h31
              cases o30 with
              | o0 v33 =>
                (try dsimp only at hF)
                (try simp only [NM, EE, R16_ai10rz.st] at hc32)
                simp (maxSteps := 999999) (disch := first | exact D (by decide) | exact K (by kernel_rfl)) only [E, EE, ↓reduceIte, simprocAttr, u_26, i_26, is_26, ib_26, iz_26, callStep, CL, gv, List.contains, hc3, hc17, hc22, h24, h25, h26, hc32]
                replace hF := cond_some hF
                rcases hF with ⟨h34, hF⟩ | ⟨h34, hF⟩
                · replace hF := Option.bind_eq_some_iff.1 hF
                  obtain ⟨o35, h36, hF⟩ := hF
                  have hc37 := f17_ai10rz_ok k m1 m1_1 m1_2 m1_3 m1_4 m1_5 m1_6 m1_7 m1_8 m1_9 m1_10 _ h36
                  cases o35 with
                  | o0 v38 =>
                    (try dsimp only at hF)
                    (try simp only [NM, EE, R17_ai10rz.st] at hc37)
                    cases hF
                    simp (maxSteps := 999999) (disch := first | exact D (by decide) | exact K (by kernel_rfl)) only [E, EE, ↓reduceIte, simprocAttr, u_26, i_26, is_26, ib_26, iz_26, callStep, CL, gv, List.contains, xk B6 [2, 2, 2, 1, 2, 2, 2, 2] .rt rfl, finK_norm, finK_ret, fin6, R6_ai10rz.st, hc3, hc17, hc22, h24, h25, h26, hc32, h34, hc37]
                · cases hF
                  simp (maxSteps := 999999) (disch := first | exact D (by decide) | exact K (by kernel_rfl)) only [E, EE, ↓reduceIte, simprocAttr, xk B6 [2, 2, 2, 1, 2, 2, 2, 2] .rt rfl, finK_norm, finK_ret, fin6, R6_ai10rz.st, hc3, hc17, hc22, h24, h25, h26, hc32, h34]
            · cases hF
              simp (maxSteps := 999999) (disch := first | exact D (by decide) | exact K (by kernel_rfl)) only [E, EE, ↓reduceIte, simprocAttr, xk B6 [2, 2, 2, 1, 2, 2, 2, 2] .rt rfl, finK_norm, finK_ret, fin6, R6_ai10rz.st, hc3, hc17, hc22, h24, h25, h26]
          · cases hF
            simp (maxSteps := 999999) (disch := first | exact D (by decide) | exact K (by kernel_rfl)) only [E, EE, ↓reduceIte, simprocAttr, xk B6 [2, 2, 2, 1, 2, 2, 2, 2] .rt rfl, finK_norm, finK_ret, fin6, R6_ai10rz.st, hc3, hc17, hc22, h24, h25]
        · have hJ := f6_ai10rz_j3_ok k v18 v19 false m1 m1_1 m1_2 m1_3 m1_4 m1_5 m1_6 m1_7 m1_8 m1_9 m1_10 _ hF
          simp (maxSteps := 999999) (disch := first | exact D (by decide) | exact K (by kernel_rfl)) only [E, EE, ↓reduceIte, simprocAttr, xk B6 [3, 2, 1, 2, 2, 2, 2] .sk rfl, hc3, hc17, hc22, h24]
          try simp only [NM, EE] at hJ
          exact hJ
    | o1 v39 v40 =>
      (try dsimp only at hF)
      (try simp only [NM, EE, R14_ai10rz.st] at hc17)
      replace hF := Option.bind_eq_some_iff.1 hF
      obtain ⟨o41, h42, hF⟩ := hF
      have hc43 := f15_ai10rz_ok k m1 m1_1 m1_2 m1_3 m1_4 m1_5 m1_6 m1_7 m1_8 m1_9 m1_10 _ h42
      cases o41 with
      | o0 v44 =>
        (try dsimp only at hF)
        (try simp only [NM, EE, R15_ai10rz.st] at hc43)
        simp (maxSteps := 999999) (disch := first | exact D (by decide) | exact K (by kernel_rfl)) only [E, EE, ↓reduceIte, simprocAttr, xk B6 [2, 2, 2, 2] .sq rfl, xk B6 [1, 2, 2, 2, 2] .sq rfl, show (nav B6 [1, 1, 2, 2, 2, 2]) = Code.region 6 _ false from rfl, hk_6_6, hz_6_6, hs_6_6, u_26, i_26, is_26, ib_26, iz_26, callStep, CL, gv, List.contains, xk B6 [2, 1, 2, 2, 2, 2] (.cd 20) rfl, hc3, hc17, hc43]
        replace hF := cond_some hF
        rcases hF with ⟨h45, hF⟩ | ⟨h45, hF⟩
        · simp (maxSteps := 999999) (disch := first | exact D (by decide) | exact K (by kernel_rfl)) only [E, EE, ↓reduceIte, simprocAttr, xk B6 [2, 2, 1, 2, 2, 2, 2] .sq rfl, show (nav B6 [1, 2, 2, 1, 2, 2, 2, 2]) = Code.region 7 _ false from rfl, hk_6_7, hz_6_7, hs_6_7, u_22, i_22, is_22, ib_22, iz_22, hc3, hc17, hc43, h45]
          replace hF := cond_some hF
          rcases hF with ⟨h46, hF⟩ | ⟨h46, hF⟩
          · replace hF := cond_some hF
            rcases hF with ⟨h47, hF⟩ | ⟨h47, hF⟩
            · replace hF := Option.bind_eq_some_iff.1 hF
              obtain ⟨o51, h52, hF⟩ := hF
              have hc53 := f16_ai10rz_ok k v4 v5 v6 v7 v8 v9 v10 v11 v12 v13 v14 _ h52
              cases o51 with
              | o0 v54 =>
                (try dsimp only at hF)
                (try simp only [NM, EE, R16_ai10rz.st] at hc53)
                simp (maxSteps := 999999) (disch := first | exact D (by decide) | exact K (by kernel_rfl)) only [E, EE, ↓reduceIte, simprocAttr, u_26, i_26, is_26, ib_26, iz_26, callStep, CL, gv, List.contains, hc3, hc17, hc43, h45, h46, h47, hc53]
                replace hF := cond_some hF
                rcases hF with ⟨h55, hF⟩ | ⟨h55, hF⟩
                · replace hF := Option.bind_eq_some_iff.1 hF
                  obtain ⟨o56, h57, hF⟩ := hF
                  have hc58 := f17_ai10rz_ok k m1 m1_1 m1_2 m1_3 m1_4 m1_5 m1_6 m1_7 m1_8 m1_9 m1_10 _ h57
                  cases o56 with
                  | o0 v59 =>
                    (try dsimp only at hF)
                    (try simp only [NM, EE, R17_ai10rz.st] at hc58)
                    cases hF
                    simp (maxSteps := 999999) (disch := first | exact D (by decide) | exact K (by kernel_rfl)) only [E, EE, ↓reduceIte, simprocAttr, u_26, i_26, is_26, ib_26, iz_26, callStep, CL, gv, List.contains, xk B6 [2, 2, 2, 1, 2, 2, 2, 2] .rt rfl, finK_norm, finK_ret, fin6, R6_ai10rz.st, hc3, hc17, hc43, h45, h46, h47, hc53, h55, hc58]
                · cases hF
                  simp (maxSteps := 999999) (disch := first | exact D (by decide) | exact K (by kernel_rfl)) only [E, EE, ↓reduceIte, simprocAttr, xk B6 [2, 2, 2, 1, 2, 2, 2, 2] .rt rfl, finK_norm, finK_ret, fin6, R6_ai10rz.st, hc3, hc17, hc43, h45, h46, h47, hc53, h55]
            · cases hF
              simp (maxSteps := 999999) (disch := first | exact D (by decide) | exact K (by kernel_rfl)) only [E, EE, ↓reduceIte, simprocAttr, xk B6 [2, 2, 2, 1, 2, 2, 2, 2] .rt rfl, finK_norm, finK_ret, fin6, R6_ai10rz.st, hc3, hc17, hc43, h45, h46, h47]
          · cases hF
            simp (maxSteps := 999999) (disch := first | exact D (by decide) | exact K (by kernel_rfl)) only [E, EE, ↓reduceIte, simprocAttr, xk B6 [2, 2, 2, 1, 2, 2, 2, 2] .rt rfl, finK_norm, finK_ret, fin6, R6_ai10rz.st, hc3, hc17, hc43, h45, h46]
        · have hJ := f6_ai10rz_j4_ok k v39 false m1 m1_1 m1_2 m1_3 m1_4 m1_5 m1_6 m1_7 m1_8 m1_9 m1_10 v40 _ hF
          simp (maxSteps := 999999) (disch := first | exact D (by decide) | exact K (by kernel_rfl)) only [E, EE, ↓reduceIte, simprocAttr, xk B6 [3, 2, 1, 2, 2, 2, 2] .sk rfl, hc3, hc17, hc43, h45]
          try simp only [NM, EE] at hJ
          exact hJ
noncomputable def f6_ai10rz_j1 (k : Nat) (x7 : Bool) (m1 m1_1 m1_2 m1_3 m1_4 m1_5 m1_6 m1_7 m1_8 m1_9 : Int) (m1_10 : List Int) : Option R6_ai10rz :=
  cond ((decide (((List.length m1_10) : Int) > 5000)))
    (some (R6_ai10rz.o0 true))
    (f6_ai10rz_j2 k false m1 m1_1 m1_2 m1_3 m1_4 m1_5 m1_6 m1_7 m1_8 m1_9 m1_10)
theorem f6_ai10rz_j1_ok (k : Nat) (x7 : Bool) (m1 m1_1 m1_2 m1_3 m1_4 m1_5 m1_6 m1_7 m1_8 m1_9 : Int) (m1_10 : List Int) (r : R6_ai10rz) (hF : f6_ai10rz_j1 k x7 m1 m1_1 m1_2 m1_3 m1_4 m1_5 m1_6 m1_7 m1_8 m1_9 m1_10 = some r) : finK Tryd.prog Tryd.f6 0 (EX 6 k (nav B6 [2, 2]) ({ n := 66, F := [(1, V.ptr 1 0), (7, V.p (Value.bool x7))], M := [(1, O.box 26 [V.p (Value.int .i64 m1), V.p (Value.int .i64 m1_1), V.p (Value.int .u32 m1_2), V.p (Value.int .i64 m1_3), V.p (Value.int .i64 m1_4), V.p (Value.int .i64 m1_5), V.p (Value.int .i64 m1_6), V.p (Value.int .i64 m1_7), V.p (Value.int .i64 m1_8), V.p (Value.int .i64 m1_9), V.sl 1 (rowsOf (encI .u8) m1_10)])] } : St)) = some r.st := by
  unfold f6_ai10rz_j1 at hF
  simp (maxSteps := 999999) (disch := first | exact D (by decide) | exact K (by kernel_rfl)) only [E, EE, ↓reduceIte, simprocAttr, xk B6 [2, 2] .sq rfl, xk B6 [1, 2, 2] .sq rfl, show (nav B6 [1, 1, 2, 2]) = Code.region 3 _ false from rfl, hk_6_3, hz_6_3, hs_6_3, fieldAddrV, u_26, i_26, is_26, ib_26, iz_26, u_22, i_22, is_22, ib_22, iz_22, xk B6 [2, 1, 2, 2] (.cd 11) rfl]
  replace hF := cond_some hF
  rcases hF with ⟨h1, hF⟩ | ⟨h1, hF⟩
  · cases hF
    simp (maxSteps := 999999) (disch := first | exact D (by decide) | exact K (by kernel_rfl)) only [E, EE, ↓reduceIte, simprocAttr, xk B6 [2, 2, 1, 2, 2] .sq rfl, show (nav B6 [1, 2, 2, 1, 2, 2]) = Code.region 4 _ false from rfl, hk_6_4, hz_6_4, hs_6_4, xk B6 [2, 2, 2, 1, 2, 2] .rt rfl, finK_norm, finK_ret, fin6, R6_ai10rz.st, h1]
  · have hJ := f6_ai10rz_j2_ok k false m1 m1_1 m1_2 m1_3 m1_4 m1_5 m1_6 m1_7 m1_8 m1_9 m1_10 _ hF
    simp (maxSteps := 999999) (disch := first | exact D (by decide) | exact K (by kernel_rfl)) only [E, EE, ↓reduceIte, simprocAttr, xk B6 [3, 2, 1, 2, 2] .sk rfl, h1]
    try simp only [NM, EE] at hJ
    exact hJ
noncomputable def f6_ai10rz_e (k : Nat) (a0 a0_1 a0_2 a0_3 a0_4 a0_5 a0_6 a0_7 a0_8 a0_9 : Int) (a0_10 : List Int) : Option R6_ai10rz :=
  Option.bind (f9_ k) fun o1 =>
    match o1 with
    | .o0 v4 =>
      cond ((!v4))
        (some (R6_ai10rz.o0 false))
        (f6_ai10rz_j1 k false a0 a0_1 a0_2 a0_3 a0_4 a0_5 a0_6 a0_7 a0_8 a0_9 a0_10)
theorem f6_ai10rz_e_ok (k : Nat) (a0 a0_1 a0_2 a0_3 a0_4 a0_5 a0_6 a0_7 a0_8 a0_9 : Int) (a0_10 : List Int) (r : R6_ai10rz) (hF : f6_ai10rz_e k a0 a0_1 a0_2 a0_3 a0_4 a0_5 a0_6 a0_7 a0_8 a0_9 a0_10 = some r) : finK Tryd.prog Tryd.f6 0 (EX 6 k (nav B6 []) ({ n := 66, F := [(0, V.agg [V.p (Value.int .i64 a0), V.p (Value.int .i64 a0_1), V.p (Value.int .u32 a0_2), V.p (Value.int .i64 a0_3), V.p (Value.int .i64 a0_4), V.p (Value.int .i64 a0_5), V.p (Value.int .i64 a0_6), V.p (Value.int .i64 a0_7), V.p (Value.int .i64 a0_8), V.p (Value.int .i64 a0_9), V.sl 1 (rowsOf (encI .u8) a0_10)])], M := [] } : St)) = some r.st := by
  unfold f6_ai10rz_e at hF
  replace hF := Option.bind_eq_some_iff.1 hF
  obtain ⟨o1, h2, hF⟩ := hF
  have hc3 := f9__ok k _ h2
  cases o1 with
  | o0 v4 =>
    (try dsimp only at hF)
    (try simp only [NM, EE, R9_.st] at hc3)
    simp (maxSteps := 999999) (disch := first | exact D (by decide) | exact K (by kernel_rfl)) only [E, EE, ↓reduceIte, simprocAttr, xk B6 [] .sq rfl, show (nav B6 [1]) = Code.region 0 _ false from rfl, hk_6_0, hz_6_0, hs_6_0, xk B6 [2] .sq rfl, xk B6 [1, 2] .sq rfl, show (nav B6 [1, 1, 2]) = Code.region 1 _ false from rfl, hk_6_1, hz_6_1, hs_6_1, callStep, CL, gv, List.contains, xk B6 [2, 1, 2] (.cd 7) rfl, hc3]
    replace hF := cond_some hF
    rcases hF with ⟨h5, hF⟩ | ⟨h5, hF⟩
    · cases hF
      simp (maxSteps := 999999) (disch := first | exact D (by decide) | exact K (by kernel_rfl)) only [E, EE, ↓reduceIte, simprocAttr, xk B6 [2, 2, 1, 2] .sq rfl, show (nav B6 [1, 2, 2, 1, 2]) = Code.region 2 _ false from rfl, hk_6_2, hz_6_2, hs_6_2, xk B6 [2, 2, 2, 1, 2] .rt rfl, finK_norm, finK_ret, fin6, R6_ai10rz.st, hc3, h5]
    · have hJ := f6_ai10rz_j1_ok k false a0 a0_1 a0_2 a0_3 a0_4 a0_5 a0_6 a0_7 a0_8 a0_9 a0_10 _ hF
      simp (maxSteps := 999999) (disch := first | exact D (by decide) | exact K (by kernel_rfl)) only [E, EE, ↓reduceIte, simprocAttr, xk B6 [3, 2, 1, 2] .sk rfl, hc3, h5]
      try simp only [NM, EE] at hJ
      exact hJ
noncomputable def f6_ai10rz (k : Nat) (a0 a0_1 a0_2 a0_3 a0_4 a0_5 a0_6 a0_7 a0_8 a0_9 : Int) (a0_10 : List Int) : Option R6_ai10rz := match k with | 0 => none | k + 1 => f6_ai10rz_e k a0 a0_1 a0_2 a0_3 a0_4 a0_5 a0_6 a0_7 a0_8 a0_9 a0_10
theorem f6_ai10rz_ok (k : Nat) (a0 a0_1 a0_2 a0_3 a0_4 a0_5 a0_6 a0_7 a0_8 a0_9 : Int) (a0_10 : List Int) (r : R6_ai10rz) (hF : f6_ai10rz k a0 a0_1 a0_2 a0_3 a0_4 a0_5 a0_6 a0_7 a0_8 a0_9 a0_10 = some r) : CV k 6 [V.agg [V.p (Value.int .i64 a0), V.p (Value.int .i64 a0_1), V.p (Value.int .u32 a0_2), V.p (Value.int .i64 a0_3), V.p (Value.int .i64 a0_4), V.p (Value.int .i64 a0_5), V.p (Value.int .i64 a0_6), V.p (Value.int .i64 a0_7), V.p (Value.int .i64 a0_8), V.p (Value.int .i64 a0_9), V.sl 1 (rowsOf (encI .u8) a0_10)]] [] = some r.st := by
  cases k with
  | zero => cases hF
  | succ k =>
    unfold CV
    rw [ev_call (F := Tryd.f6) (c := (nav B6 [])) rfl Tryd.func6 rfl rfl rfl rfl]
    exact f6_ai10rz_e_ok k a0 a0_1 a0_2 a0_3 a0_4 a0_5 a0_6 a0_7 a0_8 a0_9 a0_10 r hF
end Go.Proofs.YtbnnmplkbpgcaaaDoorV
