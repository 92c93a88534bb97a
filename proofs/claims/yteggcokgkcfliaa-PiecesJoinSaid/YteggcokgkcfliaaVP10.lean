/- What the program's functions answer: plain functions, and that the interpreter answers what they do. Written by a program of this session, out of the translation. -/
import Derived.Test.YteggcokgkcfliaaVP9
namespace Go.Proofs.YteggcokgkcfliaaV
open Go
set_option linter.unusedVariables false
set_option linter.unusedSimpArgs false
set_option maxRecDepth 8000
set_option maxHeartbeats 4000000
-- f6_r: f6 heliograph/heliographlaw18.PiecesJoin
inductive R6_r where
  | o0 (y : Bool)
noncomputable def R6_r.st : R6_r → V × List O × List O
  | .o0 y => (V.p (Value.bool y), [], [])
inductive R6_r_l3 where
  | o0 (y y_1 : Int) (y_2 : Bool) (y_3 y_4 : List T25) (y_5 y_6 y_7 y_8 y_9 y_10 y_11 y_12 y_13 y_14 : Int) (y_15 : List Int)
noncomputable def R6_r_l3.st : R6_r_l3 → Out × St
  | .o0 y y_1 y_2 y_3 y_4 y_5 y_6 y_7 y_8 y_9 y_10 y_11 y_12 y_13 y_14 y_15 => (.exit 0, ({ n := 97, F := [(0, V.own 30000), (3, V.own 30001), (4, V.ptr 30002 0), (40, V.p (Value.int .i64 y)), (41, V.p (Value.int .i64 y_1)), (42, V.p (Value.bool y_2))], M := [(30000, O.row false 11 25 (rowsOf encT25 y_3)), (30001, O.row false 11 25 (rowsOf encT25 y_4)), (30002, O.box 25 [V.p (Value.int .i64 y_5), V.p (Value.int .i64 y_6), V.p (Value.int .u32 y_7), V.p (Value.int .i64 y_8), V.p (Value.int .i64 y_9), V.p (Value.int .i64 y_10), V.p (Value.int .i64 y_11), V.p (Value.int .i64 y_12), V.p (Value.int .i64 y_13), V.p (Value.int .i64 y_14), V.sl 1 (rowsOf (encI .u8) y_15)])] } : St))
noncomputable def f6_r_l3_j1 (k : Nat) (x40 x41 : Int) (x42 : Bool) (h0_ h1_ : List T25) (h2_ h2__1 h2__2 h2__3 h2__4 h2__5 h2__6 h2__7 h2__8 h2__9 : Int) (h2__10 : List Int) : Option R6_r_l3 :=
  ifE ((0 : Int) ≤ x41) (
    Option.bind (h2__10[(Int.toNat x41)]?) fun v2 =>
      none)
theorem f6_r_l3_j1_ok (k : Nat) (x40 x41 : Int) (x42 : Bool) (h0_ h1_ : List T25) (h2_ h2__1 h2__2 h2__3 h2__4 h2__5 h2__6 h2__7 h2__8 h2__9 : Int) (h2__10 : List Int) (r : R6_r_l3) (hF : f6_r_l3_j1 k x40 x41 x42 h0_ h1_ h2_ h2__1 h2__2 h2__3 h2__4 h2__5 h2__6 h2__7 h2__8 h2__9 h2__10 = some r) : EX 6 k (nav B6 [2, 2, 1, 2, 2, 1, 2, 2, 2, 2, 2, 2, 2]) ({ n := 97, F := [(0, V.own 30000), (3, V.own 30001), (4, V.ptr 30002 0), (40, V.p (Value.int .i64 x40)), (41, V.p (Value.int .i64 x41)), (42, V.p (Value.bool x42))], M := [(30000, O.row false 11 25 (rowsOf encT25 h0_)), (30001, O.row false 11 25 (rowsOf encT25 h1_)), (30002, O.box 25 [V.p (Value.int .i64 h2_), V.p (Value.int .i64 h2__1), V.p (Value.int .u32 h2__2), V.p (Value.int .i64 h2__3), V.p (Value.int .i64 h2__4), V.p (Value.int .i64 h2__5), V.p (Value.int .i64 h2__6), V.p (Value.int .i64 h2__7), V.p (Value.int .i64 h2__8), V.p (Value.int .i64 h2__9), V.sl 1 (rowsOf (encI .u8) h2__10)])] } : St) = some r.st := by
  unfold f6_r_l3_j1 at hF
  replace hF := ifE_some.1 hF
  obtain ⟨h1, hF⟩ := hF
  replace hF := Option.bind_eq_some_iff.1 hF
  obtain ⟨v2, h3, hF⟩ := hF
  cases hF
noncomputable def f6_r_l3_b (k : Nat) (x40 x41 : Int) (h0_ h1_ : List T25) (h2_ h2__1 h2__2 h2__3 h2__4 h2__5 h2__6 h2__7 h2__8 h2__9 : Int) (h2__10 : List Int) : Option R6_r_l3 :=
  cond ((decide (x41 < x40)))
    (f6_r_l3_j1 k x40 x41 true h0_ h1_ h2_ h2__1 h2__2 h2__3 h2__4 h2__5 h2__6 h2__7 h2__8 h2__9 h2__10)
    (some (R6_r_l3.o0 x40 x41 false h0_ h1_ h2_ h2__1 h2__2 h2__3 h2__4 h2__5 h2__6 h2__7 h2__8 h2__9 h2__10))
theorem f6_r_l3_b_ok (k : Nat) (x40 x41 : Int) (h0_ h1_ : List T25) (h2_ h2__1 h2__2 h2__3 h2__4 h2__5 h2__6 h2__7 h2__8 h2__9 : Int) (h2__10 : List Int) (r : R6_r_l3) (hF : f6_r_l3_b k x40 x41 h0_ h1_ h2_ h2__1 h2__2 h2__3 h2__4 h2__5 h2__6 h2__7 h2__8 h2__9 h2__10 = some r) : EX 6 k (nav B6 [1, 2, 2, 1, 2, 2, 2, 2, 2, 2, 2]) ({ n := 97, F := [(0, V.own 30000), (3, V.own 30001), (4, V.ptr 30002 0), (40, V.p (Value.int .i64 x40)), (41, V.p (Value.int .i64 x41))], M := [(30000, O.row false 11 25 (rowsOf encT25 h0_)), (30001, O.row false 11 25 (rowsOf encT25 h1_)), (30002, O.box 25 [V.p (Value.int .i64 h2_), V.p (Value.int .i64 h2__1), V.p (Value.int .u32 h2__2), V.p (Value.int .i64 h2__3), V.p (Value.int .i64 h2__4), V.p (Value.int .i64 h2__5), V.p (Value.int .i64 h2__6), V.p (Value.int .i64 h2__7), V.p (Value.int .i64 h2__8), V.p (Value.int .i64 h2__9), V.sl 1 (rowsOf (encI .u8) h2__10)])] } : St) = some r.st := by
  unfold f6_r_l3_b at hF
  simp (maxSteps := 999999) (disch := first | exact D (by decide) | exact K (by kernel_rfl)) only [E, EE, ↓reduceIte, simprocAttr, xk B6 [1, 2, 2, 1, 2, 2, 2, 2, 2, 2, 2] .sq rfl, show (nav B6 [1, 1, 2, 2, 1, 2, 2, 2, 2, 2, 2, 2]) = Code.region 10 _ false from rfl, hk_6_10, hz_6_10, hs_6_10, xk B6 [2, 1, 2, 2, 1, 2, 2, 2, 2, 2, 2, 2] .sq rfl, xk B6 [1, 2, 1, 2, 2, 1, 2, 2, 2, 2, 2, 2, 2] (.cd 42) rfl]
  replace hF := cond_some hF
  rcases hF with ⟨h1, hF⟩ | ⟨h1, hF⟩
  · have hJ := f6_r_l3_j1_ok k x40 x41 true h0_ h1_ h2_ h2__1 h2__2 h2__3 h2__4 h2__5 h2__6 h2__7 h2__8 h2__9 h2__10 _ hF
    simp (maxSteps := 999999) (disch := first | exact D (by decide) | exact K (by kernel_rfl)) only [E, EE, ↓reduceIte, simprocAttr, xk B6 [2, 1, 2, 1, 2, 2, 1, 2, 2, 2, 2, 2, 2, 2] .sk rfl, h1]
    try simp only [NM, EE] at hJ
    exact hJ
  · cases hF
    simp (maxSteps := 999999) (disch := first | exact D (by decide) | exact K (by kernel_rfl)) only [E, EE, ↓reduceIte, simprocAttr, xk B6 [3, 1, 2, 1, 2, 2, 1, 2, 2, 2, 2, 2, 2, 2] (.ex 0) rfl, R6_r_l3.st, h1]
noncomputable def f6_r_l3 (k : Nat) : Nat → Int → Int → (List T25) → (List T25) → Int → Int → Int → Int → Int → Int → Int → Int → Int → Int → (List Int) → Option R6_r_l3
  | 0, _, _, _, _, _, _, _, _, _, _, _, _, _, _, _ => none
  | n + 1, x40, x41, h0_, h1_, h2_, h2__1, h2__2, h2__3, h2__4, h2__5, h2__6, h2__7, h2__8, h2__9, h2__10 => Option.bind (f6_r_l3_b k x40 x41 h0_ h1_ h2_ h2__1 h2__2 h2__3 h2__4 h2__5 h2__6 h2__7 h2__8 h2__9 h2__10) fun o =>
    match o with
    | .o0 y y_1 y_2 y_3 y_4 y_5 y_6 y_7 y_8 y_9 y_10 y_11 y_12 y_13 y_14 y_15 => some (.o0 y y_1 y_2 y_3 y_4 y_5 y_6 y_7 y_8 y_9 y_10 y_11 y_12 y_13 y_14 y_15)
theorem f6_r_l3_ok (k n : Nat) : ∀ (x40 x41 : Int) (h0_ h1_ : List T25) (h2_ h2__1 h2__2 h2__3 h2__4 h2__5 h2__6 h2__7 h2__8 h2__9 : Int) (h2__10 : List Int) (r : R6_r_l3) (hF : f6_r_l3 k n x40 x41 h0_ h1_ h2_ h2__1 h2__2 h2__3 h2__4 h2__5 h2__6 h2__7 h2__8 h2__9 h2__10 = some r) (σ : St) (hσ : headR (hints.head 6 10) (hints.canon 6 10) σ = some ({ n := 97, F := [(0, V.own 30000), (3, V.own 30001), (4, V.ptr 30002 0), (40, V.p (Value.int .i64 x40)), (41, V.p (Value.int .i64 x41))], M := [(30000, O.row false 11 25 (rowsOf encT25 h0_)), (30001, O.row false 11 25 (rowsOf encT25 h1_)), (30002, O.box 25 [V.p (Value.int .i64 h2_), V.p (Value.int .i64 h2__1), V.p (Value.int .u32 h2__2), V.p (Value.int .i64 h2__3), V.p (Value.int .i64 h2__4), V.p (Value.int .i64 h2__5), V.p (Value.int .i64 h2__6), V.p (Value.int .i64 h2__7), V.p (Value.int .i64 h2__8), V.p (Value.int .i64 h2__9), V.sl 1 (rowsOf (encI .u8) h2__10)])] } : St)), LP 6 k (nav B6 [1, 2, 2, 1, 2, 2, 2, 2, 2, 2, 2]) n σ = some r.st := by
  induction n with
  | zero => intro x40 x41 h0_ h1_ h2_ h2__1 h2__2 h2__3 h2__4 h2__5 h2__6 h2__7 h2__8 h2__9 h2__10 r hF; cases hF
  | succ n ih =>
    intro x40 x41 h0_ h1_ h2_ h2__1 h2__2 h2__3 h2__4 h2__5 h2__6 h2__7 h2__8 h2__9 h2__10 r hF σ hσ
    rw [f6_r_l3] at hF
    obtain ⟨o, h, hF⟩ := Option.bind_eq_some_iff.1 hF
    have hB := f6_r_l3_b_ok k x40 x41 h0_ h1_ h2_ h2__1 h2__2 h2__3 h2__4 h2__5 h2__6 h2__7 h2__8 h2__9 h2__10 o h
    unfold LP at ih ⊢
    unfold EX at hB
    rw [loopK_succ, show firstReg (nav B6 [1, 2, 2, 1, 2, 2, 2, 2, 2, 2, 2]) = 10 from rfl, hσ, headK_some, hB]
    cases o with
    | o0 y y_1 y_2 y_3 y_4 y_5 y_6 y_7 y_8 y_9 y_10 y_11 y_12 y_13 y_14 y_15 => cases hF; rfl
inductive R6_r_l8 where
  | o0 (y : Bool)
  | o1 (y y_1 : Int) (y_2 y_3 : List T47)
  | o2 (y y_1 : Int) (y_2 : Bool) (y_3 y_4 : List T47)
noncomputable def R6_r_l8.st : R6_r_l8 → Out × St
  | .o0 y => (.ret, ({ n := 97, F := [(2, V.p (Value.bool y))], M := [] } : St))
  | .o1 y y_1 y_2 y_3 => (.norm, ({ n := 97, F := [(9, V.own 30000), (11, V.own 30001), (83, V.p (Value.int .i64 y)), (84, V.p (Value.int .i64 y_1))], M := [(30000, O.row true 2 47 (rowsOf encT47 y_2)), (30001, O.row true 2 47 (rowsOf encT47 y_3))] } : St))
  | .o2 y y_1 y_2 y_3 y_4 => (.exit 2, ({ n := 97, F := [(9, V.own 30000), (11, V.own 30001), (83, V.p (Value.int .i64 y)), (84, V.p (Value.int .i64 y_1)), (85, V.p (Value.bool y_2))], M := [(30000, O.row true 2 47 (rowsOf encT47 y_3)), (30001, O.row true 2 47 (rowsOf encT47 y_4))] } : St))
noncomputable def f6_r_l8_j2 (k : Nat) (x83 x84 : Int) (x95 : Bool) (h0_ h1_ : List T47) : Option R6_r_l8 :=
  some (R6_r_l8.o1 x83 (IntKind.i64.wrap (x84 + (1 : Int))) h0_ h1_)
theorem f6_r_l8_j2_ok (k : Nat) (x83 x84 : Int) (x95 : Bool) (h0_ h1_ : List T47) (r : R6_r_l8) (hF : f6_r_l8_j2 k x83 x84 x95 h0_ h1_ = some r) : EX 6 k (nav B6 [2, 2, 2, 1, 2, 2, 1, 2, 2, 2, 2, 2, 2, 2, 2, 2, 2, 2, 2, 2]) ({ n := 97, F := [(9, V.own 30000), (11, V.own 30001), (83, V.p (Value.int .i64 x83)), (84, V.p (Value.int .i64 x84)), (95, V.p (Value.bool x95))], M := [(30000, O.row true 2 47 (rowsOf encT47 h0_)), (30001, O.row true 2 47 (rowsOf encT47 h1_))] } : St) = some r.st := by
  unfold f6_r_l8_j2 at hF
  cases hF
  simp (maxSteps := 999999) (disch := first | exact D (by decide) | exact K (by kernel_rfl)) only [E, EE, ↓reduceIte, simprocAttr, show (nav B6 [2, 2, 2, 1, 2, 2, 1, 2, 2, 2, 2, 2, 2, 2, 2, 2, 2, 2, 2, 2]) = Code.region 27 _ false from rfl, hk_6_27, hz_6_27, hs_6_27, R6_r_l8.st]
noncomputable def f6_r_l8_j1 (k : Nat) (x83 x84 : Int) (x85 : Bool) (h0_ h1_ : List T47) : Option R6_r_l8 :=
  ifE ((0 : Int) ≤ x84) (
    ifE (x84 < ((List.length h0_) : Int)) (
      Option.bind (h0_[(Int.toNat x84)]?) fun v3 =>
        ifE (x84 < ((List.length h1_) : Int)) (
          Option.bind (h1_[(Int.toNat x84)]?) fun v6 =>
            cond ((!((v3.At == v6.At) && (v3.N == v6.N))))
              (some (R6_r_l8.o0 false))
              (f6_r_l8_j2 k x83 x84 false h0_ h1_))))
theorem f6_r_l8_j1_ok (k : Nat) (x83 x84 : Int) (x85 : Bool) (h0_ h1_ : List T47) (r : R6_r_l8) (hF : f6_r_l8_j1 k x83 x84 x85 h0_ h1_ = some r) : EX 6 k (nav B6 [2, 2, 1, 2, 2, 1, 2, 2, 2, 2, 2, 2, 2, 2, 2, 2, 2, 2, 2]) ({ n := 97, F := [(9, V.own 30000), (11, V.own 30001), (83, V.p (Value.int .i64 x83)), (84, V.p (Value.int .i64 x84)), (85, V.p (Value.bool x85))], M := [(30000, O.row true 2 47 (rowsOf encT47 h0_)), (30001, O.row true 2 47 (rowsOf encT47 h1_))] } : St) = some r.st := by
  unfold f6_r_l8_j1 at hF
  replace hF := ifE_some.1 hF
  obtain ⟨h1, hF⟩ := hF
  replace hF := ifE_some.1 hF
  obtain ⟨h2, hF⟩ := hF
  replace hF := Option.bind_eq_some_iff.1 hF
  obtain ⟨v3, h4, hF⟩ := hF
  replace hF := ifE_some.1 hF
  obtain ⟨h5, hF⟩ := hF
  replace hF := Option.bind_eq_some_iff.1 hF
  obtain ⟨v6, h7, hF⟩ := hF
  simp (maxSteps := 999999) (disch := first | exact D (by decide) | exact K (by kernel_rfl)) only [E, EE, ↓reduceIte, simprocAttr, xk B6 [2, 2, 1, 2, 2, 1, 2, 2, 2, 2, 2, 2, 2, 2, 2, 2, 2, 2, 2] .sq rfl, xk B6 [1, 2, 2, 1, 2, 2, 1, 2, 2, 2, 2, 2, 2, 2, 2, 2, 2, 2, 2, 2] (.bk 3) rfl, xk B6 [2, 1, 2, 2, 1, 2, 2, 1, 2, 2, 2, 2, 2, 2, 2, 2, 2, 2, 2, 2, 2] .sq rfl, show (nav B6 [1, 2, 1, 2, 2, 1, 2, 2, 1, 2, 2, 2, 2, 2, 2, 2, 2, 2, 2, 2, 2, 2]) = Code.region 24 _ false from rfl, hk_6_24, hz_6_24, hs_6_24, xk B6 [2, 2, 1, 2, 2, 1, 2, 2, 1, 2, 2, 2, 2, 2, 2, 2, 2, 2, 2, 2, 2, 2] .sq rfl, show (nav B6 [1, 2, 2, 1, 2, 2, 1, 2, 2, 1, 2, 2, 2, 2, 2, 2, 2, 2, 2, 2, 2, 2, 2]) = Code.region 25 _ true from rfl, hk_6_25, hz_6_25, hs_6_25, indexAddrV, u_41, i_41, is_41, ib_41, iz_41, u_47, i_47, is_47, ib_47, iz_47, encT47_eq, ag_47, u_3, i_3, is_3, ib_3, iz_3, xk B6 [2, 2, 2, 1, 2, 2, 1, 2, 2, 1, 2, 2, 2, 2, 2, 2, 2, 2, 2, 2, 2, 2, 2] (.cd 95) rfl, h1, h2, h4, h5, h7]
  replace hF := cond_some hF
  rcases hF with ⟨h8, hF⟩ | ⟨h8, hF⟩
  · cases hF
    simp (maxSteps := 999999) (disch := first | exact D (by decide) | exact K (by kernel_rfl)) only [E, EE, ↓reduceIte, simprocAttr, xk B6 [2, 2, 2, 2, 1, 2, 2, 1, 2, 2, 1, 2, 2, 2, 2, 2, 2, 2, 2, 2, 2, 2, 2, 2] .sq rfl, show (nav B6 [1, 2, 2, 2, 2, 1, 2, 2, 1, 2, 2, 1, 2, 2, 2, 2, 2, 2, 2, 2, 2, 2, 2, 2, 2]) = Code.region 26 _ false from rfl, hk_6_26, hz_6_26, hs_6_26, xk B6 [2, 2, 2, 2, 2, 1, 2, 2, 1, 2, 2, 1, 2, 2, 2, 2, 2, 2, 2, 2, 2, 2, 2, 2, 2] .rt rfl, R6_r_l8.st, h1, h2, h4, h5, h7, h8]
  · have hJ := f6_r_l8_j2_ok k x83 x84 false h0_ h1_ _ hF
    simp (maxSteps := 999999) (disch := first | exact D (by decide) | exact K (by kernel_rfl)) only [E, EE, ↓reduceIte, simprocAttr, xk B6 [3, 2, 2, 2, 1, 2, 2, 1, 2, 2, 1, 2, 2, 2, 2, 2, 2, 2, 2, 2, 2, 2, 2, 2] .sk rfl, h1, h2, h4, h5, h7, h8]
    try simp only [NM, EE] at hJ
    exact hJ
noncomputable def f6_r_l8_b (k : Nat) (x83 x84 : Int) (h0_ h1_ : List T47) : Option R6_r_l8 :=
  cond ((decide (x84 < x83)))
    (f6_r_l8_j1 k x83 x84 true h0_ h1_)
    (some (R6_r_l8.o2 x83 x84 false h0_ h1_))
theorem f6_r_l8_b_ok (k : Nat) (x83 x84 : Int) (h0_ h1_ : List T47) (r : R6_r_l8) (hF : f6_r_l8_b k x83 x84 h0_ h1_ = some r) : EX 6 k (nav B6 [1, 2, 2, 1, 2, 2, 2, 2, 2, 2, 2, 2, 2, 2, 2, 2, 2]) ({ n := 97, F := [(9, V.own 30000), (11, V.own 30001), (83, V.p (Value.int .i64 x83)), (84, V.p (Value.int .i64 x84))], M := [(30000, O.row true 2 47 (rowsOf encT47 h0_)), (30001, O.row true 2 47 (rowsOf encT47 h1_))] } : St) = some r.st := by
  unfold f6_r_l8_b at hF
  simp (maxSteps := 999999) (disch := first | exact D (by decide) | exact K (by kernel_rfl)) only [E, EE, ↓reduceIte, simprocAttr, xk B6 [1, 2, 2, 1, 2, 2, 2, 2, 2, 2, 2, 2, 2, 2, 2, 2, 2] .sq rfl, show (nav B6 [1, 1, 2, 2, 1, 2, 2, 2, 2, 2, 2, 2, 2, 2, 2, 2, 2, 2]) = Code.region 23 _ false from rfl, hk_6_23, hz_6_23, hs_6_23, xk B6 [2, 1, 2, 2, 1, 2, 2, 2, 2, 2, 2, 2, 2, 2, 2, 2, 2, 2] .sq rfl, xk B6 [1, 2, 1, 2, 2, 1, 2, 2, 2, 2, 2, 2, 2, 2, 2, 2, 2, 2, 2] (.cd 85) rfl]
  replace hF := cond_some hF
  rcases hF with ⟨h1, hF⟩ | ⟨h1, hF⟩
  · have hJ := f6_r_l8_j1_ok k x83 x84 true h0_ h1_ _ hF
    simp (maxSteps := 999999) (disch := first | exact D (by decide) | exact K (by kernel_rfl)) only [E, EE, ↓reduceIte, simprocAttr, xk B6 [2, 1, 2, 1, 2, 2, 1, 2, 2, 2, 2, 2, 2, 2, 2, 2, 2, 2, 2, 2] .sk rfl, h1]
    try simp only [NM, EE] at hJ
    exact hJ
  · cases hF
    simp (maxSteps := 999999) (disch := first | exact D (by decide) | exact K (by kernel_rfl)) only [E, EE, ↓reduceIte, simprocAttr, xk B6 [3, 1, 2, 1, 2, 2, 1, 2, 2, 2, 2, 2, 2, 2, 2, 2, 2, 2, 2, 2] (.ex 2) rfl, R6_r_l8.st, h1]
noncomputable def f6_r_l8 (k : Nat) : Nat → Int → Int → (List T47) → (List T47) → Option R6_r_l8
  | 0, _, _, _, _ => none
  | n + 1, x83, x84, h0_, h1_ => Option.bind (f6_r_l8_b k x83 x84 h0_ h1_) fun o =>
    match o with
    | .o0 y => some (.o0 y)
    | .o1 y y_1 y_2 y_3 => f6_r_l8 k n y y_1 y_2 y_3
    | .o2 y y_1 y_2 y_3 y_4 => some (.o2 y y_1 y_2 y_3 y_4)
theorem f6_r_l8_ok (k n : Nat) : ∀ (x83 x84 : Int) (h0_ h1_ : List T47) (r : R6_r_l8) (hF : f6_r_l8 k n x83 x84 h0_ h1_ = some r) (σ : St) (hσ : headR (hints.head 6 23) (hints.canon 6 23) σ = some ({ n := 97, F := [(9, V.own 30000), (11, V.own 30001), (83, V.p (Value.int .i64 x83)), (84, V.p (Value.int .i64 x84))], M := [(30000, O.row true 2 47 (rowsOf encT47 h0_)), (30001, O.row true 2 47 (rowsOf encT47 h1_))] } : St)), LP 6 k (nav B6 [1, 2, 2, 1, 2, 2, 2, 2, 2, 2, 2, 2, 2, 2, 2, 2, 2]) n σ = some r.st := by
  induction n with
  | zero => intro x83 x84 h0_ h1_ r hF; cases hF
  | succ n ih =>
    intro x83 x84 h0_ h1_ r hF σ hσ
    rw [f6_r_l8] at hF
    obtain ⟨o, h, hF⟩ := Option.bind_eq_some_iff.1 hF
    have hB := f6_r_l8_b_ok k x83 x84 h0_ h1_ o h
    unfold LP at ih ⊢
    unfold EX at hB
    rw [loopK_succ, show firstReg (nav B6 [1, 2, 2, 1, 2, 2, 2, 2, 2, 2, 2, 2, 2, 2, 2, 2, 2]) = 23 from rfl, hσ, headK_some, hB]
    cases o with
    | o0 y => cases hF; rfl
    | o1 y y_1 y_2 y_3 =>
      refine ih y y_1 y_2 y_3 r hF _ ?_
      simp (maxSteps := 999999) (disch := first | exact D (by decide) | exact K (by kernel_rfl)) only [E, EE, ↓reduceIte, simprocAttr, hh_6_23, hc_6_23]
    | o2 y y_1 y_2 y_3 y_4 => cases hF; rfl
noncomputable def f6_r_j9 (k : Nat) (x83 x84 : Int) (x85 : Bool) (h0_ h1_ : List T47) : Option R6_r :=
  some (R6_r.o0 true)
theorem f6_r_j9_ok (k : Nat) (x83 x84 : Int) (x85 : Bool) (h0_ h1_ : List T47) (r : R6_r) (hF : f6_r_j9 k x83 x84 x85 h0_ h1_ = some r) : finK Try.prog Try.f6 0 (EX 6 k (nav B6 [2, 2, 2, 2, 2, 2, 2, 2, 2, 2, 2, 2, 2, 2]) ({ n := 97, F := [(9, V.own 30000), (11, V.own 30001), (83, V.p (Value.int .i64 x83)), (84, V.p (Value.int .i64 x84)), (85, V.p (Value.bool x85))], M := [(30000, O.row true 2 47 (rowsOf encT47 h0_)), (30001, O.row true 2 47 (rowsOf encT47 h1_))] } : St)) = some r.st := by
  unfold f6_r_j9 at hF
  cases hF
  simp (maxSteps := 999999) (disch := first | exact D (by decide) | exact K (by kernel_rfl)) only [E, EE, ↓reduceIte, simprocAttr, xk B6 [2, 2, 2, 2, 2, 2, 2, 2, 2, 2, 2, 2, 2, 2] .sq rfl, show (nav B6 [1, 2, 2, 2, 2, 2, 2, 2, 2, 2, 2, 2, 2, 2, 2]) = Code.region 28 _ false from rfl, hk_6_28, hz_6_28, hs_6_28, xk B6 [2, 2, 2, 2, 2, 2, 2, 2, 2, 2, 2, 2, 2, 2, 2] .rt rfl, finK_norm, finK_ret, fin6, R6_r.st]
noncomputable def f6_r_j7 (k : Nat) (x81 : Bool) (m54 m72 : List T47) : Option R6_r :=
  Option.bind (f6_r_l8 k k ((List.length m54) : Int) 0 m54 m72) fun o1 =>
    match o1 with
    | .o0 v4 =>
      some (R6_r.o0 v4)
    | .o1 _ _ _ _ =>
      none
    | .o2 v5 v6 v7 v8 v9 =>
      f6_r_j9 k v5 v6 v7 v8 v9
theorem f6_r_j7_ok (k : Nat) (x81 : Bool) (m54 m72 : List T47) (r : R6_r) (hF : f6_r_j7 k x81 m54 m72 = some r) : finK Try.prog Try.f6 0 (EX 6 k (nav B6 [2, 2, 2, 2, 2, 2, 2, 2, 2, 2, 2, 2, 2]) ({ n := 97, F := [(9, V.own 54), (11, V.own 72), (81, V.p (Value.bool x81))], M := [(54, O.row true 2 47 (rowsOf encT47 m54)), (72, O.row true 2 47 (rowsOf encT47 m72))] } : St)) = some r.st := by
  unfold f6_r_j7 at hF
  replace hF := Option.bind_eq_some_iff.1 hF
  obtain ⟨o1, h2, hF⟩ := hF
  have hc3 := f6_r_l8_ok k k ((List.length m54) : Int) 0 m54 m72 _ h2
  simp (maxSteps := 999999) (disch := first | exact D (by decide) | exact K (by kernel_rfl)) only [E, EE, ↓reduceIte, simprocAttr, xk B6 [2, 2, 2, 2, 2, 2, 2, 2, 2, 2, 2, 2, 2] .sq rfl, xk B6 [1, 2, 2, 2, 2, 2, 2, 2, 2, 2, 2, 2, 2, 2] .sq rfl, show (nav B6 [1, 1, 2, 2, 2, 2, 2, 2, 2, 2, 2, 2, 2, 2, 2]) = Code.region 22 _ false from rfl, hk_6_22, hz_6_22, hs_6_22, u_41, i_41, is_41, ib_41, iz_41, xk B6 [2, 1, 2, 2, 2, 2, 2, 2, 2, 2, 2, 2, 2, 2, 2] (.bk 2) rfl, xk B6 [2, 2, 1, 2, 2, 2, 2, 2, 2, 2, 2, 2, 2, 2, 2, 2] .lp rfl, hh_6_23, hc_6_23]
  (try simp only [NM, EE] at hc3)
  rw [hc3 _ (by simp (maxSteps := 999999) (disch := first | exact D (by decide) | exact K (by kernel_rfl)) only [E, EE, ↓reduceIte, simprocAttr, hh_6_23, hc_6_23])]
  clear hc3
  cases o1 with
  | o0 v4 =>
    (try dsimp only at hF)
    cases hF
    simp (maxSteps := 999999) (disch := first | exact D (by decide) | exact K (by kernel_rfl)) only [E, EE, ↓reduceIte, simprocAttr, R6_r_l8.st, finK_norm, finK_ret, fin6, R6_r.st]
  | o1 _ _ _ _ =>
    (try dsimp only at hF)
    cases hF
  | o2 v5 v6 v7 v8 v9 =>
    (try dsimp only at hF)
    have hJ := f6_r_j9_ok k v5 v6 v7 v8 v9 _ hF
    simp (maxSteps := 999999) (disch := first | exact D (by decide) | exact K (by kernel_rfl)) only [E, EE, ↓reduceIte, simprocAttr, R6_r_l8.st]
    try simp only [NM, EE] at hJ
    exact hJ
noncomputable def f6_r_j6 (k : Nat) (x10 : Int) (x63 : Bool) (h1_ : List T25) (m54 : List T47) : Option R6_r :=
  Option.bind (f25_r k h1_) fun o1 =>
    match o1 with
    | .o0 v4 =>
      cond ((x10 != 0))
        (some (R6_r.o0 false))
        (
          cond ((((List.length m54) : Int) != ((List.length v4) : Int)))
            (some (R6_r.o0 false))
            (f6_r_j7 k false m54 v4))
theorem f6_r_j6_ok (k : Nat) (x10 : Int) (x63 : Bool) (h1_ : List T25) (m54 : List T47) (r : R6_r) (hF : f6_r_j6 k x10 x63 h1_ m54 = some r) : finK Try.prog Try.f6 0 (EX 6 k (nav B6 [2, 2, 2, 2, 2, 2, 2, 2, 2, 2, 2]) ({ n := 97, F := [(3, V.own 30001), (9, V.own 54), (10, V.p (Value.int .i64 x10)), (63, V.p (Value.bool x63))], M := [(30001, O.row false 11 25 (rowsOf encT25 h1_)), (54, O.row true 2 47 (rowsOf encT47 m54))] } : St)) = some r.st := by
  unfold f6_r_j6 at hF
  replace hF := Option.bind_eq_some_iff.1 hF
  obtain ⟨o1, h2, hF⟩ := hF
  have hc3 := f25_r_ok k h1_ _ h2
  cases o1 with
  | o0 v4 =>
    (try dsimp only at hF)
    (try simp only [NM, EE, R25_r.st] at hc3)
    simp (maxSteps := 999999) (disch := first | exact D (by decide) | exact K (by kernel_rfl)) only [E, EE, ↓reduceIte, simprocAttr, xk B6 [2, 2, 2, 2, 2, 2, 2, 2, 2, 2, 2] .sq rfl, show (nav B6 [1, 2, 2, 2, 2, 2, 2, 2, 2, 2, 2, 2]) = Code.region 19 _ false from rfl, hk_6_19, hz_6_19, hs_6_19, callStep, CL, gv, List.contains, xk B6 [2, 2, 2, 2, 2, 2, 2, 2, 2, 2, 2, 2] .sq rfl, xk B6 [1, 2, 2, 2, 2, 2, 2, 2, 2, 2, 2, 2, 2] .sq rfl, show (nav B6 [1, 1, 2, 2, 2, 2, 2, 2, 2, 2, 2, 2, 2, 2]) = Code.region 20 _ false from rfl, hk_6_20, hz_6_20, hs_6_20, hc3]
    replace hF := cond_some hF
    rcases hF with ⟨h5, hF⟩ | ⟨h5, hF⟩
    · cases hF
      simp (maxSteps := 999999) (disch := first | exact D (by decide) | exact K (by kernel_rfl)) only [E, EE, ↓reduceIte, simprocAttr, xk B6 [2, 1, 2, 2, 2, 2, 2, 2, 2, 2, 2, 2, 2, 2] (.cd 81) rfl, xk B6 [2, 2, 1, 2, 2, 2, 2, 2, 2, 2, 2, 2, 2, 2, 2] .sq rfl, show (nav B6 [1, 2, 2, 1, 2, 2, 2, 2, 2, 2, 2, 2, 2, 2, 2, 2]) = Code.region 21 _ false from rfl, hk_6_21, hz_6_21, hs_6_21, xk B6 [2, 2, 2, 1, 2, 2, 2, 2, 2, 2, 2, 2, 2, 2, 2, 2] .rt rfl, finK_norm, finK_ret, fin6, R6_r.st, hc3, h5]
    · simp (maxSteps := 999999) (disch := first | exact D (by decide) | exact K (by kernel_rfl)) only [E, EE, ↓reduceIte, simprocAttr, u_41, i_41, is_41, ib_41, iz_41, xk B6 [2, 1, 2, 2, 2, 2, 2, 2, 2, 2, 2, 2, 2, 2] (.cd 81) rfl, hc3, h5]
      replace hF := cond_some hF
      rcases hF with ⟨h6, hF⟩ | ⟨h6, hF⟩
      · cases hF
        simp (maxSteps := 999999) (disch := first | exact D (by decide) | exact K (by kernel_rfl)) only [E, EE, ↓reduceIte, simprocAttr, xk B6 [2, 2, 1, 2, 2, 2, 2, 2, 2, 2, 2, 2, 2, 2, 2] .sq rfl, show (nav B6 [1, 2, 2, 1, 2, 2, 2, 2, 2, 2, 2, 2, 2, 2, 2, 2]) = Code.region 21 _ false from rfl, hk_6_21, hz_6_21, hs_6_21, xk B6 [2, 2, 2, 1, 2, 2, 2, 2, 2, 2, 2, 2, 2, 2, 2, 2] .rt rfl, finK_norm, finK_ret, fin6, R6_r.st, hc3, h5, h6]
      · have hJ := f6_r_j7_ok k false m54 v4 _ hF
        simp (maxSteps := 999999) (disch := first | exact D (by decide) | exact K (by kernel_rfl)) only [E, EE, ↓reduceIte, simprocAttr, xk B6 [3, 2, 1, 2, 2, 2, 2, 2, 2, 2, 2, 2, 2, 2, 2] .sk rfl, hc3, h5, h6]
        try simp only [NM, EE] at hJ
        exact hJ
noncomputable def f6_r_j5 (k : Nat) (x10 : Int) (x60 : Bool) (h1_ : List T25) (m54 : List T47) : Option R6_r :=
  Option.bind (f24_r k h1_) fun o1 =>
    match o1 with
    | .o0 v4 =>
      cond ((!v4))
        (
          cond ((x10 == 280))
            (some (R6_r.o0 (((List.length m54) : Int) == 0)))
            (some (R6_r.o0 false)))
        (f6_r_j6 k x10 false h1_ m54)
theorem f6_r_j5_ok (k : Nat) (x10 : Int) (x60 : Bool) (h1_ : List T25) (m54 : List T47) (r : R6_r) (hF : f6_r_j5 k x10 x60 h1_ m54 = some r) : finK Try.prog Try.f6 0 (EX 6 k (nav B6 [2, 2, 2, 2, 2, 2, 2, 2, 2, 2]) ({ n := 97, F := [(3, V.own 30001), (9, V.own 54), (10, V.p (Value.int .i64 x10)), (60, V.p (Value.bool x60))], M := [(30001, O.row false 11 25 (rowsOf encT25 h1_)), (54, O.row true 2 47 (rowsOf encT47 m54))] } : St)) = some r.st := by
  unfold f6_r_j5 at hF
  replace hF := Option.bind_eq_some_iff.1 hF
  obtain ⟨o1, h2, hF⟩ := hF
  have hc3 := f24_r_ok k h1_ _ h2
  cases o1 with
  | o0 v4 =>
    (try dsimp only at hF)
    (try simp only [NM, EE, R24_r.st] at hc3)
    simp (maxSteps := 999999) (disch := first | exact D (by decide) | exact K (by kernel_rfl)) only [E, EE, ↓reduceIte, simprocAttr, xk B6 [2, 2, 2, 2, 2, 2, 2, 2, 2, 2] .sq rfl, xk B6 [1, 2, 2, 2, 2, 2, 2, 2, 2, 2, 2] .sq rfl, show (nav B6 [1, 1, 2, 2, 2, 2, 2, 2, 2, 2, 2, 2]) = Code.region 17 _ false from rfl, hk_6_17, hz_6_17, hs_6_17, callStep, CL, gv, List.contains, xk B6 [2, 1, 2, 2, 2, 2, 2, 2, 2, 2, 2, 2] (.cd 63) rfl, hc3]
    replace hF := cond_some hF
    rcases hF with ⟨h5, hF⟩ | ⟨h5, hF⟩
    · simp (maxSteps := 999999) (disch := first | exact D (by decide) | exact K (by kernel_rfl)) only [E, EE, ↓reduceIte, simprocAttr, xk B6 [2, 2, 1, 2, 2, 2, 2, 2, 2, 2, 2, 2, 2] .sq rfl, show (nav B6 [1, 2, 2, 1, 2, 2, 2, 2, 2, 2, 2, 2, 2, 2]) = Code.region 18 _ false from rfl, hk_6_18, hz_6_18, hs_6_18, hc3, h5]
      replace hF := cond_some hF
      rcases hF with ⟨h6, hF⟩ | ⟨h6, hF⟩
      · cases hF
        simp (maxSteps := 999999) (disch := first | exact D (by decide) | exact K (by kernel_rfl)) only [E, EE, ↓reduceIte, simprocAttr, u_41, i_41, is_41, ib_41, iz_41, xk B6 [2, 2, 2, 1, 2, 2, 2, 2, 2, 2, 2, 2, 2, 2] .rt rfl, finK_norm, finK_ret, fin6, R6_r.st, hc3, h5, h6]
      · cases hF
        simp (maxSteps := 999999) (disch := first | exact D (by decide) | exact K (by kernel_rfl)) only [E, EE, ↓reduceIte, simprocAttr, xk B6 [2, 2, 2, 1, 2, 2, 2, 2, 2, 2, 2, 2, 2, 2] .rt rfl, finK_norm, finK_ret, fin6, R6_r.st, hc3, h5, h6]
    · have hJ := f6_r_j6_ok k x10 false h1_ m54 _ hF
      simp (maxSteps := 999999) (disch := first | exact D (by decide) | exact K (by kernel_rfl)) only [E, EE, ↓reduceIte, simprocAttr, xk B6 [3, 2, 1, 2, 2, 2, 2, 2, 2, 2, 2, 2, 2] .sk rfl, hc3, h5]
      try simp only [NM, EE] at hJ
      exact hJ
noncomputable def f6_r_j4 (k : Nat) (x40 x41 : Int) (x42 : Bool) (h0_ h1_ : List T25) (h2_ h2__1 h2__2 h2__3 h2__4 h2__5 h2__6 h2__7 h2__8 h2__9 : Int) (h2__10 : List Int) : Option R6_r :=
  Option.bind (f23_r k h0_) fun o1 =>
    match o1 with
    | .o0 v4 v5 =>
      Option.bind (f13_rr k h0_ h1_) fun o6 =>
        match o6 with
        | .o0 v9 =>
          cond ((!v9))
            (some (R6_r.o0 false))
            (f6_r_j5 k v4 false h1_ v5)
theorem f6_r_j4_ok (k : Nat) (x40 x41 : Int) (x42 : Bool) (h0_ h1_ : List T25) (h2_ h2__1 h2__2 h2__3 h2__4 h2__5 h2__6 h2__7 h2__8 h2__9 : Int) (h2__10 : List Int) (r : R6_r) (hF : f6_r_j4 k x40 x41 x42 h0_ h1_ h2_ h2__1 h2__2 h2__3 h2__4 h2__5 h2__6 h2__7 h2__8 h2__9 h2__10 = some r) : finK Try.prog Try.f6 0 (EX 6 k (nav B6 [2, 2, 2, 2, 2, 2, 2, 2]) ({ n := 97, F := [(0, V.own 30000), (3, V.own 30001), (4, V.ptr 30002 0), (40, V.p (Value.int .i64 x40)), (41, V.p (Value.int .i64 x41)), (42, V.p (Value.bool x42))], M := [(30000, O.row false 11 25 (rowsOf encT25 h0_)), (30001, O.row false 11 25 (rowsOf encT25 h1_)), (30002, O.box 25 [V.p (Value.int .i64 h2_), V.p (Value.int .i64 h2__1), V.p (Value.int .u32 h2__2), V.p (Value.int .i64 h2__3), V.p (Value.int .i64 h2__4), V.p (Value.int .i64 h2__5), V.p (Value.int .i64 h2__6), V.p (Value.int .i64 h2__7), V.p (Value.int .i64 h2__8), V.p (Value.int .i64 h2__9), V.sl 1 (rowsOf (encI .u8) h2__10)])] } : St)) = some r.st := by
  unfold f6_r_j4 at hF
  replace hF := Option.bind_eq_some_iff.1 hF
  obtain ⟨o1, h2, hF⟩ := hF
  have hc3 := f23_r_ok k h0_ _ h2
  cases o1 with
  | o0 v4 v5 =>
    (try dsimp only at hF)
    (try simp only [NM, EE, R23_r.st] at hc3)
    replace hF := Option.bind_eq_some_iff.1 hF
    obtain ⟨o6, h7, hF⟩ := hF
    have hc8 := f13_rr_ok k h0_ h1_ _ h7
    cases o6 with
    | o0 v9 =>
      (try dsimp only at hF)
      (try simp only [NM, EE, R13_rr.st] at hc8)
      simp (maxSteps := 999999) (disch := first | exact D (by decide) | exact K (by kernel_rfl)) only [E, EE, ↓reduceIte, simprocAttr, xk B6 [2, 2, 2, 2, 2, 2, 2, 2] .sq rfl, show (nav B6 [1, 2, 2, 2, 2, 2, 2, 2, 2]) = Code.region 14 _ false from rfl, hk_6_14, hz_6_14, hs_6_14, callStep, CL, gv, List.contains, xk B6 [2, 2, 2, 2, 2, 2, 2, 2, 2] .sq rfl, xk B6 [1, 2, 2, 2, 2, 2, 2, 2, 2, 2] .sq rfl, show (nav B6 [1, 1, 2, 2, 2, 2, 2, 2, 2, 2, 2]) = Code.region 15 _ false from rfl, hk_6_15, hz_6_15, hs_6_15, xk B6 [2, 1, 2, 2, 2, 2, 2, 2, 2, 2, 2] (.cd 60) rfl, hc3, hc8]
      replace hF := cond_some hF
      rcases hF with ⟨h10, hF⟩ | ⟨h10, hF⟩
      · cases hF
        simp (maxSteps := 999999) (disch := first | exact D (by decide) | exact K (by kernel_rfl)) only [E, EE, ↓reduceIte, simprocAttr, xk B6 [2, 2, 1, 2, 2, 2, 2, 2, 2, 2, 2, 2] .sq rfl, show (nav B6 [1, 2, 2, 1, 2, 2, 2, 2, 2, 2, 2, 2, 2]) = Code.region 16 _ false from rfl, hk_6_16, hz_6_16, hs_6_16, xk B6 [2, 2, 2, 1, 2, 2, 2, 2, 2, 2, 2, 2, 2] .rt rfl, finK_norm, finK_ret, fin6, R6_r.st, hc3, hc8, h10]
      · have hJ := f6_r_j5_ok k v4 false h1_ v5 _ hF
        simp (maxSteps := 999999) (disch := first | exact D (by decide) | exact K (by kernel_rfl)) only [E, EE, ↓reduceIte, simprocAttr, xk B6 [3, 2, 1, 2, 2, 2, 2, 2, 2, 2, 2, 2] .sk rfl, hc3, hc8, h10]
        try simp only [NM, EE] at hJ
        exact hJ
noncomputable def f6_r_j2 (k : Nat) (x37 : Bool) (m16 m18 : List T25) (m4 m4_1 m4_2 m4_3 m4_4 m4_5 m4_6 m4_7 m4_8 m4_9 : Int) (m4_10 : List Int) : Option R6_r :=
  Option.bind (f6_r_l3 k k ((List.length m4_10) : Int) 0 m16 m18 m4 m4_1 m4_2 m4_3 m4_4 m4_5 m4_6 m4_7 m4_8 m4_9 m4_10) fun o1 =>
    match o1 with
    | .o0 v4 v5 v6 v7 v8 v9 v10 v11 v12 v13 v14 v15 v16 v17 v18 v19 =>
      f6_r_j4 k v4 v5 v6 v7 v8 v9 v10 v11 v12 v13 v14 v15 v16 v17 v18 v19
theorem f6_r_j2_ok (k : Nat) (x37 : Bool) (m16 m18 : List T25) (m4 m4_1 m4_2 m4_3 m4_4 m4_5 m4_6 m4_7 m4_8 m4_9 : Int) (m4_10 : List Int) (r : R6_r) (hF : f6_r_j2 k x37 m16 m18 m4 m4_1 m4_2 m4_3 m4_4 m4_5 m4_6 m4_7 m4_8 m4_9 m4_10 = some r) : finK Try.prog Try.f6 0 (EX 6 k (nav B6 [2, 2, 2, 2, 2, 2, 2]) ({ n := 97, F := [(0, V.own 16), (3, V.own 18), (4, V.ptr 4 0), (37, V.p (Value.bool x37))], M := [(16, O.row false 11 25 (rowsOf encT25 m16)), (18, O.row false 11 25 (rowsOf encT25 m18)), (4, O.box 25 [V.p (Value.int .i64 m4), V.p (Value.int .i64 m4_1), V.p (Value.int .u32 m4_2), V.p (Value.int .i64 m4_3), V.p (Value.int .i64 m4_4), V.p (Value.int .i64 m4_5), V.p (Value.int .i64 m4_6), V.p (Value.int .i64 m4_7), V.p (Value.int .i64 m4_8), V.p (Value.int .i64 m4_9), V.sl 1 (rowsOf (encI .u8) m4_10)])] } : St)) = some r.st := by
  unfold f6_r_j2 at hF
  replace hF := Option.bind_eq_some_iff.1 hF
  obtain ⟨o1, h2, hF⟩ := hF
  have hc3 := f6_r_l3_ok k k ((List.length m4_10) : Int) 0 m16 m18 m4 m4_1 m4_2 m4_3 m4_4 m4_5 m4_6 m4_7 m4_8 m4_9 m4_10 _ h2
  simp (maxSteps := 999999) (disch := first | exact D (by decide) | exact K (by kernel_rfl)) only [E, EE, ↓reduceIte, simprocAttr, xk B6 [2, 2, 2, 2, 2, 2, 2] .sq rfl, xk B6 [1, 2, 2, 2, 2, 2, 2, 2] .sq rfl, show (nav B6 [1, 1, 2, 2, 2, 2, 2, 2, 2]) = Code.region 9 _ false from rfl, hk_6_9, hz_6_9, hs_6_9, fieldAddrV, u_25, i_25, is_25, ib_25, iz_25, u_23, i_23, is_23, ib_23, iz_23, xk B6 [2, 1, 2, 2, 2, 2, 2, 2, 2] (.bk 0) rfl, xk B6 [2, 2, 1, 2, 2, 2, 2, 2, 2, 2] .lp rfl, hh_6_10, hc_6_10]
  (try simp only [NM, EE] at hc3)
  rw [hc3 _ (by simp (maxSteps := 999999) (disch := first | exact D (by decide) | exact K (by kernel_rfl)) only [E, EE, ↓reduceIte, simprocAttr, hh_6_10, hc_6_10])]
  clear hc3
  cases o1 with
  | o0 v4 v5 v6 v7 v8 v9 v10 v11 v12 v13 v14 v15 v16 v17 v18 v19 =>
    (try dsimp only at hF)
    have hJ := f6_r_j4_ok k v4 v5 v6 v7 v8 v9 v10 v11 v12 v13 v14 v15 v16 v17 v18 v19 _ hF
    simp (maxSteps := 999999) (disch := first | exact D (by decide) | exact K (by kernel_rfl)) only [E, EE, ↓reduceIte, simprocAttr, R6_r_l3.st]
    try simp only [NM, EE] at hJ
    exact hJ
inductive R6_r_l11 where
  | o0 (y y_1 : Int) (y_2 y_3 : List T25) (y_4 y_5 y_6 y_7 y_8 y_9 y_10 y_11 y_12 y_13 : Int) (y_14 : List Int)
  | o1 (y y_1 : Int) (y_2 : Bool) (y_3 y_4 : List T25) (y_5 y_6 y_7 y_8 y_9 y_10 y_11 y_12 y_13 y_14 : Int) (y_15 : List Int)
noncomputable def R6_r_l11.st : R6_r_l11 → Out × St
  | .o0 y y_1 y_2 y_3 y_4 y_5 y_6 y_7 y_8 y_9 y_10 y_11 y_12 y_13 y_14 => (.norm, ({ n := 97, F := [(0, V.own 30000), (3, V.own 30001), (4, V.ptr 30002 0), (40, V.p (Value.int .i64 y)), (41, V.p (Value.int .i64 y_1))], M := [(30000, O.row false 11 25 (rowsOf encT25 y_2)), (30001, O.row false 11 25 (rowsOf encT25 y_3)), (30002, O.box 25 [V.p (Value.int .i64 y_4), V.p (Value.int .i64 y_5), V.p (Value.int .u32 y_6), V.p (Value.int .i64 y_7), V.p (Value.int .i64 y_8), V.p (Value.int .i64 y_9), V.p (Value.int .i64 y_10), V.p (Value.int .i64 y_11), V.p (Value.int .i64 y_12), V.p (Value.int .i64 y_13), V.own 30003]), (30003, O.row true 1 5 (rowsOf (encI .u8) y_14))] } : St))
  | .o1 y y_1 y_2 y_3 y_4 y_5 y_6 y_7 y_8 y_9 y_10 y_11 y_12 y_13 y_14 y_15 => (.exit 0, ({ n := 97, F := [(0, V.own 30000), (3, V.own 30001), (4, V.ptr 30002 0), (40, V.p (Value.int .i64 y)), (41, V.p (Value.int .i64 y_1)), (42, V.p (Value.bool y_2))], M := [(30000, O.row false 11 25 (rowsOf encT25 y_3)), (30001, O.row false 11 25 (rowsOf encT25 y_4)), (30002, O.box 25 [V.p (Value.int .i64 y_5), V.p (Value.int .i64 y_6), V.p (Value.int .u32 y_7), V.p (Value.int .i64 y_8), V.p (Value.int .i64 y_9), V.p (Value.int .i64 y_10), V.p (Value.int .i64 y_11), V.p (Value.int .i64 y_12), V.p (Value.int .i64 y_13), V.p (Value.int .i64 y_14), V.own 30003]), (30003, O.row true 1 5 (rowsOf (encI .u8) y_15))] } : St))
noncomputable def f6_r_l11_j2 (k : Nat) (x40 x41 : Int) (h0_ h1_ : List T25) (h2_ h2__1 h2__2 h2__3 h2__4 h2__5 h2__6 h2__7 h2__8 h2__9 : Int) (h3_ : List Int) : Option R6_r_l11 :=
  some (R6_r_l11.o0 x40 (IntKind.i64.wrap (x41 + (1 : Int))) h0_ h1_ h2_ h2__1 h2__2 h2__3 h2__4 h2__5 h2__6 h2__7 h2__8 h2__9 h3_)
theorem f6_r_l11_j2_ok (k : Nat) (x40 x41 : Int) (h0_ h1_ : List T25) (h2_ h2__1 h2__2 h2__3 h2__4 h2__5 h2__6 h2__7 h2__8 h2__9 : Int) (h3_ : List Int) (r : R6_r_l11) (hF : f6_r_l11_j2 k x40 x41 h0_ h1_ h2_ h2__1 h2__2 h2__3 h2__4 h2__5 h2__6 h2__7 h2__8 h2__9 h3_ = some r) : EX 6 k (nav B6 [2, 2, 2, 1, 2, 2, 1, 2, 2, 2, 2, 2, 2, 2]) ({ n := 97, F := [(0, V.own 30000), (3, V.own 30001), (4, V.ptr 30002 0), (40, V.p (Value.int .i64 x40)), (41, V.p (Value.int .i64 x41))], M := [(30000, O.row false 11 25 (rowsOf encT25 h0_)), (30001, O.row false 11 25 (rowsOf encT25 h1_)), (30002, O.box 25 [V.p (Value.int .i64 h2_), V.p (Value.int .i64 h2__1), V.p (Value.int .u32 h2__2), V.p (Value.int .i64 h2__3), V.p (Value.int .i64 h2__4), V.p (Value.int .i64 h2__5), V.p (Value.int .i64 h2__6), V.p (Value.int .i64 h2__7), V.p (Value.int .i64 h2__8), V.p (Value.int .i64 h2__9), V.own 30003]), (30003, O.row true 1 5 (rowsOf (encI .u8) h3_))] } : St) = some r.st := by
  unfold f6_r_l11_j2 at hF
  cases hF
  simp (maxSteps := 999999) (disch := first | exact D (by decide) | exact K (by kernel_rfl)) only [E, EE, ↓reduceIte, simprocAttr, show (nav B6 [2, 2, 2, 1, 2, 2, 1, 2, 2, 2, 2, 2, 2, 2]) = Code.region 13 _ false from rfl, hk_6_13, hz_6_13, hs_6_13, R6_r_l11.st]
noncomputable def f6_r_l11_j1 (k : Nat) (x40 x41 : Int) (x42 : Bool) (h0_ h1_ : List T25) (h2_ h2__1 h2__2 h2__3 h2__4 h2__5 h2__6 h2__7 h2__8 h2__9 : Int) (h3_ : List Int) : Option R6_r_l11 :=
  ifE ((0 : Int) ≤ x41) (
    ifE (x41 < ((List.length h3_) : Int)) (
      Option.bind (h3_[(Int.toNat x41)]?) fun v3 =>
        f6_r_l11_j2 k x40 x41 h0_ h1_ h2_ h2__1 h2__2 h2__3 h2__4 h2__5 h2__6 h2__7 h2__8 h2__9 ((List.set h3_ (Int.toNat x41) ((IntKind.u8.wrap ((BitVec.ofInt (IntKind.bits .u8) v3 ^^^ BitVec.ofInt (IntKind.bits .u8) (238 : Int)).toNat : Nat)))))))
theorem f6_r_l11_j1_ok (k : Nat) (x40 x41 : Int) (x42 : Bool) (h0_ h1_ : List T25) (h2_ h2__1 h2__2 h2__3 h2__4 h2__5 h2__6 h2__7 h2__8 h2__9 : Int) (h3_ : List Int) (r : R6_r_l11) (hF : f6_r_l11_j1 k x40 x41 x42 h0_ h1_ h2_ h2__1 h2__2 h2__3 h2__4 h2__5 h2__6 h2__7 h2__8 h2__9 h3_ = some r) : EX 6 k (nav B6 [2, 2, 1, 2, 2, 1, 2, 2, 2, 2, 2, 2, 2]) ({ n := 97, F := [(0, V.own 30000), (3, V.own 30001), (4, V.ptr 30002 0), (40, V.p (Value.int .i64 x40)), (41, V.p (Value.int .i64 x41)), (42, V.p (Value.bool x42))], M := [(30000, O.row false 11 25 (rowsOf encT25 h0_)), (30001, O.row false 11 25 (rowsOf encT25 h1_)), (30002, O.box 25 [V.p (Value.int .i64 h2_), V.p (Value.int .i64 h2__1), V.p (Value.int .u32 h2__2), V.p (Value.int .i64 h2__3), V.p (Value.int .i64 h2__4), V.p (Value.int .i64 h2__5), V.p (Value.int .i64 h2__6), V.p (Value.int .i64 h2__7), V.p (Value.int .i64 h2__8), V.p (Value.int .i64 h2__9), V.own 30003]), (30003, O.row true 1 5 (rowsOf (encI .u8) h3_))] } : St) = some r.st := by
  unfold f6_r_l11_j1 at hF
  replace hF := ifE_some.1 hF
  obtain ⟨h1, hF⟩ := hF
  replace hF := ifE_some.1 hF
  obtain ⟨h2, hF⟩ := hF
  replace hF := Option.bind_eq_some_iff.1 hF
  obtain ⟨v3, h4, hF⟩ := hF
  have q5 : List.set (rowsOf (encI .u8) h3_) (Int.toNat x41) [V.p (Value.int .u8 (IntKind.u8.wrap ((BitVec.ofInt (IntKind.bits .u8) v3 ^^^ BitVec.ofInt (IntKind.bits .u8) (238 : Int)).toNat : Nat)))] = rowsOf (encI .u8) (List.set h3_ (Int.toNat x41) ((IntKind.u8.wrap ((BitVec.ofInt (IntKind.bits .u8) v3 ^^^ BitVec.ofInt (IntKind.bits .u8) (238 : Int)).toNat : Nat)))) := (rowsOf_set (enc := (encI .u8)) (l := h3_) (i := (Int.toNat x41)) (x := (IntKind.u8.wrap ((BitVec.ofInt (IntKind.bits .u8) v3 ^^^ BitVec.ofInt (IntKind.bits .u8) (238 : Int)).toNat : Nat)))).symm
  have hJ := f6_r_l11_j2_ok k x40 x41 h0_ h1_ h2_ h2__1 h2__2 h2__3 h2__4 h2__5 h2__6 h2__7 h2__8 h2__9 ((List.set h3_ (Int.toNat x41) ((IntKind.u8.wrap ((BitVec.ofInt (IntKind.bits .u8) v3 ^^^ BitVec.ofInt (IntKind.bits .u8) (238 : Int)).toNat : Nat))))) _ hF
  simp (maxSteps := 999999) (disch := first | exact D (by decide) | exact K (by kernel_rfl)) only [E, EE, ↓reduceIte, simprocAttr, xk B6 [2, 2, 1, 2, 2, 1, 2, 2, 2, 2, 2, 2, 2] .sq rfl, xk B6 [1, 2, 2, 1, 2, 2, 1, 2, 2, 2, 2, 2, 2, 2] (.bk 1) rfl, xk B6 [2, 1, 2, 2, 1, 2, 2, 1, 2, 2, 2, 2, 2, 2, 2] .sq rfl, show (nav B6 [1, 2, 1, 2, 2, 1, 2, 2, 1, 2, 2, 2, 2, 2, 2, 2]) = Code.region 11 _ false from rfl, hk_6_11, hz_6_11, hs_6_11, show (nav B6 [2, 2, 1, 2, 2, 1, 2, 2, 1, 2, 2, 2, 2, 2, 2, 2]) = Code.region 12 _ false from rfl, hk_6_12, hz_6_12, hs_6_12, fieldAddrV, u_25, i_25, is_25, ib_25, iz_25, u_23, i_23, is_23, ib_23, iz_23, indexAddrV, u_5, i_5, is_5, ib_5, iz_5, encI_eq, sm_5, h1, h2, h4, q5]
  try simp only [NM, EE] at hJ
  exact hJ
noncomputable def f6_r_l11_b (k : Nat) (x40 x41 : Int) (h0_ h1_ : List T25) (h2_ h2__1 h2__2 h2__3 h2__4 h2__5 h2__6 h2__7 h2__8 h2__9 : Int) (h3_ : List Int) : Option R6_r_l11 :=
  cond ((decide (x41 < x40)))
    (f6_r_l11_j1 k x40 x41 true h0_ h1_ h2_ h2__1 h2__2 h2__3 h2__4 h2__5 h2__6 h2__7 h2__8 h2__9 h3_)
    (some (R6_r_l11.o1 x40 x41 false h0_ h1_ h2_ h2__1 h2__2 h2__3 h2__4 h2__5 h2__6 h2__7 h2__8 h2__9 h3_))
theorem f6_r_l11_b_ok (k : Nat) (x40 x41 : Int) (h0_ h1_ : List T25) (h2_ h2__1 h2__2 h2__3 h2__4 h2__5 h2__6 h2__7 h2__8 h2__9 : Int) (h3_ : List Int) (r : R6_r_l11) (hF : f6_r_l11_b k x40 x41 h0_ h1_ h2_ h2__1 h2__2 h2__3 h2__4 h2__5 h2__6 h2__7 h2__8 h2__9 h3_ = some r) : EX 6 k (nav B6 [1, 2, 2, 1, 2, 2, 2, 2, 2, 2, 2]) ({ n := 97, F := [(0, V.own 30000), (3, V.own 30001), (4, V.ptr 30002 0), (40, V.p (Value.int .i64 x40)), (41, V.p (Value.int .i64 x41))], M := [(30000, O.row false 11 25 (rowsOf encT25 h0_)), (30001, O.row false 11 25 (rowsOf encT25 h1_)), (30002, O.box 25 [V.p (Value.int .i64 h2_), V.p (Value.int .i64 h2__1), V.p (Value.int .u32 h2__2), V.p (Value.int .i64 h2__3), V.p (Value.int .i64 h2__4), V.p (Value.int .i64 h2__5), V.p (Value.int .i64 h2__6), V.p (Value.int .i64 h2__7), V.p (Value.int .i64 h2__8), V.p (Value.int .i64 h2__9), V.own 30003]), (30003, O.row true 1 5 (rowsOf (encI .u8) h3_))] } : St) = some r.st := by
  unfold f6_r_l11_b at hF
  simp (maxSteps := 999999) (disch := first | exact D (by decide) | exact K (by kernel_rfl)) only [E, EE, ↓reduceIte, simprocAttr, xk B6 [1, 2, 2, 1, 2, 2, 2, 2, 2, 2, 2] .sq rfl, show (nav B6 [1, 1, 2, 2, 1, 2, 2, 2, 2, 2, 2, 2]) = Code.region 10 _ false from rfl, hk_6_10, hz_6_10, hs_6_10, xk B6 [2, 1, 2, 2, 1, 2, 2, 2, 2, 2, 2, 2] .sq rfl, xk B6 [1, 2, 1, 2, 2, 1, 2, 2, 2, 2, 2, 2, 2] (.cd 42) rfl]
  replace hF := cond_some hF
  rcases hF with ⟨h1, hF⟩ | ⟨h1, hF⟩
  · have hJ := f6_r_l11_j1_ok k x40 x41 true h0_ h1_ h2_ h2__1 h2__2 h2__3 h2__4 h2__5 h2__6 h2__7 h2__8 h2__9 h3_ _ hF
    simp (maxSteps := 999999) (disch := first | exact D (by decide) | exact K (by kernel_rfl)) only [E, EE, ↓reduceIte, simprocAttr, xk B6 [2, 1, 2, 1, 2, 2, 1, 2, 2, 2, 2, 2, 2, 2] .sk rfl, h1]
    try simp only [NM, EE] at hJ
    exact hJ
  · cases hF
    simp (maxSteps := 999999) (disch := first | exact D (by decide) | exact K (by kernel_rfl)) only [E, EE, ↓reduceIte, simprocAttr, xk B6 [3, 1, 2, 1, 2, 2, 1, 2, 2, 2, 2, 2, 2, 2] (.ex 0) rfl, R6_r_l11.st, h1]
noncomputable def f6_r_l11 (k : Nat) : Nat → Int → Int → (List T25) → (List T25) → Int → Int → Int → Int → Int → Int → Int → Int → Int → Int → (List Int) → Option R6_r_l11
  | 0, _, _, _, _, _, _, _, _, _, _, _, _, _, _, _ => none
  | n + 1, x40, x41, h0_, h1_, h2_, h2__1, h2__2, h2__3, h2__4, h2__5, h2__6, h2__7, h2__8, h2__9, h3_ => Option.bind (f6_r_l11_b k x40 x41 h0_ h1_ h2_ h2__1 h2__2 h2__3 h2__4 h2__5 h2__6 h2__7 h2__8 h2__9 h3_) fun o =>
    match o with
    | .o0 y y_1 y_2 y_3 y_4 y_5 y_6 y_7 y_8 y_9 y_10 y_11 y_12 y_13 y_14 => f6_r_l11 k n y y_1 y_2 y_3 y_4 y_5 y_6 y_7 y_8 y_9 y_10 y_11 y_12 y_13 y_14
    | .o1 y y_1 y_2 y_3 y_4 y_5 y_6 y_7 y_8 y_9 y_10 y_11 y_12 y_13 y_14 y_15 => some (.o1 y y_1 y_2 y_3 y_4 y_5 y_6 y_7 y_8 y_9 y_10 y_11 y_12 y_13 y_14 y_15)
theorem f6_r_l11_ok (k n : Nat) : ∀ (x40 x41 : Int) (h0_ h1_ : List T25) (h2_ h2__1 h2__2 h2__3 h2__4 h2__5 h2__6 h2__7 h2__8 h2__9 : Int) (h3_ : List Int) (r : R6_r_l11) (hF : f6_r_l11 k n x40 x41 h0_ h1_ h2_ h2__1 h2__2 h2__3 h2__4 h2__5 h2__6 h2__7 h2__8 h2__9 h3_ = some r) (σ : St) (hσ : headR (hints.head 6 10) (hints.canon 6 10) σ = some ({ n := 97, F := [(0, V.own 30000), (3, V.own 30001), (4, V.ptr 30002 0), (40, V.p (Value.int .i64 x40)), (41, V.p (Value.int .i64 x41))], M := [(30000, O.row false 11 25 (rowsOf encT25 h0_)), (30001, O.row false 11 25 (rowsOf encT25 h1_)), (30002, O.box 25 [V.p (Value.int .i64 h2_), V.p (Value.int .i64 h2__1), V.p (Value.int .u32 h2__2), V.p (Value.int .i64 h2__3), V.p (Value.int .i64 h2__4), V.p (Value.int .i64 h2__5), V.p (Value.int .i64 h2__6), V.p (Value.int .i64 h2__7), V.p (Value.int .i64 h2__8), V.p (Value.int .i64 h2__9), V.own 30003]), (30003, O.row true 1 5 (rowsOf (encI .u8) h3_))] } : St)), LP 6 k (nav B6 [1, 2, 2, 1, 2, 2, 2, 2, 2, 2, 2]) n σ = some r.st := by
  induction n with
  | zero => intro x40 x41 h0_ h1_ h2_ h2__1 h2__2 h2__3 h2__4 h2__5 h2__6 h2__7 h2__8 h2__9 h3_ r hF; cases hF
  | succ n ih =>
    intro x40 x41 h0_ h1_ h2_ h2__1 h2__2 h2__3 h2__4 h2__5 h2__6 h2__7 h2__8 h2__9 h3_ r hF σ hσ
    rw [f6_r_l11] at hF
    obtain ⟨o, h, hF⟩ := Option.bind_eq_some_iff.1 hF
    have hB := f6_r_l11_b_ok k x40 x41 h0_ h1_ h2_ h2__1 h2__2 h2__3 h2__4 h2__5 h2__6 h2__7 h2__8 h2__9 h3_ o h
    unfold LP at ih ⊢
    unfold EX at hB
    rw [loopK_succ, show firstReg (nav B6 [1, 2, 2, 1, 2, 2, 2, 2, 2, 2, 2]) = 10 from rfl, hσ, headK_some, hB]
    cases o with
    | o0 y y_1 y_2 y_3 y_4 y_5 y_6 y_7 y_8 y_9 y_10 y_11 y_12 y_13 y_14 =>
      refine ih y y_1 y_2 y_3 y_4 y_5 y_6 y_7 y_8 y_9 y_10 y_11 y_12 y_13 y_14 r hF _ ?_
      simp (maxSteps := 999999) (disch := first | exact D (by decide) | exact K (by kernel_rfl)) only [E, EE, ↓reduceIte, simprocAttr, hh_6_10, hc_6_10]
    | o1 y y_1 y_2 y_3 y_4 y_5 y_6 y_7 y_8 y_9 y_10 y_11 y_12 y_13 y_14 y_15 => cases hF; rfl
noncomputable def f6_r_j12 (k : Nat) (x40 x41 : Int) (x42 : Bool) (h0_ h1_ : List T25) (h2_ h2__1 h2__2 h2__3 h2__4 h2__5 h2__6 h2__7 h2__8 h2__9 : Int) (h3_ : List Int) : Option R6_r :=
  Option.bind (f23_r k h0_) fun o1 =>
    match o1 with
    | .o0 v4 v5 =>
      Option.bind (f13_rr k h0_ h1_) fun o6 =>
        match o6 with
        | .o0 v9 =>
          cond ((!v9))
            (some (R6_r.o0 false))
            (f6_r_j5 k v4 false h1_ v5)
theorem f6_r_j12_ok (k : Nat) (x40 x41 : Int) (x42 : Bool) (h0_ h1_ : List T25) (h2_ h2__1 h2__2 h2__3 h2__4 h2__5 h2__6 h2__7 h2__8 h2__9 : Int) (h3_ : List Int) (r : R6_r) (hF : f6_r_j12 k x40 x41 x42 h0_ h1_ h2_ h2__1 h2__2 h2__3 h2__4 h2__5 h2__6 h2__7 h2__8 h2__9 h3_ = some r) : finK Try.prog Try.f6 0 (EX 6 k (nav B6 [2, 2, 2, 2, 2, 2, 2, 2]) ({ n := 97, F := [(0, V.own 30000), (3, V.own 30001), (4, V.ptr 30002 0), (40, V.p (Value.int .i64 x40)), (41, V.p (Value.int .i64 x41)), (42, V.p (Value.bool x42))], M := [(30000, O.row false 11 25 (rowsOf encT25 h0_)), (30001, O.row false 11 25 (rowsOf encT25 h1_)), (30002, O.box 25 [V.p (Value.int .i64 h2_), V.p (Value.int .i64 h2__1), V.p (Value.int .u32 h2__2), V.p (Value.int .i64 h2__3), V.p (Value.int .i64 h2__4), V.p (Value.int .i64 h2__5), V.p (Value.int .i64 h2__6), V.p (Value.int .i64 h2__7), V.p (Value.int .i64 h2__8), V.p (Value.int .i64 h2__9), V.own 30003]), (30003, O.row true 1 5 (rowsOf (encI .u8) h3_))] } : St)) = some r.st := by
  unfold f6_r_j12 at hF
  replace hF := Option.bind_eq_some_iff.1 hF
  obtain ⟨o1, h2, hF⟩ := hF
  have hc3 := f23_r_ok k h0_ _ h2
  cases o1 with
  | o0 v4 v5 =>
    (try dsimp only at hF)
    (try simp only [NM, EE, R23_r.st] at hc3)
    replace hF := Option.bind_eq_some_iff.1 hF
    obtain ⟨o6, h7, hF⟩ := hF
    have hc8 := f13_rr_ok k h0_ h1_ _ h7
    cases o6 with
    | o0 v9 =>
      (try dsimp only at hF)
      (try simp only [NM, EE, R13_rr.st] at hc8)
      simp (maxSteps := 999999) (disch := first | exact D (by decide) | exact K (by kernel_rfl)) only [E, EE, ↓reduceIte, simprocAttr, xk B6 [2, 2, 2, 2, 2, 2, 2, 2] .sq rfl, show (nav B6 [1, 2, 2, 2, 2, 2, 2, 2, 2]) = Code.region 14 _ false from rfl, hk_6_14, hz_6_14, hs_6_14, callStep, CL, gv, List.contains, xk B6 [2, 2, 2, 2, 2, 2, 2, 2, 2] .sq rfl, xk B6 [1, 2, 2, 2, 2, 2, 2, 2, 2, 2] .sq rfl, show (nav B6 [1, 1, 2, 2, 2, 2, 2, 2, 2, 2, 2]) = Code.region 15 _ false from rfl, hk_6_15, hz_6_15, hs_6_15, xk B6 [2, 1, 2, 2, 2, 2, 2, 2, 2, 2, 2] (.cd 60) rfl, hc3, hc8]
      replace hF := cond_some hF
      rcases hF with ⟨h10, hF⟩ | ⟨h10, hF⟩
      · cases hF
        simp (maxSteps := 999999) (disch := first | exact D (by decide) | exact K (by kernel_rfl)) only [E, EE, ↓reduceIte, simprocAttr, xk B6 [2, 2, 1, 2, 2, 2, 2, 2, 2, 2, 2, 2] .sq rfl, show (nav B6 [1, 2, 2, 1, 2, 2, 2, 2, 2, 2, 2, 2, 2]) = Code.region 16 _ false from rfl, hk_6_16, hz_6_16, hs_6_16, xk B6 [2, 2, 2, 1, 2, 2, 2, 2, 2, 2, 2, 2, 2] .rt rfl, finK_norm, finK_ret, fin6, R6_r.st, hc3, hc8, h10]
      · have hJ := f6_r_j5_ok k v4 false h1_ v5 _ hF
        simp (maxSteps := 999999) (disch := first | exact D (by decide) | exact K (by kernel_rfl)) only [E, EE, ↓reduceIte, simprocAttr, xk B6 [3, 2, 1, 2, 2, 2, 2, 2, 2, 2, 2, 2] .sk rfl, hc3, hc8, h10]
        try simp only [NM, EE] at hJ
        exact hJ
noncomputable def f6_r_j10 (k : Nat) (x37 : Bool) (m16 m18 : List T25) (m4 m4_1 m4_2 m4_3 m4_4 m4_5 m4_6 m4_7 m4_8 m4_9 : Int) (m21 : List Int) : Option R6_r :=
  Option.bind (f6_r_l11 k k ((List.length m21) : Int) 0 m16 m18 m4 m4_1 m4_2 m4_3 m4_4 m4_5 m4_6 m4_7 m4_8 m4_9 m21) fun o1 =>
    match o1 with
    | .o0 _ _ _ _ _ _ _ _ _ _ _ _ _ _ _ =>
      none
    | .o1 v4 v5 v6 v7 v8 v9 v10 v11 v12 v13 v14 v15 v16 v17 v18 v19 =>
      f6_r_j12 k v4 v5 v6 v7 v8 v9 v10 v11 v12 v13 v14 v15 v16 v17 v18 v19
theorem f6_r_j10_ok (k : Nat) (x37 : Bool) (m16 m18 : List T25) (m4 m4_1 m4_2 m4_3 m4_4 m4_5 m4_6 m4_7 m4_8 m4_9 : Int) (m21 : List Int) (r : R6_r) (hF : f6_r_j10 k x37 m16 m18 m4 m4_1 m4_2 m4_3 m4_4 m4_5 m4_6 m4_7 m4_8 m4_9 m21 = some r) : finK Try.prog Try.f6 0 (EX 6 k (nav B6 [2, 2, 2, 2, 2, 2, 2]) ({ n := 97, F := [(0, V.own 16), (3, V.own 18), (4, V.ptr 4 0), (37, V.p (Value.bool x37))], M := [(16, O.row false 11 25 (rowsOf encT25 m16)), (18, O.row false 11 25 (rowsOf encT25 m18)), (4, O.box 25 [V.p (Value.int .i64 m4), V.p (Value.int .i64 m4_1), V.p (Value.int .u32 m4_2), V.p (Value.int .i64 m4_3), V.p (Value.int .i64 m4_4), V.p (Value.int .i64 m4_5), V.p (Value.int .i64 m4_6), V.p (Value.int .i64 m4_7), V.p (Value.int .i64 m4_8), V.p (Value.int .i64 m4_9), V.own 21]), (21, O.row true 1 5 (rowsOf (encI .u8) m21))] } : St)) = some r.st := by
  unfold f6_r_j10 at hF
  replace hF := Option.bind_eq_some_iff.1 hF
  obtain ⟨o1, h2, hF⟩ := hF
  have hc3 := f6_r_l11_ok k k ((List.length m21) : Int) 0 m16 m18 m4 m4_1 m4_2 m4_3 m4_4 m4_5 m4_6 m4_7 m4_8 m4_9 m21 _ h2
  simp (maxSteps := 999999) (disch := first | exact D (by decide) | exact K (by kernel_rfl)) only [E, EE, ↓reduceIte, simprocAttr, xk B6 [2, 2, 2, 2, 2, 2, 2] .sq rfl, xk B6 [1, 2, 2, 2, 2, 2, 2, 2] .sq rfl, show (nav B6 [1, 1, 2, 2, 2, 2, 2, 2, 2]) = Code.region 9 _ false from rfl, hk_6_9, hz_6_9, hs_6_9, fieldAddrV, u_25, i_25, is_25, ib_25, iz_25, u_23, i_23, is_23, ib_23, iz_23, xk B6 [2, 1, 2, 2, 2, 2, 2, 2, 2] (.bk 0) rfl, xk B6 [2, 2, 1, 2, 2, 2, 2, 2, 2, 2] .lp rfl, hh_6_10, hc_6_10]
  (try simp only [NM, EE] at hc3)
  rw [hc3 _ (by simp (maxSteps := 999999) (disch := first | exact D (by decide) | exact K (by kernel_rfl)) only [E, EE, ↓reduceIte, simprocAttr, hh_6_10, hc_6_10])]
  clear hc3
  cases o1 with
  | o0 _ _ _ _ _ _ _ _ _ _ _ _ _ _ _ =>
    (try dsimp only at hF)
    cases hF
  | o1 v4 v5 v6 v7 v8 v9 v10 v11 v12 v13 v14 v15 v16 v17 v18 v19 =>
    (try dsimp only at hF)
    have hJ := f6_r_j12_ok k v4 v5 v6 v7 v8 v9 v10 v11 v12 v13 v14 v15 v16 v17 v18 v19 _ hF
    simp (maxSteps := 999999) (disch := first | exact D (by decide) | exact K (by kernel_rfl)) only [E, EE, ↓reduceIte, simprocAttr, R6_r_l11.st]
    try simp only [NM, EE] at hJ
    exact hJ
noncomputable def f6_r_j1 (k : Nat) (x0 : List T25) (x14 : Bool) : Option R6_r :=
  Option.bind (f21_r k x0) fun o1 =>
    match o1 with
    | .o0 v4 =>
      Option.bind (f21_r k v4) fun o5 =>
        match o5 with
        | .o0 v8 =>
          Option.bind (f18_r k v4) fun o9 =>
            match o9 with
            | .o0 v12 v13 v14 v15 v16 v17 v18 v19 v20 v21 v22 v23 =>
              Option.bind (f22_r k v8) fun o24 =>
                match o24 with
                | .o0 v27 v28 v29 v30 v31 v32 v33 v34 v35 v36 v37 v38 =>
                  cond ((v23 != v38))
                    (some (R6_r.o0 false))
                    (
                      Option.bind (f15_ai10rzai10rz k v12 v13 v14 v15 v16 v17 v18 v19 v20 v21 v22 v27 v28 v29 v30 v31 v32 v33 v34 v35 v36 v37) fun o40 =>
                        match o40 with
                        | .o0 v43 =>
                          cond ((!v43))
                            (some (R6_r.o0 false))
                            (f6_r_j2 k false v4 v8 v12 v13 v14 v15 v16 v17 v18 v19 v20 v21 v22))
                | .o1 v45 v46 v47 v48 v49 v50 v51 v52 v53 v54 v55 v56 =>
                  cond ((v23 != v55))
                    (some (R6_r.o0 false))
                    (
                      Option.bind (f15_ai10rzai10rz k v12 v13 v14 v15 v16 v17 v18 v19 v20 v21 v22 v45 v46 v47 v48 v49 v50 v51 v52 v53 v54 v56) fun o58 =>
                        match o58 with
                        | .o0 v61 =>
                          cond ((!v61))
                            (some (R6_r.o0 false))
                            (f6_r_j2 k false v4 v8 v12 v13 v14 v15 v16 v17 v18 v19 v20 v21 v22))
            | .o1 v63 v64 v65 v66 v67 v68 v69 v70 v71 v72 v73 v74 =>
              Option.bind (f22_r k v8) fun o75 =>
                match o75 with
                | .o0 v78 v79 v80 v81 v82 v83 v84 v85 v86 v87 v88 v89 =>
                  cond ((v73 != v89))
                    (some (R6_r.o0 false))
                    (
                      Option.bind (f15_ai10rzai10rz k v63 v64 v65 v66 v67 v68 v69 v70 v71 v72 v74 v78 v79 v80 v81 v82 v83 v84 v85 v86 v87 v88) fun o91 =>
                        match o91 with
                        | .o0 v94 =>
                          cond ((!v94))
                            (some (R6_r.o0 false))
                            (f6_r_j10 k false v4 v8 v63 v64 v65 v66 v67 v68 v69 v70 v71 v72 v74))
                | .o1 v96 v97 v98 v99 v100 v101 v102 v103 v104 v105 v106 v107 =>
                  cond ((v73 != v106))
                    (some (R6_r.o0 false))
                    (
                      Option.bind (f15_ai10rzai10rz k v63 v64 v65 v66 v67 v68 v69 v70 v71 v72 v74 v96 v97 v98 v99 v100 v101 v102 v103 v104 v105 v107) fun o109 =>
                        match o109 with
                        | .o0 v112 =>
                          cond ((!v112))
                            (some (R6_r.o0 false))
                            (f6_r_j10 k false v4 v8 v63 v64 v65 v66 v67 v68 v69 v70 v71 v72 v74))
theorem f6_r_j1_ok (k : Nat) (x0 : List T25) (x14 : Bool) (r : R6_r) (hF : f6_r_j1 k x0 x14 = some r) : finK Try.prog Try.f6 0 (EX 6 k (nav B6 [2, 2]) ({ n := 97, F := [(0, V.sl 11 (rowsOf encT25 x0)), (14, V.p (Value.bool x14))], M := [] } : St)) = some r.st := by
  unfold f6_r_j1 at hF
  replace hF := Option.bind_eq_some_iff.1 hF
  obtain ⟨o1, h2, hF⟩ := hF
  have hc3 := f21_r_ok k x0 _ h2
  cases o1 with
  | o0 v4 =>
    (try dsimp only at hF)
    (try simp only [NM, EE, R21_r.st] at hc3)
    replace hF := Option.bind_eq_some_iff.1 hF
    obtain ⟨o5, h6, hF⟩ := hF
    have hc7 := f21_r_ok k v4 _ h6
    cases o5 with
    | o0 v8 =>
      (try dsimp only at hF)
      (try simp only [NM, EE, R21_r.st] at hc7)
      simp (maxSteps := 999999) (disch := first | exact D (by decide) | exact K (by kernel_rfl)) only [E, EE, ↓reduceIte, simprocAttr, xk B6 [2, 2] .sq rfl, show (nav B6 [1, 2, 2]) = Code.region 3 _ false from rfl, hk_6_3, hz_6_3, hs_6_3, callStep, CL, gv, List.contains, xk B6 [2, 2, 2] .sq rfl, show (nav B6 [1, 2, 2, 2]) = Code.region 4 _ false from rfl, hk_6_4, hz_6_4, hs_6_4, xk B6 [2, 2, 2, 2] .sq rfl, show (nav B6 [1, 2, 2, 2, 2]) = Code.region 5 _ false from rfl, hk_6_5, hz_6_5, hs_6_5, hc3, hc7]
      replace hF := Option.bind_eq_some_iff.1 hF
      obtain ⟨o9, h10, hF⟩ := hF
      have hc11 := f18_r_ok k v4 _ h10
      cases o9 with
      | o0 v12 v13 v14 v15 v16 v17 v18 v19 v20 v21 v22 v23 =>
        (try dsimp only at hF)
        (try simp only [NM, EE, R18_r.st] at hc11)
        simp (maxSteps := 999999) (disch := first | exact D (by decide) | exact K (by kernel_rfl)) only [E, EE, ↓reduceIte, simprocAttr, u_25, i_25, is_25, ib_25, iz_25, xk B6 [2, 2, 2, 2, 2] .sq rfl, show (nav B6 [1, 2, 2, 2, 2, 2]) = Code.region 6 _ false from rfl, hk_6_6, hz_6_6, hs_6_6, callStep, CL, gv, List.contains, hc3, hc7, hc11]
        replace hF := Option.bind_eq_some_iff.1 hF
        obtain ⟨o24, h25, hF⟩ := hF
        have hc26 := f22_r_ok k v8 _ h25
        cases o24 with
        | o0 v27 v28 v29 v30 v31 v32 v33 v34 v35 v36 v37 v38 =>
          (try dsimp only at hF)
          (try simp only [NM, EE, R22_r.st] at hc26)
          simp (maxSteps := 999999) (disch := first | exact D (by decide) | exact K (by kernel_rfl)) only [E, EE, ↓reduceIte, simprocAttr, u_25, i_25, is_25, ib_25, iz_25, xk B6 [2, 2, 2, 2, 2, 2] .sq rfl, xk B6 [1, 2, 2, 2, 2, 2, 2] .sq rfl, show (nav B6 [1, 1, 2, 2, 2, 2, 2, 2]) = Code.region 7 _ false from rfl, hk_6_7, hz_6_7, hs_6_7, hc3, hc7, hc11, hc26]
          replace hF := cond_some hF
          rcases hF with ⟨h39, hF⟩ | ⟨h39, hF⟩
          · cases hF
            simp (maxSteps := 999999) (disch := first | exact D (by decide) | exact K (by kernel_rfl)) only [E, EE, ↓reduceIte, simprocAttr, xk B6 [2, 1, 2, 2, 2, 2, 2, 2] (.cd 37) rfl, xk B6 [2, 2, 1, 2, 2, 2, 2, 2, 2] .sq rfl, show (nav B6 [1, 2, 2, 1, 2, 2, 2, 2, 2, 2]) = Code.region 8 _ false from rfl, hk_6_8, hz_6_8, hs_6_8, xk B6 [2, 2, 2, 1, 2, 2, 2, 2, 2, 2] .rt rfl, finK_norm, finK_ret, fin6, R6_r.st, hc3, hc7, hc11, hc26, h39]
          · replace hF := Option.bind_eq_some_iff.1 hF
            obtain ⟨o40, h41, hF⟩ := hF
            have hc42 := f15_ai10rzai10rz_ok k v12 v13 v14 v15 v16 v17 v18 v19 v20 v21 v22 v27 v28 v29 v30 v31 v32 v33 v34 v35 v36 v37 _ h41
            cases o40 with
            | o0 v43 =>
              (try dsimp only at hF)
              (try simp only [NM, EE, R15_ai10rzai10rz.st] at hc42)
              simp (maxSteps := 999999) (disch := first | exact D (by decide) | exact K (by kernel_rfl)) only [E, EE, ↓reduceIte, simprocAttr, u_25, i_25, is_25, ib_25, iz_25, callStep, CL, gv, List.contains, xk B6 [2, 1, 2, 2, 2, 2, 2, 2] (.cd 37) rfl, hc3, hc7, hc11, hc26, h39, hc42]
              replace hF := cond_some hF
              rcases hF with ⟨h44, hF⟩ | ⟨h44, hF⟩
              · cases hF
                simp (maxSteps := 999999) (disch := first | exact D (by decide) | exact K (by kernel_rfl)) only [E, EE, ↓reduceIte, simprocAttr, xk B6 [2, 2, 1, 2, 2, 2, 2, 2, 2] .sq rfl, show (nav B6 [1, 2, 2, 1, 2, 2, 2, 2, 2, 2]) = Code.region 8 _ false from rfl, hk_6_8, hz_6_8, hs_6_8, xk B6 [2, 2, 2, 1, 2, 2, 2, 2, 2, 2] .rt rfl, finK_norm, finK_ret, fin6, R6_r.st, hc3, hc7, hc11, hc26, h39, hc42, h44]
              · have hJ := f6_r_j2_ok k false v4 v8 v12 v13 v14 v15 v16 v17 v18 v19 v20 v21 v22 _ hF
                simp (maxSteps := 999999) (disch := first | exact D (by decide) | exact K (by kernel_rfl)) only [E, EE, ↓reduceIte, simprocAttr, xk B6 [3, 2, 1, 2, 2, 2, 2, 2, 2] .sk rfl, hc3, hc7, hc11, hc26, h39, hc42, h44]
                try simp only [NM, EE] at hJ
                exact hJ
        | o1 v45 v46 v47 v48 v49 v50 v51 v52 v53 v54 v55 v56 =>
          (try dsimp only at hF)
          (try simp only [NM, EE, R22_r.st] at hc26)
          simp (maxSteps := 999999) (disch := first | exact D (by decide) | exact K (by kernel_rfl)) only [E, EE, ↓reduceIte, simprocAttr, u_25, i_25, is_25, ib_25, iz_25, xk B6 [2, 2, 2, 2, 2, 2] .sq rfl, xk B6 [1, 2, 2, 2, 2, 2, 2] .sq rfl, show (nav B6 [1, 1, 2, 2, 2, 2, 2, 2]) = Code.region 7 _ false from rfl, hk_6_7, hz_6_7, hs_6_7, hc3, hc7, hc11, hc26]
          replace hF := cond_some hF
          rcases hF with ⟨h57, hF⟩ | ⟨h57, hF⟩
          · cases hF
            simp (maxSteps := 999999) (disch := first | exact D (by decide) | exact K (by kernel_rfl)) only [E, EE, ↓reduceIte, simprocAttr, xk B6 [2, 1, 2, 2, 2, 2, 2, 2] (.cd 37) rfl, xk B6 [2, 2, 1, 2, 2, 2, 2, 2, 2] .sq rfl, show (nav B6 [1, 2, 2, 1, 2, 2, 2, 2, 2, 2]) = Code.region 8 _ false from rfl, hk_6_8, hz_6_8, hs_6_8, xk B6 [2, 2, 2, 1, 2, 2, 2, 2, 2, 2] .rt rfl, finK_norm, finK_ret, fin6, R6_r.st, hc3, hc7, hc11, hc26, h57]
          · replace hF := Option.bind_eq_some_iff.1 hF
            obtain ⟨o58, h59, hF⟩ := hF
            have hc60 := f15_ai10rzai10rz_ok k v12 v13 v14 v15 v16 v17 v18 v19 v20 v21 v22 v45 v46 v47 v48 v49 v50 v51 v52 v53 v54 v56 _ h59
            cases o58 with
            | o0 v61 =>
              (try dsimp only at hF)
              (try simp only [NM, EE, R15_ai10rzai10rz.st] at hc60)
              simp (maxSteps := 999999) (disch := first | exact D (by decide) | exact K (by kernel_rfl)) only [E, EE, ↓reduceIte, simprocAttr, u_25, i_25, is_25, ib_25, iz_25, callStep, CL, gv, List.contains, xk B6 [2, 1, 2, 2, 2, 2, 2, 2] (.cd 37) rfl, hc3, hc7, hc11, hc26, h57, hc60]
              replace hF := cond_some hF
              rcases hF with ⟨h62, hF⟩ | ⟨h62, hF⟩
              · cases hF
                simp (maxSteps := 999999) (disch := first | exact D (by decide) | exact K (by kernel_rfl)) only [E, EE, ↓reduceIte, simprocAttr, xk B6 [2, 2, 1, 2, 2, 2, 2, 2, 2] .sq rfl, show (nav B6 [1, 2, 2, 1, 2, 2, 2, 2, 2, 2]) = Code.region 8 _ false from rfl, hk_6_8, hz_6_8, hs_6_8, xk B6 [2, 2, 2, 1, 2, 2, 2, 2, 2, 2] .rt rfl, finK_norm, finK_ret, fin6, R6_r.st, hc3, hc7, hc11, hc26, h57, hc60, h62]
              · have hJ := f6_r_j2_ok k false v4 v8 v12 v13 v14 v15 v16 v17 v18 v19 v20 v21 v22 _ hF
                simp (maxSteps := 999999) (disch := first | exact D (by decide) | exact K (by kernel_rfl)) only [E, EE, ↓reduceIte, simprocAttr, xk B6 [3, 2, 1, 2, 2, 2, 2, 2, 2] .sk rfl, hc3, hc7, hc11, hc26, h57, hc60, h62]
                try simp only [NM, EE] at hJ
                exact hJ
      | o1 v63 v64 v65 v66 v67 v68 v69 v70 v71 v72 v73 v74 =>
        (try dsimp only at hF)
        (try simp only [NM, EE, R18_r.st] at hc11)
        simp (maxSteps := 999999) (disch := first | exact D (by decide) | exact K (by kernel_rfl)) only [E, EE, ↓reduceIte, simprocAttr, u_25, i_25, is_25, ib_25, iz_25, xk B6 [2, 2, 2, 2, 2] .sq rfl, show (nav B6 [1, 2, 2, 2, 2, 2]) = Code.region 6 _ false from rfl, hk_6_6, hz_6_6, hs_6_6, callStep, CL, gv, List.contains, hc3, hc7, hc11]
        replace hF := Option.bind_eq_some_iff.1 hF
        obtain ⟨o75, h76, hF⟩ := hF
        have hc77 := f22_r_ok k v8 _ h76
        cases o75 with
        | o0 v78 v79 v80 v81 v82 v83 v84 v85 v86 v87 v88 v89 =>
          (try dsimp only at hF)
          (try simp only [NM, EE, R22_r.st] at hc77)
          simp (maxSteps := 999999) (disch := first | exact D (by decide) | exact K (by kernel_rfl)) only [E, EE, ↓reduceIte, simprocAttr, u_25, i_25, is_25, ib_25, iz_25, xk B6 [2, 2, 2, 2, 2, 2] .sq rfl, xk B6 [1, 2, 2, 2, 2, 2, 2] .sq rfl, show (nav B6 [1, 1, 2, 2, 2, 2, 2, 2]) = Code.region 7 _ false from rfl, hk_6_7, hz_6_7, hs_6_7, hc3, hc7, hc11, hc77]
          replace hF := cond_some hF
          rcases hF with ⟨h90, hF⟩ | ⟨h90, hF⟩
          · cases hF
            simp (maxSteps := 999999) (disch := first | exact D (by decide) | exact K (by kernel_rfl)) only [E, EE, ↓reduceIte, simprocAttr, xk B6 [2, 1, 2, 2, 2, 2, 2, 2] (.cd 37) rfl, xk B6 [2, 2, 1, 2, 2, 2, 2, 2, 2] .sq rfl, show (nav B6 [1, 2, 2, 1, 2, 2, 2, 2, 2, 2]) = Code.region 8 _ false from rfl, hk_6_8, hz_6_8, hs_6_8, xk B6 [2, 2, 2, 1, 2, 2, 2, 2, 2, 2] .rt rfl, finK_norm, finK_ret, fin6, R6_r.st, hc3, hc7, hc11, hc77, h90]
          · replace hF := Option.bind_eq_some_iff.1 hF
            obtain ⟨o91, h92, hF⟩ := hF
            have hc93 := f15_ai10rzai10rz_ok k v63 v64 v65 v66 v67 v68 v69 v70 v71 v72 v74 v78 v79 v80 v81 v82 v83 v84 v85 v86 v87 v88 _ h92
            cases o91 with
            | o0 v94 =>
              (try dsimp only at hF)
              (try simp only [NM, EE, R15_ai10rzai10rz.st] at hc93)
              simp (maxSteps := 999999) (disch := first | exact D (by decide) | exact K (by kernel_rfl)) only [E, EE, ↓reduceIte, simprocAttr, u_25, i_25, is_25, ib_25, iz_25, callStep, CL, gv, List.contains, xk B6 [2, 1, 2, 2, 2, 2, 2, 2] (.cd 37) rfl, hc3, hc7, hc11, hc77, h90, hc93]
              replace hF := cond_some hF
              rcases hF with ⟨h95, hF⟩ | ⟨h95, hF⟩
              · cases hF
                simp (maxSteps := 999999) (disch := first | exact D (by decide) | exact K (by kernel_rfl)) only [E, EE, ↓reduceIte, simprocAttr, xk B6 [2, 2, 1, 2, 2, 2, 2, 2, 2] .sq rfl, show (nav B6 [1, 2, 2, 1, 2, 2, 2, 2, 2, 2]) = Code.region 8 _ false from rfl, hk_6_8, hz_6_8, hs_6_8, xk B6 [2, 2, 2, 1, 2, 2, 2, 2, 2, 2] .rt rfl, finK_norm, finK_ret, fin6, R6_r.st, hc3, hc7, hc11, hc77, h90, hc93, h95]
              · have hJ := f6_r_j10_ok k false v4 v8 v63 v64 v65 v66 v67 v68 v69 v70 v71 v72 v74 _ hF
                simp (maxSteps := 999999) (disch := first | exact D (by decide) | exact K (by kernel_rfl)) only [E, EE, ↓reduceIte, simprocAttr, xk B6 [3, 2, 1, 2, 2, 2, 2, 2, 2] .sk rfl, hc3, hc7, hc11, hc77, h90, hc93, h95]
                try simp only [NM, EE] at hJ
                exact hJ
        | o1 v96 v97 v98 v99 v100 v101 v102 v103 v104 v105 v106 v107 =>
          (try dsimp only at hF)
          (try simp only [NM, EE, R22_r.st] at hc77)
          simp (maxSteps := 999999) (disch := first | exact D (by decide) | exact K (by kernel_rfl)) only [E, EE, ↓reduceIte, simprocAttr, u_25, i_25, is_25, ib_25, iz_25, xk B6 [2, 2, 2, 2, 2, 2] .sq rfl, xk B6 [1, 2, 2, 2, 2, 2, 2] .sq rfl, show (nav B6 [1, 1, 2, 2, 2, 2, 2, 2]) = Code.region 7 _ false from rfl, hk_6_7, hz_6_7, hs_6_7, hc3, hc7, hc11, hc77]
          replace hF := cond_some hF
          rcases hF with ⟨h108, hF⟩ | ⟨h108, hF⟩
          · cases hF
            simp (maxSteps := 999999) (disch := first | exact D (by decide) | exact K (by kernel_rfl)) only [E, EE, ↓reduceIte, simprocAttr, xk B6 [2, 1, 2, 2, 2, 2, 2, 2] (.cd 37) rfl, xk B6 [2, 2, 1, 2, 2, 2, 2, 2, 2] .sq rfl, show (nav B6 [1, 2, 2, 1, 2, 2, 2, 2, 2, 2]) = Code.region 8 _ false from rfl, hk_6_8, hz_6_8, hs_6_8, xk B6 [2, 2, 2, 1, 2, 2, 2, 2, 2, 2] .rt rfl, finK_norm, finK_ret, fin6, R6_r.st, hc3, hc7, hc11, hc77, h108]
          · replace hF := Option.bind_eq_some_iff.1 hF
            obtain ⟨o109, h110, hF⟩ := hF
            have hc111 := f15_ai10rzai10rz_ok k v63 v64 v65 v66 v67 v68 v69 v70 v71 v72 v74 v96 v97 v98 v99 v100 v101 v102 v103 v104 v105 v107 _ h110
            cases o109 with
            | o0 v112 =>
              (try dsimp only at hF)
              (try simp only [NM, EE, R15_ai10rzai10rz.st] at hc111)
              simp (maxSteps := 999999) (disch := first | exact D (by decide) | exact K (by kernel_rfl)) only [E, EE, ↓reduceIte, simprocAttr, u_25, i_25, is_25, ib_25, iz_25, callStep, CL, gv, List.contains, xk B6 [2, 1, 2, 2, 2, 2, 2, 2] (.cd 37) rfl, hc3, hc7, hc11, hc77, h108, hc111]
              replace hF := cond_some hF
              rcases hF with ⟨h113, hF⟩ | ⟨h113, hF⟩
              · cases hF
                simp (maxSteps := 999999) (disch := first | exact D (by decide) | exact K (by kernel_rfl)) only [E, EE, ↓reduceIte, simprocAttr, xk B6 [2, 2, 1, 2, 2, 2, 2, 2, 2] .sq rfl, show (nav B6 [1, 2, 2, 1, 2, 2, 2, 2, 2, 2]) = Code.region 8 _ false from rfl, hk_6_8, hz_6_8, hs_6_8, xk B6 [2, 2, 2, 1, 2, 2, 2, 2, 2, 2] .rt rfl, finK_norm, finK_ret, fin6, R6_r.st, hc3, hc7, hc11, hc77, h108, hc111, h113]
              · have hJ := f6_r_j10_ok k false v4 v8 v63 v64 v65 v66 v67 v68 v69 v70 v71 v72 v74 _ hF
                simp (maxSteps := 999999) (disch := first | exact D (by decide) | exact K (by kernel_rfl)) only [E, EE, ↓reduceIte, simprocAttr, xk B6 [3, 2, 1, 2, 2, 2, 2, 2, 2] .sk rfl, hc3, hc7, hc11, hc77, h108, hc111, h113]
                try simp only [NM, EE] at hJ
                exact hJ
noncomputable def f6_r_e (k : Nat) (a0 : List T25) : Option R6_r :=
  Option.bind (f9_ k) fun o1 =>
    match o1 with
    | .o0 v4 =>
      cond ((!v4))
        (some (R6_r.o0 false))
        (f6_r_j1 k a0 false)
theorem f6_r_e_ok (k : Nat) (a0 : List T25) (r : R6_r) (hF : f6_r_e k a0 = some r) : finK Try.prog Try.f6 0 (EX 6 k (nav B6 []) ({ n := 97, F := [(0, V.sl 11 (rowsOf encT25 a0))], M := [] } : St)) = some r.st := by
  unfold f6_r_e at hF
  replace hF := Option.bind_eq_some_iff.1 hF
  obtain ⟨o1, h2, hF⟩ := hF
  have hc3 := f9__ok k _ h2
  cases o1 with
  | o0 v4 =>
    (try dsimp only at hF)
    (try simp only [NM, EE, R9_.st] at hc3)
    simp (maxSteps := 999999) (disch := first | exact D (by decide) | exact K (by kernel_rfl)) only [E, EE, ↓reduceIte, simprocAttr, xk B6 [] .sq rfl, show (nav B6 [1]) = Code.region 0 _ false from rfl, hk_6_0, hz_6_0, hs_6_0, xk B6 [2] .sq rfl, xk B6 [1, 2] .sq rfl, show (nav B6 [1, 1, 2]) = Code.region 1 _ false from rfl, hk_6_1, hz_6_1, hs_6_1, callStep, CL, gv, List.contains, xk B6 [2, 1, 2] (.cd 14) rfl, hc3]
    replace hF := cond_some hF
    rcases hF with ⟨h5, hF⟩ | ⟨h5, hF⟩
    · cases hF
      simp (maxSteps := 999999) (disch := first | exact D (by decide) | exact K (by kernel_rfl)) only [E, EE, ↓reduceIte, simprocAttr, xk B6 [2, 2, 1, 2] .sq rfl, show (nav B6 [1, 2, 2, 1, 2]) = Code.region 2 _ false from rfl, hk_6_2, hz_6_2, hs_6_2, xk B6 [2, 2, 2, 1, 2] .rt rfl, finK_norm, finK_ret, fin6, R6_r.st, hc3, h5]
    · have hJ := f6_r_j1_ok k a0 false _ hF
      simp (maxSteps := 999999) (disch := first | exact D (by decide) | exact K (by kernel_rfl)) only [E, EE, ↓reduceIte, simprocAttr, xk B6 [3, 2, 1, 2] .sk rfl, hc3, h5]
      try simp only [NM, EE] at hJ
      exact hJ
noncomputable def f6_r (k : Nat) (a0 : List T25) : Option R6_r := match k with | 0 => none | k + 1 => f6_r_e k a0
theorem f6_r_ok (k : Nat) (a0 : List T25) (r : R6_r) (hF : f6_r k a0 = some r) : CV k 6 [V.sl 11 (rowsOf encT25 a0)] [] = some r.st := by
  cases k with
  | zero => cases hF
  | succ k =>
    unfold CV
    rw [ev_call (F := Try.f6) (c := (nav B6 [])) rfl Try.func6 rfl rfl rfl rfl]
    exact f6_r_e_ok k a0 r hF
end Go.Proofs.YteggcokgkcfliaaV
