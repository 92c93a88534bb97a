/- What the program's functions answer: plain functions, and that the interpreter answers what they do. Written by a program of this session, out of the translation. -/
import Derived.Test.YtbnnmplkbpgcaaaDoorVP3
namespace Go.Proofs.YtbnnmplkbpgcaaaDoorV
open Go
set_option linter.unusedVariables false
set_option linter.unusedSimpArgs false
set_option maxRecDepth 8000
set_option maxHeartbeats 4000000
-- f51_oaiirrz_w: f51 heliograph/cbor.put
inductive R51_oaiirrz_w where
  | o0 (y : List Int)
noncomputable def R51_oaiirrz_w.st : R51_oaiirrz_w → V × List O × List O
  | .o0 y => (V.own 2000000, [O.dead], [O.row true 1 5 (rowsOf (encI .u8) y)])
inductive R51_oaiirrz_w_l1 where
  | o0 (y : List T50) (y_1 y_2 : Int) (y_3 : List Int)
  | o1 (y : List T50) (y_1 y_2 : Int) (y_3 : Bool) (y_4 : List Int)
noncomputable def R51_oaiirrz_w_l1.st : R51_oaiirrz_w_l1 → Out × St
  | .o0 y y_1 y_2 y_3 => (.norm, ({ n := 51, F := [(0, V.own 38), (30, V.sl 4 (rowsOf encT50 y)), (31, V.p (Value.int .i64 y_1)), (32, V.p (Value.int .i64 y_2))], M := [(38, O.row true 1 5 (rowsOf (encI .u8) y_3)), (1000000, O.dead)] } : St))
  | .o1 y y_1 y_2 y_3 y_4 => (.exit 1, ({ n := 51, F := [(0, V.own 30000), (30, V.sl 4 (rowsOf encT50 y)), (31, V.p (Value.int .i64 y_1)), (32, V.p (Value.int .i64 y_2)), (33, V.p (Value.bool y_3))], M := [(30000, O.row true 1 5 (rowsOf (encI .u8) y_4)), (1000000, O.dead)] } : St))
noncomputable def f51_oaiirrz_w_l1_j2 (k : Nat) (q_f51_oaiirrz_w : Int → Int → (List Int) → (List T50) → (List Int) → Option R51_oaiirrz_w) (x30 : List T50) (x31 x32 : Int) (m38 : List Int) : Option R51_oaiirrz_w_l1 :=
  some (R51_oaiirrz_w_l1.o0 x30 x31 (IntKind.i64.wrap (x32 + (1 : Int))) m38)
theorem f51_oaiirrz_w_l1_j2_ok (k : Nat) (q_f51_oaiirrz_w : Int → Int → (List Int) → (List T50) → (List Int) → Option R51_oaiirrz_w) (hq_f51_oaiirrz_w : ∀ (a1 a1_1 : Int) (a1_2 : List Int) (a1_3 : List T50) (e0 : List Int) (r : R51_oaiirrz_w), q_f51_oaiirrz_w a1 a1_1 a1_2 a1_3 e0 = some r → CV k 51 [V.own 1000000, V.agg [V.p (Value.int .i64 a1), V.p (Value.int .u64 a1_1), V.sl 1 (rowsOf (encI .u8) a1_2), V.sl 4 (rowsOf encT50 a1_3)]] [O.row true 1 5 (rowsOf (encI .u8) e0)] = some r.st) (x30 : List T50) (x31 x32 : Int) (m38 : List Int) (r : R51_oaiirrz_w_l1) (hF : f51_oaiirrz_w_l1_j2 k q_f51_oaiirrz_w x30 x31 x32 m38 = some r) : EX 51 k (nav B51 [2, 2, 2, 1, 2, 2, 1, 2, 2, 2, 3, 2, 2, 2, 1, 2, 2]) ({ n := 51, F := [(0, V.own 38), (30, V.sl 4 (rowsOf encT50 x30)), (31, V.p (Value.int .i64 x31)), (32, V.p (Value.int .i64 x32))], M := [(38, O.row true 1 5 (rowsOf (encI .u8) m38)), (1000000, O.dead)] } : St) = some r.st := by
  unfold f51_oaiirrz_w_l1_j2 at hF
  cases hF
  simp (maxSteps := 999999) (disch := first | exact D (by decide) | exact K (by kernel_rfl)) only [E, EE, ↓reduceIte, simprocAttr, show (nav B51 [2, 2, 2, 1, 2, 2, 1, 2, 2, 2, 3, 2, 2, 2, 1, 2, 2]) = Code.region 11 _ false from rfl, hk_51_11, hz_51_11, hs_51_11, R51_oaiirrz_w_l1.st]
noncomputable def f51_oaiirrz_w_l1_j1 (k : Nat) (q_f51_oaiirrz_w : Int → Int → (List Int) → (List T50) → (List Int) → Option R51_oaiirrz_w) (x30 : List T50) (x31 x32 : Int) (x33 : Bool) (h0_ : List Int) : Option R51_oaiirrz_w_l1 :=
  ifE ((0 : Int) ≤ x32) (
    Option.bind (x30[(Int.toNat x32)]?) fun v2 =>
      Option.bind (q_f51_oaiirrz_w v2.Kind v2.Num v2.Bytes v2.Items h0_) fun o4 =>
        match o4 with
        | .o0 v7 =>
          f51_oaiirrz_w_l1_j2 k q_f51_oaiirrz_w x30 x31 x32 v7)
theorem f51_oaiirrz_w_l1_j1_ok (k : Nat) (q_f51_oaiirrz_w : Int → Int → (List Int) → (List T50) → (List Int) → Option R51_oaiirrz_w) (hq_f51_oaiirrz_w : ∀ (a1 a1_1 : Int) (a1_2 : List Int) (a1_3 : List T50) (e0 : List Int) (r : R51_oaiirrz_w), q_f51_oaiirrz_w a1 a1_1 a1_2 a1_3 e0 = some r → CV k 51 [V.own 1000000, V.agg [V.p (Value.int .i64 a1), V.p (Value.int .u64 a1_1), V.sl 1 (rowsOf (encI .u8) a1_2), V.sl 4 (rowsOf encT50 a1_3)]] [O.row true 1 5 (rowsOf (encI .u8) e0)] = some r.st) (x30 : List T50) (x31 x32 : Int) (x33 : Bool) (h0_ : List Int) (r : R51_oaiirrz_w_l1) (hF : f51_oaiirrz_w_l1_j1 k q_f51_oaiirrz_w x30 x31 x32 x33 h0_ = some r) : EX 51 k (nav B51 [2, 2, 1, 2, 2, 1, 2, 2, 2, 3, 2, 2, 2, 1, 2, 2]) ({ n := 51, F := [(0, V.own 30000), (30, V.sl 4 (rowsOf encT50 x30)), (31, V.p (Value.int .i64 x31)), (32, V.p (Value.int .i64 x32)), (33, V.p (Value.bool x33))], M := [(30000, O.row true 1 5 (rowsOf (encI .u8) h0_)), (1000000, O.dead)] } : St) = some r.st := by
  unfold f51_oaiirrz_w_l1_j1 at hF
  replace hF := ifE_some.1 hF
  obtain ⟨h1, hF⟩ := hF
  replace hF := Option.bind_eq_some_iff.1 hF
  obtain ⟨v2, h3, hF⟩ := hF
  replace hF := Option.bind_eq_some_iff.1 hF
  obtain ⟨o4, h5, hF⟩ := hF
  have hc6 := hq_f51_oaiirrz_w v2.Kind v2.Num v2.Bytes v2.Items h0_ _ h5
  cases o4 with
  | o0 v7 =>
    (try dsimp only at hF)
    (try simp only [NM, EE, R51_oaiirrz_w.st] at hc6)
    have hJ := f51_oaiirrz_w_l1_j2_ok k q_f51_oaiirrz_w hq_f51_oaiirrz_w x30 x31 x32 v7 _ hF
    simp (maxSteps := 999999) (disch := first | exact D (by decide) | exact K (by kernel_rfl)) only [E, EE, ↓reduceIte, simprocAttr, xk B51 [2, 2, 1, 2, 2, 1, 2, 2, 2, 3, 2, 2, 2, 1, 2, 2] .sq rfl, xk B51 [1, 2, 2, 1, 2, 2, 1, 2, 2, 2, 3, 2, 2, 2, 1, 2, 2] (.bk 2) rfl, xk B51 [2, 1, 2, 2, 1, 2, 2, 1, 2, 2, 2, 3, 2, 2, 2, 1, 2, 2] .sq rfl, show (nav B51 [1, 2, 1, 2, 2, 1, 2, 2, 1, 2, 2, 2, 3, 2, 2, 2, 1, 2, 2]) = Code.region 9 _ false from rfl, hk_51_9, hz_51_9, hs_51_9, indexAddrV, u_48, i_48, is_48, ib_48, iz_48, u_50, i_50, is_50, ib_50, iz_50, encT50_eq, show (nav B51 [2, 2, 1, 2, 2, 1, 2, 2, 1, 2, 2, 2, 3, 2, 2, 2, 1, 2, 2]) = Code.region 10 _ false from rfl, hk_51_10, hz_51_10, hs_51_10, callStep, CL, gv, List.contains, h1, h3, hc6]
    try simp only [NM, EE] at hJ
    exact hJ
noncomputable def f51_oaiirrz_w_l1_b (k : Nat) (q_f51_oaiirrz_w : Int → Int → (List Int) → (List T50) → (List Int) → Option R51_oaiirrz_w) (x30 : List T50) (x31 x32 : Int) (h0_ : List Int) : Option R51_oaiirrz_w_l1 :=
  cond ((decide (x32 < x31)))
    (f51_oaiirrz_w_l1_j1 k q_f51_oaiirrz_w x30 x31 x32 true h0_)
    (some (R51_oaiirrz_w_l1.o1 x30 x31 x32 false h0_))
theorem f51_oaiirrz_w_l1_b_ok (k : Nat) (q_f51_oaiirrz_w : Int → Int → (List Int) → (List T50) → (List Int) → Option R51_oaiirrz_w) (hq_f51_oaiirrz_w : ∀ (a1 a1_1 : Int) (a1_2 : List Int) (a1_3 : List T50) (e0 : List Int) (r : R51_oaiirrz_w), q_f51_oaiirrz_w a1 a1_1 a1_2 a1_3 e0 = some r → CV k 51 [V.own 1000000, V.agg [V.p (Value.int .i64 a1), V.p (Value.int .u64 a1_1), V.sl 1 (rowsOf (encI .u8) a1_2), V.sl 4 (rowsOf encT50 a1_3)]] [O.row true 1 5 (rowsOf (encI .u8) e0)] = some r.st) (x30 : List T50) (x31 x32 : Int) (h0_ : List Int) (r : R51_oaiirrz_w_l1) (hF : f51_oaiirrz_w_l1_b k q_f51_oaiirrz_w x30 x31 x32 h0_ = some r) : EX 51 k (nav B51 [1, 2, 2, 1, 2, 2, 2, 3, 2, 2, 2, 1, 2, 2]) ({ n := 51, F := [(0, V.own 30000), (30, V.sl 4 (rowsOf encT50 x30)), (31, V.p (Value.int .i64 x31)), (32, V.p (Value.int .i64 x32))], M := [(30000, O.row true 1 5 (rowsOf (encI .u8) h0_)), (1000000, O.dead)] } : St) = some r.st := by
  unfold f51_oaiirrz_w_l1_b at hF
  simp (maxSteps := 999999) (disch := first | exact D (by decide) | exact K (by kernel_rfl)) only [E, EE, ↓reduceIte, simprocAttr, xk B51 [1, 2, 2, 1, 2, 2, 2, 3, 2, 2, 2, 1, 2, 2] .sq rfl, show (nav B51 [1, 1, 2, 2, 1, 2, 2, 2, 3, 2, 2, 2, 1, 2, 2]) = Code.region 8 _ false from rfl, hk_51_8, hz_51_8, hs_51_8, xk B51 [2, 1, 2, 2, 1, 2, 2, 2, 3, 2, 2, 2, 1, 2, 2] .sq rfl, xk B51 [1, 2, 1, 2, 2, 1, 2, 2, 2, 3, 2, 2, 2, 1, 2, 2] (.cd 33) rfl]
  replace hF := cond_some hF
  rcases hF with ⟨h1, hF⟩ | ⟨h1, hF⟩
  · have hJ := f51_oaiirrz_w_l1_j1_ok k q_f51_oaiirrz_w hq_f51_oaiirrz_w x30 x31 x32 true h0_ _ hF
    simp (maxSteps := 999999) (disch := first | exact D (by decide) | exact K (by kernel_rfl)) only [E, EE, ↓reduceIte, simprocAttr, xk B51 [2, 1, 2, 1, 2, 2, 1, 2, 2, 2, 3, 2, 2, 2, 1, 2, 2] .sk rfl, h1]
    try simp only [NM, EE] at hJ
    exact hJ
  · cases hF
    simp (maxSteps := 999999) (disch := first | exact D (by decide) | exact K (by kernel_rfl)) only [E, EE, ↓reduceIte, simprocAttr, xk B51 [3, 1, 2, 1, 2, 2, 1, 2, 2, 2, 3, 2, 2, 2, 1, 2, 2] (.ex 1) rfl, R51_oaiirrz_w_l1.st, h1]
noncomputable def f51_oaiirrz_w_l1 (k : Nat) (q_f51_oaiirrz_w : Int → Int → (List Int) → (List T50) → (List Int) → Option R51_oaiirrz_w) : Nat → (List T50) → Int → Int → (List Int) → Option R51_oaiirrz_w_l1
  | 0, _, _, _, _ => none
  | n + 1, x30, x31, x32, h0_ => Option.bind (f51_oaiirrz_w_l1_b k q_f51_oaiirrz_w x30 x31 x32 h0_) fun o =>
    match o with
    | .o0 y y_1 y_2 y_3 => f51_oaiirrz_w_l1 k q_f51_oaiirrz_w n y y_1 y_2 y_3
    | .o1 y y_1 y_2 y_3 y_4 => some (.o1 y y_1 y_2 y_3 y_4)
theorem f51_oaiirrz_w_l1_ok (k : Nat) (q_f51_oaiirrz_w : Int → Int → (List Int) → (List T50) → (List Int) → Option R51_oaiirrz_w) (hq_f51_oaiirrz_w : ∀ (a1 a1_1 : Int) (a1_2 : List Int) (a1_3 : List T50) (e0 : List Int) (r : R51_oaiirrz_w), q_f51_oaiirrz_w a1 a1_1 a1_2 a1_3 e0 = some r → CV k 51 [V.own 1000000, V.agg [V.p (Value.int .i64 a1), V.p (Value.int .u64 a1_1), V.sl 1 (rowsOf (encI .u8) a1_2), V.sl 4 (rowsOf encT50 a1_3)]] [O.row true 1 5 (rowsOf (encI .u8) e0)] = some r.st) (n : Nat) : ∀ (x30 : List T50) (x31 x32 : Int) (h0_ : List Int) (r : R51_oaiirrz_w_l1) (hF : f51_oaiirrz_w_l1 k q_f51_oaiirrz_w n x30 x31 x32 h0_ = some r) (σ : St) (hσ : headR (hints.head 51 8) (hints.canon 51 8) σ = some ({ n := 51, F := [(0, V.own 30000), (30, V.sl 4 (rowsOf encT50 x30)), (31, V.p (Value.int .i64 x31)), (32, V.p (Value.int .i64 x32))], M := [(30000, O.row true 1 5 (rowsOf (encI .u8) h0_)), (1000000, O.dead)] } : St)), LP 51 k (nav B51 [1, 2, 2, 1, 2, 2, 2, 3, 2, 2, 2, 1, 2, 2]) n σ = some r.st := by
  induction n with
  | zero => intro x30 x31 x32 h0_ r hF; cases hF
  | succ n ih =>
    intro x30 x31 x32 h0_ r hF σ hσ
    rw [f51_oaiirrz_w_l1] at hF
    obtain ⟨o, h, hF⟩ := Option.bind_eq_some_iff.1 hF
    have hB := f51_oaiirrz_w_l1_b_ok k q_f51_oaiirrz_w hq_f51_oaiirrz_w x30 x31 x32 h0_ o h
    unfold LP at ih ⊢
    unfold EX at hB
    rw [loopK_succ, show firstReg (nav B51 [1, 2, 2, 1, 2, 2, 2, 3, 2, 2, 2, 1, 2, 2]) = 8 from rfl, hσ, headK_some, hB]
    cases o with
    | o0 y y_1 y_2 y_3 =>
      refine ih y y_1 y_2 y_3 r hF _ ?_
      simp (maxSteps := 999999) (disch := first | exact D (by decide) | exact K (by kernel_rfl)) only [E, EE, ↓reduceIte, simprocAttr, hh_51_8, hc_51_8]
    | o1 y y_1 y_2 y_3 y_4 => cases hF; rfl
noncomputable def f51_oaiirrz_w_j2 (k : Nat) (q_f51_oaiirrz_w : Int → Int → (List Int) → (List T50) → (List Int) → Option R51_oaiirrz_w) (x30 : List T50) (x31 x32 : Int) (x33 : Bool) (h0_ : List Int) : Option R51_oaiirrz_w :=
  some (R51_oaiirrz_w.o0 h0_)
theorem f51_oaiirrz_w_j2_ok (k : Nat) (q_f51_oaiirrz_w : Int → Int → (List Int) → (List T50) → (List Int) → Option R51_oaiirrz_w) (hq_f51_oaiirrz_w : ∀ (a1 a1_1 : Int) (a1_2 : List Int) (a1_3 : List T50) (e0 : List Int) (r : R51_oaiirrz_w), q_f51_oaiirrz_w a1 a1_1 a1_2 a1_3 e0 = some r → CV k 51 [V.own 1000000, V.agg [V.p (Value.int .i64 a1), V.p (Value.int .u64 a1_1), V.sl 1 (rowsOf (encI .u8) a1_2), V.sl 4 (rowsOf encT50 a1_3)]] [O.row true 1 5 (rowsOf (encI .u8) e0)] = some r.st) (x30 : List T50) (x31 x32 : Int) (x33 : Bool) (h0_ : List Int) (r : R51_oaiirrz_w) (hF : f51_oaiirrz_w_j2 k q_f51_oaiirrz_w x30 x31 x32 x33 h0_ = some r) : finK Tryd.prog Tryd.f51 1 (SQ 51 k (nav B51 [2, 2, 2]) (blockK 0 (EX 51 k (nav B51 [2, 2, 2, 2, 3, 2, 2, 2, 1, 2, 2]) ({ n := 51, F := [(0, V.own 30000), (30, V.sl 4 (rowsOf encT50 x30)), (31, V.p (Value.int .i64 x31)), (32, V.p (Value.int .i64 x32)), (33, V.p (Value.bool x33))], M := [(30000, O.row true 1 5 (rowsOf (encI .u8) h0_)), (1000000, O.dead)] } : St)))) = some r.st := by
  unfold f51_oaiirrz_w_j2 at hF
  cases hF
  simp (maxSteps := 999999) (disch := first | exact D (by decide) | exact K (by kernel_rfl)) only [E, EE, ↓reduceIte, simprocAttr, xk B51 [2, 2, 2, 2, 3, 2, 2, 2, 1, 2, 2] .sq rfl, show (nav B51 [1, 2, 2, 2, 2, 3, 2, 2, 2, 1, 2, 2]) = Code.region 12 _ false from rfl, hk_51_12, hz_51_12, hs_51_12, xk B51 [2, 2, 2, 2, 2, 3, 2, 2, 2, 1, 2, 2] .rt rfl, finK_norm, finK_ret, fin51, R51_oaiirrz_w.st]
noncomputable def f51_oaiirrz_w_j3 (k : Nat) (q_f51_oaiirrz_w : Int → Int → (List Int) → (List T50) → (List Int) → Option R51_oaiirrz_w) (x5 : Int) (x20 : Bool) (e0 : List Int) (m3 m3_1 : Int) (m3_2 : List Int) (m3_3 : List T50) : Option R51_oaiirrz_w :=
  Option.bind (f67_oii_w k x5 (IntKind.u64.wrap ((List.length m3_2) : Int)) e0) fun o1 =>
    match o1 with
    | .o0 v4 =>
      ifE (((List.length v4) + (List.length m3_2)) ≤ roomy) (
        some (R51_oaiirrz_w.o0 (v4 ++ m3_2)))
theorem f51_oaiirrz_w_j3_ok (k : Nat) (q_f51_oaiirrz_w : Int → Int → (List Int) → (List T50) → (List Int) → Option R51_oaiirrz_w) (hq_f51_oaiirrz_w : ∀ (a1 a1_1 : Int) (a1_2 : List Int) (a1_3 : List T50) (e0 : List Int) (r : R51_oaiirrz_w), q_f51_oaiirrz_w a1 a1_1 a1_2 a1_3 e0 = some r → CV k 51 [V.own 1000000, V.agg [V.p (Value.int .i64 a1), V.p (Value.int .u64 a1_1), V.sl 1 (rowsOf (encI .u8) a1_2), V.sl 4 (rowsOf encT50 a1_3)]] [O.row true 1 5 (rowsOf (encI .u8) e0)] = some r.st) (x5 : Int) (x20 : Bool) (e0 : List Int) (m3 m3_1 : Int) (m3_2 : List Int) (m3_3 : List T50) (r : R51_oaiirrz_w) (hF : f51_oaiirrz_w_j3 k q_f51_oaiirrz_w x5 x20 e0 m3 m3_1 m3_2 m3_3 = some r) : finK Tryd.prog Tryd.f51 1 (EX 51 k (nav B51 [2, 2, 2]) ({ n := 51, F := [(0, V.own 1000000), (3, V.ptr 3 0), (5, V.p (Value.int .u8 x5)), (20, V.p (Value.bool x20))], M := [(1000000, O.row true 1 5 (rowsOf (encI .u8) e0)), (3, O.box 50 [V.p (Value.int .i64 m3), V.p (Value.int .u64 m3_1), V.sl 1 (rowsOf (encI .u8) m3_2), V.sl 4 (rowsOf encT50 m3_3)])] } : St)) = some r.st := by
  unfold f51_oaiirrz_w_j3 at hF
  replace hF := Option.bind_eq_some_iff.1 hF
  obtain ⟨o1, h2, hF⟩ := hF
  have hc3 := f67_oii_w_ok k x5 (IntKind.u64.wrap ((List.length m3_2) : Int)) e0 _ h2
  cases o1 with
  | o0 v4 =>
    (try dsimp only at hF)
    (try simp only [NM, EE, R67_oii_w.st] at hc3)
    replace hF := ifE_some.1 hF
    obtain ⟨h5, hF⟩ := hF
    cases hF
    simp (maxSteps := 999999) (disch := first | exact D (by decide) | exact K (by kernel_rfl)) only [E, EE, ↓reduceIte, simprocAttr, xk B51 [2, 2, 2] .sq rfl, show (nav B51 [1, 2, 2, 2]) = Code.region 13 _ true from rfl, hk_51_13, hz_51_13, hs_51_13, fieldAddrV, u_50, i_50, is_50, ib_50, iz_50, u_22, i_22, is_22, ib_22, iz_22, u_3, i_3, is_3, ib_3, iz_3, u_47, i_47, is_47, ib_47, iz_47, convV, callStep, CL, gv, List.contains, appendV, content, u_5, i_5, is_5, ib_5, iz_5, xk B51 [2, 2, 2, 2] .rt rfl, finK_norm, finK_ret, fin51, R51_oaiirrz_w.st, hc3, h5]
noncomputable def f51_oaiirrz_w_e (k : Nat) (q_f51_oaiirrz_w : Int → Int → (List Int) → (List T50) → (List Int) → Option R51_oaiirrz_w) (a1 a1_1 : Int) (a1_2 : List Int) (a1_3 : List T50) (e0 : List Int) : Option R51_oaiirrz_w :=
  Option.bind (f66_i k a1) fun o1 =>
    match o1 with
    | .o0 v4 =>
      cond ((a1 == 1))
        (
          Option.bind (f67_oii_w k v4 a1_1 e0) fun o6 =>
            match o6 with
            | .o0 v9 =>
              some (R51_oaiirrz_w.o0 v9))
        (
          cond ((a1 == 4))
            (
              Option.bind (f67_oii_w k v4 (IntKind.u64.wrap ((List.length a1_3) : Int)) e0) fun o11 =>
                match o11 with
                | .o0 v14 =>
                  Option.bind (f51_oaiirrz_w_l1 k q_f51_oaiirrz_w k a1_3 ((List.length a1_3) : Int) 0 v14) fun o15 =>
                    match o15 with
                    | .o0 _ _ _ _ =>
                      none
                    | .o1 v18 v19 v20 v21 v22 =>
                      f51_oaiirrz_w_j2 k q_f51_oaiirrz_w v18 v19 v20 v21 v22)
            (f51_oaiirrz_w_j3 k q_f51_oaiirrz_w v4 false e0 a1 a1_1 a1_2 a1_3))
theorem f51_oaiirrz_w_e_ok (k : Nat) (q_f51_oaiirrz_w : Int → Int → (List Int) → (List T50) → (List Int) → Option R51_oaiirrz_w) (hq_f51_oaiirrz_w : ∀ (a1 a1_1 : Int) (a1_2 : List Int) (a1_3 : List T50) (e0 : List Int) (r : R51_oaiirrz_w), q_f51_oaiirrz_w a1 a1_1 a1_2 a1_3 e0 = some r → CV k 51 [V.own 1000000, V.agg [V.p (Value.int .i64 a1), V.p (Value.int .u64 a1_1), V.sl 1 (rowsOf (encI .u8) a1_2), V.sl 4 (rowsOf encT50 a1_3)]] [O.row true 1 5 (rowsOf (encI .u8) e0)] = some r.st) (a1 a1_1 : Int) (a1_2 : List Int) (a1_3 : List T50) (e0 : List Int) (r : R51_oaiirrz_w) (hF : f51_oaiirrz_w_e k q_f51_oaiirrz_w a1 a1_1 a1_2 a1_3 e0 = some r) : finK Tryd.prog Tryd.f51 1 (EX 51 k (nav B51 []) ({ n := 51, F := [(0, V.own 1000000), (1, V.agg [V.p (Value.int .i64 a1), V.p (Value.int .u64 a1_1), V.sl 1 (rowsOf (encI .u8) a1_2), V.sl 4 (rowsOf encT50 a1_3)])], M := [(1000000, O.row true 1 5 (rowsOf (encI .u8) e0))] } : St)) = some r.st := by
  unfold f51_oaiirrz_w_e at hF
  replace hF := Option.bind_eq_some_iff.1 hF
  obtain ⟨o1, h2, hF⟩ := hF
  have hc3 := f66_i_ok k a1 _ h2
  cases o1 with
  | o0 v4 =>
    (try dsimp only at hF)
    (try simp only [NM, EE, R66_i.st] at hc3)
    simp (maxSteps := 999999) (disch := first | exact D (by decide) | exact K (by kernel_rfl)) only [E, EE, ↓reduceIte, simprocAttr, xk B51 [] .sq rfl, show (nav B51 [1]) = Code.region 0 _ false from rfl, hk_51_0, hz_51_0, hs_51_0, xk B51 [2] .sq rfl, show (nav B51 [1, 2]) = Code.region 1 _ false from rfl, hk_51_1, hz_51_1, hs_51_1, fieldAddrV, u_50, i_50, is_50, ib_50, iz_50, u_3, i_3, is_3, ib_3, iz_3, callStep, CL, gv, List.contains, xk B51 [2, 2] .sq rfl, xk B51 [1, 2, 2] .sq rfl, show (nav B51 [1, 1, 2, 2]) = Code.region 2 _ false from rfl, hk_51_2, hz_51_2, hs_51_2, xk B51 [2, 1, 2, 2] (.bk 0) rfl, xk B51 [2, 2, 1, 2, 2] .sq rfl, show (nav B51 [1, 2, 2, 1, 2, 2]) = Code.region 3 _ false from rfl, hk_51_3, hz_51_3, hs_51_3, xk B51 [2, 2, 2, 1, 2, 2] (.cd 13) rfl, hc3]
    replace hF := cond_some hF
    rcases hF with ⟨h5, hF⟩ | ⟨h5, hF⟩
    · replace hF := Option.bind_eq_some_iff.1 hF
      obtain ⟨o6, h7, hF⟩ := hF
      have hc8 := f67_oii_w_ok k v4 a1_1 e0 _ h7
      cases o6 with
      | o0 v9 =>
        (try dsimp only at hF)
        (try simp only [NM, EE, R67_oii_w.st] at hc8)
        cases hF
        simp (maxSteps := 999999) (disch := first | exact D (by decide) | exact K (by kernel_rfl)) only [E, EE, ↓reduceIte, simprocAttr, xk B51 [2, 2, 2, 2, 1, 2, 2] .sq rfl, show (nav B51 [1, 2, 2, 2, 2, 1, 2, 2]) = Code.region 4 _ false from rfl, hk_51_4, hz_51_4, hs_51_4, fieldAddrV, u_50, i_50, is_50, ib_50, iz_50, u_47, i_47, is_47, ib_47, iz_47, callStep, CL, gv, List.contains, xk B51 [2, 2, 2, 2, 2, 1, 2, 2] .rt rfl, finK_norm, finK_ret, fin51, R51_oaiirrz_w.st, hc3, h5, hc8]
    · simp (maxSteps := 999999) (disch := first | exact D (by decide) | exact K (by kernel_rfl)) only [E, EE, ↓reduceIte, simprocAttr, xk B51 [3, 2, 2, 2, 1, 2, 2] .sq rfl, show (nav B51 [1, 3, 2, 2, 2, 1, 2, 2]) = Code.region 5 _ false from rfl, hk_51_5, hz_51_5, hs_51_5, xk B51 [2, 3, 2, 2, 2, 1, 2, 2] (.cd 20) rfl, hc3, h5]
      replace hF := cond_some hF
      rcases hF with ⟨h10, hF⟩ | ⟨h10, hF⟩
      · replace hF := Option.bind_eq_some_iff.1 hF
        obtain ⟨o11, h12, hF⟩ := hF
        have hc13 := f67_oii_w_ok k v4 (IntKind.u64.wrap ((List.length a1_3) : Int)) e0 _ h12
        cases o11 with
        | o0 v14 =>
          (try dsimp only at hF)
          (try simp only [NM, EE, R67_oii_w.st] at hc13)
          replace hF := Option.bind_eq_some_iff.1 hF
          obtain ⟨o15, h16, hF⟩ := hF
          have hc17 := f51_oaiirrz_w_l1_ok k q_f51_oaiirrz_w hq_f51_oaiirrz_w k a1_3 ((List.length a1_3) : Int) 0 v14 _ h16
          simp (maxSteps := 999999) (disch := first | exact D (by decide) | exact K (by kernel_rfl)) only [E, EE, ↓reduceIte, simprocAttr, xk B51 [2, 2, 3, 2, 2, 2, 1, 2, 2] .sq rfl, show (nav B51 [1, 2, 2, 3, 2, 2, 2, 1, 2, 2]) = Code.region 6 _ false from rfl, hk_51_6, hz_51_6, hs_51_6, fieldAddrV, u_50, i_50, is_50, ib_50, iz_50, u_48, i_48, is_48, ib_48, iz_48, u_3, i_3, is_3, ib_3, iz_3, u_47, i_47, is_47, ib_47, iz_47, convV, callStep, CL, gv, List.contains, xk B51 [2, 2, 2, 3, 2, 2, 2, 1, 2, 2] .sq rfl, xk B51 [1, 2, 2, 2, 3, 2, 2, 2, 1, 2, 2] .sq rfl, show (nav B51 [1, 1, 2, 2, 2, 3, 2, 2, 2, 1, 2, 2]) = Code.region 7 _ false from rfl, hk_51_7, hz_51_7, hs_51_7, xk B51 [2, 1, 2, 2, 2, 3, 2, 2, 2, 1, 2, 2] (.bk 1) rfl, xk B51 [2, 2, 1, 2, 2, 2, 3, 2, 2, 2, 1, 2, 2] .lp rfl, hh_51_8, hc_51_8, hc3, h5, h10, hc13]
          (try simp only [NM, EE] at hc17)
          rw [hc17 _ (by simp (maxSteps := 999999) (disch := first | exact D (by decide) | exact K (by kernel_rfl)) only [E, EE, ↓reduceIte, simprocAttr, hh_51_8, hc_51_8, hc3, h5, h10, hc13])]
          clear hc17
          cases o15 with
          | o0 _ _ _ _ =>
            (try dsimp only at hF)
            cases hF
          | o1 v18 v19 v20 v21 v22 =>
            (try dsimp only at hF)
            have hJ := f51_oaiirrz_w_j2_ok k q_f51_oaiirrz_w hq_f51_oaiirrz_w v18 v19 v20 v21 v22 _ hF
            simp (maxSteps := 999999) (disch := first | exact D (by decide) | exact K (by kernel_rfl)) only [E, EE, ↓reduceIte, simprocAttr, R51_oaiirrz_w_l1.st, hc3, h5, h10, hc13]
            try simp only [NM, EE] at hJ
            exact hJ
      · have hJ := f51_oaiirrz_w_j3_ok k q_f51_oaiirrz_w hq_f51_oaiirrz_w v4 false e0 a1 a1_1 a1_2 a1_3 _ hF
        simp (maxSteps := 999999) (disch := first | exact D (by decide) | exact K (by kernel_rfl)) only [E, EE, ↓reduceIte, simprocAttr, xk B51 [3, 2, 3, 2, 2, 2, 1, 2, 2] .sk rfl, hc3, h5, h10]
        try simp only [NM, EE] at hJ
        exact hJ
noncomputable def f51_oaiirrz_w : Nat → Int → Int → (List Int) → (List T50) → (List Int) → Option R51_oaiirrz_w
  | 0, _, _, _, _, _ => none
  | k + 1, a1, a1_1, a1_2, a1_3, e0 => f51_oaiirrz_w_e k (f51_oaiirrz_w k) a1 a1_1 a1_2 a1_3 e0
theorem f51_oaiirrz_w_all (k : Nat) : (∀ (a1 a1_1 : Int) (a1_2 : List Int) (a1_3 : List T50) (e0 : List Int) (r : R51_oaiirrz_w), f51_oaiirrz_w k a1 a1_1 a1_2 a1_3 e0 = some r → CV k 51 [V.own 1000000, V.agg [V.p (Value.int .i64 a1), V.p (Value.int .u64 a1_1), V.sl 1 (rowsOf (encI .u8) a1_2), V.sl 4 (rowsOf encT50 a1_3)]] [O.row true 1 5 (rowsOf (encI .u8) e0)] = some r.st) := by
  induction k with
  | zero => exact (by intro a1 a1_1 a1_2 a1_3 e0 r hF; rw [f51_oaiirrz_w] at hF; cases hF)
  | succ k ih =>
    have ih_f51_oaiirrz_w := ih
    exact (by intro a1 a1_1 a1_2 a1_3 e0 r hF; rw [f51_oaiirrz_w] at hF; unfold CV; rw [ev_call (F := Tryd.f51) (c := (nav B51 [])) rfl Tryd.func51 rfl rfl rfl rfl]; exact f51_oaiirrz_w_e_ok k (f51_oaiirrz_w k) ih_f51_oaiirrz_w a1 a1_1 a1_2 a1_3 e0 r hF)
theorem f51_oaiirrz_w_ok (k : Nat) (a1 a1_1 : Int) (a1_2 : List Int) (a1_3 : List T50) (e0 : List Int) (r : R51_oaiirrz_w) (hF : f51_oaiirrz_w k a1 a1_1 a1_2 a1_3 e0 = some r) : CV k 51 [V.own 1000000, V.agg [V.p (Value.int .i64 a1), V.p (Value.int .u64 a1_1), V.sl 1 (rowsOf (encI .u8) a1_2), V.sl 4 (rowsOf encT50 a1_3)]] [O.row true 1 5 (rowsOf (encI .u8) e0)] = some r.st := f51_oaiirrz_w_all k a1 a1_1 a1_2 a1_3 e0 r hF
-- f51_naiirrz: f51 heliograph/cbor.put
inductive R51_naiirrz where
  | o0 (y : List Int)
noncomputable def R51_naiirrz.st : R51_naiirrz → V × List O × List O
  | .o0 y => (V.own 2000000, [], [O.row true 1 5 (rowsOf (encI .u8) y)])
inductive R51_naiirrz_l1 where
  | o0 (y : List T50) (y_1 y_2 : Int) (y_3 : List Int)
  | o1 (y : List T50) (y_1 y_2 : Int) (y_3 : Bool) (y_4 : List Int)
noncomputable def R51_naiirrz_l1.st : R51_naiirrz_l1 → Out × St
  | .o0 y y_1 y_2 y_3 => (.norm, ({ n := 51, F := [(0, V.own 38), (30, V.sl 4 (rowsOf encT50 y)), (31, V.p (Value.int .i64 y_1)), (32, V.p (Value.int .i64 y_2))], M := [(38, O.row true 1 5 (rowsOf (encI .u8) y_3))] } : St))
  | .o1 y y_1 y_2 y_3 y_4 => (.exit 1, ({ n := 51, F := [(0, V.own 30000), (30, V.sl 4 (rowsOf encT50 y)), (31, V.p (Value.int .i64 y_1)), (32, V.p (Value.int .i64 y_2)), (33, V.p (Value.bool y_3))], M := [(30000, O.row true 1 5 (rowsOf (encI .u8) y_4))] } : St))
noncomputable def f51_naiirrz_l1_j2 (k : Nat) (x30 : List T50) (x31 x32 : Int) (m38 : List Int) : Option R51_naiirrz_l1 :=
  some (R51_naiirrz_l1.o0 x30 x31 (IntKind.i64.wrap (x32 + (1 : Int))) m38)
theorem f51_naiirrz_l1_j2_ok (k : Nat) (x30 : List T50) (x31 x32 : Int) (m38 : List Int) (r : R51_naiirrz_l1) (hF : f51_naiirrz_l1_j2 k x30 x31 x32 m38 = some r) : EX 51 k (nav B51 [2, 2, 2, 1, 2, 2, 1, 2, 2, 2, 3, 2, 2, 2, 1, 2, 2]) ({ n := 51, F := [(0, V.own 38), (30, V.sl 4 (rowsOf encT50 x30)), (31, V.p (Value.int .i64 x31)), (32, V.p (Value.int .i64 x32))], M := [(38, O.row true 1 5 (rowsOf (encI .u8) m38))] } : St) = some r.st := by
  unfold f51_naiirrz_l1_j2 at hF
  cases hF
  simp (maxSteps := 999999) (disch := first | exact D (by decide) | exact K (by kernel_rfl)) only [E, EE, ↓reduceIte, simprocAttr, show (nav B51 [2, 2, 2, 1, 2, 2, 1, 2, 2, 2, 3, 2, 2, 2, 1, 2, 2]) = Code.region 11 _ false from rfl, hk_51_11, hz_51_11, hs_51_11, R51_naiirrz_l1.st]
noncomputable def f51_naiirrz_l1_j1 (k : Nat) (x30 : List T50) (x31 x32 : Int) (x33 : Bool) (h0_ : List Int) : Option R51_naiirrz_l1 :=
  ifE ((0 : Int) ≤ x32) (
    Option.bind (x30[(Int.toNat x32)]?) fun v2 =>
      Option.bind (f51_oaiirrz_w k v2.Kind v2.Num v2.Bytes v2.Items h0_) fun o4 =>
        match o4 with
        | .o0 v7 =>
          f51_naiirrz_l1_j2 k x30 x31 x32 v7)
theorem f51_naiirrz_l1_j1_ok (k : Nat) (x30 : List T50) (x31 x32 : Int) (x33 : Bool) (h0_ : List Int) (r : R51_naiirrz_l1) (hF : f51_naiirrz_l1_j1 k x30 x31 x32 x33 h0_ = some r) : EX 51 k (nav B51 [2, 2, 1, 2, 2, 1, 2, 2, 2, 3, 2, 2, 2, 1, 2, 2]) ({ n := 51, F := [(0, V.own 30000), (30, V.sl 4 (rowsOf encT50 x30)), (31, V.p (Value.int .i64 x31)), (32, V.p (Value.int .i64 x32)), (33, V.p (Value.bool x33))], M := [(30000, O.row true 1 5 (rowsOf (encI .u8) h0_))] } : St) = some r.st := by
  unfold f51_naiirrz_l1_j1 at hF
  replace hF := ifE_some.1 hF
  obtain ⟨h1, hF⟩ := hF
  replace hF := Option.bind_eq_some_iff.1 hF
  obtain ⟨v2, h3, hF⟩ := hF
  replace hF := Option.bind_eq_some_iff.1 hF
  obtain ⟨o4, h5, hF⟩ := hF
  have hc6 := f51_oaiirrz_w_ok k v2.Kind v2.Num v2.Bytes v2.Items h0_ _ h5
  cases o4 with
  | o0 v7 =>
    (try dsimp only at hF)
    (try simp only [NM, EE, R51_oaiirrz_w.st] at hc6)
    have hJ := f51_naiirrz_l1_j2_ok k x30 x31 x32 v7 _ hF
    simp (maxSteps := 999999) (disch := first | exact D (by decide) | exact K (by kernel_rfl)) only [E, EE, ↓reduceIte, simprocAttr, xk B51 [2, 2, 1, 2, 2, 1, 2, 2, 2, 3, 2, 2, 2, 1, 2, 2] .sq rfl, xk B51 [1, 2, 2, 1, 2, 2, 1, 2, 2, 2, 3, 2, 2, 2, 1, 2, 2] (.bk 2) rfl, xk B51 [2, 1, 2, 2, 1, 2, 2, 1, 2, 2, 2, 3, 2, 2, 2, 1, 2, 2] .sq rfl, show (nav B51 [1, 2, 1, 2, 2, 1, 2, 2, 1, 2, 2, 2, 3, 2, 2, 2, 1, 2, 2]) = Code.region 9 _ false from rfl, hk_51_9, hz_51_9, hs_51_9, indexAddrV, u_48, i_48, is_48, ib_48, iz_48, u_50, i_50, is_50, ib_50, iz_50, encT50_eq, show (nav B51 [2, 2, 1, 2, 2, 1, 2, 2, 1, 2, 2, 2, 3, 2, 2, 2, 1, 2, 2]) = Code.region 10 _ false from rfl, hk_51_10, hz_51_10, hs_51_10, callStep, CL, gv, List.contains, h1, h3, hc6]
    try simp only [NM, EE] at hJ
    exact hJ
noncomputable def f51_naiirrz_l1_b (k : Nat) (x30 : List T50) (x31 x32 : Int) (h0_ : List Int) : Option R51_naiirrz_l1 :=
  cond ((decide (x32 < x31)))
    (f51_naiirrz_l1_j1 k x30 x31 x32 true h0_)
    (some (R51_naiirrz_l1.o1 x30 x31 x32 false h0_))
theorem f51_naiirrz_l1_b_ok (k : Nat) (x30 : List T50) (x31 x32 : Int) (h0_ : List Int) (r : R51_naiirrz_l1) (hF : f51_naiirrz_l1_b k x30 x31 x32 h0_ = some r) : EX 51 k (nav B51 [1, 2, 2, 1, 2, 2, 2, 3, 2, 2, 2, 1, 2, 2]) ({ n := 51, F := [(0, V.own 30000), (30, V.sl 4 (rowsOf encT50 x30)), (31, V.p (Value.int .i64 x31)), (32, V.p (Value.int .i64 x32))], M := [(30000, O.row true 1 5 (rowsOf (encI .u8) h0_))] } : St) = some r.st := by
  unfold f51_naiirrz_l1_b at hF
  simp (maxSteps := 999999) (disch := first | exact D (by decide) | exact K (by kernel_rfl)) only [E, EE, ↓reduceIte, simprocAttr, xk B51 [1, 2, 2, 1, 2, 2, 2, 3, 2, 2, 2, 1, 2, 2] .sq rfl, show (nav B51 [1, 1, 2, 2, 1, 2, 2, 2, 3, 2, 2, 2, 1, 2, 2]) = Code.region 8 _ false from rfl, hk_51_8, hz_51_8, hs_51_8, xk B51 [2, 1, 2, 2, 1, 2, 2, 2, 3, 2, 2, 2, 1, 2, 2] .sq rfl, xk B51 [1, 2, 1, 2, 2, 1, 2, 2, 2, 3, 2, 2, 2, 1, 2, 2] (.cd 33) rfl]
  replace hF := cond_some hF
  rcases hF with ⟨h1, hF⟩ | ⟨h1, hF⟩
  · have hJ := f51_naiirrz_l1_j1_ok k x30 x31 x32 true h0_ _ hF
    simp (maxSteps := 999999) (disch := first | exact D (by decide) | exact K (by kernel_rfl)) only [E, EE, ↓reduceIte, simprocAttr, xk B51 [2, 1, 2, 1, 2, 2, 1, 2, 2, 2, 3, 2, 2, 2, 1, 2, 2] .sk rfl, h1]
    try simp only [NM, EE] at hJ
    exact hJ
  · cases hF
    simp (maxSteps := 999999) (disch := first | exact D (by decide) | exact K (by kernel_rfl)) only [E, EE, ↓reduceIte, simprocAttr, xk B51 [3, 1, 2, 1, 2, 2, 1, 2, 2, 2, 3, 2, 2, 2, 1, 2, 2] (.ex 1) rfl, R51_naiirrz_l1.st, h1]
noncomputable def f51_naiirrz_l1 (k : Nat) : Nat → (List T50) → Int → Int → (List Int) → Option R51_naiirrz_l1
  | 0, _, _, _, _ => none
  | n + 1, x30, x31, x32, h0_ => Option.bind (f51_naiirrz_l1_b k x30 x31 x32 h0_) fun o =>
    match o with
    | .o0 y y_1 y_2 y_3 => f51_naiirrz_l1 k n y y_1 y_2 y_3
    | .o1 y y_1 y_2 y_3 y_4 => some (.o1 y y_1 y_2 y_3 y_4)
theorem f51_naiirrz_l1_ok (k n : Nat) : ∀ (x30 : List T50) (x31 x32 : Int) (h0_ : List Int) (r : R51_naiirrz_l1) (hF : f51_naiirrz_l1 k n x30 x31 x32 h0_ = some r) (σ : St) (hσ : headR (hints.head 51 8) (hints.canon 51 8) σ = some ({ n := 51, F := [(0, V.own 30000), (30, V.sl 4 (rowsOf encT50 x30)), (31, V.p (Value.int .i64 x31)), (32, V.p (Value.int .i64 x32))], M := [(30000, O.row true 1 5 (rowsOf (encI .u8) h0_))] } : St)), LP 51 k (nav B51 [1, 2, 2, 1, 2, 2, 2, 3, 2, 2, 2, 1, 2, 2]) n σ = some r.st := by
  induction n with
  | zero => intro x30 x31 x32 h0_ r hF; cases hF
  | succ n ih =>
    intro x30 x31 x32 h0_ r hF σ hσ
    rw [f51_naiirrz_l1] at hF
    obtain ⟨o, h, hF⟩ := Option.bind_eq_some_iff.1 hF
    have hB := f51_naiirrz_l1_b_ok k x30 x31 x32 h0_ o h
    unfold LP at ih ⊢
    unfold EX at hB
    rw [loopK_succ, show firstReg (nav B51 [1, 2, 2, 1, 2, 2, 2, 3, 2, 2, 2, 1, 2, 2]) = 8 from rfl, hσ, headK_some, hB]
    cases o with
    | o0 y y_1 y_2 y_3 =>
      refine ih y y_1 y_2 y_3 r hF _ ?_
      simp (maxSteps := 999999) (disch := first | exact D (by decide) | exact K (by kernel_rfl)) only [E, EE, ↓reduceIte, simprocAttr, hh_51_8, hc_51_8]
    | o1 y y_1 y_2 y_3 y_4 => cases hF; rfl
noncomputable def f51_naiirrz_j2 (k : Nat) (x30 : List T50) (x31 x32 : Int) (x33 : Bool) (h0_ : List Int) : Option R51_naiirrz :=
  some (R51_naiirrz.o0 h0_)
theorem f51_naiirrz_j2_ok (k : Nat) (x30 : List T50) (x31 x32 : Int) (x33 : Bool) (h0_ : List Int) (r : R51_naiirrz) (hF : f51_naiirrz_j2 k x30 x31 x32 x33 h0_ = some r) : finK Tryd.prog Tryd.f51 0 (SQ 51 k (nav B51 [2, 2, 2]) (blockK 0 (EX 51 k (nav B51 [2, 2, 2, 2, 3, 2, 2, 2, 1, 2, 2]) ({ n := 51, F := [(0, V.own 30000), (30, V.sl 4 (rowsOf encT50 x30)), (31, V.p (Value.int .i64 x31)), (32, V.p (Value.int .i64 x32)), (33, V.p (Value.bool x33))], M := [(30000, O.row true 1 5 (rowsOf (encI .u8) h0_))] } : St)))) = some r.st := by
  unfold f51_naiirrz_j2 at hF
  cases hF
  simp (maxSteps := 999999) (disch := first | exact D (by decide) | exact K (by kernel_rfl)) only [E, EE, ↓reduceIte, simprocAttr, xk B51 [2, 2, 2, 2, 3, 2, 2, 2, 1, 2, 2] .sq rfl, show (nav B51 [1, 2, 2, 2, 2, 3, 2, 2, 2, 1, 2, 2]) = Code.region 12 _ false from rfl, hk_51_12, hz_51_12, hs_51_12, xk B51 [2, 2, 2, 2, 2, 3, 2, 2, 2, 1, 2, 2] .rt rfl, finK_norm, finK_ret, fin51, R51_naiirrz.st]
noncomputable def f51_naiirrz_j3 (k : Nat) (x5 : Int) (x20 : Bool) (s0 : List Int) (m3 m3_1 : Int) (m3_2 : List Int) (m3_3 : List T50) : Option R51_naiirrz :=
  Option.bind (f67_oii_w k x5 (IntKind.u64.wrap ((List.length m3_2) : Int)) s0) fun o1 =>
    match o1 with
    | .o0 v4 =>
      ifE (((List.length v4) + (List.length m3_2)) ≤ roomy) (
        some (R51_naiirrz.o0 (v4 ++ m3_2)))
theorem f51_naiirrz_j3_ok (k : Nat) (x5 : Int) (x20 : Bool) (s0 : List Int) (m3 m3_1 : Int) (m3_2 : List Int) (m3_3 : List T50) (r : R51_naiirrz) (hF : f51_naiirrz_j3 k x5 x20 s0 m3 m3_1 m3_2 m3_3 = some r) : finK Tryd.prog Tryd.f51 0 (EX 51 k (nav B51 [2, 2, 2]) ({ n := 51, F := [(0, V.own 700000), (3, V.ptr 3 0), (5, V.p (Value.int .u8 x5)), (20, V.p (Value.bool x20))], M := [(700000, O.row true 1 5 (rowsOf (encI .u8) s0)), (3, O.box 50 [V.p (Value.int .i64 m3), V.p (Value.int .u64 m3_1), V.sl 1 (rowsOf (encI .u8) m3_2), V.sl 4 (rowsOf encT50 m3_3)])] } : St)) = some r.st := by
  unfold f51_naiirrz_j3 at hF
  replace hF := Option.bind_eq_some_iff.1 hF
  obtain ⟨o1, h2, hF⟩ := hF
  have hc3 := f67_oii_w_ok k x5 (IntKind.u64.wrap ((List.length m3_2) : Int)) s0 _ h2
  cases o1 with
  | o0 v4 =>
    (try dsimp only at hF)
    (try simp only [NM, EE, R67_oii_w.st] at hc3)
    replace hF := ifE_some.1 hF
    obtain ⟨h5, hF⟩ := hF
    cases hF
    simp (maxSteps := 999999) (disch := first | exact D (by decide) | exact K (by kernel_rfl)) only [E, EE, ↓reduceIte, simprocAttr, xk B51 [2, 2, 2] .sq rfl, show (nav B51 [1, 2, 2, 2]) = Code.region 13 _ true from rfl, hk_51_13, hz_51_13, hs_51_13, fieldAddrV, u_50, i_50, is_50, ib_50, iz_50, u_22, i_22, is_22, ib_22, iz_22, u_3, i_3, is_3, ib_3, iz_3, u_47, i_47, is_47, ib_47, iz_47, convV, callStep, CL, gv, List.contains, appendV, content, u_5, i_5, is_5, ib_5, iz_5, xk B51 [2, 2, 2, 2] .rt rfl, finK_norm, finK_ret, fin51, R51_naiirrz.st, hc3, h5]
noncomputable def f51_naiirrz_e (k : Nat) (a1 a1_1 : Int) (a1_2 : List Int) (a1_3 : List T50) : Option R51_naiirrz :=
  Option.bind (f66_i k a1) fun o1 =>
    match o1 with
    | .o0 v4 =>
      cond ((a1 == 1))
        (
          Option.bind (f67_oii_w k v4 a1_1 []) fun o6 =>
            match o6 with
            | .o0 v9 =>
              some (R51_naiirrz.o0 v9))
        (
          cond ((a1 == 4))
            (
              Option.bind (f67_oii_w k v4 (IntKind.u64.wrap ((List.length a1_3) : Int)) []) fun o11 =>
                match o11 with
                | .o0 v14 =>
                  Option.bind (f51_naiirrz_l1 k k a1_3 ((List.length a1_3) : Int) 0 v14) fun o15 =>
                    match o15 with
                    | .o0 _ _ _ _ =>
                      none
                    | .o1 v18 v19 v20 v21 v22 =>
                      f51_naiirrz_j2 k v18 v19 v20 v21 v22)
            (f51_naiirrz_j3 k v4 false [] a1 a1_1 a1_2 a1_3))
theorem f51_naiirrz_e_ok (k : Nat) (a1 a1_1 : Int) (a1_2 : List Int) (a1_3 : List T50) (r : R51_naiirrz) (hF : f51_naiirrz_e k a1 a1_1 a1_2 a1_3 = some r) : finK Tryd.prog Tryd.f51 0 (EX 51 k (nav B51 []) ({ n := 51, F := [(0, V.nil), (1, V.agg [V.p (Value.int .i64 a1), V.p (Value.int .u64 a1_1), V.sl 1 (rowsOf (encI .u8) a1_2), V.sl 4 (rowsOf encT50 a1_3)])], M := [] } : St)) = some r.st := by
  unfold f51_naiirrz_e at hF
  replace hF := Option.bind_eq_some_iff.1 hF
  obtain ⟨o1, h2, hF⟩ := hF
  have hc3 := f66_i_ok k a1 _ h2
  cases o1 with
  | o0 v4 =>
    (try dsimp only at hF)
    (try simp only [NM, EE, R66_i.st] at hc3)
    simp (maxSteps := 999999) (disch := first | exact D (by decide) | exact K (by kernel_rfl)) only [E, EE, ↓reduceIte, simprocAttr, xk B51 [] .sq rfl, show (nav B51 [1]) = Code.region 0 _ false from rfl, hk_51_0, hz_51_0, hs_51_0, xk B51 [2] .sq rfl, show (nav B51 [1, 2]) = Code.region 1 _ false from rfl, hk_51_1, hz_51_1, hs_51_1, fieldAddrV, u_50, i_50, is_50, ib_50, iz_50, u_3, i_3, is_3, ib_3, iz_3, callStep, CL, gv, List.contains, xk B51 [2, 2] .sq rfl, xk B51 [1, 2, 2] .sq rfl, show (nav B51 [1, 1, 2, 2]) = Code.region 2 _ false from rfl, hk_51_2, hz_51_2, hs_51_2, xk B51 [2, 1, 2, 2] (.bk 0) rfl, xk B51 [2, 2, 1, 2, 2] .sq rfl, show (nav B51 [1, 2, 2, 1, 2, 2]) = Code.region 3 _ false from rfl, hk_51_3, hz_51_3, hs_51_3, xk B51 [2, 2, 2, 1, 2, 2] (.cd 13) rfl, hc3]
    replace hF := cond_some hF
    rcases hF with ⟨h5, hF⟩ | ⟨h5, hF⟩
    · replace hF := Option.bind_eq_some_iff.1 hF
      obtain ⟨o6, h7, hF⟩ := hF
      have hc8 := f67_oii_w_ok k v4 a1_1 [] _ h7
      cases o6 with
      | o0 v9 =>
        (try dsimp only at hF)
        (try simp only [NM, EE, R67_oii_w.st] at hc8)
        cases hF
        simp (maxSteps := 999999) (disch := first | exact D (by decide) | exact K (by kernel_rfl)) only [E, EE, ↓reduceIte, simprocAttr, xk B51 [2, 2, 2, 2, 1, 2, 2] .sq rfl, show (nav B51 [1, 2, 2, 2, 2, 1, 2, 2]) = Code.region 4 _ false from rfl, hk_51_4, hz_51_4, hs_51_4, fieldAddrV, u_50, i_50, is_50, ib_50, iz_50, u_47, i_47, is_47, ib_47, iz_47, callStep, CL, gv, List.contains, xk B51 [2, 2, 2, 2, 2, 1, 2, 2] .rt rfl, finK_norm, finK_ret, fin51, R51_naiirrz.st, hc3, h5, hc8]
    · simp (maxSteps := 999999) (disch := first | exact D (by decide) | exact K (by kernel_rfl)) only [E, EE, ↓reduceIte, simprocAttr, xk B51 [3, 2, 2, 2, 1, 2, 2] .sq rfl, show (nav B51 [1, 3, 2, 2, 2, 1, 2, 2]) = Code.region 5 _ false from rfl, hk_51_5, hz_51_5, hs_51_5, xk B51 [2, 3, 2, 2, 2, 1, 2, 2] (.cd 20) rfl, hc3, h5]
      replace hF := cond_some hF
      rcases hF with ⟨h10, hF⟩ | ⟨h10, hF⟩
      · replace hF := Option.bind_eq_some_iff.1 hF
        obtain ⟨o11, h12, hF⟩ := hF
        have hc13 := f67_oii_w_ok k v4 (IntKind.u64.wrap ((List.length a1_3) : Int)) [] _ h12
        cases o11 with
        | o0 v14 =>
          (try dsimp only at hF)
          (try simp only [NM, EE, R67_oii_w.st] at hc13)
          replace hF := Option.bind_eq_some_iff.1 hF
          obtain ⟨o15, h16, hF⟩ := hF
          have hc17 := f51_naiirrz_l1_ok k k a1_3 ((List.length a1_3) : Int) 0 v14 _ h16
          simp (maxSteps := 999999) (disch := first | exact D (by decide) | exact K (by kernel_rfl)) only [E, EE, ↓reduceIte, simprocAttr, xk B51 [2, 2, 3, 2, 2, 2, 1, 2, 2] .sq rfl, show (nav B51 [1, 2, 2, 3, 2, 2, 2, 1, 2, 2]) = Code.region 6 _ false from rfl, hk_51_6, hz_51_6, hs_51_6, fieldAddrV, u_50, i_50, is_50, ib_50, iz_50, u_48, i_48, is_48, ib_48, iz_48, u_3, i_3, is_3, ib_3, iz_3, u_47, i_47, is_47, ib_47, iz_47, convV, callStep, CL, gv, List.contains, xk B51 [2, 2, 2, 3, 2, 2, 2, 1, 2, 2] .sq rfl, xk B51 [1, 2, 2, 2, 3, 2, 2, 2, 1, 2, 2] .sq rfl, show (nav B51 [1, 1, 2, 2, 2, 3, 2, 2, 2, 1, 2, 2]) = Code.region 7 _ false from rfl, hk_51_7, hz_51_7, hs_51_7, xk B51 [2, 1, 2, 2, 2, 3, 2, 2, 2, 1, 2, 2] (.bk 1) rfl, xk B51 [2, 2, 1, 2, 2, 2, 3, 2, 2, 2, 1, 2, 2] .lp rfl, hh_51_8, hc_51_8, hc3, h5, h10, hc13]
          (try simp only [NM, EE] at hc17)
          rw [hc17 _ (by simp (maxSteps := 999999) (disch := first | exact D (by decide) | exact K (by kernel_rfl)) only [E, EE, ↓reduceIte, simprocAttr, hh_51_8, hc_51_8, hc3, h5, h10, hc13])]
          clear hc17
          cases o15 with
          | o0 _ _ _ _ =>
            (try dsimp only at hF)
            cases hF
          | o1 v18 v19 v20 v21 v22 =>
            (try dsimp only at hF)
            have hJ := f51_naiirrz_j2_ok k v18 v19 v20 v21 v22 _ hF
            simp (maxSteps := 999999) (disch := first | exact D (by decide) | exact K (by kernel_rfl)) only [E, EE, ↓reduceIte, simprocAttr, R51_naiirrz_l1.st, hc3, h5, h10, hc13]
            try simp only [NM, EE] at hJ
            exact hJ
      · have hJ := f51_naiirrz_j3_ok k v4 false [] a1 a1_1 a1_2 a1_3 _ hF
        simp (maxSteps := 999999) (disch := first | exact D (by decide) | exact K (by kernel_rfl)) only [E, EE, ↓reduceIte, simprocAttr, xk B51 [3, 2, 3, 2, 2, 2, 1, 2, 2] .sk rfl, hc3, h5, h10]
        try simp only [NM, EE] at hJ
        exact hJ
noncomputable def f51_naiirrz (k : Nat) (a1 a1_1 : Int) (a1_2 : List Int) (a1_3 : List T50) : Option R51_naiirrz := match k with | 0 => none | k + 1 => f51_naiirrz_e k a1 a1_1 a1_2 a1_3
theorem f51_naiirrz_ok (k : Nat) (a1 a1_1 : Int) (a1_2 : List Int) (a1_3 : List T50) (r : R51_naiirrz) (hF : f51_naiirrz k a1 a1_1 a1_2 a1_3 = some r) : CV k 51 [V.nil, V.agg [V.p (Value.int .i64 a1), V.p (Value.int .u64 a1_1), V.sl 1 (rowsOf (encI .u8) a1_2), V.sl 4 (rowsOf encT50 a1_3)]] [] = some r.st := by
  cases k with
  | zero => cases hF
  | succ k =>
    unfold CV
    rw [ev_call (F := Tryd.f51) (c := (nav B51 [])) rfl Tryd.func51 rfl rfl rfl rfl]
    exact f51_naiirrz_e_ok k a1 a1_1 a1_2 a1_3 r hF
-- f31_aiirrz: f31 heliograph/cbor.Encode
inductive R31_aiirrz where
  | o0 (y : List Int) (y_1 : Int)
  | o1 (y : Int) (y_1 : List Int)
noncomputable def R31_aiirrz.st : R31_aiirrz → V × List O × List O
  | .o0 y y_1 => (V.tup [V.sl 1 (rowsOf (encI .u8) y), V.p (Value.int .i64 y_1)], [], [])
  | .o1 y y_1 => (V.tup [V.own 2000000, V.p (Value.int .i64 y)], [], [O.row true 1 5 (rowsOf (encI .u8) y_1)])
noncomputable def f31_aiirrz_j1 (k : Nat) (x4 : Int) (x8 : Bool) (m1 m1_1 : Int) (m1_2 : List Int) (m1_3 : List T50) : Option R31_aiirrz :=
  Option.bind (f51_naiirrz k m1 m1_1 m1_2 m1_3) fun o1 =>
    match o1 with
    | .o0 v4 =>
      some (R31_aiirrz.o1 0 v4)
theorem f31_aiirrz_j1_ok (k : Nat) (x4 : Int) (x8 : Bool) (m1 m1_1 : Int) (m1_2 : List Int) (m1_3 : List T50) (r : R31_aiirrz) (hF : f31_aiirrz_j1 k x4 x8 m1 m1_1 m1_2 m1_3 = some r) : finK Tryd.prog Tryd.f31 0 (EX 31 k (nav B31 [2, 2]) ({ n := 12, F := [(1, V.ptr 1 0), (4, V.p (Value.int .i64 x4)), (8, V.p (Value.bool x8))], M := [(1, O.box 50 [V.p (Value.int .i64 m1), V.p (Value.int .u64 m1_1), V.sl 1 (rowsOf (encI .u8) m1_2), V.sl 4 (rowsOf encT50 m1_3)])] } : St)) = some r.st := by
  unfold f31_aiirrz_j1 at hF
  replace hF := Option.bind_eq_some_iff.1 hF
  obtain ⟨o1, h2, hF⟩ := hF
  have hc3 := f51_naiirrz_ok k m1 m1_1 m1_2 m1_3 _ h2
  cases o1 with
  | o0 v4 =>
    (try dsimp only at hF)
    (try simp only [NM, EE, R51_naiirrz.st] at hc3)
    cases hF
    simp (maxSteps := 999999) (disch := first | exact D (by decide) | exact K (by kernel_rfl)) only [E, EE, ↓reduceIte, simprocAttr, xk B31 [2, 2] .sq rfl, show (nav B31 [1, 2, 2]) = Code.region 4 _ false from rfl, hk_31_4, hz_31_4, hs_31_4, u_50, i_50, is_50, ib_50, iz_50, callStep, CL, gv, List.contains, xk B31 [2, 2, 2] .rt rfl, finK_norm, finK_ret, fin31, R31_aiirrz.st, hc3]
noncomputable def f31_aiirrz_e (k : Nat) (a0 a0_1 : Int) (a0_2 : List Int) (a0_3 : List T50) : Option R31_aiirrz :=
  Option.bind (f50_aiirrz k a0 a0_1 a0_2 a0_3) fun o1 =>
    match o1 with
    | .o0 v4 =>
      cond ((v4 != 0))
        (some (R31_aiirrz.o0 [] v4))
        (f31_aiirrz_j1 k v4 false a0 a0_1 a0_2 a0_3)
theorem f31_aiirrz_e_ok (k : Nat) (a0 a0_1 : Int) (a0_2 : List Int) (a0_3 : List T50) (r : R31_aiirrz) (hF : f31_aiirrz_e k a0 a0_1 a0_2 a0_3 = some r) : finK Tryd.prog Tryd.f31 0 (EX 31 k (nav B31 []) ({ n := 12, F := [(0, V.agg [V.p (Value.int .i64 a0), V.p (Value.int .u64 a0_1), V.sl 1 (rowsOf (encI .u8) a0_2), V.sl 4 (rowsOf encT50 a0_3)])], M := [] } : St)) = some r.st := by
  unfold f31_aiirrz_e at hF
  replace hF := Option.bind_eq_some_iff.1 hF
  obtain ⟨o1, h2, hF⟩ := hF
  have hc3 := f50_aiirrz_ok k a0 a0_1 a0_2 a0_3 _ h2
  cases o1 with
  | o0 v4 =>
    (try dsimp only at hF)
    (try simp only [NM, EE, R50_aiirrz.st] at hc3)
    simp (maxSteps := 999999) (disch := first | exact D (by decide) | exact K (by kernel_rfl)) only [E, EE, ↓reduceIte, simprocAttr, xk B31 [] .sq rfl, show (nav B31 [1]) = Code.region 0 _ false from rfl, hk_31_0, hz_31_0, hs_31_0, xk B31 [2] .sq rfl, xk B31 [1, 2] .sq rfl, show (nav B31 [1, 1, 2]) = Code.region 1 _ false from rfl, hk_31_1, hz_31_1, hs_31_1, u_50, i_50, is_50, ib_50, iz_50, callStep, CL, gv, List.contains, xk B31 [2, 1, 2] .sq rfl, show (nav B31 [1, 2, 1, 2]) = Code.region 2 _ false from rfl, hk_31_2, hz_31_2, hs_31_2, xk B31 [2, 2, 1, 2] (.cd 8) rfl, hc3]
    replace hF := cond_some hF
    rcases hF with ⟨h5, hF⟩ | ⟨h5, hF⟩
    · cases hF
      simp (maxSteps := 999999) (disch := first | exact D (by decide) | exact K (by kernel_rfl)) only [E, EE, ↓reduceIte, simprocAttr, xk B31 [2, 2, 2, 1, 2] .sq rfl, show (nav B31 [1, 2, 2, 2, 1, 2]) = Code.region 3 _ false from rfl, hk_31_3, hz_31_3, hs_31_3, xk B31 [2, 2, 2, 2, 1, 2] .rt rfl, finK_norm, finK_ret, fin31, R31_aiirrz.st, hc3, h5]
    · have hJ := f31_aiirrz_j1_ok k v4 false a0 a0_1 a0_2 a0_3 _ hF
      simp (maxSteps := 999999) (disch := first | exact D (by decide) | exact K (by kernel_rfl)) only [E, EE, ↓reduceIte, simprocAttr, xk B31 [3, 2, 2, 1, 2] .sk rfl, hc3, h5]
      try simp only [NM, EE] at hJ
      exact hJ
noncomputable def f31_aiirrz (k : Nat) (a0 a0_1 : Int) (a0_2 : List Int) (a0_3 : List T50) : Option R31_aiirrz := match k with | 0 => none | k + 1 => f31_aiirrz_e k a0 a0_1 a0_2 a0_3
theorem f31_aiirrz_ok (k : Nat) (a0 a0_1 : Int) (a0_2 : List Int) (a0_3 : List T50) (r : R31_aiirrz) (hF : f31_aiirrz k a0 a0_1 a0_2 a0_3 = some r) : CV k 31 [V.agg [V.p (Value.int .i64 a0), V.p (Value.int .u64 a0_1), V.sl 1 (rowsOf (encI .u8) a0_2), V.sl 4 (rowsOf encT50 a0_3)]] [] = some r.st := by
  cases k with
  | zero => cases hF
  | succ k =>
    unfold CV
    rw [ev_call (F := Tryd.f31) (c := (nav B31 [])) rfl Tryd.func31 rfl rfl rfl rfl]
    exact f31_aiirrz_e_ok k a0 a0_1 a0_2 a0_3 r hF
-- f68_ri: f68 heliograph/sum.sum[uint16]
inductive R68_ri where
  | o0 (y : Int)
noncomputable def R68_ri.st : R68_ri → V × List O × List O
  | .o0 y => (V.p (Value.int .u16 y), [], [])
inductive R68_ri_l1_l2 where
  | o0 (y y_1 : Int) (y_2 : List Int) (y_3 y_4 y_5 : Int)
  | o1 (y y_1 : Int) (y_2 : List Int) (y_3 y_4 y_5 : Int) (y_6 : Bool)
noncomputable def R68_ri_l1_l2.st : R68_ri_l1_l2 → Out × St
  | .o0 y y_1 y_2 y_3 y_4 y_5 => (.norm, ({ n := 36, F := [(1, V.p (Value.int .u16 y)), (5, V.p (Value.int .u16 y_1)), (11, V.sl 1 (rowsOf (encI .u8) y_2)), (12, V.p (Value.int .i64 y_3)), (13, V.p (Value.int .i64 y_4)), (21, V.p (Value.int .i64 y_5))], M := [] } : St))
  | .o1 y y_1 y_2 y_3 y_4 y_5 y_6 => (.exit 2, ({ n := 36, F := [(1, V.p (Value.int .u16 y)), (5, V.p (Value.int .u16 y_1)), (11, V.sl 1 (rowsOf (encI .u8) y_2)), (12, V.p (Value.int .i64 y_3)), (13, V.p (Value.int .i64 y_4)), (21, V.p (Value.int .i64 y_5)), (22, V.p (Value.bool y_6))], M := [] } : St))
noncomputable def f68_ri_l1_l2_j2 (k : Nat) (x1 x5 : Int) (x11 : List Int) (x12 x13 x21 : Int) : Option R68_ri_l1_l2 :=
  some (R68_ri_l1_l2.o0 x1 x5 x11 x12 x13 (IntKind.i64.wrap (x21 + (1 : Int))))
theorem f68_ri_l1_l2_j2_ok (k : Nat) (x1 x5 : Int) (x11 : List Int) (x12 x13 x21 : Int) (r : R68_ri_l1_l2) (hF : f68_ri_l1_l2_j2 k x1 x5 x11 x12 x13 x21 = some r) : EX 68 k (nav B68 [2, 2, 2, 1, 2, 2, 2, 2, 2, 1, 2, 2, 1, 2, 2, 1, 2, 2]) ({ n := 36, F := [(1, V.p (Value.int .u16 x1)), (5, V.p (Value.int .u16 x5)), (11, V.sl 1 (rowsOf (encI .u8) x11)), (12, V.p (Value.int .i64 x12)), (13, V.p (Value.int .i64 x13)), (21, V.p (Value.int .i64 x21))], M := [] } : St) = some r.st := by
  unfold f68_ri_l1_l2_j2 at hF
  cases hF
  simp (maxSteps := 999999) (disch := first | exact D (by decide) | exact K (by kernel_rfl)) only [E, EE, ↓reduceIte, simprocAttr, show (nav B68 [2, 2, 2, 1, 2, 2, 2, 2, 2, 1, 2, 2, 1, 2, 2, 1, 2, 2]) = Code.region 12 _ false from rfl, hk_68_12, hz_68_12, hs_68_12, R68_ri_l1_l2.st]
noncomputable def f68_ri_l1_l2_j3 (k : Nat) (x1 x5 : Int) (x11 : List Int) (x12 x13 x21 : Int) (x28 : Bool) : Option R68_ri_l1_l2 :=
  some (R68_ri_l1_l2.o0 x1 x5 x11 x12 x13 (IntKind.i64.wrap (x21 + (1 : Int))))
theorem f68_ri_l1_l2_j3_ok (k : Nat) (x1 x5 : Int) (x11 : List Int) (x12 x13 x21 : Int) (x28 : Bool) (r : R68_ri_l1_l2) (hF : f68_ri_l1_l2_j3 k x1 x5 x11 x12 x13 x21 x28 = some r) : EX 68 k (nav B68 [2, 2, 2, 1, 2, 2, 2, 2, 2, 1, 2, 2, 1, 2, 2, 1, 2, 2]) ({ n := 36, F := [(1, V.p (Value.int .u16 x1)), (5, V.p (Value.int .u16 x5)), (11, V.sl 1 (rowsOf (encI .u8) x11)), (12, V.p (Value.int .i64 x12)), (13, V.p (Value.int .i64 x13)), (21, V.p (Value.int .i64 x21)), (28, V.p (Value.bool x28))], M := [] } : St) = some r.st := by
  unfold f68_ri_l1_l2_j3 at hF
  cases hF
  simp (maxSteps := 999999) (disch := first | exact D (by decide) | exact K (by kernel_rfl)) only [E, EE, ↓reduceIte, simprocAttr, show (nav B68 [2, 2, 2, 1, 2, 2, 2, 2, 2, 1, 2, 2, 1, 2, 2, 1, 2, 2]) = Code.region 12 _ false from rfl, hk_68_12, hz_68_12, hs_68_12, R68_ri_l1_l2.st]
noncomputable def f68_ri_l1_l2_j1 (k : Nat) (x1 x5 : Int) (x11 : List Int) (x12 x13 x21 : Int) (x22 : Bool) : Option R68_ri_l1_l2 :=
  cond (((IntKind.u16.wrap ((BitVec.ofInt (IntKind.bits .u16) x5 &&& BitVec.ofInt (IntKind.bits .u16) (1 : Int)).toNat : Nat)) == 1))
    (f68_ri_l1_l2_j2 k x1 ((IntKind.u16.wrap ((BitVec.ofInt (IntKind.bits .u16) (Int.fdiv x5 (2 ^ (min 1 (IntKind.bits .u16)))) ^^^ BitVec.ofInt (IntKind.bits .u16) x1).toNat : Nat))) x11 x12 x13 x21)
    (f68_ri_l1_l2_j3 k x1 (Int.fdiv x5 (2 ^ (min 1 (IntKind.bits .u16)))) x11 x12 x13 x21 false)
theorem f68_ri_l1_l2_j1_ok (k : Nat) (x1 x5 : Int) (x11 : List Int) (x12 x13 x21 : Int) (x22 : Bool) (r : R68_ri_l1_l2) (hF : f68_ri_l1_l2_j1 k x1 x5 x11 x12 x13 x21 x22 = some r) : EX 68 k (nav B68 [2, 2, 1, 2, 2, 2, 2, 2, 1, 2, 2, 1, 2, 2, 1, 2, 2]) ({ n := 36, F := [(1, V.p (Value.int .u16 x1)), (5, V.p (Value.int .u16 x5)), (11, V.sl 1 (rowsOf (encI .u8) x11)), (12, V.p (Value.int .i64 x12)), (13, V.p (Value.int .i64 x13)), (21, V.p (Value.int .i64 x21)), (22, V.p (Value.bool x22))], M := [] } : St) = some r.st := by
  unfold f68_ri_l1_l2_j1 at hF
  simp (maxSteps := 999999) (disch := first | exact D (by decide) | exact K (by kernel_rfl)) only [E, EE, ↓reduceIte, simprocAttr, xk B68 [2, 2, 1, 2, 2, 2, 2, 2, 1, 2, 2, 1, 2, 2, 1, 2, 2] .sq rfl, xk B68 [1, 2, 2, 1, 2, 2, 2, 2, 2, 1, 2, 2, 1, 2, 2, 1, 2, 2] (.bk 3) rfl, xk B68 [2, 1, 2, 2, 1, 2, 2, 2, 2, 2, 1, 2, 2, 1, 2, 2, 1, 2, 2] .sq rfl, show (nav B68 [1, 2, 1, 2, 2, 1, 2, 2, 2, 2, 2, 1, 2, 2, 1, 2, 2, 1, 2, 2]) = Code.region 8 _ false from rfl, hk_68_8, hz_68_8, hs_68_8, xk B68 [2, 2, 1, 2, 2, 1, 2, 2, 2, 2, 2, 1, 2, 2, 1, 2, 2, 1, 2, 2] .sq rfl, show (nav B68 [1, 2, 2, 1, 2, 2, 1, 2, 2, 2, 2, 2, 1, 2, 2, 1, 2, 2, 1, 2, 2]) = Code.region 9 _ false from rfl, hk_68_9, hz_68_9, hs_68_9, shiftV, xk B68 [2, 2, 2, 1, 2, 2, 1, 2, 2, 2, 2, 2, 1, 2, 2, 1, 2, 2, 1, 2, 2] .sq rfl, show (nav B68 [1, 2, 2, 2, 1, 2, 2, 1, 2, 2, 2, 2, 2, 1, 2, 2, 1, 2, 2, 1, 2, 2]) = Code.region 10 _ false from rfl, hk_68_10, hz_68_10, hs_68_10, xk B68 [2, 2, 2, 2, 1, 2, 2, 1, 2, 2, 2, 2, 2, 1, 2, 2, 1, 2, 2, 1, 2, 2] (.cd 28) rfl]
  replace hF := cond_some hF
  rcases hF with ⟨h1, hF⟩ | ⟨h1, hF⟩
  · have hJ := f68_ri_l1_l2_j2_ok k x1 ((IntKind.u16.wrap ((BitVec.ofInt (IntKind.bits .u16) (Int.fdiv x5 (2 ^ (min 1 (IntKind.bits .u16)))) ^^^ BitVec.ofInt (IntKind.bits .u16) x1).toNat : Nat))) x11 x12 x13 x21 _ hF
    simp (maxSteps := 999999) (disch := first | exact D (by decide) | exact K (by kernel_rfl)) only [E, EE, ↓reduceIte, simprocAttr, show (nav B68 [2, 2, 2, 2, 2, 1, 2, 2, 1, 2, 2, 2, 2, 2, 1, 2, 2, 1, 2, 2, 1, 2, 2]) = Code.region 11 _ false from rfl, hk_68_11, hz_68_11, hs_68_11, h1]
    try simp only [NM, EE] at hJ
    exact hJ
  · have hJ := f68_ri_l1_l2_j3_ok k x1 (Int.fdiv x5 (2 ^ (min 1 (IntKind.bits .u16)))) x11 x12 x13 x21 false _ hF
    simp (maxSteps := 999999) (disch := first | exact D (by decide) | exact K (by kernel_rfl)) only [E, EE, ↓reduceIte, simprocAttr, xk B68 [3, 2, 2, 2, 2, 1, 2, 2, 1, 2, 2, 2, 2, 2, 1, 2, 2, 1, 2, 2, 1, 2, 2] .sk rfl, h1]
    try simp only [NM, EE] at hJ
    exact hJ
noncomputable def f68_ri_l1_l2_b (k : Nat) (x1 x5 : Int) (x11 : List Int) (x12 x13 x21 : Int) : Option R68_ri_l1_l2 :=
  cond ((decide (x21 < 8)))
    (f68_ri_l1_l2_j1 k x1 x5 x11 x12 x13 x21 true)
    (some (R68_ri_l1_l2.o1 x1 x5 x11 x12 x13 x21 false))
theorem f68_ri_l1_l2_b_ok (k : Nat) (x1 x5 : Int) (x11 : List Int) (x12 x13 x21 : Int) (r : R68_ri_l1_l2) (hF : f68_ri_l1_l2_b k x1 x5 x11 x12 x13 x21 = some r) : EX 68 k (nav B68 [1, 2, 2, 2, 2, 2, 1, 2, 2, 1, 2, 2, 1, 2, 2]) ({ n := 36, F := [(1, V.p (Value.int .u16 x1)), (5, V.p (Value.int .u16 x5)), (11, V.sl 1 (rowsOf (encI .u8) x11)), (12, V.p (Value.int .i64 x12)), (13, V.p (Value.int .i64 x13)), (21, V.p (Value.int .i64 x21))], M := [] } : St) = some r.st := by
  unfold f68_ri_l1_l2_b at hF
  simp (maxSteps := 999999) (disch := first | exact D (by decide) | exact K (by kernel_rfl)) only [E, EE, ↓reduceIte, simprocAttr, xk B68 [1, 2, 2, 2, 2, 2, 1, 2, 2, 1, 2, 2, 1, 2, 2] .sq rfl, show (nav B68 [1, 1, 2, 2, 2, 2, 2, 1, 2, 2, 1, 2, 2, 1, 2, 2]) = Code.region 7 _ false from rfl, hk_68_7, hz_68_7, hs_68_7, xk B68 [2, 1, 2, 2, 2, 2, 2, 1, 2, 2, 1, 2, 2, 1, 2, 2] .sq rfl, xk B68 [1, 2, 1, 2, 2, 2, 2, 2, 1, 2, 2, 1, 2, 2, 1, 2, 2] (.cd 22) rfl]
  replace hF := cond_some hF
  rcases hF with ⟨h1, hF⟩ | ⟨h1, hF⟩
  · have hJ := f68_ri_l1_l2_j1_ok k x1 x5 x11 x12 x13 x21 true _ hF
    simp (maxSteps := 999999) (disch := first | exact D (by decide) | exact K (by kernel_rfl)) only [E, EE, ↓reduceIte, simprocAttr, xk B68 [2, 1, 2, 1, 2, 2, 2, 2, 2, 1, 2, 2, 1, 2, 2, 1, 2, 2] .sk rfl, h1]
    try simp only [NM, EE] at hJ
    exact hJ
  · cases hF
    simp (maxSteps := 999999) (disch := first | exact D (by decide) | exact K (by kernel_rfl)) only [E, EE, ↓reduceIte, simprocAttr, xk B68 [3, 1, 2, 1, 2, 2, 2, 2, 2, 1, 2, 2, 1, 2, 2, 1, 2, 2] (.ex 2) rfl, R68_ri_l1_l2.st, h1]
noncomputable def f68_ri_l1_l2 (k : Nat) : Nat → Int → Int → (List Int) → Int → Int → Int → Option R68_ri_l1_l2
  | 0, _, _, _, _, _, _ => none
  | n + 1, x1, x5, x11, x12, x13, x21 => Option.bind (f68_ri_l1_l2_b k x1 x5 x11 x12 x13 x21) fun o =>
    match o with
    | .o0 y y_1 y_2 y_3 y_4 y_5 => f68_ri_l1_l2 k n y y_1 y_2 y_3 y_4 y_5
    | .o1 y y_1 y_2 y_3 y_4 y_5 y_6 => some (.o1 y y_1 y_2 y_3 y_4 y_5 y_6)
theorem f68_ri_l1_l2_ok (k n : Nat) : ∀ (x1 x5 : Int) (x11 : List Int) (x12 x13 x21 : Int) (r : R68_ri_l1_l2) (hF : f68_ri_l1_l2 k n x1 x5 x11 x12 x13 x21 = some r) (σ : St) (hσ : headR (hints.head 68 7) (hints.canon 68 7) σ = some ({ n := 36, F := [(1, V.p (Value.int .u16 x1)), (5, V.p (Value.int .u16 x5)), (11, V.sl 1 (rowsOf (encI .u8) x11)), (12, V.p (Value.int .i64 x12)), (13, V.p (Value.int .i64 x13)), (21, V.p (Value.int .i64 x21))], M := [] } : St)), LP 68 k (nav B68 [1, 2, 2, 2, 2, 2, 1, 2, 2, 1, 2, 2, 1, 2, 2]) n σ = some r.st := by
  induction n with
  | zero => intro x1 x5 x11 x12 x13 x21 r hF; cases hF
  | succ n ih =>
    intro x1 x5 x11 x12 x13 x21 r hF σ hσ
    rw [f68_ri_l1_l2] at hF
    obtain ⟨o, h, hF⟩ := Option.bind_eq_some_iff.1 hF
    have hB := f68_ri_l1_l2_b_ok k x1 x5 x11 x12 x13 x21 o h
    unfold LP at ih ⊢
    unfold EX at hB
    rw [loopK_succ, show firstReg (nav B68 [1, 2, 2, 2, 2, 2, 1, 2, 2, 1, 2, 2, 1, 2, 2]) = 7 from rfl, hσ, headK_some, hB]
    cases o with
    | o0 y y_1 y_2 y_3 y_4 y_5 =>
      refine ih y y_1 y_2 y_3 y_4 y_5 r hF _ ?_
      simp (maxSteps := 999999) (disch := first | exact D (by decide) | exact K (by kernel_rfl)) only [E, EE, ↓reduceIte, simprocAttr, hh_68_7, hc_68_7]
    | o1 y y_1 y_2 y_3 y_4 y_5 y_6 => cases hF; rfl
inductive R68_ri_l1 where
  | o0 (y y_1 : Int) (y_2 : List Int) (y_3 y_4 : Int)
  | o1 (y y_1 : Int) (y_2 : List Int) (y_3 y_4 : Int) (y_5 : Bool)
noncomputable def R68_ri_l1.st : R68_ri_l1 → Out × St
  | .o0 y y_1 y_2 y_3 y_4 => (.norm, ({ n := 36, F := [(1, V.p (Value.int .u16 y)), (5, V.p (Value.int .u16 y_1)), (11, V.sl 1 (rowsOf (encI .u8) y_2)), (12, V.p (Value.int .i64 y_3)), (13, V.p (Value.int .i64 y_4))], M := [] } : St))
  | .o1 y y_1 y_2 y_3 y_4 y_5 => (.exit 0, ({ n := 36, F := [(1, V.p (Value.int .u16 y)), (5, V.p (Value.int .u16 y_1)), (11, V.sl 1 (rowsOf (encI .u8) y_2)), (12, V.p (Value.int .i64 y_3)), (13, V.p (Value.int .i64 y_4)), (14, V.p (Value.bool y_5))], M := [] } : St))
noncomputable def f68_ri_l1_j3 (k : Nat) (x1 x5 : Int) (x11 : List Int) (x12 x13 x21 : Int) (x22 : Bool) : Option R68_ri_l1 :=
  some (R68_ri_l1.o0 x1 x5 x11 x12 (IntKind.i64.wrap (x13 + (1 : Int))))
theorem f68_ri_l1_j3_ok (k : Nat) (x1 x5 : Int) (x11 : List Int) (x12 x13 x21 : Int) (x22 : Bool) (r : R68_ri_l1) (hF : f68_ri_l1_j3 k x1 x5 x11 x12 x13 x21 x22 = some r) : EX 68 k (nav B68 [2, 2, 2, 1, 2, 2, 1, 2, 2]) ({ n := 36, F := [(1, V.p (Value.int .u16 x1)), (5, V.p (Value.int .u16 x5)), (11, V.sl 1 (rowsOf (encI .u8) x11)), (12, V.p (Value.int .i64 x12)), (13, V.p (Value.int .i64 x13)), (21, V.p (Value.int .i64 x21)), (22, V.p (Value.bool x22))], M := [] } : St) = some r.st := by
  unfold f68_ri_l1_j3 at hF
  cases hF
  simp (maxSteps := 999999) (disch := first | exact D (by decide) | exact K (by kernel_rfl)) only [E, EE, ↓reduceIte, simprocAttr, show (nav B68 [2, 2, 2, 1, 2, 2, 1, 2, 2]) = Code.region 13 _ false from rfl, hk_68_13, hz_68_13, hs_68_13, R68_ri_l1.st]
noncomputable def f68_ri_l1_j1 (k : Nat) (x1 x5 : Int) (x11 : List Int) (x12 x13 : Int) (x14 : Bool) : Option R68_ri_l1 :=
  ifE ((0 : Int) ≤ x13) (
    Option.bind (x11[(Int.toNat x13)]?) fun v2 =>
      Option.bind (f68_ri_l1_l2 k k x1 ((IntKind.u16.wrap ((BitVec.ofInt (IntKind.bits .u16) x5 ^^^ BitVec.ofInt (IntKind.bits .u16) (IntKind.u16.wrap v2)).toNat : Nat))) x11 x12 x13 0) fun o4 =>
        match o4 with
        | .o0 _ _ _ _ _ _ =>
          none
        | .o1 v7 v8 v9 v10 v11 v12 v13 =>
          f68_ri_l1_j3 k v7 v8 v9 v10 v11 v12 v13)
theorem f68_ri_l1_j1_ok (k : Nat) (x1 x5 : Int) (x11 : List Int) (x12 x13 : Int) (x14 : Bool) (r : R68_ri_l1) (hF : f68_ri_l1_j1 k x1 x5 x11 x12 x13 x14 = some r) : EX 68 k (nav B68 [2, 2, 1, 2, 2, 1, 2, 2]) ({ n := 36, F := [(1, V.p (Value.int .u16 x1)), (5, V.p (Value.int .u16 x5)), (11, V.sl 1 (rowsOf (encI .u8) x11)), (12, V.p (Value.int .i64 x12)), (13, V.p (Value.int .i64 x13)), (14, V.p (Value.bool x14))], M := [] } : St) = some r.st := by
  unfold f68_ri_l1_j1 at hF
  replace hF := ifE_some.1 hF
  obtain ⟨h1, hF⟩ := hF
  replace hF := Option.bind_eq_some_iff.1 hF
  obtain ⟨v2, h3, hF⟩ := hF
  replace hF := Option.bind_eq_some_iff.1 hF
  obtain ⟨o4, h5, hF⟩ := hF
  have hc6 := f68_ri_l1_l2_ok k k x1 ((IntKind.u16.wrap ((BitVec.ofInt (IntKind.bits .u16) x5 ^^^ BitVec.ofInt (IntKind.bits .u16) (IntKind.u16.wrap v2)).toNat : Nat))) x11 x12 x13 0 _ h5
  simp (maxSteps := 999999) (disch := first | exact D (by decide) | exact K (by kernel_rfl)) only [E, EE, ↓reduceIte, simprocAttr, xk B68 [2, 2, 1, 2, 2, 1, 2, 2] .sq rfl, xk B68 [1, 2, 2, 1, 2, 2, 1, 2, 2] (.bk 1) rfl, xk B68 [2, 1, 2, 2, 1, 2, 2, 1, 2, 2] .sq rfl, show (nav B68 [1, 2, 1, 2, 2, 1, 2, 2, 1, 2, 2]) = Code.region 4 _ false from rfl, hk_68_4, hz_68_4, hs_68_4, indexAddrV, u_22, i_22, is_22, ib_22, iz_22, u_5, i_5, is_5, ib_5, iz_5, encI_eq, xk B68 [2, 2, 1, 2, 2, 1, 2, 2, 1, 2, 2] .sq rfl, show (nav B68 [1, 2, 2, 1, 2, 2, 1, 2, 2, 1, 2, 2]) = Code.region 5 _ false from rfl, hk_68_5, hz_68_5, hs_68_5, u_80, i_80, is_80, ib_80, iz_80, convV, xk B68 [2, 2, 2, 1, 2, 2, 1, 2, 2, 1, 2, 2] .sq rfl, show (nav B68 [1, 2, 2, 2, 1, 2, 2, 1, 2, 2, 1, 2, 2]) = Code.region 6 _ false from rfl, hk_68_6, hz_68_6, hs_68_6, xk B68 [2, 2, 2, 2, 1, 2, 2, 1, 2, 2, 1, 2, 2] (.bk 2) rfl, xk B68 [2, 2, 2, 2, 2, 1, 2, 2, 1, 2, 2, 1, 2, 2] .lp rfl, hh_68_7, hc_68_7, h1, h3]
  (try simp only [NM, EE] at hc6)
  rw [hc6 _ (by simp (maxSteps := 999999) (disch := first | exact D (by decide) | exact K (by kernel_rfl)) only [E, EE, ↓reduceIte, simprocAttr, hh_68_7, hc_68_7, h1, h3])]
  clear hc6
  cases o4 with
  | o0 _ _ _ _ _ _ =>
    (try dsimp only at hF)
    cases hF
  | o1 v7 v8 v9 v10 v11 v12 v13 =>
    (try dsimp only at hF)
    have hJ := f68_ri_l1_j3_ok k v7 v8 v9 v10 v11 v12 v13 _ hF
    simp (maxSteps := 999999) (disch := first | exact D (by decide) | exact K (by kernel_rfl)) only [E, EE, ↓reduceIte, simprocAttr, R68_ri_l1_l2.st, h1, h3]
    try simp only [NM, EE] at hJ
    exact hJ
noncomputable def f68_ri_l1_b (k : Nat) (x1 x5 : Int) (x11 : List Int) (x12 x13 : Int) : Option R68_ri_l1 :=
  cond ((decide (x13 < x12)))
    (f68_ri_l1_j1 k x1 x5 x11 x12 x13 true)
    (some (R68_ri_l1.o1 x1 x5 x11 x12 x13 false))
theorem f68_ri_l1_b_ok (k : Nat) (x1 x5 : Int) (x11 : List Int) (x12 x13 : Int) (r : R68_ri_l1) (hF : f68_ri_l1_b k x1 x5 x11 x12 x13 = some r) : EX 68 k (nav B68 [1, 2, 2, 1, 2, 2]) ({ n := 36, F := [(1, V.p (Value.int .u16 x1)), (5, V.p (Value.int .u16 x5)), (11, V.sl 1 (rowsOf (encI .u8) x11)), (12, V.p (Value.int .i64 x12)), (13, V.p (Value.int .i64 x13))], M := [] } : St) = some r.st := by
  unfold f68_ri_l1_b at hF
  simp (maxSteps := 999999) (disch := first | exact D (by decide) | exact K (by kernel_rfl)) only [E, EE, ↓reduceIte, simprocAttr, xk B68 [1, 2, 2, 1, 2, 2] .sq rfl, show (nav B68 [1, 1, 2, 2, 1, 2, 2]) = Code.region 3 _ false from rfl, hk_68_3, hz_68_3, hs_68_3, xk B68 [2, 1, 2, 2, 1, 2, 2] .sq rfl, xk B68 [1, 2, 1, 2, 2, 1, 2, 2] (.cd 14) rfl]
  replace hF := cond_some hF
  rcases hF with ⟨h1, hF⟩ | ⟨h1, hF⟩
  · have hJ := f68_ri_l1_j1_ok k x1 x5 x11 x12 x13 true _ hF
    simp (maxSteps := 999999) (disch := first | exact D (by decide) | exact K (by kernel_rfl)) only [E, EE, ↓reduceIte, simprocAttr, xk B68 [2, 1, 2, 1, 2, 2, 1, 2, 2] .sk rfl, h1]
    try simp only [NM, EE] at hJ
    exact hJ
  · cases hF
    simp (maxSteps := 999999) (disch := first | exact D (by decide) | exact K (by kernel_rfl)) only [E, EE, ↓reduceIte, simprocAttr, xk B68 [3, 1, 2, 1, 2, 2, 1, 2, 2] (.ex 0) rfl, R68_ri_l1.st, h1]
noncomputable def f68_ri_l1 (k : Nat) : Nat → Int → Int → (List Int) → Int → Int → Option R68_ri_l1
  | 0, _, _, _, _, _ => none
  | n + 1, x1, x5, x11, x12, x13 => Option.bind (f68_ri_l1_b k x1 x5 x11 x12 x13) fun o =>
    match o with
    | .o0 y y_1 y_2 y_3 y_4 => f68_ri_l1 k n y y_1 y_2 y_3 y_4
    | .o1 y y_1 y_2 y_3 y_4 y_5 => some (.o1 y y_1 y_2 y_3 y_4 y_5)
theorem f68_ri_l1_ok (k n : Nat) : ∀ (x1 x5 : Int) (x11 : List Int) (x12 x13 : Int) (r : R68_ri_l1) (hF : f68_ri_l1 k n x1 x5 x11 x12 x13 = some r) (σ : St) (hσ : headR (hints.head 68 3) (hints.canon 68 3) σ = some ({ n := 36, F := [(1, V.p (Value.int .u16 x1)), (5, V.p (Value.int .u16 x5)), (11, V.sl 1 (rowsOf (encI .u8) x11)), (12, V.p (Value.int .i64 x12)), (13, V.p (Value.int .i64 x13))], M := [] } : St)), LP 68 k (nav B68 [1, 2, 2, 1, 2, 2]) n σ = some r.st := by
  induction n with
  | zero => intro x1 x5 x11 x12 x13 r hF; cases hF
  | succ n ih =>
    intro x1 x5 x11 x12 x13 r hF σ hσ
    rw [f68_ri_l1] at hF
    obtain ⟨o, h, hF⟩ := Option.bind_eq_some_iff.1 hF
    have hB := f68_ri_l1_b_ok k x1 x5 x11 x12 x13 o h
    unfold LP at ih ⊢
    unfold EX at hB
    rw [loopK_succ, show firstReg (nav B68 [1, 2, 2, 1, 2, 2]) = 3 from rfl, hσ, headK_some, hB]
    cases o with
    | o0 y y_1 y_2 y_3 y_4 =>
      refine ih y y_1 y_2 y_3 y_4 r hF _ ?_
      simp (maxSteps := 999999) (disch := first | exact D (by decide) | exact K (by kernel_rfl)) only [E, EE, ↓reduceIte, simprocAttr, hh_68_3, hc_68_3]
    | o1 y y_1 y_2 y_3 y_4 y_5 => cases hF; rfl
noncomputable def f68_ri_j2 (k : Nat) (x1 x5 : Int) (x11 : List Int) (x12 x13 : Int) (x14 : Bool) : Option R68_ri :=
  some (R68_ri.o0 (flipI .u16 x5))
theorem f68_ri_j2_ok (k : Nat) (x1 x5 : Int) (x11 : List Int) (x12 x13 : Int) (x14 : Bool) (r : R68_ri) (hF : f68_ri_j2 k x1 x5 x11 x12 x13 x14 = some r) : finK Tryd.prog Tryd.f68 0 (EX 68 k (nav B68 [2, 2, 2]) ({ n := 36, F := [(1, V.p (Value.int .u16 x1)), (5, V.p (Value.int .u16 x5)), (11, V.sl 1 (rowsOf (encI .u8) x11)), (12, V.p (Value.int .i64 x12)), (13, V.p (Value.int .i64 x13)), (14, V.p (Value.bool x14))], M := [] } : St)) = some r.st := by
  unfold f68_ri_j2 at hF
  cases hF
  simp (maxSteps := 999999) (disch := first | exact D (by decide) | exact K (by kernel_rfl)) only [E, EE, ↓reduceIte, simprocAttr, xk B68 [2, 2, 2] .sq rfl, show (nav B68 [1, 2, 2, 2]) = Code.region 14 _ false from rfl, hk_68_14, hz_68_14, hs_68_14, xk B68 [2, 2, 2, 2] .rt rfl, finK_norm, finK_ret, fin68, R68_ri.st]
noncomputable def f68_ri_e (k : Nat) (a0 : List Int) (a1 : Int) : Option R68_ri :=
  Option.bind (f68_ri_l1 k k a1 (flipI .u16 (IntKind.u16.wrap 0)) a0 ((List.length a0) : Int) 0) fun o1 =>
    match o1 with
    | .o0 _ _ _ _ _ =>
      none
    | .o1 v4 v5 v6 v7 v8 v9 =>
      f68_ri_j2 k v4 v5 v6 v7 v8 v9
theorem f68_ri_e_ok (k : Nat) (a0 : List Int) (a1 : Int) (r : R68_ri) (hF : f68_ri_e k a0 a1 = some r) : finK Tryd.prog Tryd.f68 0 (EX 68 k (nav B68 []) ({ n := 36, F := [(0, V.sl 1 (rowsOf (encI .u8) a0)), (1, V.p (Value.int .u16 a1))], M := [] } : St)) = some r.st := by
  unfold f68_ri_e at hF
  replace hF := Option.bind_eq_some_iff.1 hF
  obtain ⟨o1, h2, hF⟩ := hF
  have hc3 := f68_ri_l1_ok k k a1 (flipI .u16 (IntKind.u16.wrap 0)) a0 ((List.length a0) : Int) 0 _ h2
  simp (maxSteps := 999999) (disch := first | exact D (by decide) | exact K (by kernel_rfl)) only [E, EE, ↓reduceIte, simprocAttr, xk B68 [] .sq rfl, show (nav B68 [1]) = Code.region 0 _ false from rfl, hk_68_0, hz_68_0, hs_68_0, xk B68 [2] .sq rfl, show (nav B68 [1, 2]) = Code.region 1 _ false from rfl, hk_68_1, hz_68_1, hs_68_1, u_3, i_3, is_3, ib_3, iz_3, u_80, i_80, is_80, ib_80, iz_80, convV, xk B68 [2, 2] .sq rfl, xk B68 [1, 2, 2] .sq rfl, show (nav B68 [1, 1, 2, 2]) = Code.region 2 _ false from rfl, hk_68_2, hz_68_2, hs_68_2, u_22, i_22, is_22, ib_22, iz_22, xk B68 [2, 1, 2, 2] (.bk 0) rfl, xk B68 [2, 2, 1, 2, 2] .lp rfl, hh_68_3, hc_68_3]
  (try simp only [NM, EE] at hc3)
  rw [hc3 _ (by simp (maxSteps := 999999) (disch := first | exact D (by decide) | exact K (by kernel_rfl)) only [E, EE, ↓reduceIte, simprocAttr, hh_68_3, hc_68_3])]
  clear hc3
  cases o1 with
  | o0 _ _ _ _ _ =>
    (try dsimp only at hF)
    cases hF
  | o1 v4 v5 v6 v7 v8 v9 =>
    (try dsimp only at hF)
    have hJ := f68_ri_j2_ok k v4 v5 v6 v7 v8 v9 _ hF
    simp (maxSteps := 999999) (disch := first | exact D (by decide) | exact K (by kernel_rfl)) only [E, EE, ↓reduceIte, simprocAttr, R68_ri_l1.st]
    try simp only [NM, EE] at hJ
    exact hJ
noncomputable def f68_ri (k : Nat) (a0 : List Int) (a1 : Int) : Option R68_ri := match k with | 0 => none | k + 1 => f68_ri_e k a0 a1
theorem f68_ri_ok (k : Nat) (a0 : List Int) (a1 : Int) (r : R68_ri) (hF : f68_ri k a0 a1 = some r) : CV k 68 [V.sl 1 (rowsOf (encI .u8) a0), V.p (Value.int .u16 a1)] [] = some r.st := by
  cases k with
  | zero => cases hF
  | succ k =>
    unfold CV
    rw [ev_call (F := Tryd.f68) (c := (nav B68 [])) rfl Tryd.func68 rfl rfl rfl rfl]
    exact f68_ri_e_ok k a0 a1 r hF
-- f55_r: f55 heliograph/sum.Sum16
inductive R55_r where
  | o0 (y : Int)
noncomputable def R55_r.st : R55_r → V × List O × List O
  | .o0 y => (V.p (Value.int .u16 y), [], [])
noncomputable def f55_r_e (k : Nat) (a0 : List Int) : Option R55_r :=
  Option.bind (f68_ri k a0 33800) fun o1 =>
    match o1 with
    | .o0 v4 =>
      some (R55_r.o0 v4)
theorem f55_r_e_ok (k : Nat) (a0 : List Int) (r : R55_r) (hF : f55_r_e k a0 = some r) : finK Tryd.prog Tryd.f55 0 (EX 55 k (nav B55 []) ({ n := 5, F := [(0, V.sl 1 (rowsOf (encI .u8) a0))], M := [] } : St)) = some r.st := by
  unfold f55_r_e at hF
  replace hF := Option.bind_eq_some_iff.1 hF
  obtain ⟨o1, h2, hF⟩ := hF
  have hc3 := f68_ri_ok k a0 33800 _ h2
  cases o1 with
  | o0 v4 =>
    (try dsimp only at hF)
    (try simp only [NM, EE, R68_ri.st] at hc3)
    cases hF
    simp (maxSteps := 999999) (disch := first | exact D (by decide) | exact K (by kernel_rfl)) only [E, EE, ↓reduceIte, simprocAttr, xk B55 [] .sq rfl, show (nav B55 [1]) = Code.region 0 _ false from rfl, hk_55_0, hz_55_0, hs_55_0, xk B55 [2] .sq rfl, show (nav B55 [1, 2]) = Code.region 1 _ false from rfl, hk_55_1, hz_55_1, hs_55_1, callStep, CL, gv, List.contains, xk B55 [2, 2] .rt rfl, finK_norm, finK_ret, fin55, R55_r.st, hc3]
noncomputable def f55_r (k : Nat) (a0 : List Int) : Option R55_r := match k with | 0 => none | k + 1 => f55_r_e k a0
theorem f55_r_ok (k : Nat) (a0 : List Int) (r : R55_r) (hF : f55_r k a0 = some r) : CV k 55 [V.sl 1 (rowsOf (encI .u8) a0)] [] = some r.st := by
  cases k with
  | zero => cases hF
  | succ k =>
    unfold CV
    rw [ev_call (F := Tryd.f55) (c := (nav B55 [])) rfl Tryd.func55 rfl rfl rfl rfl]
    exact f55_r_e_ok k a0 r hF
end Go.Proofs.YtbnnmplkbpgcaaaDoorV
