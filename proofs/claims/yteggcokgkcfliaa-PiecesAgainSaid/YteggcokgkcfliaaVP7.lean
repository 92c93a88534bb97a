/- What the program's functions answer: plain functions, and that the interpreter answers what they do. Written by a program of this session, out of the translation. -/
import Derived.Test.YteggcokgkcfliaaVP6
namespace Go.Proofs.YteggcokgkcfliaaV
open Go
set_option linter.unusedVariables false
set_option linter.unusedSimpArgs false
set_option maxRecDepth 8000
set_option maxHeartbeats 4000000
-- f5_ai10rzii: f5 heliograph/heliographlaw18.PiecesAgain
inductive R5_ai10rzii where
  | o0 (y : Bool)
noncomputable def R5_ai10rzii.st : R5_ai10rzii → V × List O × List O
  | .o0 y => (V.p (Value.bool y), [], [])
inductive R5_ai10rzii_l3_l3 where
  | o0 (y : Bool)
  | o1 (y y_1 y_2 y_3 y_4 y_5 y_6 y_7 y_8 y_9 y_10 y_11 y_12 y_13 y_14 y_15 y_16 : Int) (y_17 : List Int) (y_18 y_19 y_20 : List T25)
  | o2 (y y_1 y_2 y_3 y_4 y_5 y_6 : Int) (y_7 : Bool) (y_8 y_9 y_10 y_11 y_12 y_13 y_14 y_15 y_16 y_17 : Int) (y_18 : List Int) (y_19 y_20 y_21 : List T25)
noncomputable def R5_ai10rzii_l3_l3.st : R5_ai10rzii_l3_l3 → Out × St
  | .o0 y => (.ret, ({ n := 112, F := [(6, V.p (Value.bool y))], M := [] } : St))
  | .o1 y y_1 y_2 y_3 y_4 y_5 y_6 y_7 y_8 y_9 y_10 y_11 y_12 y_13 y_14 y_15 y_16 y_17 y_18 y_19 y_20 => (.norm, ({ n := 112, F := [(1, V.p (Value.int .i64 y)), (2, V.p (Value.int .i64 y_1)), (3, V.ptr 30000 0), (9, V.own 30002), (10, V.p (Value.int .i64 y_2)), (13, V.own 30003), (34, V.own 30004), (35, V.p (Value.int .i64 y_3)), (36, V.p (Value.int .i64 y_4)), (48, V.own 30003), (49, V.p (Value.int .i64 y_5)), (50, V.p (Value.int .i64 y_6))], M := [(30000, O.box 25 [V.p (Value.int .i64 y_7), V.p (Value.int .i64 y_8), V.p (Value.int .u32 y_9), V.p (Value.int .i64 y_10), V.p (Value.int .i64 y_11), V.p (Value.int .i64 y_12), V.p (Value.int .i64 y_13), V.p (Value.int .i64 y_14), V.p (Value.int .i64 y_15), V.p (Value.int .i64 y_16), V.own 30001]), (30001, O.row false 1 5 (rowsOf (encI .u8) y_17)), (30002, O.row true 11 25 (rowsOf encT25 y_18)), (30003, O.row true 11 25 (rowsOf encT25 y_19)), (30004, O.row true 11 25 (rowsOf encT25 y_20))] } : St))
  | .o2 y y_1 y_2 y_3 y_4 y_5 y_6 y_7 y_8 y_9 y_10 y_11 y_12 y_13 y_14 y_15 y_16 y_17 y_18 y_19 y_20 y_21 => (.exit 2, ({ n := 112, F := [(1, V.p (Value.int .i64 y)), (2, V.p (Value.int .i64 y_1)), (3, V.ptr 30000 0), (9, V.own 30002), (10, V.p (Value.int .i64 y_2)), (13, V.own 30003), (34, V.own 30004), (35, V.p (Value.int .i64 y_3)), (36, V.p (Value.int .i64 y_4)), (48, V.own 30003), (49, V.p (Value.int .i64 y_5)), (50, V.p (Value.int .i64 y_6)), (51, V.p (Value.bool y_7))], M := [(30000, O.box 25 [V.p (Value.int .i64 y_8), V.p (Value.int .i64 y_9), V.p (Value.int .u32 y_10), V.p (Value.int .i64 y_11), V.p (Value.int .i64 y_12), V.p (Value.int .i64 y_13), V.p (Value.int .i64 y_14), V.p (Value.int .i64 y_15), V.p (Value.int .i64 y_16), V.p (Value.int .i64 y_17), V.own 30001]), (30001, O.row false 1 5 (rowsOf (encI .u8) y_18)), (30002, O.row true 11 25 (rowsOf encT25 y_19)), (30003, O.row true 11 25 (rowsOf encT25 y_20)), (30004, O.row true 11 25 (rowsOf encT25 y_21))] } : St))
noncomputable def f5_ai10rzii_l3_l3_j3 (k : Nat) (x1 x2 x10 x35 x36 x49 x50 h0_ h0__1 h0__2 h0__3 h0__4 h0__5 h0__6 h0__7 h0__8 h0__9 : Int) (h1_ : List Int) (h2_ h3_ h4_ : List T25) : Option R5_ai10rzii_l3_l3 :=
  some (R5_ai10rzii_l3_l3.o1 x1 x2 x10 x35 x36 x49 (IntKind.i64.wrap (x50 + (1 : Int))) h0_ h0__1 h0__2 h0__3 h0__4 h0__5 h0__6 h0__7 h0__8 h0__9 h1_ h2_ h3_ h4_)
theorem f5_ai10rzii_l3_l3_j3_ok (k : Nat) (x1 x2 x10 x35 x36 x49 x50 h0_ h0__1 h0__2 h0__3 h0__4 h0__5 h0__6 h0__7 h0__8 h0__9 : Int) (h1_ : List Int) (h2_ h3_ h4_ : List T25) (r : R5_ai10rzii_l3_l3) (hF : f5_ai10rzii_l3_l3_j3 k x1 x2 x10 x35 x36 x49 x50 h0_ h0__1 h0__2 h0__3 h0__4 h0__5 h0__6 h0__7 h0__8 h0__9 h1_ h2_ h3_ h4_ = some r) : EX 5 k (nav B5 [2, 2, 2, 1, 2, 2, 1, 2, 2, 2, 2, 1, 2, 2, 1, 2, 2, 1, 2, 2, 2, 2, 2, 2, 2]) ({ n := 112, F := [(1, V.p (Value.int .i64 x1)), (2, V.p (Value.int .i64 x2)), (3, V.ptr 30000 0), (9, V.own 30002), (10, V.p (Value.int .i64 x10)), (13, V.own 30003), (34, V.own 30004), (35, V.p (Value.int .i64 x35)), (36, V.p (Value.int .i64 x36)), (48, V.own 30003), (49, V.p (Value.int .i64 x49)), (50, V.p (Value.int .i64 x50))], M := [(30000, O.box 25 [V.p (Value.int .i64 h0_), V.p (Value.int .i64 h0__1), V.p (Value.int .u32 h0__2), V.p (Value.int .i64 h0__3), V.p (Value.int .i64 h0__4), V.p (Value.int .i64 h0__5), V.p (Value.int .i64 h0__6), V.p (Value.int .i64 h0__7), V.p (Value.int .i64 h0__8), V.p (Value.int .i64 h0__9), V.own 30001]), (30001, O.row false 1 5 (rowsOf (encI .u8) h1_)), (30002, O.row true 11 25 (rowsOf encT25 h2_)), (30003, O.row true 11 25 (rowsOf encT25 h3_)), (30004, O.row true 11 25 (rowsOf encT25 h4_))] } : St) = some r.st := by
  unfold f5_ai10rzii_l3_l3_j3 at hF
  cases hF
  simp (maxSteps := 999999) (disch := first | exact D (by decide) | exact K (by kernel_rfl)) only [E, EE, ↓reduceIte, simprocAttr, show (nav B5 [2, 2, 2, 1, 2, 2, 1, 2, 2, 2, 2, 1, 2, 2, 1, 2, 2, 1, 2, 2, 2, 2, 2, 2, 2]) = Code.region 21 _ false from rfl, hk_5_21, hz_5_21, hs_5_21, R5_ai10rzii_l3_l3.st]
noncomputable def f5_ai10rzii_l3_l3_j2 (k : Nat) (x1 x2 x10 x35 x36 x49 x50 : Int) (x71 : Bool) (h0_ h0__1 h0__2 h0__3 h0__4 h0__5 h0__6 h0__7 h0__8 h0__9 : Int) (h1_ : List Int) (h2_ h3_ : List T25) (m16 m16_1 m16_2 m16_3 m16_4 m16_5 m16_6 m16_7 m16_8 m16_9 : Int) (m16_10 : List Int) (h4_ : List T25) : Option R5_ai10rzii_l3_l3 :=
  f5_ai10rzii_l3_l3_j3 k x1 x2 (IntKind.i64.wrap (x10 + ((List.length m16_10) : Int))) x35 x36 x49 x50 h0_ h0__1 h0__2 h0__3 h0__4 h0__5 h0__6 h0__7 h0__8 h0__9 h1_ h2_ h3_ h4_
theorem f5_ai10rzii_l3_l3_j2_ok (k : Nat) (x1 x2 x10 x35 x36 x49 x50 : Int) (x71 : Bool) (h0_ h0__1 h0__2 h0__3 h0__4 h0__5 h0__6 h0__7 h0__8 h0__9 : Int) (h1_ : List Int) (h2_ h3_ : List T25) (m16 m16_1 m16_2 m16_3 m16_4 m16_5 m16_6 m16_7 m16_8 m16_9 : Int) (m16_10 : List Int) (h4_ : List T25) (r : R5_ai10rzii_l3_l3) (hF : f5_ai10rzii_l3_l3_j2 k x1 x2 x10 x35 x36 x49 x50 x71 h0_ h0__1 h0__2 h0__3 h0__4 h0__5 h0__6 h0__7 h0__8 h0__9 h1_ h2_ h3_ m16 m16_1 m16_2 m16_3 m16_4 m16_5 m16_6 m16_7 m16_8 m16_9 m16_10 h4_ = some r) : SQ 5 k (nav B5 [2, 2, 2, 1, 2, 2, 1, 2, 2, 2, 2, 1, 2, 2, 1, 2, 2, 1, 2, 2, 2, 2, 2, 2, 2]) (blockK 3 (EX 5 k (nav B5 [2, 2, 2, 1, 2, 2, 1, 2, 2, 1, 2, 2, 2, 2, 1, 2, 2, 1, 2, 2, 1, 2, 2, 2, 2, 2, 2, 2]) ({ n := 112, F := [(1, V.p (Value.int .i64 x1)), (2, V.p (Value.int .i64 x2)), (3, V.ptr 30000 0), (9, V.own 30002), (10, V.p (Value.int .i64 x10)), (13, V.own 30003), (16, V.ptr 16 0), (34, V.own 30004), (35, V.p (Value.int .i64 x35)), (36, V.p (Value.int .i64 x36)), (48, V.own 30003), (49, V.p (Value.int .i64 x49)), (50, V.p (Value.int .i64 x50)), (71, V.p (Value.bool x71))], M := [(30000, O.box 25 [V.p (Value.int .i64 h0_), V.p (Value.int .i64 h0__1), V.p (Value.int .u32 h0__2), V.p (Value.int .i64 h0__3), V.p (Value.int .i64 h0__4), V.p (Value.int .i64 h0__5), V.p (Value.int .i64 h0__6), V.p (Value.int .i64 h0__7), V.p (Value.int .i64 h0__8), V.p (Value.int .i64 h0__9), V.own 30001]), (30001, O.row false 1 5 (rowsOf (encI .u8) h1_)), (30002, O.row true 11 25 (rowsOf encT25 h2_)), (30003, O.row true 11 25 (rowsOf encT25 h3_)), (16, O.box 25 [V.p (Value.int .i64 m16), V.p (Value.int .i64 m16_1), V.p (Value.int .u32 m16_2), V.p (Value.int .i64 m16_3), V.p (Value.int .i64 m16_4), V.p (Value.int .i64 m16_5), V.p (Value.int .i64 m16_6), V.p (Value.int .i64 m16_7), V.p (Value.int .i64 m16_8), V.p (Value.int .i64 m16_9), V.sl 1 (rowsOf (encI .u8) m16_10)]), (30004, O.row true 11 25 (rowsOf encT25 h4_))] } : St))) = some r.st := by
  unfold f5_ai10rzii_l3_l3_j2 at hF
  have hJ := f5_ai10rzii_l3_l3_j3_ok k x1 x2 (IntKind.i64.wrap (x10 + ((List.length m16_10) : Int))) x35 x36 x49 x50 h0_ h0__1 h0__2 h0__3 h0__4 h0__5 h0__6 h0__7 h0__8 h0__9 h1_ h2_ h3_ h4_ _ hF
  simp (maxSteps := 999999) (disch := first | exact D (by decide) | exact K (by kernel_rfl)) only [E, EE, ↓reduceIte, simprocAttr, show (nav B5 [2, 2, 2, 1, 2, 2, 1, 2, 2, 1, 2, 2, 2, 2, 1, 2, 2, 1, 2, 2, 1, 2, 2, 2, 2, 2, 2, 2]) = Code.region 20 _ false from rfl, hk_5_20, hz_5_20, hs_5_20, fieldAddrV, u_25, i_25, is_25, ib_25, iz_25, u_23, i_23, is_23, ib_23, iz_23]
  try simp only [NM, EE] at hJ
  exact hJ
noncomputable def f5_ai10rzii_l3_l3_j1 (k : Nat) (x1 x2 x10 x35 x36 x49 x50 : Int) (x51 : Bool) (h0_ h0__1 h0__2 h0__3 h0__4 h0__5 h0__6 h0__7 h0__8 h0__9 : Int) (h1_ : List Int) (h2_ h3_ h4_ : List T25) : Option R5_ai10rzii_l3_l3 :=
  ifE ((0 : Int) ≤ x50) (
    ifE (x50 < ((List.length h3_) : Int)) (
      Option.bind (h3_[(Int.toNat x50)]?) fun v3 =>
        Option.bind (f16_ai10rzai10rz k h0_ h0__1 h0__2 h0__3 h0__4 h0__5 h0__6 h0__7 h0__8 h0__9 h1_ v3.Source v3.Dest v3.Seq v3.Created v3.Lifetime v3.HopLimit v3.Hops v3.Priority v3.Offset v3.Total v3.Payload) fun o5 =>
          match o5 with
          | .o0 v8 =>
            cond ((!v8))
              (some (R5_ai10rzii_l3_l3.o0 false))
              (
                cond ((decide (((List.length v3.Payload) : Int) > x2)))
                  (some (R5_ai10rzii_l3_l3.o0 false))
                  (
                    cond ((decide (((List.length v3.Payload) : Int) > x1)))
                      (some (R5_ai10rzii_l3_l3.o0 false))
                      (f5_ai10rzii_l3_l3_j2 k x1 x2 x10 x35 x36 x49 x50 false h0_ h0__1 h0__2 h0__3 h0__4 h0__5 h0__6 h0__7 h0__8 h0__9 h1_ h2_ h3_ v3.Source v3.Dest v3.Seq v3.Created v3.Lifetime v3.HopLimit v3.Hops v3.Priority v3.Offset v3.Total v3.Payload h4_)))))
theorem f5_ai10rzii_l3_l3_j1_ok (k : Nat) (x1 x2 x10 x35 x36 x49 x50 : Int) (x51 : Bool) (h0_ h0__1 h0__2 h0__3 h0__4 h0__5 h0__6 h0__7 h0__8 h0__9 : Int) (h1_ : List Int) (h2_ h3_ h4_ : List T25) (r : R5_ai10rzii_l3_l3) (hF : f5_ai10rzii_l3_l3_j1 k x1 x2 x10 x35 x36 x49 x50 x51 h0_ h0__1 h0__2 h0__3 h0__4 h0__5 h0__6 h0__7 h0__8 h0__9 h1_ h2_ h3_ h4_ = some r) : EX 5 k (nav B5 [2, 2, 1, 2, 2, 1, 2, 2, 2, 2, 1, 2, 2, 1, 2, 2, 1, 2, 2, 2, 2, 2, 2, 2]) ({ n := 112, F := [(1, V.p (Value.int .i64 x1)), (2, V.p (Value.int .i64 x2)), (3, V.ptr 30000 0), (9, V.own 30002), (10, V.p (Value.int .i64 x10)), (13, V.own 30003), (34, V.own 30004), (35, V.p (Value.int .i64 x35)), (36, V.p (Value.int .i64 x36)), (48, V.own 30003), (49, V.p (Value.int .i64 x49)), (50, V.p (Value.int .i64 x50)), (51, V.p (Value.bool x51))], M := [(30000, O.box 25 [V.p (Value.int .i64 h0_), V.p (Value.int .i64 h0__1), V.p (Value.int .u32 h0__2), V.p (Value.int .i64 h0__3), V.p (Value.int .i64 h0__4), V.p (Value.int .i64 h0__5), V.p (Value.int .i64 h0__6), V.p (Value.int .i64 h0__7), V.p (Value.int .i64 h0__8), V.p (Value.int .i64 h0__9), V.own 30001]), (30001, O.row false 1 5 (rowsOf (encI .u8) h1_)), (30002, O.row true 11 25 (rowsOf encT25 h2_)), (30003, O.row true 11 25 (rowsOf encT25 h3_)), (30004, O.row true 11 25 (rowsOf encT25 h4_))] } : St) = some r.st := by
  unfold f5_ai10rzii_l3_l3_j1 at hF
  replace hF := ifE_some.1 hF
  obtain ⟨h1, hF⟩ := hF
  replace hF := ifE_some.1 hF
  obtain ⟨h2, hF⟩ := hF
  replace hF := Option.bind_eq_some_iff.1 hF
  obtain ⟨v3, h4, hF⟩ := hF
  replace hF := Option.bind_eq_some_iff.1 hF
  obtain ⟨o5, h6, hF⟩ := hF
  have hc7 := f16_ai10rzai10rz_ok k h0_ h0__1 h0__2 h0__3 h0__4 h0__5 h0__6 h0__7 h0__8 h0__9 h1_ v3.Source v3.Dest v3.Seq v3.Created v3.Lifetime v3.HopLimit v3.Hops v3.Priority v3.Offset v3.Total v3.Payload _ h6
  cases o5 with
  | o0 v8 =>
    (try dsimp only at hF)
    (try simp only [NM, EE, R16_ai10rzai10rz.st] at hc7)
    simp (maxSteps := 999999) (disch := first | exact D (by decide) | exact K (by kernel_rfl)) only [E, EE, ↓reduceIte, simprocAttr, xk B5 [2, 2, 1, 2, 2, 1, 2, 2, 2, 2, 1, 2, 2, 1, 2, 2, 1, 2, 2, 2, 2, 2, 2, 2] .sq rfl, xk B5 [1, 2, 2, 1, 2, 2, 1, 2, 2, 2, 2, 1, 2, 2, 1, 2, 2, 1, 2, 2, 2, 2, 2, 2, 2] (.bk 3) rfl, xk B5 [2, 1, 2, 2, 1, 2, 2, 1, 2, 2, 2, 2, 1, 2, 2, 1, 2, 2, 1, 2, 2, 2, 2, 2, 2, 2] .sq rfl, show (nav B5 [1, 2, 1, 2, 2, 1, 2, 2, 1, 2, 2, 2, 2, 1, 2, 2, 1, 2, 2, 1, 2, 2, 2, 2, 2, 2, 2]) = Code.region 17 _ false from rfl, hk_5_17, hz_5_17, hs_5_17, indexAddrV, u_28, i_28, is_28, ib_28, iz_28, u_25, i_25, is_25, ib_25, iz_25, encT25_eq, xk B5 [2, 2, 1, 2, 2, 1, 2, 2, 1, 2, 2, 2, 2, 1, 2, 2, 1, 2, 2, 1, 2, 2, 2, 2, 2, 2, 2] .sq rfl, xk B5 [1, 2, 2, 1, 2, 2, 1, 2, 2, 1, 2, 2, 2, 2, 1, 2, 2, 1, 2, 2, 1, 2, 2, 2, 2, 2, 2, 2] .sq rfl, show (nav B5 [1, 1, 2, 2, 1, 2, 2, 1, 2, 2, 1, 2, 2, 2, 2, 1, 2, 2, 1, 2, 2, 1, 2, 2, 2, 2, 2, 2, 2]) = Code.region 18 _ false from rfl, hk_5_18, hz_5_18, hs_5_18, callStep, CL, gv, List.contains, h1, h2, h4, hc7]
    replace hF := cond_some hF
    rcases hF with ⟨h9, hF⟩ | ⟨h9, hF⟩
    · cases hF
      simp (maxSteps := 999999) (disch := first | exact D (by decide) | exact K (by kernel_rfl)) only [E, EE, ↓reduceIte, simprocAttr, xk B5 [2, 1, 2, 2, 1, 2, 2, 1, 2, 2, 1, 2, 2, 2, 2, 1, 2, 2, 1, 2, 2, 1, 2, 2, 2, 2, 2, 2, 2] (.cd 71) rfl, xk B5 [2, 2, 1, 2, 2, 1, 2, 2, 1, 2, 2, 1, 2, 2, 2, 2, 1, 2, 2, 1, 2, 2, 1, 2, 2, 2, 2, 2, 2, 2] .sq rfl, show (nav B5 [1, 2, 2, 1, 2, 2, 1, 2, 2, 1, 2, 2, 1, 2, 2, 2, 2, 1, 2, 2, 1, 2, 2, 1, 2, 2, 2, 2, 2, 2, 2]) = Code.region 19 _ false from rfl, hk_5_19, hz_5_19, hs_5_19, xk B5 [2, 2, 2, 1, 2, 2, 1, 2, 2, 1, 2, 2, 1, 2, 2, 2, 2, 1, 2, 2, 1, 2, 2, 1, 2, 2, 2, 2, 2, 2, 2] .rt rfl, R5_ai10rzii_l3_l3.st, h1, h2, h4, hc7, h9]
    · simp (maxSteps := 999999) (disch := first | exact D (by decide) | exact K (by kernel_rfl)) only [E, EE, ↓reduceIte, simprocAttr, fieldAddrV, u_25, i_25, is_25, ib_25, iz_25, u_23, i_23, is_23, ib_23, iz_23, h1, h2, h4, hc7, h9]
      replace hF := cond_some hF
      rcases hF with ⟨h10, hF⟩ | ⟨h10, hF⟩
      · cases hF
        simp (maxSteps := 999999) (disch := first | exact D (by decide) | exact K (by kernel_rfl)) only [E, EE, ↓reduceIte, simprocAttr, xk B5 [2, 1, 2, 2, 1, 2, 2, 1, 2, 2, 1, 2, 2, 2, 2, 1, 2, 2, 1, 2, 2, 1, 2, 2, 2, 2, 2, 2, 2] (.cd 71) rfl, xk B5 [2, 2, 1, 2, 2, 1, 2, 2, 1, 2, 2, 1, 2, 2, 2, 2, 1, 2, 2, 1, 2, 2, 1, 2, 2, 2, 2, 2, 2, 2] .sq rfl, show (nav B5 [1, 2, 2, 1, 2, 2, 1, 2, 2, 1, 2, 2, 1, 2, 2, 2, 2, 1, 2, 2, 1, 2, 2, 1, 2, 2, 2, 2, 2, 2, 2]) = Code.region 19 _ false from rfl, hk_5_19, hz_5_19, hs_5_19, xk B5 [2, 2, 2, 1, 2, 2, 1, 2, 2, 1, 2, 2, 1, 2, 2, 2, 2, 1, 2, 2, 1, 2, 2, 1, 2, 2, 2, 2, 2, 2, 2] .rt rfl, R5_ai10rzii_l3_l3.st, h1, h2, h4, hc7, h9, h10]
      · simp (maxSteps := 999999) (disch := first | exact D (by decide) | exact K (by kernel_rfl)) only [E, EE, ↓reduceIte, simprocAttr, fieldAddrV, u_25, i_25, is_25, ib_25, iz_25, u_23, i_23, is_23, ib_23, iz_23, xk B5 [2, 1, 2, 2, 1, 2, 2, 1, 2, 2, 1, 2, 2, 2, 2, 1, 2, 2, 1, 2, 2, 1, 2, 2, 2, 2, 2, 2, 2] (.cd 71) rfl, h1, h2, h4, hc7, h9, h10]
        replace hF := cond_some hF
        rcases hF with ⟨h11, hF⟩ | ⟨h11, hF⟩
        · cases hF
          simp (maxSteps := 999999) (disch := first | exact D (by decide) | exact K (by kernel_rfl)) only [E, EE, ↓reduceIte, simprocAttr, xk B5 [2, 2, 1, 2, 2, 1, 2, 2, 1, 2, 2, 1, 2, 2, 2, 2, 1, 2, 2, 1, 2, 2, 1, 2, 2, 2, 2, 2, 2, 2] .sq rfl, show (nav B5 [1, 2, 2, 1, 2, 2, 1, 2, 2, 1, 2, 2, 1, 2, 2, 2, 2, 1, 2, 2, 1, 2, 2, 1, 2, 2, 2, 2, 2, 2, 2]) = Code.region 19 _ false from rfl, hk_5_19, hz_5_19, hs_5_19, xk B5 [2, 2, 2, 1, 2, 2, 1, 2, 2, 1, 2, 2, 1, 2, 2, 2, 2, 1, 2, 2, 1, 2, 2, 1, 2, 2, 2, 2, 2, 2, 2] .rt rfl, R5_ai10rzii_l3_l3.st, h1, h2, h4, hc7, h9, h10, h11]
        · have hJ := f5_ai10rzii_l3_l3_j2_ok k x1 x2 x10 x35 x36 x49 x50 false h0_ h0__1 h0__2 h0__3 h0__4 h0__5 h0__6 h0__7 h0__8 h0__9 h1_ h2_ h3_ v3.Source v3.Dest v3.Seq v3.Created v3.Lifetime v3.HopLimit v3.Hops v3.Priority v3.Offset v3.Total v3.Payload h4_ _ hF
          simp (maxSteps := 999999) (disch := first | exact D (by decide) | exact K (by kernel_rfl)) only [E, EE, ↓reduceIte, simprocAttr, xk B5 [3, 2, 1, 2, 2, 1, 2, 2, 1, 2, 2, 1, 2, 2, 2, 2, 1, 2, 2, 1, 2, 2, 1, 2, 2, 2, 2, 2, 2, 2] .sk rfl, h1, h2, h4, hc7, h9, h10, h11]
          try simp only [NM, EE] at hJ
          exact hJ
noncomputable def f5_ai10rzii_l3_l3_b (k : Nat) (x1 x2 x10 x35 x36 x49 x50 h0_ h0__1 h0__2 h0__3 h0__4 h0__5 h0__6 h0__7 h0__8 h0__9 : Int) (h1_ : List Int) (h2_ h3_ h4_ : List T25) : Option R5_ai10rzii_l3_l3 :=
  cond ((decide (x50 < x49)))
    (f5_ai10rzii_l3_l3_j1 k x1 x2 x10 x35 x36 x49 x50 true h0_ h0__1 h0__2 h0__3 h0__4 h0__5 h0__6 h0__7 h0__8 h0__9 h1_ h2_ h3_ h4_)
    (some (R5_ai10rzii_l3_l3.o2 x1 x2 x10 x35 x36 x49 x50 false h0_ h0__1 h0__2 h0__3 h0__4 h0__5 h0__6 h0__7 h0__8 h0__9 h1_ h2_ h3_ h4_))
theorem f5_ai10rzii_l3_l3_b_ok (k : Nat) (x1 x2 x10 x35 x36 x49 x50 h0_ h0__1 h0__2 h0__3 h0__4 h0__5 h0__6 h0__7 h0__8 h0__9 : Int) (h1_ : List Int) (h2_ h3_ h4_ : List T25) (r : R5_ai10rzii_l3_l3) (hF : f5_ai10rzii_l3_l3_b k x1 x2 x10 x35 x36 x49 x50 h0_ h0__1 h0__2 h0__3 h0__4 h0__5 h0__6 h0__7 h0__8 h0__9 h1_ h2_ h3_ h4_ = some r) : EX 5 k (nav B5 [1, 2, 2, 1, 2, 2, 2, 2, 1, 2, 2, 1, 2, 2, 1, 2, 2, 2, 2, 2, 2, 2]) ({ n := 112, F := [(1, V.p (Value.int .i64 x1)), (2, V.p (Value.int .i64 x2)), (3, V.ptr 30000 0), (9, V.own 30002), (10, V.p (Value.int .i64 x10)), (13, V.own 30003), (34, V.own 30004), (35, V.p (Value.int .i64 x35)), (36, V.p (Value.int .i64 x36)), (48, V.own 30003), (49, V.p (Value.int .i64 x49)), (50, V.p (Value.int .i64 x50))], M := [(30000, O.box 25 [V.p (Value.int .i64 h0_), V.p (Value.int .i64 h0__1), V.p (Value.int .u32 h0__2), V.p (Value.int .i64 h0__3), V.p (Value.int .i64 h0__4), V.p (Value.int .i64 h0__5), V.p (Value.int .i64 h0__6), V.p (Value.int .i64 h0__7), V.p (Value.int .i64 h0__8), V.p (Value.int .i64 h0__9), V.own 30001]), (30001, O.row false 1 5 (rowsOf (encI .u8) h1_)), (30002, O.row true 11 25 (rowsOf encT25 h2_)), (30003, O.row true 11 25 (rowsOf encT25 h3_)), (30004, O.row true 11 25 (rowsOf encT25 h4_))] } : St) = some r.st := by
  unfold f5_ai10rzii_l3_l3_b at hF
  simp (maxSteps := 999999) (disch := first | exact D (by decide) | exact K (by kernel_rfl)) only [E, EE, ↓reduceIte, simprocAttr, xk B5 [1, 2, 2, 1, 2, 2, 2, 2, 1, 2, 2, 1, 2, 2, 1, 2, 2, 2, 2, 2, 2, 2] .sq rfl, show (nav B5 [1, 1, 2, 2, 1, 2, 2, 2, 2, 1, 2, 2, 1, 2, 2, 1, 2, 2, 2, 2, 2, 2, 2]) = Code.region 16 _ false from rfl, hk_5_16, hz_5_16, hs_5_16, xk B5 [2, 1, 2, 2, 1, 2, 2, 2, 2, 1, 2, 2, 1, 2, 2, 1, 2, 2, 2, 2, 2, 2, 2] .sq rfl, xk B5 [1, 2, 1, 2, 2, 1, 2, 2, 2, 2, 1, 2, 2, 1, 2, 2, 1, 2, 2, 2, 2, 2, 2, 2] (.cd 51) rfl]
  replace hF := cond_some hF
  rcases hF with ⟨h1, hF⟩ | ⟨h1, hF⟩
  · have hJ := f5_ai10rzii_l3_l3_j1_ok k x1 x2 x10 x35 x36 x49 x50 true h0_ h0__1 h0__2 h0__3 h0__4 h0__5 h0__6 h0__7 h0__8 h0__9 h1_ h2_ h3_ h4_ _ hF
    simp (maxSteps := 999999) (disch := first | exact D (by decide) | exact K (by kernel_rfl)) only [E, EE, ↓reduceIte, simprocAttr, xk B5 [2, 1, 2, 1, 2, 2, 1, 2, 2, 2, 2, 1, 2, 2, 1, 2, 2, 1, 2, 2, 2, 2, 2, 2, 2] .sk rfl, h1]
    try simp only [NM, EE] at hJ
    exact hJ
  · cases hF
    simp (maxSteps := 999999) (disch := first | exact D (by decide) | exact K (by kernel_rfl)) only [E, EE, ↓reduceIte, simprocAttr, xk B5 [3, 1, 2, 1, 2, 2, 1, 2, 2, 2, 2, 1, 2, 2, 1, 2, 2, 1, 2, 2, 2, 2, 2, 2, 2] (.ex 2) rfl, R5_ai10rzii_l3_l3.st, h1]
noncomputable def f5_ai10rzii_l3_l3 (k : Nat) : Nat → Int → Int → Int → Int → Int → Int → Int → Int → Int → Int → Int → Int → Int → Int → Int → Int → Int → (List Int) → (List T25) → (List T25) → (List T25) → Option R5_ai10rzii_l3_l3
  | 0, _, _, _, _, _, _, _, _, _, _, _, _, _, _, _, _, _, _, _, _, _ => none
  | n + 1, x1, x2, x10, x35, x36, x49, x50, h0_, h0__1, h0__2, h0__3, h0__4, h0__5, h0__6, h0__7, h0__8, h0__9, h1_, h2_, h3_, h4_ => Option.bind (f5_ai10rzii_l3_l3_b k x1 x2 x10 x35 x36 x49 x50 h0_ h0__1 h0__2 h0__3 h0__4 h0__5 h0__6 h0__7 h0__8 h0__9 h1_ h2_ h3_ h4_) fun o =>
    match o with
    | .o0 y => some (.o0 y)
    | .o1 y y_1 y_2 y_3 y_4 y_5 y_6 y_7 y_8 y_9 y_10 y_11 y_12 y_13 y_14 y_15 y_16 y_17 y_18 y_19 y_20 => f5_ai10rzii_l3_l3 k n y y_1 y_2 y_3 y_4 y_5 y_6 y_7 y_8 y_9 y_10 y_11 y_12 y_13 y_14 y_15 y_16 y_17 y_18 y_19 y_20
    | .o2 y y_1 y_2 y_3 y_4 y_5 y_6 y_7 y_8 y_9 y_10 y_11 y_12 y_13 y_14 y_15 y_16 y_17 y_18 y_19 y_20 y_21 => some (.o2 y y_1 y_2 y_3 y_4 y_5 y_6 y_7 y_8 y_9 y_10 y_11 y_12 y_13 y_14 y_15 y_16 y_17 y_18 y_19 y_20 y_21)
theorem f5_ai10rzii_l3_l3_ok (k n : Nat) : ∀ (x1 x2 x10 x35 x36 x49 x50 h0_ h0__1 h0__2 h0__3 h0__4 h0__5 h0__6 h0__7 h0__8 h0__9 : Int) (h1_ : List Int) (h2_ h3_ h4_ : List T25) (r : R5_ai10rzii_l3_l3) (hF : f5_ai10rzii_l3_l3 k n x1 x2 x10 x35 x36 x49 x50 h0_ h0__1 h0__2 h0__3 h0__4 h0__5 h0__6 h0__7 h0__8 h0__9 h1_ h2_ h3_ h4_ = some r) (σ : St) (hσ : headR (hints.head 5 16) (hints.canon 5 16) σ = some ({ n := 112, F := [(1, V.p (Value.int .i64 x1)), (2, V.p (Value.int .i64 x2)), (3, V.ptr 30000 0), (9, V.own 30002), (10, V.p (Value.int .i64 x10)), (13, V.own 30003), (34, V.own 30004), (35, V.p (Value.int .i64 x35)), (36, V.p (Value.int .i64 x36)), (48, V.own 30003), (49, V.p (Value.int .i64 x49)), (50, V.p (Value.int .i64 x50))], M := [(30000, O.box 25 [V.p (Value.int .i64 h0_), V.p (Value.int .i64 h0__1), V.p (Value.int .u32 h0__2), V.p (Value.int .i64 h0__3), V.p (Value.int .i64 h0__4), V.p (Value.int .i64 h0__5), V.p (Value.int .i64 h0__6), V.p (Value.int .i64 h0__7), V.p (Value.int .i64 h0__8), V.p (Value.int .i64 h0__9), V.own 30001]), (30001, O.row false 1 5 (rowsOf (encI .u8) h1_)), (30002, O.row true 11 25 (rowsOf encT25 h2_)), (30003, O.row true 11 25 (rowsOf encT25 h3_)), (30004, O.row true 11 25 (rowsOf encT25 h4_))] } : St)), LP 5 k (nav B5 [1, 2, 2, 1, 2, 2, 2, 2, 1, 2, 2, 1, 2, 2, 1, 2, 2, 2, 2, 2, 2, 2]) n σ = some r.st := by
  induction n with
  | zero => intro x1 x2 x10 x35 x36 x49 x50 h0_ h0__1 h0__2 h0__3 h0__4 h0__5 h0__6 h0__7 h0__8 h0__9 h1_ h2_ h3_ h4_ r hF; cases hF
  | succ n ih =>
    intro x1 x2 x10 x35 x36 x49 x50 h0_ h0__1 h0__2 h0__3 h0__4 h0__5 h0__6 h0__7 h0__8 h0__9 h1_ h2_ h3_ h4_ r hF σ hσ
    rw [f5_ai10rzii_l3_l3] at hF
    obtain ⟨o, h, hF⟩ := Option.bind_eq_some_iff.1 hF
    have hB := f5_ai10rzii_l3_l3_b_ok k x1 x2 x10 x35 x36 x49 x50 h0_ h0__1 h0__2 h0__3 h0__4 h0__5 h0__6 h0__7 h0__8 h0__9 h1_ h2_ h3_ h4_ o h
    unfold LP at ih ⊢
    unfold EX at hB
    rw [loopK_succ, show firstReg (nav B5 [1, 2, 2, 1, 2, 2, 2, 2, 1, 2, 2, 1, 2, 2, 1, 2, 2, 2, 2, 2, 2, 2]) = 16 from rfl, hσ, headK_some, hB]
    cases o with
    | o0 y => cases hF; rfl
    | o1 y y_1 y_2 y_3 y_4 y_5 y_6 y_7 y_8 y_9 y_10 y_11 y_12 y_13 y_14 y_15 y_16 y_17 y_18 y_19 y_20 =>
      refine ih y y_1 y_2 y_3 y_4 y_5 y_6 y_7 y_8 y_9 y_10 y_11 y_12 y_13 y_14 y_15 y_16 y_17 y_18 y_19 y_20 r hF _ ?_
      simp (maxSteps := 999999) (disch := first | exact D (by decide) | exact K (by kernel_rfl)) only [E, EE, ↓reduceIte, simprocAttr, hh_5_16, hc_5_16]
    | o2 y y_1 y_2 y_3 y_4 y_5 y_6 y_7 y_8 y_9 y_10 y_11 y_12 y_13 y_14 y_15 y_16 y_17 y_18 y_19 y_20 y_21 => cases hF; rfl
inductive R5_ai10rzii_l3 where
  | o0 (y : Bool)
  | o1 (y y_1 y_2 y_3 y_4 y_5 y_6 y_7 y_8 y_9 y_10 y_11 y_12 y_13 y_14 : Int) (y_15 : List Int) (y_16 y_17 : List T25)
  | o2 (y y_1 y_2 y_3 y_4 : Int) (y_5 : Bool) (y_6 y_7 y_8 y_9 y_10 y_11 y_12 y_13 y_14 y_15 : Int) (y_16 : List Int) (y_17 y_18 : List T25)
noncomputable def R5_ai10rzii_l3.st : R5_ai10rzii_l3 → Out × St
  | .o0 y => (.ret, ({ n := 112, F := [(6, V.p (Value.bool y))], M := [] } : St))
  | .o1 y y_1 y_2 y_3 y_4 y_5 y_6 y_7 y_8 y_9 y_10 y_11 y_12 y_13 y_14 y_15 y_16 y_17 => (.norm, ({ n := 112, F := [(1, V.p (Value.int .i64 y)), (2, V.p (Value.int .i64 y_1)), (3, V.ptr 30000 0), (9, V.own 80), (10, V.p (Value.int .i64 y_2)), (34, V.own 30004), (35, V.p (Value.int .i64 y_3)), (36, V.p (Value.int .i64 y_4))], M := [(30000, O.box 25 [V.p (Value.int .i64 y_5), V.p (Value.int .i64 y_6), V.p (Value.int .u32 y_7), V.p (Value.int .i64 y_8), V.p (Value.int .i64 y_9), V.p (Value.int .i64 y_10), V.p (Value.int .i64 y_11), V.p (Value.int .i64 y_12), V.p (Value.int .i64 y_13), V.p (Value.int .i64 y_14), V.own 30001]), (30001, O.row false 1 5 (rowsOf (encI .u8) y_15)), (80, O.row true 11 25 (rowsOf encT25 y_16)), (30004, O.row true 11 25 (rowsOf encT25 y_17))] } : St))
  | .o2 y y_1 y_2 y_3 y_4 y_5 y_6 y_7 y_8 y_9 y_10 y_11 y_12 y_13 y_14 y_15 y_16 y_17 y_18 => (.exit 0, ({ n := 112, F := [(1, V.p (Value.int .i64 y)), (2, V.p (Value.int .i64 y_1)), (3, V.ptr 30000 0), (9, V.own 30002), (10, V.p (Value.int .i64 y_2)), (34, V.own 30003), (35, V.p (Value.int .i64 y_3)), (36, V.p (Value.int .i64 y_4)), (37, V.p (Value.bool y_5))], M := [(30000, O.box 25 [V.p (Value.int .i64 y_6), V.p (Value.int .i64 y_7), V.p (Value.int .u32 y_8), V.p (Value.int .i64 y_9), V.p (Value.int .i64 y_10), V.p (Value.int .i64 y_11), V.p (Value.int .i64 y_12), V.p (Value.int .i64 y_13), V.p (Value.int .i64 y_14), V.p (Value.int .i64 y_15), V.own 30001]), (30001, O.row false 1 5 (rowsOf (encI .u8) y_16)), (30002, O.row true 11 25 (rowsOf encT25 y_17)), (30003, O.row true 11 25 (rowsOf encT25 y_18))] } : St))
noncomputable def f5_ai10rzii_l3_j5 (k : Nat) (x1 x2 x10 x35 x36 h0_ h0__1 h0__2 h0__3 h0__4 h0__5 h0__6 h0__7 h0__8 h0__9 : Int) (h1_ : List Int) (m80 h4_ : List T25) : Option R5_ai10rzii_l3 :=
  some (R5_ai10rzii_l3.o1 x1 x2 x10 x35 (IntKind.i64.wrap (x36 + (1 : Int))) h0_ h0__1 h0__2 h0__3 h0__4 h0__5 h0__6 h0__7 h0__8 h0__9 h1_ m80 h4_)
theorem f5_ai10rzii_l3_j5_ok (k : Nat) (x1 x2 x10 x35 x36 h0_ h0__1 h0__2 h0__3 h0__4 h0__5 h0__6 h0__7 h0__8 h0__9 : Int) (h1_ : List Int) (m80 h4_ : List T25) (r : R5_ai10rzii_l3) (hF : f5_ai10rzii_l3_j5 k x1 x2 x10 x35 x36 h0_ h0__1 h0__2 h0__3 h0__4 h0__5 h0__6 h0__7 h0__8 h0__9 h1_ m80 h4_ = some r) : EX 5 k (nav B5 [2, 2, 2, 1, 2, 2, 1, 2, 2, 2, 2, 2, 2, 2]) ({ n := 112, F := [(1, V.p (Value.int .i64 x1)), (2, V.p (Value.int .i64 x2)), (3, V.ptr 30000 0), (9, V.own 80), (10, V.p (Value.int .i64 x10)), (34, V.own 30004), (35, V.p (Value.int .i64 x35)), (36, V.p (Value.int .i64 x36))], M := [(30000, O.box 25 [V.p (Value.int .i64 h0_), V.p (Value.int .i64 h0__1), V.p (Value.int .u32 h0__2), V.p (Value.int .i64 h0__3), V.p (Value.int .i64 h0__4), V.p (Value.int .i64 h0__5), V.p (Value.int .i64 h0__6), V.p (Value.int .i64 h0__7), V.p (Value.int .i64 h0__8), V.p (Value.int .i64 h0__9), V.own 30001]), (30001, O.row false 1 5 (rowsOf (encI .u8) h1_)), (80, O.row true 11 25 (rowsOf encT25 m80)), (30004, O.row true 11 25 (rowsOf encT25 h4_))] } : St) = some r.st := by
  unfold f5_ai10rzii_l3_j5 at hF
  cases hF
  simp (maxSteps := 999999) (disch := first | exact D (by decide) | exact K (by kernel_rfl)) only [E, EE, ↓reduceIte, simprocAttr, show (nav B5 [2, 2, 2, 1, 2, 2, 1, 2, 2, 2, 2, 2, 2, 2]) = Code.region 23 _ false from rfl, hk_5_23, hz_5_23, hs_5_23, R5_ai10rzii_l3.st]
noncomputable def f5_ai10rzii_l3_j4 (k : Nat) (x1 x2 x10 x35 x36 x49 x50 : Int) (x51 : Bool) (h0_ h0__1 h0__2 h0__3 h0__4 h0__5 h0__6 h0__7 h0__8 h0__9 : Int) (h1_ : List Int) (h2_ h3_ h4_ : List T25) : Option R5_ai10rzii_l3 :=
  ifE (((List.length h2_) + (List.length h3_)) * 104 ≤ roomy) (
    f5_ai10rzii_l3_j5 k x1 x2 x10 x35 x36 h0_ h0__1 h0__2 h0__3 h0__4 h0__5 h0__6 h0__7 h0__8 h0__9 h1_ (h2_ ++ h3_) h4_)
theorem f5_ai10rzii_l3_j4_ok (k : Nat) (x1 x2 x10 x35 x36 x49 x50 : Int) (x51 : Bool) (h0_ h0__1 h0__2 h0__3 h0__4 h0__5 h0__6 h0__7 h0__8 h0__9 : Int) (h1_ : List Int) (h2_ h3_ h4_ : List T25) (r : R5_ai10rzii_l3) (hF : f5_ai10rzii_l3_j4 k x1 x2 x10 x35 x36 x49 x50 x51 h0_ h0__1 h0__2 h0__3 h0__4 h0__5 h0__6 h0__7 h0__8 h0__9 h1_ h2_ h3_ h4_ = some r) : SQ 5 k (nav B5 [2, 2, 2, 1, 2, 2, 1, 2, 2, 2, 2, 2, 2, 2]) (blockK 1 (EX 5 k (nav B5 [2, 2, 2, 2, 2, 1, 2, 2, 1, 2, 2, 1, 2, 2, 2, 2, 2, 2, 2]) ({ n := 112, F := [(1, V.p (Value.int .i64 x1)), (2, V.p (Value.int .i64 x2)), (3, V.ptr 30000 0), (9, V.own 30002), (10, V.p (Value.int .i64 x10)), (13, V.own 30003), (34, V.own 30004), (35, V.p (Value.int .i64 x35)), (36, V.p (Value.int .i64 x36)), (48, V.own 30003), (49, V.p (Value.int .i64 x49)), (50, V.p (Value.int .i64 x50)), (51, V.p (Value.bool x51))], M := [(30000, O.box 25 [V.p (Value.int .i64 h0_), V.p (Value.int .i64 h0__1), V.p (Value.int .u32 h0__2), V.p (Value.int .i64 h0__3), V.p (Value.int .i64 h0__4), V.p (Value.int .i64 h0__5), V.p (Value.int .i64 h0__6), V.p (Value.int .i64 h0__7), V.p (Value.int .i64 h0__8), V.p (Value.int .i64 h0__9), V.own 30001]), (30001, O.row false 1 5 (rowsOf (encI .u8) h1_)), (30002, O.row true 11 25 (rowsOf encT25 h2_)), (30003, O.row true 11 25 (rowsOf encT25 h3_)), (30004, O.row true 11 25 (rowsOf encT25 h4_))] } : St))) = some r.st := by
  unfold f5_ai10rzii_l3_j4 at hF
  replace hF := ifE_some.1 hF
  obtain ⟨h1, hF⟩ := hF
  have hJ := f5_ai10rzii_l3_j5_ok k x1 x2 x10 x35 x36 h0_ h0__1 h0__2 h0__3 h0__4 h0__5 h0__6 h0__7 h0__8 h0__9 h1_ (h2_ ++ h3_) h4_ _ hF
  simp (maxSteps := 999999) (disch := first | exact D (by decide) | exact K (by kernel_rfl)) only [E, EE, ↓reduceIte, simprocAttr, show (nav B5 [2, 2, 2, 2, 2, 1, 2, 2, 1, 2, 2, 1, 2, 2, 2, 2, 2, 2, 2]) = Code.region 22 _ false from rfl, hk_5_22, hz_5_22, hs_5_22, appendV, content, u_28, i_28, is_28, ib_28, iz_28, u_25, i_25, is_25, ib_25, iz_25, h1]
  try simp only [NM, EE] at hJ
  exact hJ
noncomputable def f5_ai10rzii_l3_j2 (k : Nat) (x1 x2 x10 x35 x36 : Int) (x47 : Bool) (h0_ h0__1 h0__2 h0__3 h0__4 h0__5 h0__6 h0__7 h0__8 h0__9 : Int) (h1_ : List Int) (h2_ m43 h3_ : List T25) : Option R5_ai10rzii_l3 :=
  Option.bind (f5_ai10rzii_l3_l3 k k x1 x2 x10 x35 x36 ((List.length m43) : Int) 0 h0_ h0__1 h0__2 h0__3 h0__4 h0__5 h0__6 h0__7 h0__8 h0__9 h1_ h2_ m43 h3_) fun o1 =>
    match o1 with
    | .o0 v4 =>
      some (R5_ai10rzii_l3.o0 v4)
    | .o1 _ _ _ _ _ _ _ _ _ _ _ _ _ _ _ _ _ _ _ _ _ =>
      none
    | .o2 v5 v6 v7 v8 v9 v10 v11 v12 v13 v14 v15 v16 v17 v18 v19 v20 v21 v22 v23 v24 v25 v26 =>
      f5_ai10rzii_l3_j4 k v5 v6 v7 v8 v9 v10 v11 v12 v13 v14 v15 v16 v17 v18 v19 v20 v21 v22 v23 v24 v25 v26
theorem f5_ai10rzii_l3_j2_ok (k : Nat) (x1 x2 x10 x35 x36 : Int) (x47 : Bool) (h0_ h0__1 h0__2 h0__3 h0__4 h0__5 h0__6 h0__7 h0__8 h0__9 : Int) (h1_ : List Int) (h2_ m43 h3_ : List T25) (r : R5_ai10rzii_l3) (hF : f5_ai10rzii_l3_j2 k x1 x2 x10 x35 x36 x47 h0_ h0__1 h0__2 h0__3 h0__4 h0__5 h0__6 h0__7 h0__8 h0__9 h1_ h2_ m43 h3_ = some r) : SQ 5 k (nav B5 [2, 2, 2, 1, 2, 2, 1, 2, 2, 2, 2, 2, 2, 2]) (blockK 1 (EX 5 k (nav B5 [2, 2, 2, 2, 1, 2, 2, 1, 2, 2, 1, 2, 2, 2, 2, 2, 2, 2]) ({ n := 112, F := [(1, V.p (Value.int .i64 x1)), (2, V.p (Value.int .i64 x2)), (3, V.ptr 30000 0), (9, V.own 30002), (10, V.p (Value.int .i64 x10)), (13, V.own 43), (34, V.own 30003), (35, V.p (Value.int .i64 x35)), (36, V.p (Value.int .i64 x36)), (47, V.p (Value.bool x47))], M := [(30000, O.box 25 [V.p (Value.int .i64 h0_), V.p (Value.int .i64 h0__1), V.p (Value.int .u32 h0__2), V.p (Value.int .i64 h0__3), V.p (Value.int .i64 h0__4), V.p (Value.int .i64 h0__5), V.p (Value.int .i64 h0__6), V.p (Value.int .i64 h0__7), V.p (Value.int .i64 h0__8), V.p (Value.int .i64 h0__9), V.own 30001]), (30001, O.row false 1 5 (rowsOf (encI .u8) h1_)), (30002, O.row true 11 25 (rowsOf encT25 h2_)), (43, O.row true 11 25 (rowsOf encT25 m43)), (30003, O.row true 11 25 (rowsOf encT25 h3_))] } : St))) = some r.st := by
  unfold f5_ai10rzii_l3_j2 at hF
  replace hF := Option.bind_eq_some_iff.1 hF
  obtain ⟨o1, h2, hF⟩ := hF
  have hc3 := f5_ai10rzii_l3_l3_ok k k x1 x2 x10 x35 x36 ((List.length m43) : Int) 0 h0_ h0__1 h0__2 h0__3 h0__4 h0__5 h0__6 h0__7 h0__8 h0__9 h1_ h2_ m43 h3_ _ h2
  simp (maxSteps := 999999) (disch := first | exact D (by decide) | exact K (by kernel_rfl)) only [E, EE, ↓reduceIte, simprocAttr, xk B5 [2, 2, 2, 2, 1, 2, 2, 1, 2, 2, 1, 2, 2, 2, 2, 2, 2, 2] .sq rfl, xk B5 [1, 2, 2, 2, 2, 1, 2, 2, 1, 2, 2, 1, 2, 2, 2, 2, 2, 2, 2] .sq rfl, show (nav B5 [1, 1, 2, 2, 2, 2, 1, 2, 2, 1, 2, 2, 1, 2, 2, 2, 2, 2, 2, 2]) = Code.region 15 _ false from rfl, hk_5_15, hz_5_15, hs_5_15, u_28, i_28, is_28, ib_28, iz_28, xk B5 [2, 1, 2, 2, 2, 2, 1, 2, 2, 1, 2, 2, 1, 2, 2, 2, 2, 2, 2, 2] (.bk 2) rfl, xk B5 [2, 2, 1, 2, 2, 2, 2, 1, 2, 2, 1, 2, 2, 1, 2, 2, 2, 2, 2, 2, 2] .lp rfl, hh_5_16, hc_5_16]
  (try simp only [NM, EE] at hc3)
  rw [hc3 _ (by simp (maxSteps := 999999) (disch := first | exact D (by decide) | exact K (by kernel_rfl)) only [E, EE, ↓reduceIte, simprocAttr, hh_5_16, hc_5_16])]
  clear hc3
  cases o1 with
  | o0 v4 =>
    (try dsimp only at hF)
    cases hF
    simp (maxSteps := 999999) (disch := first | exact D (by decide) | exact K (by kernel_rfl)) only [E, EE, ↓reduceIte, simprocAttr, R5_ai10rzii_l3_l3.st, R5_ai10rzii_l3.st]
  | o1 _ _ _ _ _ _ _ _ _ _ _ _ _ _ _ _ _ _ _ _ _ =>
    (try dsimp only at hF)
    cases hF
  | o2 v5 v6 v7 v8 v9 v10 v11 v12 v13 v14 v15 v16 v17 v18 v19 v20 v21 v22 v23 v24 v25 v26 =>
    (try dsimp only at hF)
    have hJ := f5_ai10rzii_l3_j4_ok k v5 v6 v7 v8 v9 v10 v11 v12 v13 v14 v15 v16 v17 v18 v19 v20 v21 v22 v23 v24 v25 v26 _ hF
    simp (maxSteps := 999999) (disch := first | exact D (by decide) | exact K (by kernel_rfl)) only [E, EE, ↓reduceIte, simprocAttr, R5_ai10rzii_l3_l3.st]
    try simp only [NM, EE] at hJ
    exact hJ
noncomputable def f5_ai10rzii_l3_j1 (k : Nat) (x1 x2 x10 x35 x36 : Int) (x37 : Bool) (h0_ h0__1 h0__2 h0__3 h0__4 h0__5 h0__6 h0__7 h0__8 h0__9 : Int) (h1_ : List Int) (h2_ h3_ : List T25) : Option R5_ai10rzii_l3 :=
  ifE ((0 : Int) ≤ x36) (
    ifE (x36 < ((List.length h3_) : Int)) (
      Option.bind (h3_[(Int.toNat x36)]?) fun v3 =>
        Option.bind (f11_ai10rzi k v3.Source v3.Dest v3.Seq v3.Created v3.Lifetime v3.HopLimit v3.Hops v3.Priority v3.Offset v3.Total v3.Payload x2) fun o5 =>
          match o5 with
          | .o0 v8 v9 =>
            cond ((v8 != 0))
              (some (R5_ai10rzii_l3.o0 false))
              (f5_ai10rzii_l3_j2 k x1 x2 x10 x35 x36 false h0_ h0__1 h0__2 h0__3 h0__4 h0__5 h0__6 h0__7 h0__8 h0__9 h1_ h2_ v9 h3_)))
theorem f5_ai10rzii_l3_j1_ok (k : Nat) (x1 x2 x10 x35 x36 : Int) (x37 : Bool) (h0_ h0__1 h0__2 h0__3 h0__4 h0__5 h0__6 h0__7 h0__8 h0__9 : Int) (h1_ : List Int) (h2_ h3_ : List T25) (r : R5_ai10rzii_l3) (hF : f5_ai10rzii_l3_j1 k x1 x2 x10 x35 x36 x37 h0_ h0__1 h0__2 h0__3 h0__4 h0__5 h0__6 h0__7 h0__8 h0__9 h1_ h2_ h3_ = some r) : EX 5 k (nav B5 [2, 2, 1, 2, 2, 1, 2, 2, 2, 2, 2, 2, 2]) ({ n := 112, F := [(1, V.p (Value.int .i64 x1)), (2, V.p (Value.int .i64 x2)), (3, V.ptr 30000 0), (9, V.own 30002), (10, V.p (Value.int .i64 x10)), (34, V.own 30003), (35, V.p (Value.int .i64 x35)), (36, V.p (Value.int .i64 x36)), (37, V.p (Value.bool x37))], M := [(30000, O.box 25 [V.p (Value.int .i64 h0_), V.p (Value.int .i64 h0__1), V.p (Value.int .u32 h0__2), V.p (Value.int .i64 h0__3), V.p (Value.int .i64 h0__4), V.p (Value.int .i64 h0__5), V.p (Value.int .i64 h0__6), V.p (Value.int .i64 h0__7), V.p (Value.int .i64 h0__8), V.p (Value.int .i64 h0__9), V.own 30001]), (30001, O.row false 1 5 (rowsOf (encI .u8) h1_)), (30002, O.row true 11 25 (rowsOf encT25 h2_)), (30003, O.row true 11 25 (rowsOf encT25 h3_))] } : St) = some r.st := by
  unfold f5_ai10rzii_l3_j1 at hF
  replace hF := ifE_some.1 hF
  obtain ⟨h1, hF⟩ := hF
  replace hF := ifE_some.1 hF
  obtain ⟨h2, hF⟩ := hF
  replace hF := Option.bind_eq_some_iff.1 hF
  obtain ⟨v3, h4, hF⟩ := hF
  replace hF := Option.bind_eq_some_iff.1 hF
  obtain ⟨o5, h6, hF⟩ := hF
  have hc7 := f11_ai10rzi_ok k v3.Source v3.Dest v3.Seq v3.Created v3.Lifetime v3.HopLimit v3.Hops v3.Priority v3.Offset v3.Total v3.Payload x2 _ h6
  cases o5 with
  | o0 v8 v9 =>
    (try dsimp only at hF)
    (try simp only [NM, EE, R11_ai10rzi.st] at hc7)
    simp (maxSteps := 999999) (disch := first | exact D (by decide) | exact K (by kernel_rfl)) only [E, EE, ↓reduceIte, simprocAttr, xk B5 [2, 2, 1, 2, 2, 1, 2, 2, 2, 2, 2, 2, 2] .sq rfl, xk B5 [1, 2, 2, 1, 2, 2, 1, 2, 2, 2, 2, 2, 2, 2] (.bk 1) rfl, xk B5 [2, 1, 2, 2, 1, 2, 2, 1, 2, 2, 2, 2, 2, 2, 2] .sq rfl, show (nav B5 [1, 2, 1, 2, 2, 1, 2, 2, 1, 2, 2, 2, 2, 2, 2, 2]) = Code.region 11 _ false from rfl, hk_5_11, hz_5_11, hs_5_11, indexAddrV, u_28, i_28, is_28, ib_28, iz_28, u_25, i_25, is_25, ib_25, iz_25, encT25_eq, xk B5 [2, 2, 1, 2, 2, 1, 2, 2, 1, 2, 2, 2, 2, 2, 2, 2] .sq rfl, show (nav B5 [1, 2, 2, 1, 2, 2, 1, 2, 2, 1, 2, 2, 2, 2, 2, 2, 2]) = Code.region 12 _ false from rfl, hk_5_12, hz_5_12, hs_5_12, callStep, CL, gv, List.contains, xk B5 [2, 2, 2, 1, 2, 2, 1, 2, 2, 1, 2, 2, 2, 2, 2, 2, 2] .sq rfl, xk B5 [1, 2, 2, 2, 1, 2, 2, 1, 2, 2, 1, 2, 2, 2, 2, 2, 2, 2] .sq rfl, show (nav B5 [1, 1, 2, 2, 2, 1, 2, 2, 1, 2, 2, 1, 2, 2, 2, 2, 2, 2, 2]) = Code.region 13 _ false from rfl, hk_5_13, hz_5_13, hs_5_13, xk B5 [2, 1, 2, 2, 2, 1, 2, 2, 1, 2, 2, 1, 2, 2, 2, 2, 2, 2, 2] (.cd 47) rfl, h1, h2, h4, hc7]
    replace hF := cond_some hF
    rcases hF with ⟨h10, hF⟩ | ⟨h10, hF⟩
    · cases hF
      simp (maxSteps := 999999) (disch := first | exact D (by decide) | exact K (by kernel_rfl)) only [E, EE, ↓reduceIte, simprocAttr, xk B5 [2, 2, 1, 2, 2, 2, 1, 2, 2, 1, 2, 2, 1, 2, 2, 2, 2, 2, 2, 2] .sq rfl, show (nav B5 [1, 2, 2, 1, 2, 2, 2, 1, 2, 2, 1, 2, 2, 1, 2, 2, 2, 2, 2, 2, 2]) = Code.region 14 _ false from rfl, hk_5_14, hz_5_14, hs_5_14, xk B5 [2, 2, 2, 1, 2, 2, 2, 1, 2, 2, 1, 2, 2, 1, 2, 2, 2, 2, 2, 2, 2] .rt rfl, R5_ai10rzii_l3.st, h1, h2, h4, hc7, h10]
    · have hJ := f5_ai10rzii_l3_j2_ok k x1 x2 x10 x35 x36 false h0_ h0__1 h0__2 h0__3 h0__4 h0__5 h0__6 h0__7 h0__8 h0__9 h1_ h2_ v9 h3_ _ hF
      simp (maxSteps := 999999) (disch := first | exact D (by decide) | exact K (by kernel_rfl)) only [E, EE, ↓reduceIte, simprocAttr, xk B5 [3, 2, 1, 2, 2, 2, 1, 2, 2, 1, 2, 2, 1, 2, 2, 2, 2, 2, 2, 2] .sk rfl, h1, h2, h4, hc7, h10]
      try simp only [NM, EE] at hJ
      exact hJ
noncomputable def f5_ai10rzii_l3_b (k : Nat) (x1 x2 x10 x35 x36 h0_ h0__1 h0__2 h0__3 h0__4 h0__5 h0__6 h0__7 h0__8 h0__9 : Int) (h1_ : List Int) (h2_ h3_ : List T25) : Option R5_ai10rzii_l3 :=
  cond ((decide (x36 < x35)))
    (f5_ai10rzii_l3_j1 k x1 x2 x10 x35 x36 true h0_ h0__1 h0__2 h0__3 h0__4 h0__5 h0__6 h0__7 h0__8 h0__9 h1_ h2_ h3_)
    (some (R5_ai10rzii_l3.o2 x1 x2 x10 x35 x36 false h0_ h0__1 h0__2 h0__3 h0__4 h0__5 h0__6 h0__7 h0__8 h0__9 h1_ h2_ h3_))
theorem f5_ai10rzii_l3_b_ok (k : Nat) (x1 x2 x10 x35 x36 h0_ h0__1 h0__2 h0__3 h0__4 h0__5 h0__6 h0__7 h0__8 h0__9 : Int) (h1_ : List Int) (h2_ h3_ : List T25) (r : R5_ai10rzii_l3) (hF : f5_ai10rzii_l3_b k x1 x2 x10 x35 x36 h0_ h0__1 h0__2 h0__3 h0__4 h0__5 h0__6 h0__7 h0__8 h0__9 h1_ h2_ h3_ = some r) : EX 5 k (nav B5 [1, 2, 2, 1, 2, 2, 2, 2, 2, 2, 2]) ({ n := 112, F := [(1, V.p (Value.int .i64 x1)), (2, V.p (Value.int .i64 x2)), (3, V.ptr 30000 0), (9, V.own 30002), (10, V.p (Value.int .i64 x10)), (34, V.own 30003), (35, V.p (Value.int .i64 x35)), (36, V.p (Value.int .i64 x36))], M := [(30000, O.box 25 [V.p (Value.int .i64 h0_), V.p (Value.int .i64 h0__1), V.p (Value.int .u32 h0__2), V.p (Value.int .i64 h0__3), V.p (Value.int .i64 h0__4), V.p (Value.int .i64 h0__5), V.p (Value.int .i64 h0__6), V.p (Value.int .i64 h0__7), V.p (Value.int .i64 h0__8), V.p (Value.int .i64 h0__9), V.own 30001]), (30001, O.row false 1 5 (rowsOf (encI .u8) h1_)), (30002, O.row true 11 25 (rowsOf encT25 h2_)), (30003, O.row true 11 25 (rowsOf encT25 h3_))] } : St) = some r.st := by
  unfold f5_ai10rzii_l3_b at hF
  simp (maxSteps := 999999) (disch := first | exact D (by decide) | exact K (by kernel_rfl)) only [E, EE, ↓reduceIte, simprocAttr, xk B5 [1, 2, 2, 1, 2, 2, 2, 2, 2, 2, 2] .sq rfl, show (nav B5 [1, 1, 2, 2, 1, 2, 2, 2, 2, 2, 2, 2]) = Code.region 10 _ false from rfl, hk_5_10, hz_5_10, hs_5_10, xk B5 [2, 1, 2, 2, 1, 2, 2, 2, 2, 2, 2, 2] .sq rfl, xk B5 [1, 2, 1, 2, 2, 1, 2, 2, 2, 2, 2, 2, 2] (.cd 37) rfl]
  replace hF := cond_some hF
  rcases hF with ⟨h1, hF⟩ | ⟨h1, hF⟩
  · have hJ := f5_ai10rzii_l3_j1_ok k x1 x2 x10 x35 x36 true h0_ h0__1 h0__2 h0__3 h0__4 h0__5 h0__6 h0__7 h0__8 h0__9 h1_ h2_ h3_ _ hF
    simp (maxSteps := 999999) (disch := first | exact D (by decide) | exact K (by kernel_rfl)) only [E, EE, ↓reduceIte, simprocAttr, xk B5 [2, 1, 2, 1, 2, 2, 1, 2, 2, 2, 2, 2, 2, 2] .sk rfl, h1]
    try simp only [NM, EE] at hJ
    exact hJ
  · cases hF
    simp (maxSteps := 999999) (disch := first | exact D (by decide) | exact K (by kernel_rfl)) only [E, EE, ↓reduceIte, simprocAttr, xk B5 [3, 1, 2, 1, 2, 2, 1, 2, 2, 2, 2, 2, 2, 2] (.ex 0) rfl, R5_ai10rzii_l3.st, h1]
noncomputable def f5_ai10rzii_l3 (k : Nat) : Nat → Int → Int → Int → Int → Int → Int → Int → Int → Int → Int → Int → Int → Int → Int → Int → (List Int) → (List T25) → (List T25) → Option R5_ai10rzii_l3
  | 0, _, _, _, _, _, _, _, _, _, _, _, _, _, _, _, _, _, _ => none
  | n + 1, x1, x2, x10, x35, x36, h0_, h0__1, h0__2, h0__3, h0__4, h0__5, h0__6, h0__7, h0__8, h0__9, h1_, h2_, h3_ => Option.bind (f5_ai10rzii_l3_b k x1 x2 x10 x35 x36 h0_ h0__1 h0__2 h0__3 h0__4 h0__5 h0__6 h0__7 h0__8 h0__9 h1_ h2_ h3_) fun o =>
    match o with
    | .o0 y => some (.o0 y)
    | .o1 y y_1 y_2 y_3 y_4 y_5 y_6 y_7 y_8 y_9 y_10 y_11 y_12 y_13 y_14 y_15 y_16 y_17 => f5_ai10rzii_l3 k n y y_1 y_2 y_3 y_4 y_5 y_6 y_7 y_8 y_9 y_10 y_11 y_12 y_13 y_14 y_15 y_16 y_17
    | .o2 y y_1 y_2 y_3 y_4 y_5 y_6 y_7 y_8 y_9 y_10 y_11 y_12 y_13 y_14 y_15 y_16 y_17 y_18 => some (.o2 y y_1 y_2 y_3 y_4 y_5 y_6 y_7 y_8 y_9 y_10 y_11 y_12 y_13 y_14 y_15 y_16 y_17 y_18)
theorem f5_ai10rzii_l3_ok (k n : Nat) : ∀ (x1 x2 x10 x35 x36 h0_ h0__1 h0__2 h0__3 h0__4 h0__5 h0__6 h0__7 h0__8 h0__9 : Int) (h1_ : List Int) (h2_ h3_ : List T25) (r : R5_ai10rzii_l3) (hF : f5_ai10rzii_l3 k n x1 x2 x10 x35 x36 h0_ h0__1 h0__2 h0__3 h0__4 h0__5 h0__6 h0__7 h0__8 h0__9 h1_ h2_ h3_ = some r) (σ : St) (hσ : headR (hints.head 5 10) (hints.canon 5 10) σ = some ({ n := 112, F := [(1, V.p (Value.int .i64 x1)), (2, V.p (Value.int .i64 x2)), (3, V.ptr 30000 0), (9, V.own 30002), (10, V.p (Value.int .i64 x10)), (34, V.own 30003), (35, V.p (Value.int .i64 x35)), (36, V.p (Value.int .i64 x36))], M := [(30000, O.box 25 [V.p (Value.int .i64 h0_), V.p (Value.int .i64 h0__1), V.p (Value.int .u32 h0__2), V.p (Value.int .i64 h0__3), V.p (Value.int .i64 h0__4), V.p (Value.int .i64 h0__5), V.p (Value.int .i64 h0__6), V.p (Value.int .i64 h0__7), V.p (Value.int .i64 h0__8), V.p (Value.int .i64 h0__9), V.own 30001]), (30001, O.row false 1 5 (rowsOf (encI .u8) h1_)), (30002, O.row true 11 25 (rowsOf encT25 h2_)), (30003, O.row true 11 25 (rowsOf encT25 h3_))] } : St)), LP 5 k (nav B5 [1, 2, 2, 1, 2, 2, 2, 2, 2, 2, 2]) n σ = some r.st := by
  induction n with
  | zero => intro x1 x2 x10 x35 x36 h0_ h0__1 h0__2 h0__3 h0__4 h0__5 h0__6 h0__7 h0__8 h0__9 h1_ h2_ h3_ r hF; cases hF
  | succ n ih =>
    intro x1 x2 x10 x35 x36 h0_ h0__1 h0__2 h0__3 h0__4 h0__5 h0__6 h0__7 h0__8 h0__9 h1_ h2_ h3_ r hF σ hσ
    rw [f5_ai10rzii_l3] at hF
    obtain ⟨o, h, hF⟩ := Option.bind_eq_some_iff.1 hF
    have hB := f5_ai10rzii_l3_b_ok k x1 x2 x10 x35 x36 h0_ h0__1 h0__2 h0__3 h0__4 h0__5 h0__6 h0__7 h0__8 h0__9 h1_ h2_ h3_ o h
    unfold LP at ih ⊢
    unfold EX at hB
    rw [loopK_succ, show firstReg (nav B5 [1, 2, 2, 1, 2, 2, 2, 2, 2, 2, 2]) = 10 from rfl, hσ, headK_some, hB]
    cases o with
    | o0 y => cases hF; rfl
    | o1 y y_1 y_2 y_3 y_4 y_5 y_6 y_7 y_8 y_9 y_10 y_11 y_12 y_13 y_14 y_15 y_16 y_17 =>
      refine ih y y_1 y_2 y_3 y_4 y_5 y_6 y_7 y_8 y_9 y_10 y_11 y_12 y_13 y_14 y_15 y_16 y_17 r hF _ ?_
      simp (maxSteps := 999999) (disch := first | exact D (by decide) | exact K (by kernel_rfl)) only [E, EE, ↓reduceIte, simprocAttr, hh_5_10, hc_5_10]
    | o2 y y_1 y_2 y_3 y_4 y_5 y_6 y_7 y_8 y_9 y_10 y_11 y_12 y_13 y_14 y_15 y_16 y_17 y_18 => cases hF; rfl
noncomputable def f5_ai10rzii_j5 (k : Nat) (x86 : Bool) (h0_ h0__1 h0__2 h0__3 h0__4 h0__5 h0__6 h0__7 h0__8 h0__9 : Int) (h1_ : List Int) (h2_ : List T25) : Option R5_ai10rzii :=
  Option.bind (f18_r k h2_) fun o1 =>
    match o1 with
    | .o0 v4 v5 v6 v7 v8 v9 v10 v11 v12 v13 v14 v15 =>
      Option.bind (f19_ai10rz k h0_ h0__1 h0__2 h0__3 h0__4 h0__5 h0__6 h0__7 h0__8 h0__9 h1_) fun o16 =>
        match o16 with
        | .o0 v19 =>
          cond (v19)
            (
              cond ((v15 == 0))
                (
                  Option.bind (f20_ai10rzai10rz k h0_ h0__1 h0__2 h0__3 h0__4 h0__5 h0__6 h0__7 h0__8 h0__9 h1_ v4 v5 v6 v7 v8 v9 v10 v11 v12 v13 v14) fun o22 =>
                    match o22 with
                    | .o0 v25 =>
                      cond (v25)
                        (some (R5_ai10rzii.o0 true))
                        (some (R5_ai10rzii.o0 false)))
                (some (R5_ai10rzii.o0 false)))
            (some (R5_ai10rzii.o0 (v15 == 4)))
    | .o1 v36 v37 v38 v39 v40 v41 v42 v43 v44 v45 v46 v47 =>
      Option.bind (f19_ai10rz k h0_ h0__1 h0__2 h0__3 h0__4 h0__5 h0__6 h0__7 h0__8 h0__9 h1_) fun o48 =>
        match o48 with
        | .o0 v51 =>
          cond (v51)
            (
              cond ((v46 == 0))
                (
                  Option.bind (f20_ai10rzai10rz k h0_ h0__1 h0__2 h0__3 h0__4 h0__5 h0__6 h0__7 h0__8 h0__9 h1_ v36 v37 v38 v39 v40 v41 v42 v43 v44 v45 v47) fun o54 =>
                    match o54 with
                    | .o0 v57 =>
                      cond (v57)
                        (some (R5_ai10rzii.o0 true))
                        (some (R5_ai10rzii.o0 false)))
                (some (R5_ai10rzii.o0 false)))
            (some (R5_ai10rzii.o0 (v46 == 4)))
theorem f5_ai10rzii_j5_ok (k : Nat) (x86 : Bool) (h0_ h0__1 h0__2 h0__3 h0__4 h0__5 h0__6 h0__7 h0__8 h0__9 : Int) (h1_ : List Int) (h2_ : List T25) (r : R5_ai10rzii) (hF : f5_ai10rzii_j5 k x86 h0_ h0__1 h0__2 h0__3 h0__4 h0__5 h0__6 h0__7 h0__8 h0__9 h1_ h2_ = some r) : finK Try.prog Try.f5 0 (EX 5 k (nav B5 [2, 2, 2, 2, 2, 2, 2, 2, 2]) ({ n := 112, F := [(3, V.ptr 30000 0), (9, V.own 30002), (86, V.p (Value.bool x86))], M := [(30000, O.box 25 [V.p (Value.int .i64 h0_), V.p (Value.int .i64 h0__1), V.p (Value.int .u32 h0__2), V.p (Value.int .i64 h0__3), V.p (Value.int .i64 h0__4), V.p (Value.int .i64 h0__5), V.p (Value.int .i64 h0__6), V.p (Value.int .i64 h0__7), V.p (Value.int .i64 h0__8), V.p (Value.int .i64 h0__9), V.own 30001]), (30001, O.row false 1 5 (rowsOf (encI .u8) h1_)), (30002, O.row true 11 25 (rowsOf encT25 h2_))] } : St)) = some r.st := by
  unfold f5_ai10rzii_j5 at hF
  simp (maxSteps := 999999) (disch := first | exact D (by decide) | exact K (by kernel_rfl)) only [E, EE, ↓reduceIte, simprocAttr, xk B5 [2, 2, 2, 2, 2, 2, 2, 2, 2] .sq rfl, show (nav B5 [1, 2, 2, 2, 2, 2, 2, 2, 2, 2]) = Code.region 26 _ false from rfl, hk_5_26, hz_5_26, hs_5_26, callStep, CL, gv, List.contains]
  replace hF := Option.bind_eq_some_iff.1 hF
  obtain ⟨o1, h2, hF⟩ := hF
  have hc3 := f18_r_ok k h2_ _ h2
  cases o1 with
  | o0 v4 v5 v6 v7 v8 v9 v10 v11 v12 v13 v14 v15 =>
    (try dsimp only at hF)
    (try simp only [NM, EE, R18_r.st] at hc3)
    replace hF := Option.bind_eq_some_iff.1 hF
    obtain ⟨o16, h17, hF⟩ := hF
    have hc18 := f19_ai10rz_ok k h0_ h0__1 h0__2 h0__3 h0__4 h0__5 h0__6 h0__7 h0__8 h0__9 h1_ _ h17
    cases o16 with
    | o0 v19 =>
      (try dsimp only at hF)
      (try simp only [NM, EE, R19_ai10rz.st] at hc18)
      simp (maxSteps := 999999) (disch := first | exact D (by decide) | exact K (by kernel_rfl)) only [E, EE, ↓reduceIte, simprocAttr, u_25, i_25, is_25, ib_25, iz_25, xk B5 [2, 2, 2, 2, 2, 2, 2, 2, 2, 2] .sq rfl, show (nav B5 [1, 2, 2, 2, 2, 2, 2, 2, 2, 2, 2]) = Code.region 27 _ false from rfl, hk_5_27, hz_5_27, hs_5_27, callStep, CL, gv, List.contains, hc3, hc18]
      replace hF := cond_some hF
      rcases hF with ⟨h20, hF⟩ | ⟨h20, hF⟩
      · replace hF := cond_some hF
        rcases hF with ⟨h21, hF⟩ | ⟨h21, hF⟩
        · replace hF := Option.bind_eq_some_iff.1 hF
          obtain ⟨o22, h23, hF⟩ := hF
          have hc24 := f20_ai10rzai10rz_ok k h0_ h0__1 h0__2 h0__3 h0__4 h0__5 h0__6 h0__7 h0__8 h0__9 h1_ v4 v5 v6 v7 v8 v9 v10 v11 v12 v13 v14 _ h23
          cases o22 with
          | o0 v25 =>
            (try dsimp only at hF)
            (try simp only [NM, EE, R20_ai10rzai10rz.st] at hc24)
            simp (maxSteps := 999999) (disch := first | exact D (by decide) | exact K (by kernel_rfl)) only [E, EE, ↓reduceIte, simprocAttr, u_25, i_25, is_25, ib_25, iz_25, callStep, CL, gv, List.contains, hc3, hc18, h20, h21, hc24]
            replace hF := cond_some hF
            rcases hF with ⟨h26, hF⟩ | ⟨h26, hF⟩
            · cases hF
              simp (maxSteps := 999999) (disch := first | exact D (by decide) | exact K (by kernel_rfl)) only [E, EE, ↓reduceIte, simprocAttr, xk B5 [2, 2, 2, 2, 2, 2, 2, 2, 2, 2, 2] .rt rfl, finK_norm, finK_ret, fin5, R5_ai10rzii.st, hc3, hc18, h20, h21, hc24, h26]
            · cases hF
              simp (maxSteps := 999999) (disch := first | exact D (by decide) | exact K (by kernel_rfl)) only [E, EE, ↓reduceIte, simprocAttr, u_25, i_25, is_25, ib_25, iz_25, callStep, CL, gv, List.contains, xk B5 [2, 2, 2, 2, 2, 2, 2, 2, 2, 2, 2] .rt rfl, finK_norm, finK_ret, fin5, R5_ai10rzii.st, hc3, hc18, h20, h21, hc24, h26]
        · cases hF
          simp (maxSteps := 999999) (disch := first | exact D (by decide) | exact K (by kernel_rfl)) only [E, EE, ↓reduceIte, simprocAttr, u_25, i_25, is_25, ib_25, iz_25, callStep, CL, gv, List.contains, xk B5 [2, 2, 2, 2, 2, 2, 2, 2, 2, 2, 2] .rt rfl, finK_norm, finK_ret, fin5, R5_ai10rzii.st, hc3, hc18, h20, h21]
      · cases hF
        simp (maxSteps := 999999) (disch := first | exact D (by decide) | exact K (by kernel_rfl)) only [E, EE, ↓reduceIte, simprocAttr, u_25, i_25, is_25, ib_25, iz_25, callStep, CL, gv, List.contains, xk B5 [2, 2, 2, 2, 2, 2, 2, 2, 2, 2, 2] .rt rfl, finK_norm, finK_ret, fin5, R5_ai10rzii.st, hc3, hc18, h20]
  | o1 v36 v37 v38 v39 v40 v41 v42 v43 v44 v45 v46 v47 =>
    (try dsimp only at hF)
    (try simp only [NM, EE, R18_r.st] at hc3)
    replace hF := Option.bind_eq_some_iff.1 hF
    obtain ⟨o48, h49, hF⟩ := hF
    have hc50 := f19_ai10rz_ok k h0_ h0__1 h0__2 h0__3 h0__4 h0__5 h0__6 h0__7 h0__8 h0__9 h1_ _ h49
    cases o48 with
    | o0 v51 =>
      (try dsimp only at hF)
      (try simp only [NM, EE, R19_ai10rz.st] at hc50)
      simp (maxSteps := 999999) (disch := first | exact D (by decide) | exact K (by kernel_rfl)) only [E, EE, ↓reduceIte, simprocAttr, u_25, i_25, is_25, ib_25, iz_25, xk B5 [2, 2, 2, 2, 2, 2, 2, 2, 2, 2] .sq rfl, show (nav B5 [1, 2, 2, 2, 2, 2, 2, 2, 2, 2, 2]) = Code.region 27 _ false from rfl, hk_5_27, hz_5_27, hs_5_27, callStep, CL, gv, List.contains, hc3, hc50]
      replace hF := cond_some hF
      rcases hF with ⟨h52, hF⟩ | ⟨h52, hF⟩
      · replace hF := cond_some hF
        rcases hF with ⟨h53, hF⟩ | ⟨h53, hF⟩
        · replace hF := Option.bind_eq_some_iff.1 hF
          obtain ⟨o54, h55, hF⟩ := hF
          have hc56 := f20_ai10rzai10rz_ok k h0_ h0__1 h0__2 h0__3 h0__4 h0__5 h0__6 h0__7 h0__8 h0__9 h1_ v36 v37 v38 v39 v40 v41 v42 v43 v44 v45 v47 _ h55
          cases o54 with
          | o0 v57 =>
            (try dsimp only at hF)
            (try simp only [NM, EE, R20_ai10rzai10rz.st] at hc56)
            simp (maxSteps := 999999) (disch := first | exact D (by decide) | exact K (by kernel_rfl)) only [E, EE, ↓reduceIte, simprocAttr, u_25, i_25, is_25, ib_25, iz_25, callStep, CL, gv, List.contains, hc3, hc50, h52, h53, hc56]
            replace hF := cond_some hF
            rcases hF with ⟨h58, hF⟩ | ⟨h58, hF⟩
            · cases hF
              simp (maxSteps := 999999) (disch := first | exact D (by decide) | exact K (by kernel_rfl)) only [E, EE, ↓reduceIte, simprocAttr, xk B5 [2, 2, 2, 2, 2, 2, 2, 2, 2, 2, 2] .rt rfl, finK_norm, finK_ret, fin5, R5_ai10rzii.st, hc3, hc50, h52, h53, hc56, h58]
            · cases hF
              simp (maxSteps := 999999) (disch := first | exact D (by decide) | exact K (by kernel_rfl)) only [E, EE, ↓reduceIte, simprocAttr, u_25, i_25, is_25, ib_25, iz_25, callStep, CL, gv, List.contains, xk B5 [2, 2, 2, 2, 2, 2, 2, 2, 2, 2, 2] .rt rfl, finK_norm, finK_ret, fin5, R5_ai10rzii.st, hc3, hc50, h52, h53, hc56, h58]
        · cases hF
          simp (maxSteps := 999999) (disch := first | exact D (by decide) | exact K (by kernel_rfl)) only [E, EE, ↓reduceIte, simprocAttr, u_25, i_25, is_25, ib_25, iz_25, callStep, CL, gv, List.contains, xk B5 [2, 2, 2, 2, 2, 2, 2, 2, 2, 2, 2] .rt rfl, finK_norm, finK_ret, fin5, R5_ai10rzii.st, hc3, hc50, h52, h53]
      · cases hF
        simp (maxSteps := 999999) (disch := first | exact D (by decide) | exact K (by kernel_rfl)) only [E, EE, ↓reduceIte, simprocAttr, u_25, i_25, is_25, ib_25, iz_25, callStep, CL, gv, List.contains, xk B5 [2, 2, 2, 2, 2, 2, 2, 2, 2, 2, 2] .rt rfl, finK_norm, finK_ret, fin5, R5_ai10rzii.st, hc3, hc50, h52]
noncomputable def f5_ai10rzii_j4 (k : Nat) (x1 x2 x10 x35 x36 : Int) (x37 : Bool) (h0_ h0__1 h0__2 h0__3 h0__4 h0__5 h0__6 h0__7 h0__8 h0__9 : Int) (h1_ : List Int) (h2_ h3_ : List T25) : Option R5_ai10rzii :=
  cond ((x10 != ((List.length h1_) : Int)))
    (some (R5_ai10rzii.o0 false))
    (f5_ai10rzii_j5 k false h0_ h0__1 h0__2 h0__3 h0__4 h0__5 h0__6 h0__7 h0__8 h0__9 h1_ h2_)
theorem f5_ai10rzii_j4_ok (k : Nat) (x1 x2 x10 x35 x36 : Int) (x37 : Bool) (h0_ h0__1 h0__2 h0__3 h0__4 h0__5 h0__6 h0__7 h0__8 h0__9 : Int) (h1_ : List Int) (h2_ h3_ : List T25) (r : R5_ai10rzii) (hF : f5_ai10rzii_j4 k x1 x2 x10 x35 x36 x37 h0_ h0__1 h0__2 h0__3 h0__4 h0__5 h0__6 h0__7 h0__8 h0__9 h1_ h2_ h3_ = some r) : finK Try.prog Try.f5 0 (EX 5 k (nav B5 [2, 2, 2, 2, 2, 2, 2, 2]) ({ n := 112, F := [(1, V.p (Value.int .i64 x1)), (2, V.p (Value.int .i64 x2)), (3, V.ptr 30000 0), (9, V.own 30002), (10, V.p (Value.int .i64 x10)), (34, V.own 30003), (35, V.p (Value.int .i64 x35)), (36, V.p (Value.int .i64 x36)), (37, V.p (Value.bool x37))], M := [(30000, O.box 25 [V.p (Value.int .i64 h0_), V.p (Value.int .i64 h0__1), V.p (Value.int .u32 h0__2), V.p (Value.int .i64 h0__3), V.p (Value.int .i64 h0__4), V.p (Value.int .i64 h0__5), V.p (Value.int .i64 h0__6), V.p (Value.int .i64 h0__7), V.p (Value.int .i64 h0__8), V.p (Value.int .i64 h0__9), V.own 30001]), (30001, O.row false 1 5 (rowsOf (encI .u8) h1_)), (30002, O.row true 11 25 (rowsOf encT25 h2_)), (30003, O.row true 11 25 (rowsOf encT25 h3_))] } : St)) = some r.st := by
  unfold f5_ai10rzii_j4 at hF
  simp (maxSteps := 999999) (disch := first | exact D (by decide) | exact K (by kernel_rfl)) only [E, EE, ↓reduceIte, simprocAttr, xk B5 [2, 2, 2, 2, 2, 2, 2, 2] .sq rfl, xk B5 [1, 2, 2, 2, 2, 2, 2, 2, 2] .sq rfl, show (nav B5 [1, 1, 2, 2, 2, 2, 2, 2, 2, 2]) = Code.region 24 _ false from rfl, hk_5_24, hz_5_24, hs_5_24, fieldAddrV, u_25, i_25, is_25, ib_25, iz_25, u_23, i_23, is_23, ib_23, iz_23, xk B5 [2, 1, 2, 2, 2, 2, 2, 2, 2, 2] (.cd 86) rfl]
  replace hF := cond_some hF
  rcases hF with ⟨h1, hF⟩ | ⟨h1, hF⟩
  · cases hF
    simp (maxSteps := 999999) (disch := first | exact D (by decide) | exact K (by kernel_rfl)) only [E, EE, ↓reduceIte, simprocAttr, xk B5 [2, 2, 1, 2, 2, 2, 2, 2, 2, 2, 2] .sq rfl, show (nav B5 [1, 2, 2, 1, 2, 2, 2, 2, 2, 2, 2, 2]) = Code.region 25 _ false from rfl, hk_5_25, hz_5_25, hs_5_25, xk B5 [2, 2, 2, 1, 2, 2, 2, 2, 2, 2, 2, 2] .rt rfl, finK_norm, finK_ret, fin5, R5_ai10rzii.st, h1]
  · have hJ := f5_ai10rzii_j5_ok k false h0_ h0__1 h0__2 h0__3 h0__4 h0__5 h0__6 h0__7 h0__8 h0__9 h1_ h2_ _ hF
    simp (maxSteps := 999999) (disch := first | exact D (by decide) | exact K (by kernel_rfl)) only [E, EE, ↓reduceIte, simprocAttr, xk B5 [3, 2, 1, 2, 2, 2, 2, 2, 2, 2, 2] .sk rfl, h1]
    try simp only [NM, EE] at hJ
    exact hJ
noncomputable def f5_ai10rzii_j2 (k : Nat) (x1 x2 : Int) (x33 : Bool) (m3 m3_1 m3_2 m3_3 m3_4 m3_5 m3_6 m3_7 m3_8 m3_9 : Int) (m21 : List Int) (m25 : List T25) : Option R5_ai10rzii :=
  Option.bind (f5_ai10rzii_l3 k k x1 x2 0 ((List.length m25) : Int) 0 m3 m3_1 m3_2 m3_3 m3_4 m3_5 m3_6 m3_7 m3_8 m3_9 m21 [] m25) fun o1 =>
    match o1 with
    | .o0 v4 =>
      some (R5_ai10rzii.o0 v4)
    | .o1 _ _ _ _ _ _ _ _ _ _ _ _ _ _ _ _ _ _ =>
      none
    | .o2 v5 v6 v7 v8 v9 v10 v11 v12 v13 v14 v15 v16 v17 v18 v19 v20 v21 v22 v23 =>
      f5_ai10rzii_j4 k v5 v6 v7 v8 v9 v10 v11 v12 v13 v14 v15 v16 v17 v18 v19 v20 v21 v22 v23
theorem f5_ai10rzii_j2_ok (k : Nat) (x1 x2 : Int) (x33 : Bool) (m3 m3_1 m3_2 m3_3 m3_4 m3_5 m3_6 m3_7 m3_8 m3_9 : Int) (m21 : List Int) (m25 : List T25) (r : R5_ai10rzii) (hF : f5_ai10rzii_j2 k x1 x2 x33 m3 m3_1 m3_2 m3_3 m3_4 m3_5 m3_6 m3_7 m3_8 m3_9 m21 m25 = some r) : finK Try.prog Try.f5 0 (EX 5 k (nav B5 [2, 2, 2, 2, 2]) ({ n := 112, F := [(1, V.p (Value.int .i64 x1)), (2, V.p (Value.int .i64 x2)), (3, V.ptr 3 0), (7, V.own 25), (33, V.p (Value.bool x33))], M := [(3, O.box 25 [V.p (Value.int .i64 m3), V.p (Value.int .i64 m3_1), V.p (Value.int .u32 m3_2), V.p (Value.int .i64 m3_3), V.p (Value.int .i64 m3_4), V.p (Value.int .i64 m3_5), V.p (Value.int .i64 m3_6), V.p (Value.int .i64 m3_7), V.p (Value.int .i64 m3_8), V.p (Value.int .i64 m3_9), V.own 21]), (21, O.row false 1 5 (rowsOf (encI .u8) m21)), (25, O.row true 11 25 (rowsOf encT25 m25))] } : St)) = some r.st := by
  unfold f5_ai10rzii_j2 at hF
  replace hF := Option.bind_eq_some_iff.1 hF
  obtain ⟨o1, h2, hF⟩ := hF
  have hc3 := f5_ai10rzii_l3_ok k k x1 x2 0 ((List.length m25) : Int) 0 m3 m3_1 m3_2 m3_3 m3_4 m3_5 m3_6 m3_7 m3_8 m3_9 m21 [] m25 _ h2
  simp (maxSteps := 999999) (disch := first | exact D (by decide) | exact K (by kernel_rfl)) only [E, EE, ↓reduceIte, simprocAttr, xk B5 [2, 2, 2, 2, 2] .sq rfl, show (nav B5 [1, 2, 2, 2, 2, 2]) = Code.region 7 _ false from rfl, hk_5_7, hz_5_7, hs_5_7, xk B5 [2, 2, 2, 2, 2, 2] .sq rfl, show (nav B5 [1, 2, 2, 2, 2, 2, 2]) = Code.region 8 _ false from rfl, hk_5_8, hz_5_8, hs_5_8, xk B5 [2, 2, 2, 2, 2, 2, 2] .sq rfl, xk B5 [1, 2, 2, 2, 2, 2, 2, 2] .sq rfl, show (nav B5 [1, 1, 2, 2, 2, 2, 2, 2, 2]) = Code.region 9 _ false from rfl, hk_5_9, hz_5_9, hs_5_9, u_28, i_28, is_28, ib_28, iz_28, xk B5 [2, 1, 2, 2, 2, 2, 2, 2, 2] (.bk 0) rfl, xk B5 [2, 2, 1, 2, 2, 2, 2, 2, 2, 2] .lp rfl, hh_5_10, hc_5_10]
  (try simp only [NM, EE] at hc3)
  rw [hc3 _ (by simp (maxSteps := 999999) (disch := first | exact D (by decide) | exact K (by kernel_rfl)) only [E, EE, ↓reduceIte, simprocAttr, hh_5_10, hc_5_10])]
  clear hc3
  cases o1 with
  | o0 v4 =>
    (try dsimp only at hF)
    cases hF
    simp (maxSteps := 999999) (disch := first | exact D (by decide) | exact K (by kernel_rfl)) only [E, EE, ↓reduceIte, simprocAttr, R5_ai10rzii_l3.st, finK_norm, finK_ret, fin5, R5_ai10rzii.st]
  | o1 _ _ _ _ _ _ _ _ _ _ _ _ _ _ _ _ _ _ =>
    (try dsimp only at hF)
    cases hF
  | o2 v5 v6 v7 v8 v9 v10 v11 v12 v13 v14 v15 v16 v17 v18 v19 v20 v21 v22 v23 =>
    (try dsimp only at hF)
    have hJ := f5_ai10rzii_j4_ok k v5 v6 v7 v8 v9 v10 v11 v12 v13 v14 v15 v16 v17 v18 v19 v20 v21 v22 v23 _ hF
    simp (maxSteps := 999999) (disch := first | exact D (by decide) | exact K (by kernel_rfl)) only [E, EE, ↓reduceIte, simprocAttr, R5_ai10rzii_l3.st]
    try simp only [NM, EE] at hJ
    exact hJ
noncomputable def f5_ai10rzii_j1 (k : Nat) (x1 x2 : Int) (x19 : Bool) (m3 m3_1 m3_2 m3_3 m3_4 m3_5 m3_6 m3_7 m3_8 m3_9 : Int) (m3_10 : List Int) : Option R5_ai10rzii :=
  Option.bind (f10_ai10rz k m3 m3_1 m3_2 m3_3 m3_4 m3_5 m3_6 m3_7 m3_8 m3_9 m3_10) fun o1 =>
    match o1 with
    | .o0 v4 v5 v6 v7 v8 v9 v10 v11 v12 v13 v14 =>
      Option.bind (f11_ai10rzi k v4 v5 v6 v7 v8 v9 v10 v11 v12 v13 v14 x1) fun o15 =>
        match o15 with
        | .o0 v18 v19 =>
          cond ((v18 != 0))
            (some (R5_ai10rzii.o0 true))
            (
              cond ((decide (x2 < 1)))
                (some (R5_ai10rzii.o0 true))
                (f5_ai10rzii_j2 k x1 x2 false v4 v5 v6 v7 v8 v9 v10 v11 v12 v13 v14 v19))
theorem f5_ai10rzii_j1_ok (k : Nat) (x1 x2 : Int) (x19 : Bool) (m3 m3_1 m3_2 m3_3 m3_4 m3_5 m3_6 m3_7 m3_8 m3_9 : Int) (m3_10 : List Int) (r : R5_ai10rzii) (hF : f5_ai10rzii_j1 k x1 x2 x19 m3 m3_1 m3_2 m3_3 m3_4 m3_5 m3_6 m3_7 m3_8 m3_9 m3_10 = some r) : finK Try.prog Try.f5 0 (EX 5 k (nav B5 [2, 2]) ({ n := 112, F := [(1, V.p (Value.int .i64 x1)), (2, V.p (Value.int .i64 x2)), (3, V.ptr 3 0), (19, V.p (Value.bool x19))], M := [(3, O.box 25 [V.p (Value.int .i64 m3), V.p (Value.int .i64 m3_1), V.p (Value.int .u32 m3_2), V.p (Value.int .i64 m3_3), V.p (Value.int .i64 m3_4), V.p (Value.int .i64 m3_5), V.p (Value.int .i64 m3_6), V.p (Value.int .i64 m3_7), V.p (Value.int .i64 m3_8), V.p (Value.int .i64 m3_9), V.sl 1 (rowsOf (encI .u8) m3_10)])] } : St)) = some r.st := by
  unfold f5_ai10rzii_j1 at hF
  replace hF := Option.bind_eq_some_iff.1 hF
  obtain ⟨o1, h2, hF⟩ := hF
  have hc3 := f10_ai10rz_ok k m3 m3_1 m3_2 m3_3 m3_4 m3_5 m3_6 m3_7 m3_8 m3_9 m3_10 _ h2
  cases o1 with
  | o0 v4 v5 v6 v7 v8 v9 v10 v11 v12 v13 v14 =>
    (try dsimp only at hF)
    (try simp only [NM, EE, R10_ai10rz.st] at hc3)
    replace hF := Option.bind_eq_some_iff.1 hF
    obtain ⟨o15, h16, hF⟩ := hF
    have hc17 := f11_ai10rzi_ok k v4 v5 v6 v7 v8 v9 v10 v11 v12 v13 v14 x1 _ h16
    cases o15 with
    | o0 v18 v19 =>
      (try dsimp only at hF)
      (try simp only [NM, EE, R11_ai10rzi.st] at hc17)
      simp (maxSteps := 999999) (disch := first | exact D (by decide) | exact K (by kernel_rfl)) only [E, EE, ↓reduceIte, simprocAttr, xk B5 [2, 2] .sq rfl, show (nav B5 [1, 2, 2]) = Code.region 3 _ false from rfl, hk_5_3, hz_5_3, hs_5_3, u_25, i_25, is_25, ib_25, iz_25, callStep, CL, gv, List.contains, xk B5 [2, 2, 2] .sq rfl, show (nav B5 [1, 2, 2, 2]) = Code.region 4 _ false from rfl, hk_5_4, hz_5_4, hs_5_4, xk B5 [2, 2, 2, 2] .sq rfl, xk B5 [1, 2, 2, 2, 2] .sq rfl, show (nav B5 [1, 1, 2, 2, 2, 2]) = Code.region 5 _ false from rfl, hk_5_5, hz_5_5, hs_5_5, hc3, hc17]
      replace hF := cond_some hF
      rcases hF with ⟨h20, hF⟩ | ⟨h20, hF⟩
      · cases hF
        simp (maxSteps := 999999) (disch := first | exact D (by decide) | exact K (by kernel_rfl)) only [E, EE, ↓reduceIte, simprocAttr, xk B5 [2, 1, 2, 2, 2, 2] (.cd 33) rfl, xk B5 [2, 2, 1, 2, 2, 2, 2] .sq rfl, show (nav B5 [1, 2, 2, 1, 2, 2, 2, 2]) = Code.region 6 _ false from rfl, hk_5_6, hz_5_6, hs_5_6, xk B5 [2, 2, 2, 1, 2, 2, 2, 2] .rt rfl, finK_norm, finK_ret, fin5, R5_ai10rzii.st, hc3, hc17, h20]
      · simp (maxSteps := 999999) (disch := first | exact D (by decide) | exact K (by kernel_rfl)) only [E, EE, ↓reduceIte, simprocAttr, xk B5 [2, 1, 2, 2, 2, 2] (.cd 33) rfl, hc3, hc17, h20]
        replace hF := cond_some hF
        rcases hF with ⟨h21, hF⟩ | ⟨h21, hF⟩
        · cases hF
          simp (maxSteps := 999999) (disch := first | exact D (by decide) | exact K (by kernel_rfl)) only [E, EE, ↓reduceIte, simprocAttr, xk B5 [2, 2, 1, 2, 2, 2, 2] .sq rfl, show (nav B5 [1, 2, 2, 1, 2, 2, 2, 2]) = Code.region 6 _ false from rfl, hk_5_6, hz_5_6, hs_5_6, xk B5 [2, 2, 2, 1, 2, 2, 2, 2] .rt rfl, finK_norm, finK_ret, fin5, R5_ai10rzii.st, hc3, hc17, h20, h21]
        · have hJ := f5_ai10rzii_j2_ok k x1 x2 false v4 v5 v6 v7 v8 v9 v10 v11 v12 v13 v14 v19 _ hF
          simp (maxSteps := 999999) (disch := first | exact D (by decide) | exact K (by kernel_rfl)) only [E, EE, ↓reduceIte, simprocAttr, xk B5 [3, 2, 1, 2, 2, 2, 2] .sk rfl, hc3, hc17, h20, h21]
          try simp only [NM, EE] at hJ
          exact hJ
noncomputable def f5_ai10rzii_e (k : Nat) (a0 a0_1 a0_2 a0_3 a0_4 a0_5 a0_6 a0_7 a0_8 a0_9 : Int) (a0_10 : List Int) (a1 a2 : Int) : Option R5_ai10rzii :=
  Option.bind (f9_ k) fun o1 =>
    match o1 with
    | .o0 v4 =>
      cond ((!v4))
        (some (R5_ai10rzii.o0 false))
        (f5_ai10rzii_j1 k a1 a2 false a0 a0_1 a0_2 a0_3 a0_4 a0_5 a0_6 a0_7 a0_8 a0_9 a0_10)
theorem f5_ai10rzii_e_ok (k : Nat) (a0 a0_1 a0_2 a0_3 a0_4 a0_5 a0_6 a0_7 a0_8 a0_9 : Int) (a0_10 : List Int) (a1 a2 : Int) (r : R5_ai10rzii) (hF : f5_ai10rzii_e k a0 a0_1 a0_2 a0_3 a0_4 a0_5 a0_6 a0_7 a0_8 a0_9 a0_10 a1 a2 = some r) : finK Try.prog Try.f5 0 (EX 5 k (nav B5 []) ({ n := 112, F := [(0, V.agg [V.p (Value.int .i64 a0), V.p (Value.int .i64 a0_1), V.p (Value.int .u32 a0_2), V.p (Value.int .i64 a0_3), V.p (Value.int .i64 a0_4), V.p (Value.int .i64 a0_5), V.p (Value.int .i64 a0_6), V.p (Value.int .i64 a0_7), V.p (Value.int .i64 a0_8), V.p (Value.int .i64 a0_9), V.sl 1 (rowsOf (encI .u8) a0_10)]), (1, V.p (Value.int .i64 a1)), (2, V.p (Value.int .i64 a2))], M := [] } : St)) = some r.st := by
  unfold f5_ai10rzii_e at hF
  replace hF := Option.bind_eq_some_iff.1 hF
  obtain ⟨o1, h2, hF⟩ := hF
  have hc3 := f9__ok k _ h2
  cases o1 with
  | o0 v4 =>
    (try dsimp only at hF)
    (try simp only [NM, EE, R9_.st] at hc3)
    simp (maxSteps := 999999) (disch := first | exact D (by decide) | exact K (by kernel_rfl)) only [E, EE, ↓reduceIte, simprocAttr, xk B5 [] .sq rfl, show (nav B5 [1]) = Code.region 0 _ false from rfl, hk_5_0, hz_5_0, hs_5_0, xk B5 [2] .sq rfl, xk B5 [1, 2] .sq rfl, show (nav B5 [1, 1, 2]) = Code.region 1 _ false from rfl, hk_5_1, hz_5_1, hs_5_1, callStep, CL, gv, List.contains, xk B5 [2, 1, 2] (.cd 19) rfl, hc3]
    replace hF := cond_some hF
    rcases hF with ⟨h5, hF⟩ | ⟨h5, hF⟩
    · cases hF
      simp (maxSteps := 999999) (disch := first | exact D (by decide) | exact K (by kernel_rfl)) only [E, EE, ↓reduceIte, simprocAttr, xk B5 [2, 2, 1, 2] .sq rfl, show (nav B5 [1, 2, 2, 1, 2]) = Code.region 2 _ false from rfl, hk_5_2, hz_5_2, hs_5_2, xk B5 [2, 2, 2, 1, 2] .rt rfl, finK_norm, finK_ret, fin5, R5_ai10rzii.st, hc3, h5]
    · have hJ := f5_ai10rzii_j1_ok k a1 a2 false a0 a0_1 a0_2 a0_3 a0_4 a0_5 a0_6 a0_7 a0_8 a0_9 a0_10 _ hF
      simp (maxSteps := 999999) (disch := first | exact D (by decide) | exact K (by kernel_rfl)) only [E, EE, ↓reduceIte, simprocAttr, xk B5 [3, 2, 1, 2] .sk rfl, hc3, h5]
      try simp only [NM, EE] at hJ
      exact hJ
noncomputable def f5_ai10rzii (k : Nat) (a0 a0_1 a0_2 a0_3 a0_4 a0_5 a0_6 a0_7 a0_8 a0_9 : Int) (a0_10 : List Int) (a1 a2 : Int) : Option R5_ai10rzii := match k with | 0 => none | k + 1 => f5_ai10rzii_e k a0 a0_1 a0_2 a0_3 a0_4 a0_5 a0_6 a0_7 a0_8 a0_9 a0_10 a1 a2
theorem f5_ai10rzii_ok (k : Nat) (a0 a0_1 a0_2 a0_3 a0_4 a0_5 a0_6 a0_7 a0_8 a0_9 : Int) (a0_10 : List Int) (a1 a2 : Int) (r : R5_ai10rzii) (hF : f5_ai10rzii k a0 a0_1 a0_2 a0_3 a0_4 a0_5 a0_6 a0_7 a0_8 a0_9 a0_10 a1 a2 = some r) : CV k 5 [V.agg [V.p (Value.int .i64 a0), V.p (Value.int .i64 a0_1), V.p (Value.int .u32 a0_2), V.p (Value.int .i64 a0_3), V.p (Value.int .i64 a0_4), V.p (Value.int .i64 a0_5), V.p (Value.int .i64 a0_6), V.p (Value.int .i64 a0_7), V.p (Value.int .i64 a0_8), V.p (Value.int .i64 a0_9), V.sl 1 (rowsOf (encI .u8) a0_10)], V.p (Value.int .i64 a1), V.p (Value.int .i64 a2)] [] = some r.st := by
  cases k with
  | zero => cases hF
  | succ k =>
    unfold CV
    rw [ev_call (F := Try.f5) (c := (nav B5 [])) rfl Try.func5 rfl rfl rfl rfl]
    exact f5_ai10rzii_e_ok k a0 a0_1 a0_2 a0_3 a0_4 a0_5 a0_6 a0_7 a0_8 a0_9 a0_10 a1 a2 r hF
end Go.Proofs.YteggcokgkcfliaaV
