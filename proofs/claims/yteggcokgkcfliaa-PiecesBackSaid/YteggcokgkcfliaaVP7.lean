/- What the program's functions answer: plain functions, and that the interpreter answers what they do. Written by a program of this session, out of the translation. -/
import Derived.Test.YteggcokgkcfliaaVP6
namespace Go.Proofs.YteggcokgkcfliaaV
open Go
set_option linter.unusedVariables false
set_option linter.unusedSimpArgs false
set_option maxRecDepth 8000
set_option maxHeartbeats 4000000
-- f7_ai10rzir: f7 heliograph/heliographlaw18.PiecesBack
inductive R7_ai10rzir where
  | o0 (y : Bool)
noncomputable def R7_ai10rzir.st : R7_ai10rzir → V × List O × List O
  | .o0 y => (V.p (Value.bool y), [], [])
inductive R7_ai10rzir_l3 where
  | o0 (y : Int) (y_1 : List Int) (y_2 y_3 : Int) (y_4 : Bool) (y_5 y_6 y_7 y_8 y_9 y_10 y_11 y_12 y_13 y_14 : Int) (y_15 : List Int) (y_16 y_17 : List T25)
  | o1 (y : List Int) (y_1 y_2 y_3 y_4 y_5 y_6 y_7 y_8 y_9 y_10 y_11 y_12 : Int) (y_13 : List Int) (y_14 y_15 : List T25)
  | o2 (y : List Int) (y_1 y_2 : Int) (y_3 : Bool) (y_4 y_5 y_6 y_7 y_8 y_9 y_10 y_11 y_12 y_13 : Int) (y_14 : List Int) (y_15 y_16 : List T25)
noncomputable def R7_ai10rzir_l3.st : R7_ai10rzir_l3 → Out × St
  | .o0 y y_1 y_2 y_3 y_4 y_5 y_6 y_7 y_8 y_9 y_10 y_11 y_12 y_13 y_14 y_15 y_16 y_17 => (.exit 0, ({ n := 108, F := [(3, V.ptr 30000 0), (7, V.own 30002), (9, V.own 30003), (11, V.p (Value.int .i64 y)), (31, V.sl 1 (rowsOf (encI .i64) y_1)), (32, V.p (Value.int .i64 y_2)), (33, V.p (Value.int .i64 y_3)), (39, V.p (Value.bool y_4))], M := [(30000, O.box 25 [V.p (Value.int .i64 y_5), V.p (Value.int .i64 y_6), V.p (Value.int .u32 y_7), V.p (Value.int .i64 y_8), V.p (Value.int .i64 y_9), V.p (Value.int .i64 y_10), V.p (Value.int .i64 y_11), V.p (Value.int .i64 y_12), V.p (Value.int .i64 y_13), V.p (Value.int .i64 y_14), V.own 30001]), (30001, O.row false 1 5 (rowsOf (encI .u8) y_15)), (30002, O.row true 11 25 (rowsOf encT25 y_16)), (30003, O.row true 11 25 (rowsOf encT25 y_17))] } : St))
  | .o1 y y_1 y_2 y_3 y_4 y_5 y_6 y_7 y_8 y_9 y_10 y_11 y_12 y_13 y_14 y_15 => (.norm, ({ n := 108, F := [(3, V.ptr 30000 0), (7, V.own 30002), (9, V.own 52), (31, V.sl 1 (rowsOf (encI .i64) y)), (32, V.p (Value.int .i64 y_1)), (33, V.p (Value.int .i64 y_2))], M := [(30000, O.box 25 [V.p (Value.int .i64 y_3), V.p (Value.int .i64 y_4), V.p (Value.int .u32 y_5), V.p (Value.int .i64 y_6), V.p (Value.int .i64 y_7), V.p (Value.int .i64 y_8), V.p (Value.int .i64 y_9), V.p (Value.int .i64 y_10), V.p (Value.int .i64 y_11), V.p (Value.int .i64 y_12), V.own 30001]), (30001, O.row false 1 5 (rowsOf (encI .u8) y_13)), (30002, O.row true 11 25 (rowsOf encT25 y_14)), (52, O.row true 11 25 (rowsOf encT25 y_15))] } : St))
  | .o2 y y_1 y_2 y_3 y_4 y_5 y_6 y_7 y_8 y_9 y_10 y_11 y_12 y_13 y_14 y_15 y_16 => (.exit 0, ({ n := 108, F := [(3, V.ptr 30000 0), (7, V.own 30002), (9, V.own 30003), (31, V.sl 1 (rowsOf (encI .i64) y)), (32, V.p (Value.int .i64 y_1)), (33, V.p (Value.int .i64 y_2)), (34, V.p (Value.bool y_3))], M := [(30000, O.box 25 [V.p (Value.int .i64 y_4), V.p (Value.int .i64 y_5), V.p (Value.int .u32 y_6), V.p (Value.int .i64 y_7), V.p (Value.int .i64 y_8), V.p (Value.int .i64 y_9), V.p (Value.int .i64 y_10), V.p (Value.int .i64 y_11), V.p (Value.int .i64 y_12), V.p (Value.int .i64 y_13), V.own 30001]), (30001, O.row false 1 5 (rowsOf (encI .u8) y_14)), (30002, O.row true 11 25 (rowsOf encT25 y_15)), (30003, O.row true 11 25 (rowsOf encT25 y_16))] } : St))
noncomputable def f7_ai10rzir_l3_j3 (k : Nat) (x31 : List Int) (x32 x33 h0_ h0__1 h0__2 h0__3 h0__4 h0__5 h0__6 h0__7 h0__8 h0__9 : Int) (h1_ : List Int) (h2_ m52 : List T25) : Option R7_ai10rzir_l3 :=
  some (R7_ai10rzir_l3.o1 x31 x32 (IntKind.i64.wrap (x33 + (1 : Int))) h0_ h0__1 h0__2 h0__3 h0__4 h0__5 h0__6 h0__7 h0__8 h0__9 h1_ h2_ m52)
theorem f7_ai10rzir_l3_j3_ok (k : Nat) (x31 : List Int) (x32 x33 h0_ h0__1 h0__2 h0__3 h0__4 h0__5 h0__6 h0__7 h0__8 h0__9 : Int) (h1_ : List Int) (h2_ m52 : List T25) (r : R7_ai10rzir_l3) (hF : f7_ai10rzir_l3_j3 k x31 x32 x33 h0_ h0__1 h0__2 h0__3 h0__4 h0__5 h0__6 h0__7 h0__8 h0__9 h1_ h2_ m52 = some r) : EX 7 k (nav B7 [2, 2, 2, 1, 2, 2, 1, 2, 2, 2, 2, 2, 2]) ({ n := 108, F := [(3, V.ptr 30000 0), (7, V.own 30002), (9, V.own 52), (31, V.sl 1 (rowsOf (encI .i64) x31)), (32, V.p (Value.int .i64 x32)), (33, V.p (Value.int .i64 x33))], M := [(30000, O.box 25 [V.p (Value.int .i64 h0_), V.p (Value.int .i64 h0__1), V.p (Value.int .u32 h0__2), V.p (Value.int .i64 h0__3), V.p (Value.int .i64 h0__4), V.p (Value.int .i64 h0__5), V.p (Value.int .i64 h0__6), V.p (Value.int .i64 h0__7), V.p (Value.int .i64 h0__8), V.p (Value.int .i64 h0__9), V.own 30001]), (30001, O.row false 1 5 (rowsOf (encI .u8) h1_)), (30002, O.row true 11 25 (rowsOf encT25 h2_)), (52, O.row true 11 25 (rowsOf encT25 m52))] } : St) = some r.st := by
  unfold f7_ai10rzir_l3_j3 at hF
  cases hF
  simp (maxSteps := 999999) (disch := first | exact D (by decide) | exact K (by kernel_rfl)) only [E, EE, ↓reduceIte, simprocAttr, show (nav B7 [2, 2, 2, 1, 2, 2, 1, 2, 2, 2, 2, 2, 2]) = Code.region 13 _ false from rfl, hk_7_13, hz_7_13, hs_7_13, R7_ai10rzir_l3.st]
noncomputable def f7_ai10rzir_l3_j2 (k : Nat) (x11 : Int) (x31 : List Int) (x32 x33 : Int) (x39 : Bool) (h0_ h0__1 h0__2 h0__3 h0__4 h0__5 h0__6 h0__7 h0__8 h0__9 : Int) (h1_ : List Int) (h2_ h3_ : List T25) : Option R7_ai10rzir_l3 :=
  ifE (¬ (IntKind.u64.wrap ((List.length h2_) : Int)) = 0) (
    ifE ((0 : Int) ≤ (IntKind.i64.wrap (Int.tmod (IntKind.u64.wrap x11) (IntKind.u64.wrap ((List.length h2_) : Int))))) (
      ifE ((IntKind.i64.wrap (Int.tmod (IntKind.u64.wrap x11) (IntKind.u64.wrap ((List.length h2_) : Int)))) < ((List.length h2_) : Int)) (
        Option.bind (h2_[(Int.toNat ((IntKind.i64.wrap (Int.tmod (IntKind.u64.wrap x11) (IntKind.u64.wrap ((List.length h2_) : Int))))))]?) fun v4 =>
          ifE (((List.length h3_) + 1) * 104 ≤ roomy) (
            f7_ai10rzir_l3_j3 k x31 x32 x33 h0_ h0__1 h0__2 h0__3 h0__4 h0__5 h0__6 h0__7 h0__8 h0__9 h1_ h2_ (h3_ ++ ([v4] : List T25))))))
theorem f7_ai10rzir_l3_j2_ok (k : Nat) (x11 : Int) (x31 : List Int) (x32 x33 : Int) (x39 : Bool) (h0_ h0__1 h0__2 h0__3 h0__4 h0__5 h0__6 h0__7 h0__8 h0__9 : Int) (h1_ : List Int) (h2_ h3_ : List T25) (r : R7_ai10rzir_l3) (hF : f7_ai10rzir_l3_j2 k x11 x31 x32 x33 x39 h0_ h0__1 h0__2 h0__3 h0__4 h0__5 h0__6 h0__7 h0__8 h0__9 h1_ h2_ h3_ = some r) : SQ 7 k (nav B7 [2, 2, 2, 1, 2, 2, 1, 2, 2, 2, 2, 2, 2]) (blockK 1 (EX 7 k (nav B7 [2, 2, 2, 1, 2, 2, 1, 2, 2, 1, 2, 2, 2, 2, 2, 2]) ({ n := 108, F := [(3, V.ptr 30000 0), (7, V.own 30002), (9, V.own 30003), (11, V.p (Value.int .i64 x11)), (31, V.sl 1 (rowsOf (encI .i64) x31)), (32, V.p (Value.int .i64 x32)), (33, V.p (Value.int .i64 x33)), (39, V.p (Value.bool x39))], M := [(30000, O.box 25 [V.p (Value.int .i64 h0_), V.p (Value.int .i64 h0__1), V.p (Value.int .u32 h0__2), V.p (Value.int .i64 h0__3), V.p (Value.int .i64 h0__4), V.p (Value.int .i64 h0__5), V.p (Value.int .i64 h0__6), V.p (Value.int .i64 h0__7), V.p (Value.int .i64 h0__8), V.p (Value.int .i64 h0__9), V.own 30001]), (30001, O.row false 1 5 (rowsOf (encI .u8) h1_)), (30002, O.row true 11 25 (rowsOf encT25 h2_)), (30003, O.row true 11 25 (rowsOf encT25 h3_))] } : St))) = some r.st := by
  unfold f7_ai10rzir_l3_j2 at hF
  replace hF := ifE_some.1 hF
  obtain ⟨h1, hF⟩ := hF
  replace hF := ifE_some.1 hF
  obtain ⟨h2, hF⟩ := hF
  replace hF := ifE_some.1 hF
  obtain ⟨h3, hF⟩ := hF
  replace hF := Option.bind_eq_some_iff.1 hF
  obtain ⟨v4, h5, hF⟩ := hF
  have q6 : [[V.p (Value.int .i64 v4.Source), V.p (Value.int .i64 v4.Dest), V.p (Value.int .u32 v4.Seq), V.p (Value.int .i64 v4.Created), V.p (Value.int .i64 v4.Lifetime), V.p (Value.int .i64 v4.HopLimit), V.p (Value.int .i64 v4.Hops), V.p (Value.int .i64 v4.Priority), V.p (Value.int .i64 v4.Offset), V.p (Value.int .i64 v4.Total), V.sl 1 (rowsOf (encI .u8) v4.Payload)]] = rowsOf encT25 ([v4] : List T25) := rfl
  have q7 : List.map (tell [0, 0, 0, 0, 0, 0, 0, 0, 0, 0, 1]) (rowsOf encT25 ([v4] : List T25)) = rowsOf encT25 ([v4] : List T25) := rfl
  replace hF := ifE_some.1 hF
  obtain ⟨h8, hF⟩ := hF
  have hJ := f7_ai10rzir_l3_j3_ok k x31 x32 x33 h0_ h0__1 h0__2 h0__3 h0__4 h0__5 h0__6 h0__7 h0__8 h0__9 h1_ h2_ (h3_ ++ ([v4] : List T25)) _ hF
  simp (maxSteps := 999999) (disch := first | exact D (by decide) | exact K (by kernel_rfl)) only [E, EE, ↓reduceIte, simprocAttr, show (nav B7 [2, 2, 2, 1, 2, 2, 1, 2, 2, 1, 2, 2, 2, 2, 2, 2]) = Code.region 12 _ false from rfl, hk_7_12, hz_7_12, hs_7_12, u_3, i_3, is_3, ib_3, iz_3, u_49, i_49, is_49, ib_49, iz_49, convV, u_28, i_28, is_28, ib_28, iz_28, indexAddrV, u_25, i_25, is_25, ib_25, iz_25, encT25_eq, buildSliceV, fillRows, sm_25, appendV, content, h1, h2, h3, h5, q6, q7, h8]
  try simp only [NM, EE] at hJ
  exact hJ
noncomputable def f7_ai10rzir_l3_j1 (k : Nat) (x31 : List Int) (x32 x33 : Int) (x34 : Bool) (h0_ h0__1 h0__2 h0__3 h0__4 h0__5 h0__6 h0__7 h0__8 h0__9 : Int) (h1_ : List Int) (h2_ h3_ : List T25) : Option R7_ai10rzir_l3 :=
  ifE ((0 : Int) ≤ x33) (
    Option.bind (x31[(Int.toNat x33)]?) fun v2 =>
      cond ((x33 == 12))
        (some (R7_ai10rzir_l3.o0 v2 x31 x32 x33 true h0_ h0__1 h0__2 h0__3 h0__4 h0__5 h0__6 h0__7 h0__8 h0__9 h1_ h2_ h3_))
        (f7_ai10rzir_l3_j2 k v2 x31 x32 x33 false h0_ h0__1 h0__2 h0__3 h0__4 h0__5 h0__6 h0__7 h0__8 h0__9 h1_ h2_ h3_))
theorem f7_ai10rzir_l3_j1_ok (k : Nat) (x31 : List Int) (x32 x33 : Int) (x34 : Bool) (h0_ h0__1 h0__2 h0__3 h0__4 h0__5 h0__6 h0__7 h0__8 h0__9 : Int) (h1_ : List Int) (h2_ h3_ : List T25) (r : R7_ai10rzir_l3) (hF : f7_ai10rzir_l3_j1 k x31 x32 x33 x34 h0_ h0__1 h0__2 h0__3 h0__4 h0__5 h0__6 h0__7 h0__8 h0__9 h1_ h2_ h3_ = some r) : EX 7 k (nav B7 [2, 2, 1, 2, 2, 1, 2, 2, 2, 2, 2, 2]) ({ n := 108, F := [(3, V.ptr 30000 0), (7, V.own 30002), (9, V.own 30003), (31, V.sl 1 (rowsOf (encI .i64) x31)), (32, V.p (Value.int .i64 x32)), (33, V.p (Value.int .i64 x33)), (34, V.p (Value.bool x34))], M := [(30000, O.box 25 [V.p (Value.int .i64 h0_), V.p (Value.int .i64 h0__1), V.p (Value.int .u32 h0__2), V.p (Value.int .i64 h0__3), V.p (Value.int .i64 h0__4), V.p (Value.int .i64 h0__5), V.p (Value.int .i64 h0__6), V.p (Value.int .i64 h0__7), V.p (Value.int .i64 h0__8), V.p (Value.int .i64 h0__9), V.own 30001]), (30001, O.row false 1 5 (rowsOf (encI .u8) h1_)), (30002, O.row true 11 25 (rowsOf encT25 h2_)), (30003, O.row true 11 25 (rowsOf encT25 h3_))] } : St) = some r.st := by
  unfold f7_ai10rzir_l3_j1 at hF
  replace hF := ifE_some.1 hF
  obtain ⟨h1, hF⟩ := hF
  replace hF := Option.bind_eq_some_iff.1 hF
  obtain ⟨v2, h3, hF⟩ := hF
  simp (maxSteps := 999999) (disch := first | exact D (by decide) | exact K (by kernel_rfl)) only [E, EE, ↓reduceIte, simprocAttr, xk B7 [2, 2, 1, 2, 2, 1, 2, 2, 2, 2, 2, 2] .sq rfl, xk B7 [1, 2, 2, 1, 2, 2, 1, 2, 2, 2, 2, 2, 2] (.bk 1) rfl, xk B7 [2, 1, 2, 2, 1, 2, 2, 1, 2, 2, 2, 2, 2, 2] .sq rfl, show (nav B7 [1, 2, 1, 2, 2, 1, 2, 2, 1, 2, 2, 2, 2, 2, 2]) = Code.region 10 _ false from rfl, hk_7_10, hz_7_10, hs_7_10, indexAddrV, u_48, i_48, is_48, ib_48, iz_48, u_3, i_3, is_3, ib_3, iz_3, encI_eq, xk B7 [2, 2, 1, 2, 2, 1, 2, 2, 1, 2, 2, 2, 2, 2, 2] .sq rfl, xk B7 [1, 2, 2, 1, 2, 2, 1, 2, 2, 1, 2, 2, 2, 2, 2, 2] .sq rfl, show (nav B7 [1, 1, 2, 2, 1, 2, 2, 1, 2, 2, 1, 2, 2, 2, 2, 2, 2]) = Code.region 11 _ false from rfl, hk_7_11, hz_7_11, hs_7_11, xk B7 [2, 1, 2, 2, 1, 2, 2, 1, 2, 2, 1, 2, 2, 2, 2, 2, 2] (.cd 39) rfl, h1, h3]
  replace hF := cond_some hF
  rcases hF with ⟨h4, hF⟩ | ⟨h4, hF⟩
  · cases hF
    simp (maxSteps := 999999) (disch := first | exact D (by decide) | exact K (by kernel_rfl)) only [E, EE, ↓reduceIte, simprocAttr, xk B7 [2, 2, 1, 2, 2, 1, 2, 2, 1, 2, 2, 1, 2, 2, 2, 2, 2, 2] (.ex 0) rfl, R7_ai10rzir_l3.st, h1, h3, h4]
  · have hJ := f7_ai10rzir_l3_j2_ok k v2 x31 x32 x33 false h0_ h0__1 h0__2 h0__3 h0__4 h0__5 h0__6 h0__7 h0__8 h0__9 h1_ h2_ h3_ _ hF
    simp (maxSteps := 999999) (disch := first | exact D (by decide) | exact K (by kernel_rfl)) only [E, EE, ↓reduceIte, simprocAttr, xk B7 [3, 2, 1, 2, 2, 1, 2, 2, 1, 2, 2, 1, 2, 2, 2, 2, 2, 2] .sk rfl, h1, h3, h4]
    try simp only [NM, EE] at hJ
    exact hJ
noncomputable def f7_ai10rzir_l3_b (k : Nat) (x31 : List Int) (x32 x33 h0_ h0__1 h0__2 h0__3 h0__4 h0__5 h0__6 h0__7 h0__8 h0__9 : Int) (h1_ : List Int) (h2_ h3_ : List T25) : Option R7_ai10rzir_l3 :=
  cond ((decide (x33 < x32)))
    (f7_ai10rzir_l3_j1 k x31 x32 x33 true h0_ h0__1 h0__2 h0__3 h0__4 h0__5 h0__6 h0__7 h0__8 h0__9 h1_ h2_ h3_)
    (some (R7_ai10rzir_l3.o2 x31 x32 x33 false h0_ h0__1 h0__2 h0__3 h0__4 h0__5 h0__6 h0__7 h0__8 h0__9 h1_ h2_ h3_))
theorem f7_ai10rzir_l3_b_ok (k : Nat) (x31 : List Int) (x32 x33 h0_ h0__1 h0__2 h0__3 h0__4 h0__5 h0__6 h0__7 h0__8 h0__9 : Int) (h1_ : List Int) (h2_ h3_ : List T25) (r : R7_ai10rzir_l3) (hF : f7_ai10rzir_l3_b k x31 x32 x33 h0_ h0__1 h0__2 h0__3 h0__4 h0__5 h0__6 h0__7 h0__8 h0__9 h1_ h2_ h3_ = some r) : EX 7 k (nav B7 [1, 2, 2, 1, 2, 2, 2, 2, 2, 2]) ({ n := 108, F := [(3, V.ptr 30000 0), (7, V.own 30002), (9, V.own 30003), (31, V.sl 1 (rowsOf (encI .i64) x31)), (32, V.p (Value.int .i64 x32)), (33, V.p (Value.int .i64 x33))], M := [(30000, O.box 25 [V.p (Value.int .i64 h0_), V.p (Value.int .i64 h0__1), V.p (Value.int .u32 h0__2), V.p (Value.int .i64 h0__3), V.p (Value.int .i64 h0__4), V.p (Value.int .i64 h0__5), V.p (Value.int .i64 h0__6), V.p (Value.int .i64 h0__7), V.p (Value.int .i64 h0__8), V.p (Value.int .i64 h0__9), V.own 30001]), (30001, O.row false 1 5 (rowsOf (encI .u8) h1_)), (30002, O.row true 11 25 (rowsOf encT25 h2_)), (30003, O.row true 11 25 (rowsOf encT25 h3_))] } : St) = some r.st := by
  unfold f7_ai10rzir_l3_b at hF
  simp (maxSteps := 999999) (disch := first | exact D (by decide) | exact K (by kernel_rfl)) only [E, EE, ↓reduceIte, simprocAttr, xk B7 [1, 2, 2, 1, 2, 2, 2, 2, 2, 2] .sq rfl, show (nav B7 [1, 1, 2, 2, 1, 2, 2, 2, 2, 2, 2]) = Code.region 9 _ false from rfl, hk_7_9, hz_7_9, hs_7_9, xk B7 [2, 1, 2, 2, 1, 2, 2, 2, 2, 2, 2] .sq rfl, xk B7 [1, 2, 1, 2, 2, 1, 2, 2, 2, 2, 2, 2] (.cd 34) rfl]
  replace hF := cond_some hF
  rcases hF with ⟨h1, hF⟩ | ⟨h1, hF⟩
  · have hJ := f7_ai10rzir_l3_j1_ok k x31 x32 x33 true h0_ h0__1 h0__2 h0__3 h0__4 h0__5 h0__6 h0__7 h0__8 h0__9 h1_ h2_ h3_ _ hF
    simp (maxSteps := 999999) (disch := first | exact D (by decide) | exact K (by kernel_rfl)) only [E, EE, ↓reduceIte, simprocAttr, xk B7 [2, 1, 2, 1, 2, 2, 1, 2, 2, 2, 2, 2, 2] .sk rfl, h1]
    try simp only [NM, EE] at hJ
    exact hJ
  · cases hF
    simp (maxSteps := 999999) (disch := first | exact D (by decide) | exact K (by kernel_rfl)) only [E, EE, ↓reduceIte, simprocAttr, xk B7 [3, 1, 2, 1, 2, 2, 1, 2, 2, 2, 2, 2, 2] (.ex 0) rfl, R7_ai10rzir_l3.st, h1]
noncomputable def f7_ai10rzir_l3 (k : Nat) : Nat → (List Int) → Int → Int → Int → Int → Int → Int → Int → Int → Int → Int → Int → Int → (List Int) → (List T25) → (List T25) → Option R7_ai10rzir_l3
  | 0, _, _, _, _, _, _, _, _, _, _, _, _, _, _, _, _ => none
  | n + 1, x31, x32, x33, h0_, h0__1, h0__2, h0__3, h0__4, h0__5, h0__6, h0__7, h0__8, h0__9, h1_, h2_, h3_ => Option.bind (f7_ai10rzir_l3_b k x31 x32 x33 h0_ h0__1 h0__2 h0__3 h0__4 h0__5 h0__6 h0__7 h0__8 h0__9 h1_ h2_ h3_) fun o =>
    match o with
    | .o0 y y_1 y_2 y_3 y_4 y_5 y_6 y_7 y_8 y_9 y_10 y_11 y_12 y_13 y_14 y_15 y_16 y_17 => some (.o0 y y_1 y_2 y_3 y_4 y_5 y_6 y_7 y_8 y_9 y_10 y_11 y_12 y_13 y_14 y_15 y_16 y_17)
    | .o1 y y_1 y_2 y_3 y_4 y_5 y_6 y_7 y_8 y_9 y_10 y_11 y_12 y_13 y_14 y_15 => f7_ai10rzir_l3 k n y y_1 y_2 y_3 y_4 y_5 y_6 y_7 y_8 y_9 y_10 y_11 y_12 y_13 y_14 y_15
    | .o2 y y_1 y_2 y_3 y_4 y_5 y_6 y_7 y_8 y_9 y_10 y_11 y_12 y_13 y_14 y_15 y_16 => some (.o2 y y_1 y_2 y_3 y_4 y_5 y_6 y_7 y_8 y_9 y_10 y_11 y_12 y_13 y_14 y_15 y_16)
theorem f7_ai10rzir_l3_ok (k n : Nat) : ∀ (x31 : List Int) (x32 x33 h0_ h0__1 h0__2 h0__3 h0__4 h0__5 h0__6 h0__7 h0__8 h0__9 : Int) (h1_ : List Int) (h2_ h3_ : List T25) (r : R7_ai10rzir_l3) (hF : f7_ai10rzir_l3 k n x31 x32 x33 h0_ h0__1 h0__2 h0__3 h0__4 h0__5 h0__6 h0__7 h0__8 h0__9 h1_ h2_ h3_ = some r) (σ : St) (hσ : headR (hints.head 7 9) (hints.canon 7 9) σ = some ({ n := 108, F := [(3, V.ptr 30000 0), (7, V.own 30002), (9, V.own 30003), (31, V.sl 1 (rowsOf (encI .i64) x31)), (32, V.p (Value.int .i64 x32)), (33, V.p (Value.int .i64 x33))], M := [(30000, O.box 25 [V.p (Value.int .i64 h0_), V.p (Value.int .i64 h0__1), V.p (Value.int .u32 h0__2), V.p (Value.int .i64 h0__3), V.p (Value.int .i64 h0__4), V.p (Value.int .i64 h0__5), V.p (Value.int .i64 h0__6), V.p (Value.int .i64 h0__7), V.p (Value.int .i64 h0__8), V.p (Value.int .i64 h0__9), V.own 30001]), (30001, O.row false 1 5 (rowsOf (encI .u8) h1_)), (30002, O.row true 11 25 (rowsOf encT25 h2_)), (30003, O.row true 11 25 (rowsOf encT25 h3_))] } : St)), LP 7 k (nav B7 [1, 2, 2, 1, 2, 2, 2, 2, 2, 2]) n σ = some r.st := by
  induction n with
  | zero => intro x31 x32 x33 h0_ h0__1 h0__2 h0__3 h0__4 h0__5 h0__6 h0__7 h0__8 h0__9 h1_ h2_ h3_ r hF; cases hF
  | succ n ih =>
    intro x31 x32 x33 h0_ h0__1 h0__2 h0__3 h0__4 h0__5 h0__6 h0__7 h0__8 h0__9 h1_ h2_ h3_ r hF σ hσ
    rw [f7_ai10rzir_l3] at hF
    obtain ⟨o, h, hF⟩ := Option.bind_eq_some_iff.1 hF
    have hB := f7_ai10rzir_l3_b_ok k x31 x32 x33 h0_ h0__1 h0__2 h0__3 h0__4 h0__5 h0__6 h0__7 h0__8 h0__9 h1_ h2_ h3_ o h
    unfold LP at ih ⊢
    unfold EX at hB
    rw [loopK_succ, show firstReg (nav B7 [1, 2, 2, 1, 2, 2, 2, 2, 2, 2]) = 9 from rfl, hσ, headK_some, hB]
    cases o with
    | o0 y y_1 y_2 y_3 y_4 y_5 y_6 y_7 y_8 y_9 y_10 y_11 y_12 y_13 y_14 y_15 y_16 y_17 => cases hF; rfl
    | o1 y y_1 y_2 y_3 y_4 y_5 y_6 y_7 y_8 y_9 y_10 y_11 y_12 y_13 y_14 y_15 =>
      refine ih y y_1 y_2 y_3 y_4 y_5 y_6 y_7 y_8 y_9 y_10 y_11 y_12 y_13 y_14 y_15 r hF _ ?_
      simp (maxSteps := 999999) (disch := first | exact D (by decide) | exact K (by kernel_rfl)) only [E, EE, ↓reduceIte, simprocAttr, hh_7_9, hc_7_9]
    | o2 y y_1 y_2 y_3 y_4 y_5 y_6 y_7 y_8 y_9 y_10 y_11 y_12 y_13 y_14 y_15 y_16 => cases hF; rfl
inductive R7_ai10rzir_l5 where
  | o0 (y : Bool)
  | o1 (y y_1 y_2 y_3 y_4 y_5 y_6 y_7 y_8 y_9 y_10 y_11 : Int) (y_12 : List Int) (y_13 y_14 : List T25)
  | o2 (y y_1 : Int) (y_2 : Bool) (y_3 y_4 y_5 y_6 y_7 y_8 y_9 y_10 y_11 y_12 : Int) (y_13 : List Int) (y_14 y_15 : List T25)
noncomputable def R7_ai10rzir_l5.st : R7_ai10rzir_l5 → Out × St
  | .o0 y => (.ret, ({ n := 108, F := [(6, V.p (Value.bool y))], M := [] } : St))
  | .o1 y y_1 y_2 y_3 y_4 y_5 y_6 y_7 y_8 y_9 y_10 y_11 y_12 y_13 y_14 => (.norm, ({ n := 108, F := [(3, V.ptr 30000 0), (7, V.own 30002), (9, V.own 69), (55, V.p (Value.int .i64 y)), (56, V.p (Value.int .i64 y_1))], M := [(30000, O.box 25 [V.p (Value.int .i64 y_2), V.p (Value.int .i64 y_3), V.p (Value.int .u32 y_4), V.p (Value.int .i64 y_5), V.p (Value.int .i64 y_6), V.p (Value.int .i64 y_7), V.p (Value.int .i64 y_8), V.p (Value.int .i64 y_9), V.p (Value.int .i64 y_10), V.p (Value.int .i64 y_11), V.own 30001]), (30001, O.row false 1 5 (rowsOf (encI .u8) y_12)), (30002, O.row true 11 25 (rowsOf encT25 y_13)), (69, O.row true 11 25 (rowsOf encT25 y_14))] } : St))
  | .o2 y y_1 y_2 y_3 y_4 y_5 y_6 y_7 y_8 y_9 y_10 y_11 y_12 y_13 y_14 y_15 => (.exit 2, ({ n := 108, F := [(3, V.ptr 30000 0), (7, V.own 30002), (9, V.own 30003), (55, V.p (Value.int .i64 y)), (56, V.p (Value.int .i64 y_1)), (57, V.p (Value.bool y_2))], M := [(30000, O.box 25 [V.p (Value.int .i64 y_3), V.p (Value.int .i64 y_4), V.p (Value.int .u32 y_5), V.p (Value.int .i64 y_6), V.p (Value.int .i64 y_7), V.p (Value.int .i64 y_8), V.p (Value.int .i64 y_9), V.p (Value.int .i64 y_10), V.p (Value.int .i64 y_11), V.p (Value.int .i64 y_12), V.own 30001]), (30001, O.row false 1 5 (rowsOf (encI .u8) y_13)), (30002, O.row true 11 25 (rowsOf encT25 y_14)), (30003, O.row true 11 25 (rowsOf encT25 y_15))] } : St))
noncomputable def f7_ai10rzir_l5_j2 (k : Nat) (x55 x56 : Int) (x75 : Bool) (h0_ h0__1 h0__2 h0__3 h0__4 h0__5 h0__6 h0__7 h0__8 h0__9 : Int) (h1_ : List Int) (h2_ m69 : List T25) : Option R7_ai10rzir_l5 :=
  some (R7_ai10rzir_l5.o1 x55 (IntKind.i64.wrap (x56 + (1 : Int))) h0_ h0__1 h0__2 h0__3 h0__4 h0__5 h0__6 h0__7 h0__8 h0__9 h1_ h2_ m69)
theorem f7_ai10rzir_l5_j2_ok (k : Nat) (x55 x56 : Int) (x75 : Bool) (h0_ h0__1 h0__2 h0__3 h0__4 h0__5 h0__6 h0__7 h0__8 h0__9 : Int) (h1_ : List Int) (h2_ m69 : List T25) (r : R7_ai10rzir_l5) (hF : f7_ai10rzir_l5_j2 k x55 x56 x75 h0_ h0__1 h0__2 h0__3 h0__4 h0__5 h0__6 h0__7 h0__8 h0__9 h1_ h2_ m69 = some r) : EX 7 k (nav B7 [2, 2, 2, 1, 2, 2, 1, 2, 2, 2, 2, 2, 2, 2]) ({ n := 108, F := [(3, V.ptr 30000 0), (7, V.own 30002), (9, V.own 69), (55, V.p (Value.int .i64 x55)), (56, V.p (Value.int .i64 x56)), (75, V.p (Value.bool x75))], M := [(30000, O.box 25 [V.p (Value.int .i64 h0_), V.p (Value.int .i64 h0__1), V.p (Value.int .u32 h0__2), V.p (Value.int .i64 h0__3), V.p (Value.int .i64 h0__4), V.p (Value.int .i64 h0__5), V.p (Value.int .i64 h0__6), V.p (Value.int .i64 h0__7), V.p (Value.int .i64 h0__8), V.p (Value.int .i64 h0__9), V.own 30001]), (30001, O.row false 1 5 (rowsOf (encI .u8) h1_)), (30002, O.row true 11 25 (rowsOf encT25 h2_)), (69, O.row true 11 25 (rowsOf encT25 m69))] } : St) = some r.st := by
  unfold f7_ai10rzir_l5_j2 at hF
  cases hF
  simp (maxSteps := 999999) (disch := first | exact D (by decide) | exact K (by kernel_rfl)) only [E, EE, ↓reduceIte, simprocAttr, show (nav B7 [2, 2, 2, 1, 2, 2, 1, 2, 2, 2, 2, 2, 2, 2]) = Code.region 20 _ false from rfl, hk_7_20, hz_7_20, hs_7_20, R7_ai10rzir_l5.st]
noncomputable def f7_ai10rzir_l5_j1 (k : Nat) (x55 x56 : Int) (x57 : Bool) (h0_ h0__1 h0__2 h0__3 h0__4 h0__5 h0__6 h0__7 h0__8 h0__9 : Int) (h1_ : List Int) (h2_ h3_ : List T25) : Option R7_ai10rzir_l5 :=
  ifE ((0 : Int) ≤ (IntKind.i64.wrap ((IntKind.i64.wrap (((List.length h2_) : Int) - (1 : Int))) - x56))) (
    ifE ((IntKind.i64.wrap ((IntKind.i64.wrap (((List.length h2_) : Int) - (1 : Int))) - x56)) < ((List.length h2_) : Int)) (
      Option.bind (h2_[(Int.toNat ((IntKind.i64.wrap ((IntKind.i64.wrap (((List.length h2_) : Int) - (1 : Int))) - x56))))]?) fun v3 =>
        ifE (((List.length h3_) + 1) * 104 ≤ roomy) (
          ifE ((0 : Int) ≤ x56) (
            ifE (x56 < ((List.length h2_) : Int)) (
              Option.bind (h2_[(Int.toNat x56)]?) fun v10 =>
                Option.bind (f26_ai10rz k v10.Source v10.Dest v10.Seq v10.Created v10.Lifetime v10.HopLimit v10.Hops v10.Priority v10.Offset v10.Total v10.Payload) fun o12 =>
                  match o12 with
                  | .o0 v15 =>
                    cond ((v15 != 0))
                      (some (R7_ai10rzir_l5.o0 false))
                      (f7_ai10rzir_l5_j2 k x55 x56 false h0_ h0__1 h0__2 h0__3 h0__4 h0__5 h0__6 h0__7 h0__8 h0__9 h1_ h2_ (h3_ ++ ([v3] : List T25))))))))
theorem f7_ai10rzir_l5_j1_ok (k : Nat) (x55 x56 : Int) (x57 : Bool) (h0_ h0__1 h0__2 h0__3 h0__4 h0__5 h0__6 h0__7 h0__8 h0__9 : Int) (h1_ : List Int) (h2_ h3_ : List T25) (r : R7_ai10rzir_l5) (hF : f7_ai10rzir_l5_j1 k x55 x56 x57 h0_ h0__1 h0__2 h0__3 h0__4 h0__5 h0__6 h0__7 h0__8 h0__9 h1_ h2_ h3_ = some r) : EX 7 k (nav B7 [2, 2, 1, 2, 2, 1, 2, 2, 2, 2, 2, 2, 2]) ({ n := 108, F := [(3, V.ptr 30000 0), (7, V.own 30002), (9, V.own 30003), (55, V.p (Value.int .i64 x55)), (56, V.p (Value.int .i64 x56)), (57, V.p (Value.bool x57))], M := [(30000, O.box 25 [V.p (Value.int .i64 h0_), V.p (Value.int .i64 h0__1), V.p (Value.int .u32 h0__2), V.p (Value.int .i64 h0__3), V.p (Value.int .i64 h0__4), V.p (Value.int .i64 h0__5), V.p (Value.int .i64 h0__6), V.p (Value.int .i64 h0__7), V.p (Value.int .i64 h0__8), V.p (Value.int .i64 h0__9), V.own 30001]), (30001, O.row false 1 5 (rowsOf (encI .u8) h1_)), (30002, O.row true 11 25 (rowsOf encT25 h2_)), (30003, O.row true 11 25 (rowsOf encT25 h3_))] } : St) = some r.st := by
  unfold f7_ai10rzir_l5_j1 at hF
  replace hF := ifE_some.1 hF
  obtain ⟨h1, hF⟩ := hF
  replace hF := ifE_some.1 hF
  obtain ⟨h2, hF⟩ := hF
  replace hF := Option.bind_eq_some_iff.1 hF
  obtain ⟨v3, h4, hF⟩ := hF
  have q5 : [[V.p (Value.int .i64 v3.Source), V.p (Value.int .i64 v3.Dest), V.p (Value.int .u32 v3.Seq), V.p (Value.int .i64 v3.Created), V.p (Value.int .i64 v3.Lifetime), V.p (Value.int .i64 v3.HopLimit), V.p (Value.int .i64 v3.Hops), V.p (Value.int .i64 v3.Priority), V.p (Value.int .i64 v3.Offset), V.p (Value.int .i64 v3.Total), V.sl 1 (rowsOf (encI .u8) v3.Payload)]] = rowsOf encT25 ([v3] : List T25) := rfl
  have q6 : List.map (tell [0, 0, 0, 0, 0, 0, 0, 0, 0, 0, 1]) (rowsOf encT25 ([v3] : List T25)) = rowsOf encT25 ([v3] : List T25) := rfl
  replace hF := ifE_some.1 hF
  obtain ⟨h7, hF⟩ := hF
  replace hF := ifE_some.1 hF
  obtain ⟨h8, hF⟩ := hF
  replace hF := ifE_some.1 hF
  obtain ⟨h9, hF⟩ := hF
  replace hF := Option.bind_eq_some_iff.1 hF
  obtain ⟨v10, h11, hF⟩ := hF
  replace hF := Option.bind_eq_some_iff.1 hF
  obtain ⟨o12, h13, hF⟩ := hF
  have hc14 := f26_ai10rz_ok k v10.Source v10.Dest v10.Seq v10.Created v10.Lifetime v10.HopLimit v10.Hops v10.Priority v10.Offset v10.Total v10.Payload _ h13
  cases o12 with
  | o0 v15 =>
    (try dsimp only at hF)
    (try simp only [NM, EE, R26_ai10rz.st] at hc14)
    simp (maxSteps := 999999) (disch := first | exact D (by decide) | exact K (by kernel_rfl)) only [E, EE, ↓reduceIte, simprocAttr, xk B7 [2, 2, 1, 2, 2, 1, 2, 2, 2, 2, 2, 2, 2] .sq rfl, xk B7 [1, 2, 2, 1, 2, 2, 1, 2, 2, 2, 2, 2, 2, 2] (.bk 3) rfl, xk B7 [2, 1, 2, 2, 1, 2, 2, 1, 2, 2, 2, 2, 2, 2, 2] .sq rfl, show (nav B7 [1, 2, 1, 2, 2, 1, 2, 2, 1, 2, 2, 2, 2, 2, 2, 2]) = Code.region 16 _ false from rfl, hk_7_16, hz_7_16, hs_7_16, xk B7 [2, 2, 1, 2, 2, 1, 2, 2, 1, 2, 2, 2, 2, 2, 2, 2] .sq rfl, show (nav B7 [1, 2, 2, 1, 2, 2, 1, 2, 2, 1, 2, 2, 2, 2, 2, 2, 2]) = Code.region 17 _ false from rfl, hk_7_17, hz_7_17, hs_7_17, u_28, i_28, is_28, ib_28, iz_28, indexAddrV, u_25, i_25, is_25, ib_25, iz_25, encT25_eq, buildSliceV, fillRows, sm_25, appendV, content, xk B7 [2, 2, 2, 1, 2, 2, 1, 2, 2, 1, 2, 2, 2, 2, 2, 2, 2] .sq rfl, show (nav B7 [1, 2, 2, 2, 1, 2, 2, 1, 2, 2, 1, 2, 2, 2, 2, 2, 2, 2]) = Code.region 18 _ false from rfl, hk_7_18, hz_7_18, hs_7_18, callStep, CL, gv, List.contains, xk B7 [2, 2, 2, 2, 1, 2, 2, 1, 2, 2, 1, 2, 2, 2, 2, 2, 2, 2] (.cd 75) rfl, h1, h2, h4, q5, q6, h7, h8, h9, h11, hc14]
    replace hF := cond_some hF
    rcases hF with ⟨h16, hF⟩ | ⟨h16, hF⟩
    · cases hF
      simp (maxSteps := 999999) (disch := first | exact D (by decide) | exact K (by kernel_rfl)) only [E, EE, ↓reduceIte, simprocAttr, xk B7 [2, 2, 2, 2, 2, 1, 2, 2, 1, 2, 2, 1, 2, 2, 2, 2, 2, 2, 2] .sq rfl, show (nav B7 [1, 2, 2, 2, 2, 2, 1, 2, 2, 1, 2, 2, 1, 2, 2, 2, 2, 2, 2, 2]) = Code.region 19 _ false from rfl, hk_7_19, hz_7_19, hs_7_19, xk B7 [2, 2, 2, 2, 2, 2, 1, 2, 2, 1, 2, 2, 1, 2, 2, 2, 2, 2, 2, 2] .rt rfl, R7_ai10rzir_l5.st, h1, h2, h4, q5, q6, h7, h8, h9, h11, hc14, h16]
    · have hJ := f7_ai10rzir_l5_j2_ok k x55 x56 false h0_ h0__1 h0__2 h0__3 h0__4 h0__5 h0__6 h0__7 h0__8 h0__9 h1_ h2_ (h3_ ++ ([v3] : List T25)) _ hF
      simp (maxSteps := 999999) (disch := first | exact D (by decide) | exact K (by kernel_rfl)) only [E, EE, ↓reduceIte, simprocAttr, xk B7 [3, 2, 2, 2, 2, 1, 2, 2, 1, 2, 2, 1, 2, 2, 2, 2, 2, 2, 2] .sk rfl, h1, h2, h4, q5, q6, h7, h8, h9, h11, hc14, h16]
      try simp only [NM, EE] at hJ
      exact hJ
noncomputable def f7_ai10rzir_l5_b (k : Nat) (x55 x56 h0_ h0__1 h0__2 h0__3 h0__4 h0__5 h0__6 h0__7 h0__8 h0__9 : Int) (h1_ : List Int) (h2_ h3_ : List T25) : Option R7_ai10rzir_l5 :=
  cond ((decide (x56 < x55)))
    (f7_ai10rzir_l5_j1 k x55 x56 true h0_ h0__1 h0__2 h0__3 h0__4 h0__5 h0__6 h0__7 h0__8 h0__9 h1_ h2_ h3_)
    (some (R7_ai10rzir_l5.o2 x55 x56 false h0_ h0__1 h0__2 h0__3 h0__4 h0__5 h0__6 h0__7 h0__8 h0__9 h1_ h2_ h3_))
theorem f7_ai10rzir_l5_b_ok (k : Nat) (x55 x56 h0_ h0__1 h0__2 h0__3 h0__4 h0__5 h0__6 h0__7 h0__8 h0__9 : Int) (h1_ : List Int) (h2_ h3_ : List T25) (r : R7_ai10rzir_l5) (hF : f7_ai10rzir_l5_b k x55 x56 h0_ h0__1 h0__2 h0__3 h0__4 h0__5 h0__6 h0__7 h0__8 h0__9 h1_ h2_ h3_ = some r) : EX 7 k (nav B7 [1, 2, 2, 1, 2, 2, 2, 2, 2, 2, 2]) ({ n := 108, F := [(3, V.ptr 30000 0), (7, V.own 30002), (9, V.own 30003), (55, V.p (Value.int .i64 x55)), (56, V.p (Value.int .i64 x56))], M := [(30000, O.box 25 [V.p (Value.int .i64 h0_), V.p (Value.int .i64 h0__1), V.p (Value.int .u32 h0__2), V.p (Value.int .i64 h0__3), V.p (Value.int .i64 h0__4), V.p (Value.int .i64 h0__5), V.p (Value.int .i64 h0__6), V.p (Value.int .i64 h0__7), V.p (Value.int .i64 h0__8), V.p (Value.int .i64 h0__9), V.own 30001]), (30001, O.row false 1 5 (rowsOf (encI .u8) h1_)), (30002, O.row true 11 25 (rowsOf encT25 h2_)), (30003, O.row true 11 25 (rowsOf encT25 h3_))] } : St) = some r.st := by
  unfold f7_ai10rzir_l5_b at hF
  simp (maxSteps := 999999) (disch := first | exact D (by decide) | exact K (by kernel_rfl)) only [E, EE, ↓reduceIte, simprocAttr, xk B7 [1, 2, 2, 1, 2, 2, 2, 2, 2, 2, 2] .sq rfl, show (nav B7 [1, 1, 2, 2, 1, 2, 2, 2, 2, 2, 2, 2]) = Code.region 15 _ false from rfl, hk_7_15, hz_7_15, hs_7_15, xk B7 [2, 1, 2, 2, 1, 2, 2, 2, 2, 2, 2, 2] .sq rfl, xk B7 [1, 2, 1, 2, 2, 1, 2, 2, 2, 2, 2, 2, 2] (.cd 57) rfl]
  replace hF := cond_some hF
  rcases hF with ⟨h1, hF⟩ | ⟨h1, hF⟩
  · have hJ := f7_ai10rzir_l5_j1_ok k x55 x56 true h0_ h0__1 h0__2 h0__3 h0__4 h0__5 h0__6 h0__7 h0__8 h0__9 h1_ h2_ h3_ _ hF
    simp (maxSteps := 999999) (disch := first | exact D (by decide) | exact K (by kernel_rfl)) only [E, EE, ↓reduceIte, simprocAttr, xk B7 [2, 1, 2, 1, 2, 2, 1, 2, 2, 2, 2, 2, 2, 2] .sk rfl, h1]
    try simp only [NM, EE] at hJ
    exact hJ
  · cases hF
    simp (maxSteps := 999999) (disch := first | exact D (by decide) | exact K (by kernel_rfl)) only [E, EE, ↓reduceIte, simprocAttr, xk B7 [3, 1, 2, 1, 2, 2, 1, 2, 2, 2, 2, 2, 2, 2] (.ex 2) rfl, R7_ai10rzir_l5.st, h1]
noncomputable def f7_ai10rzir_l5 (k : Nat) : Nat → Int → Int → Int → Int → Int → Int → Int → Int → Int → Int → Int → Int → (List Int) → (List T25) → (List T25) → Option R7_ai10rzir_l5
  | 0, _, _, _, _, _, _, _, _, _, _, _, _, _, _, _ => none
  | n + 1, x55, x56, h0_, h0__1, h0__2, h0__3, h0__4, h0__5, h0__6, h0__7, h0__8, h0__9, h1_, h2_, h3_ => Option.bind (f7_ai10rzir_l5_b k x55 x56 h0_ h0__1 h0__2 h0__3 h0__4 h0__5 h0__6 h0__7 h0__8 h0__9 h1_ h2_ h3_) fun o =>
    match o with
    | .o0 y => some (.o0 y)
    | .o1 y y_1 y_2 y_3 y_4 y_5 y_6 y_7 y_8 y_9 y_10 y_11 y_12 y_13 y_14 => f7_ai10rzir_l5 k n y y_1 y_2 y_3 y_4 y_5 y_6 y_7 y_8 y_9 y_10 y_11 y_12 y_13 y_14
    | .o2 y y_1 y_2 y_3 y_4 y_5 y_6 y_7 y_8 y_9 y_10 y_11 y_12 y_13 y_14 y_15 => some (.o2 y y_1 y_2 y_3 y_4 y_5 y_6 y_7 y_8 y_9 y_10 y_11 y_12 y_13 y_14 y_15)
theorem f7_ai10rzir_l5_ok (k n : Nat) : ∀ (x55 x56 h0_ h0__1 h0__2 h0__3 h0__4 h0__5 h0__6 h0__7 h0__8 h0__9 : Int) (h1_ : List Int) (h2_ h3_ : List T25) (r : R7_ai10rzir_l5) (hF : f7_ai10rzir_l5 k n x55 x56 h0_ h0__1 h0__2 h0__3 h0__4 h0__5 h0__6 h0__7 h0__8 h0__9 h1_ h2_ h3_ = some r) (σ : St) (hσ : headR (hints.head 7 15) (hints.canon 7 15) σ = some ({ n := 108, F := [(3, V.ptr 30000 0), (7, V.own 30002), (9, V.own 30003), (55, V.p (Value.int .i64 x55)), (56, V.p (Value.int .i64 x56))], M := [(30000, O.box 25 [V.p (Value.int .i64 h0_), V.p (Value.int .i64 h0__1), V.p (Value.int .u32 h0__2), V.p (Value.int .i64 h0__3), V.p (Value.int .i64 h0__4), V.p (Value.int .i64 h0__5), V.p (Value.int .i64 h0__6), V.p (Value.int .i64 h0__7), V.p (Value.int .i64 h0__8), V.p (Value.int .i64 h0__9), V.own 30001]), (30001, O.row false 1 5 (rowsOf (encI .u8) h1_)), (30002, O.row true 11 25 (rowsOf encT25 h2_)), (30003, O.row true 11 25 (rowsOf encT25 h3_))] } : St)), LP 7 k (nav B7 [1, 2, 2, 1, 2, 2, 2, 2, 2, 2, 2]) n σ = some r.st := by
  induction n with
  | zero => intro x55 x56 h0_ h0__1 h0__2 h0__3 h0__4 h0__5 h0__6 h0__7 h0__8 h0__9 h1_ h2_ h3_ r hF; cases hF
  | succ n ih =>
    intro x55 x56 h0_ h0__1 h0__2 h0__3 h0__4 h0__5 h0__6 h0__7 h0__8 h0__9 h1_ h2_ h3_ r hF σ hσ
    rw [f7_ai10rzir_l5] at hF
    obtain ⟨o, h, hF⟩ := Option.bind_eq_some_iff.1 hF
    have hB := f7_ai10rzir_l5_b_ok k x55 x56 h0_ h0__1 h0__2 h0__3 h0__4 h0__5 h0__6 h0__7 h0__8 h0__9 h1_ h2_ h3_ o h
    unfold LP at ih ⊢
    unfold EX at hB
    rw [loopK_succ, show firstReg (nav B7 [1, 2, 2, 1, 2, 2, 2, 2, 2, 2, 2]) = 15 from rfl, hσ, headK_some, hB]
    cases o with
    | o0 y => cases hF; rfl
    | o1 y y_1 y_2 y_3 y_4 y_5 y_6 y_7 y_8 y_9 y_10 y_11 y_12 y_13 y_14 =>
      refine ih y y_1 y_2 y_3 y_4 y_5 y_6 y_7 y_8 y_9 y_10 y_11 y_12 y_13 y_14 r hF _ ?_
      simp (maxSteps := 999999) (disch := first | exact D (by decide) | exact K (by kernel_rfl)) only [E, EE, ↓reduceIte, simprocAttr, hh_7_15, hc_7_15]
    | o2 y y_1 y_2 y_3 y_4 y_5 y_6 y_7 y_8 y_9 y_10 y_11 y_12 y_13 y_14 y_15 => cases hF; rfl
noncomputable def f7_ai10rzir_j7 (k : Nat) (x8 : Int) (x84 : Bool) (h0_ h0__1 h0__2 h0__3 h0__4 h0__5 h0__6 h0__7 h0__8 h0__9 : Int) (h1_ : List Int) (h3_ : List T25) (m13 m13_1 m13_2 m13_3 m13_4 m13_5 m13_6 m13_7 m13_8 m13_9 : Int) (m13_10 : List Int) : Option R7_ai10rzir :=
  cond ((x8 == 0))
    (
      Option.bind (f20_ai10rzai10rz k h0_ h0__1 h0__2 h0__3 h0__4 h0__5 h0__6 h0__7 h0__8 h0__9 h1_ m13 m13_1 m13_2 m13_3 m13_4 m13_5 m13_6 m13_7 m13_8 m13_9 m13_10) fun o2 =>
        match o2 with
        | .o0 v5 =>
          some (R7_ai10rzir.o0 v5))
    (some (R7_ai10rzir.o0 false))
theorem f7_ai10rzir_j7_ok (k : Nat) (x8 : Int) (x84 : Bool) (h0_ h0__1 h0__2 h0__3 h0__4 h0__5 h0__6 h0__7 h0__8 h0__9 : Int) (h1_ : List Int) (h3_ : List T25) (m13 m13_1 m13_2 m13_3 m13_4 m13_5 m13_6 m13_7 m13_8 m13_9 : Int) (m13_10 : List Int) (r : R7_ai10rzir) (hF : f7_ai10rzir_j7 k x8 x84 h0_ h0__1 h0__2 h0__3 h0__4 h0__5 h0__6 h0__7 h0__8 h0__9 h1_ h3_ m13 m13_1 m13_2 m13_3 m13_4 m13_5 m13_6 m13_7 m13_8 m13_9 m13_10 = some r) : finK Try.prog Try.f7 0 (EX 7 k (nav B7 [2, 2, 2, 2, 2, 2, 2, 2, 2, 2]) ({ n := 108, F := [(3, V.ptr 30000 0), (8, V.p (Value.int .i64 x8)), (9, V.own 30003), (13, V.ptr 13 0), (84, V.p (Value.bool x84))], M := [(30000, O.box 25 [V.p (Value.int .i64 h0_), V.p (Value.int .i64 h0__1), V.p (Value.int .u32 h0__2), V.p (Value.int .i64 h0__3), V.p (Value.int .i64 h0__4), V.p (Value.int .i64 h0__5), V.p (Value.int .i64 h0__6), V.p (Value.int .i64 h0__7), V.p (Value.int .i64 h0__8), V.p (Value.int .i64 h0__9), V.own 30001]), (30001, O.row false 1 5 (rowsOf (encI .u8) h1_)), (30003, O.row false 11 25 (rowsOf encT25 h3_)), (13, O.box 25 [V.p (Value.int .i64 m13), V.p (Value.int .i64 m13_1), V.p (Value.int .u32 m13_2), V.p (Value.int .i64 m13_3), V.p (Value.int .i64 m13_4), V.p (Value.int .i64 m13_5), V.p (Value.int .i64 m13_6), V.p (Value.int .i64 m13_7), V.p (Value.int .i64 m13_8), V.p (Value.int .i64 m13_9), V.sl 1 (rowsOf (encI .u8) m13_10)])] } : St)) = some r.st := by
  unfold f7_ai10rzir_j7 at hF
  simp (maxSteps := 999999) (disch := first | exact D (by decide) | exact K (by kernel_rfl)) only [E, EE, ↓reduceIte, simprocAttr, xk B7 [2, 2, 2, 2, 2, 2, 2, 2, 2, 2] .sq rfl, show (nav B7 [1, 2, 2, 2, 2, 2, 2, 2, 2, 2, 2]) = Code.region 25 _ false from rfl, hk_7_25, hz_7_25, hs_7_25]
  replace hF := cond_some hF
  rcases hF with ⟨h1, hF⟩ | ⟨h1, hF⟩
  · replace hF := Option.bind_eq_some_iff.1 hF
    obtain ⟨o2, h3, hF⟩ := hF
    have hc4 := f20_ai10rzai10rz_ok k h0_ h0__1 h0__2 h0__3 h0__4 h0__5 h0__6 h0__7 h0__8 h0__9 h1_ m13 m13_1 m13_2 m13_3 m13_4 m13_5 m13_6 m13_7 m13_8 m13_9 m13_10 _ h3
    cases o2 with
    | o0 v5 =>
      (try dsimp only at hF)
      (try simp only [NM, EE, R20_ai10rzai10rz.st] at hc4)
      cases hF
      simp (maxSteps := 999999) (disch := first | exact D (by decide) | exact K (by kernel_rfl)) only [E, EE, ↓reduceIte, simprocAttr, u_25, i_25, is_25, ib_25, iz_25, callStep, CL, gv, List.contains, xk B7 [2, 2, 2, 2, 2, 2, 2, 2, 2, 2, 2] .rt rfl, finK_norm, finK_ret, fin7, R7_ai10rzir.st, h1, hc4]
  · cases hF
    simp (maxSteps := 999999) (disch := first | exact D (by decide) | exact K (by kernel_rfl)) only [E, EE, ↓reduceIte, simprocAttr, xk B7 [2, 2, 2, 2, 2, 2, 2, 2, 2, 2, 2] .rt rfl, finK_norm, finK_ret, fin7, R7_ai10rzir.st, h1]
noncomputable def f7_ai10rzir_j8 (k : Nat) (x8 : Int) (x84 : Bool) (h0_ h0__1 h0__2 h0__3 h0__4 h0__5 h0__6 h0__7 h0__8 h0__9 : Int) (h1_ : List Int) (h3_ : List T25) (m13 m13_1 m13_2 m13_3 m13_4 m13_5 m13_6 m13_7 m13_8 m13_9 : Int) (m79 : List Int) : Option R7_ai10rzir :=
  cond ((x8 == 0))
    (
      Option.bind (f20_ai10rzai10rz k h0_ h0__1 h0__2 h0__3 h0__4 h0__5 h0__6 h0__7 h0__8 h0__9 h1_ m13 m13_1 m13_2 m13_3 m13_4 m13_5 m13_6 m13_7 m13_8 m13_9 m79) fun o2 =>
        match o2 with
        | .o0 v5 =>
          some (R7_ai10rzir.o0 v5))
    (some (R7_ai10rzir.o0 false))
theorem f7_ai10rzir_j8_ok (k : Nat) (x8 : Int) (x84 : Bool) (h0_ h0__1 h0__2 h0__3 h0__4 h0__5 h0__6 h0__7 h0__8 h0__9 : Int) (h1_ : List Int) (h3_ : List T25) (m13 m13_1 m13_2 m13_3 m13_4 m13_5 m13_6 m13_7 m13_8 m13_9 : Int) (m79 : List Int) (r : R7_ai10rzir) (hF : f7_ai10rzir_j8 k x8 x84 h0_ h0__1 h0__2 h0__3 h0__4 h0__5 h0__6 h0__7 h0__8 h0__9 h1_ h3_ m13 m13_1 m13_2 m13_3 m13_4 m13_5 m13_6 m13_7 m13_8 m13_9 m79 = some r) : finK Try.prog Try.f7 0 (EX 7 k (nav B7 [2, 2, 2, 2, 2, 2, 2, 2, 2, 2]) ({ n := 108, F := [(3, V.ptr 30000 0), (8, V.p (Value.int .i64 x8)), (9, V.own 30003), (13, V.ptr 13 0), (84, V.p (Value.bool x84))], M := [(30000, O.box 25 [V.p (Value.int .i64 h0_), V.p (Value.int .i64 h0__1), V.p (Value.int .u32 h0__2), V.p (Value.int .i64 h0__3), V.p (Value.int .i64 h0__4), V.p (Value.int .i64 h0__5), V.p (Value.int .i64 h0__6), V.p (Value.int .i64 h0__7), V.p (Value.int .i64 h0__8), V.p (Value.int .i64 h0__9), V.own 30001]), (30001, O.row false 1 5 (rowsOf (encI .u8) h1_)), (30003, O.row false 11 25 (rowsOf encT25 h3_)), (13, O.box 25 [V.p (Value.int .i64 m13), V.p (Value.int .i64 m13_1), V.p (Value.int .u32 m13_2), V.p (Value.int .i64 m13_3), V.p (Value.int .i64 m13_4), V.p (Value.int .i64 m13_5), V.p (Value.int .i64 m13_6), V.p (Value.int .i64 m13_7), V.p (Value.int .i64 m13_8), V.p (Value.int .i64 m13_9), V.own 79]), (79, O.row true 1 5 (rowsOf (encI .u8) m79))] } : St)) = some r.st := by
  unfold f7_ai10rzir_j8 at hF
  simp (maxSteps := 999999) (disch := first | exact D (by decide) | exact K (by kernel_rfl)) only [E, EE, ↓reduceIte, simprocAttr, xk B7 [2, 2, 2, 2, 2, 2, 2, 2, 2, 2] .sq rfl, show (nav B7 [1, 2, 2, 2, 2, 2, 2, 2, 2, 2, 2]) = Code.region 25 _ false from rfl, hk_7_25, hz_7_25, hs_7_25]
  replace hF := cond_some hF
  rcases hF with ⟨h1, hF⟩ | ⟨h1, hF⟩
  · replace hF := Option.bind_eq_some_iff.1 hF
    obtain ⟨o2, h3, hF⟩ := hF
    have hc4 := f20_ai10rzai10rz_ok k h0_ h0__1 h0__2 h0__3 h0__4 h0__5 h0__6 h0__7 h0__8 h0__9 h1_ m13 m13_1 m13_2 m13_3 m13_4 m13_5 m13_6 m13_7 m13_8 m13_9 m79 _ h3
    cases o2 with
    | o0 v5 =>
      (try dsimp only at hF)
      (try simp only [NM, EE, R20_ai10rzai10rz.st] at hc4)
      cases hF
      simp (maxSteps := 999999) (disch := first | exact D (by decide) | exact K (by kernel_rfl)) only [E, EE, ↓reduceIte, simprocAttr, u_25, i_25, is_25, ib_25, iz_25, callStep, CL, gv, List.contains, xk B7 [2, 2, 2, 2, 2, 2, 2, 2, 2, 2, 2] .rt rfl, finK_norm, finK_ret, fin7, R7_ai10rzir.st, h1, hc4]
  · cases hF
    simp (maxSteps := 999999) (disch := first | exact D (by decide) | exact K (by kernel_rfl)) only [E, EE, ↓reduceIte, simprocAttr, xk B7 [2, 2, 2, 2, 2, 2, 2, 2, 2, 2, 2] .rt rfl, finK_norm, finK_ret, fin7, R7_ai10rzir.st, h1]
noncomputable def f7_ai10rzir_j6 (k : Nat) (x55 x56 : Int) (x57 : Bool) (h0_ h0__1 h0__2 h0__3 h0__4 h0__5 h0__6 h0__7 h0__8 h0__9 : Int) (h1_ : List Int) (h2_ h3_ : List T25) : Option R7_ai10rzir :=
  Option.bind (f18_r k h3_) fun o1 =>
    match o1 with
    | .o0 v4 v5 v6 v7 v8 v9 v10 v11 v12 v13 v14 v15 =>
      Option.bind (f19_ai10rz k h0_ h0__1 h0__2 h0__3 h0__4 h0__5 h0__6 h0__7 h0__8 h0__9 h1_) fun o16 =>
        match o16 with
        | .o0 v19 =>
          cond ((!v19))
            (
              Option.bind (f23_r k h3_) fun o21 =>
                match o21 with
                | .o0 v24 v25 =>
                  cond ((v15 == 4))
                    (
                      cond ((v24 == 0))
                        (some (R7_ai10rzir.o0 (decide (((List.length v25) : Int) > 0))))
                        (some (R7_ai10rzir.o0 false)))
                    (some (R7_ai10rzir.o0 false)))
            (f7_ai10rzir_j7 k v15 false h0_ h0__1 h0__2 h0__3 h0__4 h0__5 h0__6 h0__7 h0__8 h0__9 h1_ h3_ v4 v5 v6 v7 v8 v9 v10 v11 v12 v13 v14)
    | .o1 v28 v29 v30 v31 v32 v33 v34 v35 v36 v37 v38 v39 =>
      Option.bind (f19_ai10rz k h0_ h0__1 h0__2 h0__3 h0__4 h0__5 h0__6 h0__7 h0__8 h0__9 h1_) fun o40 =>
        match o40 with
        | .o0 v43 =>
          cond ((!v43))
            (
              Option.bind (f23_r k h3_) fun o45 =>
                match o45 with
                | .o0 v48 v49 =>
                  cond ((v38 == 4))
                    (
                      cond ((v48 == 0))
                        (some (R7_ai10rzir.o0 (decide (((List.length v49) : Int) > 0))))
                        (some (R7_ai10rzir.o0 false)))
                    (some (R7_ai10rzir.o0 false)))
            (f7_ai10rzir_j8 k v38 false h0_ h0__1 h0__2 h0__3 h0__4 h0__5 h0__6 h0__7 h0__8 h0__9 h1_ h3_ v28 v29 v30 v31 v32 v33 v34 v35 v36 v37 v39)
theorem f7_ai10rzir_j6_ok (k : Nat) (x55 x56 : Int) (x57 : Bool) (h0_ h0__1 h0__2 h0__3 h0__4 h0__5 h0__6 h0__7 h0__8 h0__9 : Int) (h1_ : List Int) (h2_ h3_ : List T25) (r : R7_ai10rzir) (hF : f7_ai10rzir_j6 k x55 x56 x57 h0_ h0__1 h0__2 h0__3 h0__4 h0__5 h0__6 h0__7 h0__8 h0__9 h1_ h2_ h3_ = some r) : finK Try.prog Try.f7 0 (EX 7 k (nav B7 [2, 2, 2, 2, 2, 2, 2, 2]) ({ n := 108, F := [(3, V.ptr 30000 0), (7, V.own 30002), (9, V.own 30003), (55, V.p (Value.int .i64 x55)), (56, V.p (Value.int .i64 x56)), (57, V.p (Value.bool x57))], M := [(30000, O.box 25 [V.p (Value.int .i64 h0_), V.p (Value.int .i64 h0__1), V.p (Value.int .u32 h0__2), V.p (Value.int .i64 h0__3), V.p (Value.int .i64 h0__4), V.p (Value.int .i64 h0__5), V.p (Value.int .i64 h0__6), V.p (Value.int .i64 h0__7), V.p (Value.int .i64 h0__8), V.p (Value.int .i64 h0__9), V.own 30001]), (30001, O.row false 1 5 (rowsOf (encI .u8) h1_)), (30002, O.row true 11 25 (rowsOf encT25 h2_)), (30003, O.row true 11 25 (rowsOf encT25 h3_))] } : St)) = some r.st := by
  unfold f7_ai10rzir_j6 at hF
  simp (maxSteps := 999999) (disch := first | exact D (by decide) | exact K (by kernel_rfl)) only [E, EE, ↓reduceIte, simprocAttr, xk B7 [2, 2, 2, 2, 2, 2, 2, 2] .sq rfl, show (nav B7 [1, 2, 2, 2, 2, 2, 2, 2, 2]) = Code.region 21 _ false from rfl, hk_7_21, hz_7_21, hs_7_21, callStep, CL, gv, List.contains]
  replace hF := Option.bind_eq_some_iff.1 hF
  obtain ⟨o1, h2, hF⟩ := hF
  have hc3 := f18_r_ok k h3_ _ h2
  cases o1 with
  | o0 v4 v5 v6 v7 v8 v9 v10 v11 v12 v13 v14 v15 =>
    (try dsimp only at hF)
    (try simp only [NM, EE, R18_r.st] at hc3)
    replace hF := Option.bind_eq_some_iff.1 hF
    obtain ⟨o16, h17, hF⟩ := hF
    have hc18 := f19_ai10rz_ok k h0_ h0__1 h0__2 h0__3 h0__4 h0__5 h0__6 h0__7 h0__8 h0__9 h1_ _ h17
    cases o16 with
    | o0 v19 =>
      (try dsimp only at hF)
      (try simp only [NM, EE, R19_ai10rz.st] at hc18)
      simp (maxSteps := 999999) (disch := first | exact D (by decide) | exact K (by kernel_rfl)) only [E, EE, ↓reduceIte, simprocAttr, u_25, i_25, is_25, ib_25, iz_25, xk B7 [2, 2, 2, 2, 2, 2, 2, 2, 2] .sq rfl, xk B7 [1, 2, 2, 2, 2, 2, 2, 2, 2, 2] .sq rfl, show (nav B7 [1, 1, 2, 2, 2, 2, 2, 2, 2, 2, 2]) = Code.region 22 _ false from rfl, hk_7_22, hz_7_22, hs_7_22, callStep, CL, gv, List.contains, xk B7 [2, 1, 2, 2, 2, 2, 2, 2, 2, 2, 2] (.cd 84) rfl, hc3, hc18]
      replace hF := cond_some hF
      rcases hF with ⟨h20, hF⟩ | ⟨h20, hF⟩
      · replace hF := Option.bind_eq_some_iff.1 hF
        obtain ⟨o21, h22, hF⟩ := hF
        have hc23 := f23_r_ok k h3_ _ h22
        cases o21 with
        | o0 v24 v25 =>
          (try dsimp only at hF)
          (try simp only [NM, EE, R23_r.st] at hc23)
          simp (maxSteps := 999999) (disch := first | exact D (by decide) | exact K (by kernel_rfl)) only [E, EE, ↓reduceIte, simprocAttr, xk B7 [2, 2, 1, 2, 2, 2, 2, 2, 2, 2, 2, 2] .sq rfl, show (nav B7 [1, 2, 2, 1, 2, 2, 2, 2, 2, 2, 2, 2, 2]) = Code.region 23 _ false from rfl, hk_7_23, hz_7_23, hs_7_23, callStep, CL, gv, List.contains, xk B7 [2, 2, 2, 1, 2, 2, 2, 2, 2, 2, 2, 2, 2] .sq rfl, show (nav B7 [1, 2, 2, 2, 1, 2, 2, 2, 2, 2, 2, 2, 2, 2]) = Code.region 24 _ false from rfl, hk_7_24, hz_7_24, hs_7_24, hc3, hc18, h20, hc23]
          replace hF := cond_some hF
          rcases hF with ⟨h26, hF⟩ | ⟨h26, hF⟩
          · replace hF := cond_some hF
            rcases hF with ⟨h27, hF⟩ | ⟨h27, hF⟩
            · cases hF
              simp (maxSteps := 999999) (disch := first | exact D (by decide) | exact K (by kernel_rfl)) only [E, EE, ↓reduceIte, simprocAttr, u_41, i_41, is_41, ib_41, iz_41, xk B7 [2, 2, 2, 2, 1, 2, 2, 2, 2, 2, 2, 2, 2, 2] .rt rfl, finK_norm, finK_ret, fin7, R7_ai10rzir.st, hc3, hc18, h20, hc23, h26, h27]
            · cases hF
              simp (maxSteps := 999999) (disch := first | exact D (by decide) | exact K (by kernel_rfl)) only [E, EE, ↓reduceIte, simprocAttr, xk B7 [2, 2, 2, 2, 1, 2, 2, 2, 2, 2, 2, 2, 2, 2] .rt rfl, finK_norm, finK_ret, fin7, R7_ai10rzir.st, hc3, hc18, h20, hc23, h26, h27]
          · cases hF
            simp (maxSteps := 999999) (disch := first | exact D (by decide) | exact K (by kernel_rfl)) only [E, EE, ↓reduceIte, simprocAttr, xk B7 [2, 2, 2, 2, 1, 2, 2, 2, 2, 2, 2, 2, 2, 2] .rt rfl, finK_norm, finK_ret, fin7, R7_ai10rzir.st, hc3, hc18, h20, hc23, h26]
      · have hJ := f7_ai10rzir_j7_ok k v15 false h0_ h0__1 h0__2 h0__3 h0__4 h0__5 h0__6 h0__7 h0__8 h0__9 h1_ h3_ v4 v5 v6 v7 v8 v9 v10 v11 v12 v13 v14 _ hF
        simp (maxSteps := 999999) (disch := first | exact D (by decide) | exact K (by kernel_rfl)) only [E, EE, ↓reduceIte, simprocAttr, xk B7 [3, 2, 1, 2, 2, 2, 2, 2, 2, 2, 2, 2] .sk rfl, hc3, hc18, h20]
        try simp only [NM, EE] at hJ
        exact hJ
  | o1 v28 v29 v30 v31 v32 v33 v34 v35 v36 v37 v38 v39 =>
    (try dsimp only at hF)
    (try simp only [NM, EE, R18_r.st] at hc3)
    replace hF := Option.bind_eq_some_iff.1 hF
    obtain ⟨o40, h41, hF⟩ := hF
    have hc42 := f19_ai10rz_ok k h0_ h0__1 h0__2 h0__3 h0__4 h0__5 h0__6 h0__7 h0__8 h0__9 h1_ _ h41
    cases o40 with
    | o0 v43 =>
      (try dsimp only at hF)
      (try simp only [NM, EE, R19_ai10rz.st] at hc42)
      simp (maxSteps := 999999) (disch := first | exact D (by decide) | exact K (by kernel_rfl)) only [E, EE, ↓reduceIte, simprocAttr, u_25, i_25, is_25, ib_25, iz_25, xk B7 [2, 2, 2, 2, 2, 2, 2, 2, 2] .sq rfl, xk B7 [1, 2, 2, 2, 2, 2, 2, 2, 2, 2] .sq rfl, show (nav B7 [1, 1, 2, 2, 2, 2, 2, 2, 2, 2, 2]) = Code.region 22 _ false from rfl, hk_7_22, hz_7_22, hs_7_22, callStep, CL, gv, List.contains, xk B7 [2, 1, 2, 2, 2, 2, 2, 2, 2, 2, 2] (.cd 84) rfl, hc3, hc42]
      replace hF := cond_some hF
      rcases hF with ⟨h44, hF⟩ | ⟨h44, hF⟩
      · replace hF := Option.bind_eq_some_iff.1 hF
        obtain ⟨o45, h46, hF⟩ := hF
        have hc47 := f23_r_ok k h3_ _ h46
        cases o45 with
        | o0 v48 v49 =>
          (try dsimp only at hF)
          (try simp only [NM, EE, R23_r.st] at hc47)
          simp (maxSteps := 999999) (disch := first | exact D (by decide) | exact K (by kernel_rfl)) only [E, EE, ↓reduceIte, simprocAttr, xk B7 [2, 2, 1, 2, 2, 2, 2, 2, 2, 2, 2, 2] .sq rfl, show (nav B7 [1, 2, 2, 1, 2, 2, 2, 2, 2, 2, 2, 2, 2]) = Code.region 23 _ false from rfl, hk_7_23, hz_7_23, hs_7_23, callStep, CL, gv, List.contains, xk B7 [2, 2, 2, 1, 2, 2, 2, 2, 2, 2, 2, 2, 2] .sq rfl, show (nav B7 [1, 2, 2, 2, 1, 2, 2, 2, 2, 2, 2, 2, 2, 2]) = Code.region 24 _ false from rfl, hk_7_24, hz_7_24, hs_7_24, hc3, hc42, h44, hc47]
          replace hF := cond_some hF
          rcases hF with ⟨h50, hF⟩ | ⟨h50, hF⟩
          · replace hF := cond_some hF
            rcases hF with ⟨h51, hF⟩ | ⟨h51, hF⟩
            · cases hF
              simp (maxSteps := 999999) (disch := first | exact D (by decide) | exact K (by kernel_rfl)) only [E, EE, ↓reduceIte, simprocAttr, u_41, i_41, is_41, ib_41, iz_41, xk B7 [2, 2, 2, 2, 1, 2, 2, 2, 2, 2, 2, 2, 2, 2] .rt rfl, finK_norm, finK_ret, fin7, R7_ai10rzir.st, hc3, hc42, h44, hc47, h50, h51]
            · cases hF
              simp (maxSteps := 999999) (disch := first | exact D (by decide) | exact K (by kernel_rfl)) only [E, EE, ↓reduceIte, simprocAttr, xk B7 [2, 2, 2, 2, 1, 2, 2, 2, 2, 2, 2, 2, 2, 2] .rt rfl, finK_norm, finK_ret, fin7, R7_ai10rzir.st, hc3, hc42, h44, hc47, h50, h51]
          · cases hF
            simp (maxSteps := 999999) (disch := first | exact D (by decide) | exact K (by kernel_rfl)) only [E, EE, ↓reduceIte, simprocAttr, xk B7 [2, 2, 2, 2, 1, 2, 2, 2, 2, 2, 2, 2, 2, 2] .rt rfl, finK_norm, finK_ret, fin7, R7_ai10rzir.st, hc3, hc42, h44, hc47, h50]
      · have hJ := f7_ai10rzir_j8_ok k v38 false h0_ h0__1 h0__2 h0__3 h0__4 h0__5 h0__6 h0__7 h0__8 h0__9 h1_ h3_ v28 v29 v30 v31 v32 v33 v34 v35 v36 v37 v39 _ hF
        simp (maxSteps := 999999) (disch := first | exact D (by decide) | exact K (by kernel_rfl)) only [E, EE, ↓reduceIte, simprocAttr, xk B7 [3, 2, 1, 2, 2, 2, 2, 2, 2, 2, 2, 2] .sk rfl, hc3, hc42, h44]
        try simp only [NM, EE] at hJ
        exact hJ
noncomputable def f7_ai10rzir_j4 (k : Nat) (x11 : Int) (x31 : List Int) (x32 x33 : Int) (x39 : Bool) (h0_ h0__1 h0__2 h0__3 h0__4 h0__5 h0__6 h0__7 h0__8 h0__9 : Int) (h1_ : List Int) (h2_ h3_ : List T25) : Option R7_ai10rzir :=
  Option.bind (f7_ai10rzir_l5 k k ((List.length h2_) : Int) 0 h0_ h0__1 h0__2 h0__3 h0__4 h0__5 h0__6 h0__7 h0__8 h0__9 h1_ h2_ h3_) fun o1 =>
    match o1 with
    | .o0 v4 =>
      some (R7_ai10rzir.o0 v4)
    | .o1 _ _ _ _ _ _ _ _ _ _ _ _ _ _ _ =>
      none
    | .o2 v5 v6 v7 v8 v9 v10 v11 v12 v13 v14 v15 v16 v17 v18 v19 v20 =>
      f7_ai10rzir_j6 k v5 v6 v7 v8 v9 v10 v11 v12 v13 v14 v15 v16 v17 v18 v19 v20
theorem f7_ai10rzir_j4_ok (k : Nat) (x11 : Int) (x31 : List Int) (x32 x33 : Int) (x39 : Bool) (h0_ h0__1 h0__2 h0__3 h0__4 h0__5 h0__6 h0__7 h0__8 h0__9 : Int) (h1_ : List Int) (h2_ h3_ : List T25) (r : R7_ai10rzir) (hF : f7_ai10rzir_j4 k x11 x31 x32 x33 x39 h0_ h0__1 h0__2 h0__3 h0__4 h0__5 h0__6 h0__7 h0__8 h0__9 h1_ h2_ h3_ = some r) : finK Try.prog Try.f7 0 (EX 7 k (nav B7 [2, 2, 2, 2, 2, 2, 2]) ({ n := 108, F := [(3, V.ptr 30000 0), (7, V.own 30002), (9, V.own 30003), (11, V.p (Value.int .i64 x11)), (31, V.sl 1 (rowsOf (encI .i64) x31)), (32, V.p (Value.int .i64 x32)), (33, V.p (Value.int .i64 x33)), (39, V.p (Value.bool x39))], M := [(30000, O.box 25 [V.p (Value.int .i64 h0_), V.p (Value.int .i64 h0__1), V.p (Value.int .u32 h0__2), V.p (Value.int .i64 h0__3), V.p (Value.int .i64 h0__4), V.p (Value.int .i64 h0__5), V.p (Value.int .i64 h0__6), V.p (Value.int .i64 h0__7), V.p (Value.int .i64 h0__8), V.p (Value.int .i64 h0__9), V.own 30001]), (30001, O.row false 1 5 (rowsOf (encI .u8) h1_)), (30002, O.row true 11 25 (rowsOf encT25 h2_)), (30003, O.row true 11 25 (rowsOf encT25 h3_))] } : St)) = some r.st := by
  unfold f7_ai10rzir_j4 at hF
  replace hF := Option.bind_eq_some_iff.1 hF
  obtain ⟨o1, h2, hF⟩ := hF
  have hc3 := f7_ai10rzir_l5_ok k k ((List.length h2_) : Int) 0 h0_ h0__1 h0__2 h0__3 h0__4 h0__5 h0__6 h0__7 h0__8 h0__9 h1_ h2_ h3_ _ h2
  simp (maxSteps := 999999) (disch := first | exact D (by decide) | exact K (by kernel_rfl)) only [E, EE, ↓reduceIte, simprocAttr, xk B7 [2, 2, 2, 2, 2, 2, 2] .sq rfl, xk B7 [1, 2, 2, 2, 2, 2, 2, 2] .sq rfl, show (nav B7 [1, 1, 2, 2, 2, 2, 2, 2, 2]) = Code.region 14 _ false from rfl, hk_7_14, hz_7_14, hs_7_14, u_28, i_28, is_28, ib_28, iz_28, xk B7 [2, 1, 2, 2, 2, 2, 2, 2, 2] (.bk 2) rfl, xk B7 [2, 2, 1, 2, 2, 2, 2, 2, 2, 2] .lp rfl, hh_7_15, hc_7_15]
  (try simp only [NM, EE] at hc3)
  rw [hc3 _ (by simp (maxSteps := 999999) (disch := first | exact D (by decide) | exact K (by kernel_rfl)) only [E, EE, ↓reduceIte, simprocAttr, hh_7_15, hc_7_15])]
  clear hc3
  cases o1 with
  | o0 v4 =>
    (try dsimp only at hF)
    cases hF
    simp (maxSteps := 999999) (disch := first | exact D (by decide) | exact K (by kernel_rfl)) only [E, EE, ↓reduceIte, simprocAttr, R7_ai10rzir_l5.st, finK_norm, finK_ret, fin7, R7_ai10rzir.st]
  | o1 _ _ _ _ _ _ _ _ _ _ _ _ _ _ _ =>
    (try dsimp only at hF)
    cases hF
  | o2 v5 v6 v7 v8 v9 v10 v11 v12 v13 v14 v15 v16 v17 v18 v19 v20 =>
    (try dsimp only at hF)
    have hJ := f7_ai10rzir_j6_ok k v5 v6 v7 v8 v9 v10 v11 v12 v13 v14 v15 v16 v17 v18 v19 v20 _ hF
    simp (maxSteps := 999999) (disch := first | exact D (by decide) | exact K (by kernel_rfl)) only [E, EE, ↓reduceIte, simprocAttr, R7_ai10rzir_l5.st]
    try simp only [NM, EE] at hJ
    exact hJ
noncomputable def f7_ai10rzir_j9 (k : Nat) (x31 : List Int) (x32 x33 : Int) (x34 : Bool) (h0_ h0__1 h0__2 h0__3 h0__4 h0__5 h0__6 h0__7 h0__8 h0__9 : Int) (h1_ : List Int) (h2_ h3_ : List T25) : Option R7_ai10rzir :=
  Option.bind (f7_ai10rzir_l5 k k ((List.length h2_) : Int) 0 h0_ h0__1 h0__2 h0__3 h0__4 h0__5 h0__6 h0__7 h0__8 h0__9 h1_ h2_ h3_) fun o1 =>
    match o1 with
    | .o0 v4 =>
      some (R7_ai10rzir.o0 v4)
    | .o1 _ _ _ _ _ _ _ _ _ _ _ _ _ _ _ =>
      none
    | .o2 v5 v6 v7 v8 v9 v10 v11 v12 v13 v14 v15 v16 v17 v18 v19 v20 =>
      f7_ai10rzir_j6 k v5 v6 v7 v8 v9 v10 v11 v12 v13 v14 v15 v16 v17 v18 v19 v20
theorem f7_ai10rzir_j9_ok (k : Nat) (x31 : List Int) (x32 x33 : Int) (x34 : Bool) (h0_ h0__1 h0__2 h0__3 h0__4 h0__5 h0__6 h0__7 h0__8 h0__9 : Int) (h1_ : List Int) (h2_ h3_ : List T25) (r : R7_ai10rzir) (hF : f7_ai10rzir_j9 k x31 x32 x33 x34 h0_ h0__1 h0__2 h0__3 h0__4 h0__5 h0__6 h0__7 h0__8 h0__9 h1_ h2_ h3_ = some r) : finK Try.prog Try.f7 0 (EX 7 k (nav B7 [2, 2, 2, 2, 2, 2, 2]) ({ n := 108, F := [(3, V.ptr 30000 0), (7, V.own 30002), (9, V.own 30003), (31, V.sl 1 (rowsOf (encI .i64) x31)), (32, V.p (Value.int .i64 x32)), (33, V.p (Value.int .i64 x33)), (34, V.p (Value.bool x34))], M := [(30000, O.box 25 [V.p (Value.int .i64 h0_), V.p (Value.int .i64 h0__1), V.p (Value.int .u32 h0__2), V.p (Value.int .i64 h0__3), V.p (Value.int .i64 h0__4), V.p (Value.int .i64 h0__5), V.p (Value.int .i64 h0__6), V.p (Value.int .i64 h0__7), V.p (Value.int .i64 h0__8), V.p (Value.int .i64 h0__9), V.own 30001]), (30001, O.row false 1 5 (rowsOf (encI .u8) h1_)), (30002, O.row true 11 25 (rowsOf encT25 h2_)), (30003, O.row true 11 25 (rowsOf encT25 h3_))] } : St)) = some r.st := by
  unfold f7_ai10rzir_j9 at hF
  replace hF := Option.bind_eq_some_iff.1 hF
  obtain ⟨o1, h2, hF⟩ := hF
  have hc3 := f7_ai10rzir_l5_ok k k ((List.length h2_) : Int) 0 h0_ h0__1 h0__2 h0__3 h0__4 h0__5 h0__6 h0__7 h0__8 h0__9 h1_ h2_ h3_ _ h2
  simp (maxSteps := 999999) (disch := first | exact D (by decide) | exact K (by kernel_rfl)) only [E, EE, ↓reduceIte, simprocAttr, xk B7 [2, 2, 2, 2, 2, 2, 2] .sq rfl, xk B7 [1, 2, 2, 2, 2, 2, 2, 2] .sq rfl, show (nav B7 [1, 1, 2, 2, 2, 2, 2, 2, 2]) = Code.region 14 _ false from rfl, hk_7_14, hz_7_14, hs_7_14, u_28, i_28, is_28, ib_28, iz_28, xk B7 [2, 1, 2, 2, 2, 2, 2, 2, 2] (.bk 2) rfl, xk B7 [2, 2, 1, 2, 2, 2, 2, 2, 2, 2] .lp rfl, hh_7_15, hc_7_15]
  (try simp only [NM, EE] at hc3)
  rw [hc3 _ (by simp (maxSteps := 999999) (disch := first | exact D (by decide) | exact K (by kernel_rfl)) only [E, EE, ↓reduceIte, simprocAttr, hh_7_15, hc_7_15])]
  clear hc3
  cases o1 with
  | o0 v4 =>
    (try dsimp only at hF)
    cases hF
    simp (maxSteps := 999999) (disch := first | exact D (by decide) | exact K (by kernel_rfl)) only [E, EE, ↓reduceIte, simprocAttr, R7_ai10rzir_l5.st, finK_norm, finK_ret, fin7, R7_ai10rzir.st]
  | o1 _ _ _ _ _ _ _ _ _ _ _ _ _ _ _ =>
    (try dsimp only at hF)
    cases hF
  | o2 v5 v6 v7 v8 v9 v10 v11 v12 v13 v14 v15 v16 v17 v18 v19 v20 =>
    (try dsimp only at hF)
    have hJ := f7_ai10rzir_j6_ok k v5 v6 v7 v8 v9 v10 v11 v12 v13 v14 v15 v16 v17 v18 v19 v20 _ hF
    simp (maxSteps := 999999) (disch := first | exact D (by decide) | exact K (by kernel_rfl)) only [E, EE, ↓reduceIte, simprocAttr, R7_ai10rzir_l5.st]
    try simp only [NM, EE] at hJ
    exact hJ
noncomputable def f7_ai10rzir_j2 (k : Nat) (x2 : List Int) (x27 : Bool) (m3 m3_1 m3_2 m3_3 m3_4 m3_5 m3_6 m3_7 m3_8 m3_9 : Int) (m19 : List Int) (m23 : List T25) : Option R7_ai10rzir :=
  Option.bind (f7_ai10rzir_l3 k k x2 ((List.length x2) : Int) 0 m3 m3_1 m3_2 m3_3 m3_4 m3_5 m3_6 m3_7 m3_8 m3_9 m19 m23 []) fun o1 =>
    match o1 with
    | .o0 v4 v5 v6 v7 v8 v9 v10 v11 v12 v13 v14 v15 v16 v17 v18 v19 v20 v21 =>
      f7_ai10rzir_j4 k v4 v5 v6 v7 v8 v9 v10 v11 v12 v13 v14 v15 v16 v17 v18 v19 v20 v21
    | .o1 _ _ _ _ _ _ _ _ _ _ _ _ _ _ _ _ =>
      none
    | .o2 v22 v23 v24 v25 v26 v27 v28 v29 v30 v31 v32 v33 v34 v35 v36 v37 v38 =>
      f7_ai10rzir_j9 k v22 v23 v24 v25 v26 v27 v28 v29 v30 v31 v32 v33 v34 v35 v36 v37 v38
theorem f7_ai10rzir_j2_ok (k : Nat) (x2 : List Int) (x27 : Bool) (m3 m3_1 m3_2 m3_3 m3_4 m3_5 m3_6 m3_7 m3_8 m3_9 : Int) (m19 : List Int) (m23 : List T25) (r : R7_ai10rzir) (hF : f7_ai10rzir_j2 k x2 x27 m3 m3_1 m3_2 m3_3 m3_4 m3_5 m3_6 m3_7 m3_8 m3_9 m19 m23 = some r) : finK Try.prog Try.f7 0 (EX 7 k (nav B7 [2, 2, 2, 2, 2]) ({ n := 108, F := [(2, V.sl 1 (rowsOf (encI .i64) x2)), (3, V.ptr 3 0), (7, V.own 23), (27, V.p (Value.bool x27))], M := [(3, O.box 25 [V.p (Value.int .i64 m3), V.p (Value.int .i64 m3_1), V.p (Value.int .u32 m3_2), V.p (Value.int .i64 m3_3), V.p (Value.int .i64 m3_4), V.p (Value.int .i64 m3_5), V.p (Value.int .i64 m3_6), V.p (Value.int .i64 m3_7), V.p (Value.int .i64 m3_8), V.p (Value.int .i64 m3_9), V.own 19]), (19, O.row false 1 5 (rowsOf (encI .u8) m19)), (23, O.row true 11 25 (rowsOf encT25 m23))] } : St)) = some r.st := by
  unfold f7_ai10rzir_j2 at hF
  replace hF := Option.bind_eq_some_iff.1 hF
  obtain ⟨o1, h2, hF⟩ := hF
  have hc3 := f7_ai10rzir_l3_ok k k x2 ((List.length x2) : Int) 0 m3 m3_1 m3_2 m3_3 m3_4 m3_5 m3_6 m3_7 m3_8 m3_9 m19 m23 [] _ h2
  simp (maxSteps := 999999) (disch := first | exact D (by decide) | exact K (by kernel_rfl)) only [E, EE, ↓reduceIte, simprocAttr, xk B7 [2, 2, 2, 2, 2] .sq rfl, show (nav B7 [1, 2, 2, 2, 2, 2]) = Code.region 7 _ false from rfl, hk_7_7, hz_7_7, hs_7_7, xk B7 [2, 2, 2, 2, 2, 2] .sq rfl, xk B7 [1, 2, 2, 2, 2, 2, 2] .sq rfl, show (nav B7 [1, 1, 2, 2, 2, 2, 2, 2]) = Code.region 8 _ false from rfl, hk_7_8, hz_7_8, hs_7_8, u_48, i_48, is_48, ib_48, iz_48, xk B7 [2, 1, 2, 2, 2, 2, 2, 2] (.bk 0) rfl, xk B7 [2, 2, 1, 2, 2, 2, 2, 2, 2] .lp rfl, hh_7_9, hc_7_9]
  (try simp only [NM, EE] at hc3)
  rw [hc3 _ (by simp (maxSteps := 999999) (disch := first | exact D (by decide) | exact K (by kernel_rfl)) only [E, EE, ↓reduceIte, simprocAttr, hh_7_9, hc_7_9])]
  clear hc3
  cases o1 with
  | o0 v4 v5 v6 v7 v8 v9 v10 v11 v12 v13 v14 v15 v16 v17 v18 v19 v20 v21 =>
    (try dsimp only at hF)
    have hJ := f7_ai10rzir_j4_ok k v4 v5 v6 v7 v8 v9 v10 v11 v12 v13 v14 v15 v16 v17 v18 v19 v20 v21 _ hF
    simp (maxSteps := 999999) (disch := first | exact D (by decide) | exact K (by kernel_rfl)) only [E, EE, ↓reduceIte, simprocAttr, R7_ai10rzir_l3.st]
    try simp only [NM, EE] at hJ
    exact hJ
  | o1 _ _ _ _ _ _ _ _ _ _ _ _ _ _ _ _ =>
    (try dsimp only at hF)
    cases hF
  | o2 v22 v23 v24 v25 v26 v27 v28 v29 v30 v31 v32 v33 v34 v35 v36 v37 v38 =>
    (try dsimp only at hF)
    have hJ := f7_ai10rzir_j9_ok k v22 v23 v24 v25 v26 v27 v28 v29 v30 v31 v32 v33 v34 v35 v36 v37 v38 _ hF
    simp (maxSteps := 999999) (disch := first | exact D (by decide) | exact K (by kernel_rfl)) only [E, EE, ↓reduceIte, simprocAttr, R7_ai10rzir_l3.st]
    try simp only [NM, EE] at hJ
    exact hJ
noncomputable def f7_ai10rzir_j1 (k : Nat) (x1 : Int) (x2 : List Int) (x17 : Bool) (m3 m3_1 m3_2 m3_3 m3_4 m3_5 m3_6 m3_7 m3_8 m3_9 : Int) (m3_10 : List Int) : Option R7_ai10rzir :=
  Option.bind (f10_ai10rz k m3 m3_1 m3_2 m3_3 m3_4 m3_5 m3_6 m3_7 m3_8 m3_9 m3_10) fun o1 =>
    match o1 with
    | .o0 v4 v5 v6 v7 v8 v9 v10 v11 v12 v13 v14 =>
      Option.bind (f11_ai10rzi k v4 v5 v6 v7 v8 v9 v10 v11 v12 v13 v14 x1) fun o15 =>
        match o15 with
        | .o0 v18 v19 =>
          cond ((v18 != 0))
            (some (R7_ai10rzir.o0 (((List.length v19) : Int) == 0)))
            (f7_ai10rzir_j2 k x2 false v4 v5 v6 v7 v8 v9 v10 v11 v12 v13 v14 v19)
theorem f7_ai10rzir_j1_ok (k : Nat) (x1 : Int) (x2 : List Int) (x17 : Bool) (m3 m3_1 m3_2 m3_3 m3_4 m3_5 m3_6 m3_7 m3_8 m3_9 : Int) (m3_10 : List Int) (r : R7_ai10rzir) (hF : f7_ai10rzir_j1 k x1 x2 x17 m3 m3_1 m3_2 m3_3 m3_4 m3_5 m3_6 m3_7 m3_8 m3_9 m3_10 = some r) : finK Try.prog Try.f7 0 (EX 7 k (nav B7 [2, 2]) ({ n := 108, F := [(1, V.p (Value.int .i64 x1)), (2, V.sl 1 (rowsOf (encI .i64) x2)), (3, V.ptr 3 0), (17, V.p (Value.bool x17))], M := [(3, O.box 25 [V.p (Value.int .i64 m3), V.p (Value.int .i64 m3_1), V.p (Value.int .u32 m3_2), V.p (Value.int .i64 m3_3), V.p (Value.int .i64 m3_4), V.p (Value.int .i64 m3_5), V.p (Value.int .i64 m3_6), V.p (Value.int .i64 m3_7), V.p (Value.int .i64 m3_8), V.p (Value.int .i64 m3_9), V.sl 1 (rowsOf (encI .u8) m3_10)])] } : St)) = some r.st := by
  unfold f7_ai10rzir_j1 at hF
  replace hF := Option.bind_eq_some_iff.1 hF
  obtain ⟨o1, h2, hF⟩ := hF
  have hc3 := f10_ai10rz_ok k m3 m3_1 m3_2 m3_3 m3_4 m3_5 m3_6 m3_7 m3_8 m3_9 m3_10 _ h2
  cases o1 with
  | o0 v4 v5 v6 v7 v8 v9 v10 v11 v12 v13 v14 =>
    (try dsimp only at hF)
    (try simp only [NM, EE, R10_ai10rz.st] at hc3)
    replace hF := Option.bind_eq_some_iff.1 hF
    obtain ⟨o15, h16, hF⟩ := hF
    have hc17 := f11_ai10rzi_ok k v4 v5 v6 v7 v8 v9 v10 v11 v12 v13 v14 x1 _ h16
    cases o15 with
    | o0 v18 v19 =>
      (try dsimp only at hF)
      (try simp only [NM, EE, R11_ai10rzi.st] at hc17)
      simp (maxSteps := 999999) (disch := first | exact D (by decide) | exact K (by kernel_rfl)) only [E, EE, ↓reduceIte, simprocAttr, xk B7 [2, 2] .sq rfl, show (nav B7 [1, 2, 2]) = Code.region 3 _ false from rfl, hk_7_3, hz_7_3, hs_7_3, u_25, i_25, is_25, ib_25, iz_25, callStep, CL, gv, List.contains, xk B7 [2, 2, 2] .sq rfl, show (nav B7 [1, 2, 2, 2]) = Code.region 4 _ false from rfl, hk_7_4, hz_7_4, hs_7_4, xk B7 [2, 2, 2, 2] .sq rfl, xk B7 [1, 2, 2, 2, 2] .sq rfl, show (nav B7 [1, 1, 2, 2, 2, 2]) = Code.region 5 _ false from rfl, hk_7_5, hz_7_5, hs_7_5, xk B7 [2, 1, 2, 2, 2, 2] (.cd 27) rfl, hc3, hc17]
      replace hF := cond_some hF
      rcases hF with ⟨h20, hF⟩ | ⟨h20, hF⟩
      · cases hF
        simp (maxSteps := 999999) (disch := first | exact D (by decide) | exact K (by kernel_rfl)) only [E, EE, ↓reduceIte, simprocAttr, xk B7 [2, 2, 1, 2, 2, 2, 2] .sq rfl, show (nav B7 [1, 2, 2, 1, 2, 2, 2, 2]) = Code.region 6 _ false from rfl, hk_7_6, hz_7_6, hs_7_6, u_28, i_28, is_28, ib_28, iz_28, xk B7 [2, 2, 2, 1, 2, 2, 2, 2] .rt rfl, finK_norm, finK_ret, fin7, R7_ai10rzir.st, hc3, hc17, h20]
      · have hJ := f7_ai10rzir_j2_ok k x2 false v4 v5 v6 v7 v8 v9 v10 v11 v12 v13 v14 v19 _ hF
        simp (maxSteps := 999999) (disch := first | exact D (by decide) | exact K (by kernel_rfl)) only [E, EE, ↓reduceIte, simprocAttr, xk B7 [3, 2, 1, 2, 2, 2, 2] .sk rfl, hc3, hc17, h20]
        try simp only [NM, EE] at hJ
        exact hJ
noncomputable def f7_ai10rzir_e (k : Nat) (a0 a0_1 a0_2 a0_3 a0_4 a0_5 a0_6 a0_7 a0_8 a0_9 : Int) (a0_10 : List Int) (a1 : Int) (a2 : List Int) : Option R7_ai10rzir :=
  Option.bind (f9_ k) fun o1 =>
    match o1 with
    | .o0 v4 =>
      cond ((!v4))
        (some (R7_ai10rzir.o0 false))
        (f7_ai10rzir_j1 k a1 a2 false a0 a0_1 a0_2 a0_3 a0_4 a0_5 a0_6 a0_7 a0_8 a0_9 a0_10)
theorem f7_ai10rzir_e_ok (k : Nat) (a0 a0_1 a0_2 a0_3 a0_4 a0_5 a0_6 a0_7 a0_8 a0_9 : Int) (a0_10 : List Int) (a1 : Int) (a2 : List Int) (r : R7_ai10rzir) (hF : f7_ai10rzir_e k a0 a0_1 a0_2 a0_3 a0_4 a0_5 a0_6 a0_7 a0_8 a0_9 a0_10 a1 a2 = some r) : finK Try.prog Try.f7 0 (EX 7 k (nav B7 []) ({ n := 108, F := [(0, V.agg [V.p (Value.int .i64 a0), V.p (Value.int .i64 a0_1), V.p (Value.int .u32 a0_2), V.p (Value.int .i64 a0_3), V.p (Value.int .i64 a0_4), V.p (Value.int .i64 a0_5), V.p (Value.int .i64 a0_6), V.p (Value.int .i64 a0_7), V.p (Value.int .i64 a0_8), V.p (Value.int .i64 a0_9), V.sl 1 (rowsOf (encI .u8) a0_10)]), (1, V.p (Value.int .i64 a1)), (2, V.sl 1 (rowsOf (encI .i64) a2))], M := [] } : St)) = some r.st := by
  unfold f7_ai10rzir_e at hF
  replace hF := Option.bind_eq_some_iff.1 hF
  obtain ⟨o1, h2, hF⟩ := hF
  have hc3 := f9__ok k _ h2
  cases o1 with
  | o0 v4 =>
    (try dsimp only at hF)
    (try simp only [NM, EE, R9_.st] at hc3)
    simp (maxSteps := 999999) (disch := first | exact D (by decide) | exact K (by kernel_rfl)) only [E, EE, ↓reduceIte, simprocAttr, xk B7 [] .sq rfl, show (nav B7 [1]) = Code.region 0 _ false from rfl, hk_7_0, hz_7_0, hs_7_0, xk B7 [2] .sq rfl, xk B7 [1, 2] .sq rfl, show (nav B7 [1, 1, 2]) = Code.region 1 _ false from rfl, hk_7_1, hz_7_1, hs_7_1, callStep, CL, gv, List.contains, xk B7 [2, 1, 2] (.cd 17) rfl, hc3]
    replace hF := cond_some hF
    rcases hF with ⟨h5, hF⟩ | ⟨h5, hF⟩
    · cases hF
      simp (maxSteps := 999999) (disch := first | exact D (by decide) | exact K (by kernel_rfl)) only [E, EE, ↓reduceIte, simprocAttr, xk B7 [2, 2, 1, 2] .sq rfl, show (nav B7 [1, 2, 2, 1, 2]) = Code.region 2 _ false from rfl, hk_7_2, hz_7_2, hs_7_2, xk B7 [2, 2, 2, 1, 2] .rt rfl, finK_norm, finK_ret, fin7, R7_ai10rzir.st, hc3, h5]
    · have hJ := f7_ai10rzir_j1_ok k a1 a2 false a0 a0_1 a0_2 a0_3 a0_4 a0_5 a0_6 a0_7 a0_8 a0_9 a0_10 _ hF
      simp (maxSteps := 999999) (disch := first | exact D (by decide) | exact K (by kernel_rfl)) only [E, EE, ↓reduceIte, simprocAttr, xk B7 [3, 2, 1, 2] .sk rfl, hc3, h5]
      try simp only [NM, EE] at hJ
      exact hJ
noncomputable def f7_ai10rzir (k : Nat) (a0 a0_1 a0_2 a0_3 a0_4 a0_5 a0_6 a0_7 a0_8 a0_9 : Int) (a0_10 : List Int) (a1 : Int) (a2 : List Int) : Option R7_ai10rzir := match k with | 0 => none | k + 1 => f7_ai10rzir_e k a0 a0_1 a0_2 a0_3 a0_4 a0_5 a0_6 a0_7 a0_8 a0_9 a0_10 a1 a2
theorem f7_ai10rzir_ok (k : Nat) (a0 a0_1 a0_2 a0_3 a0_4 a0_5 a0_6 a0_7 a0_8 a0_9 : Int) (a0_10 : List Int) (a1 : Int) (a2 : List Int) (r : R7_ai10rzir) (hF : f7_ai10rzir k a0 a0_1 a0_2 a0_3 a0_4 a0_5 a0_6 a0_7 a0_8 a0_9 a0_10 a1 a2 = some r) : CV k 7 [V.agg [V.p (Value.int .i64 a0), V.p (Value.int .i64 a0_1), V.p (Value.int .u32 a0_2), V.p (Value.int .i64 a0_3), V.p (Value.int .i64 a0_4), V.p (Value.int .i64 a0_5), V.p (Value.int .i64 a0_6), V.p (Value.int .i64 a0_7), V.p (Value.int .i64 a0_8), V.p (Value.int .i64 a0_9), V.sl 1 (rowsOf (encI .u8) a0_10)], V.p (Value.int .i64 a1), V.sl 1 (rowsOf (encI .i64) a2)] [] = some r.st := by
  cases k with
  | zero => cases hF
  | succ k =>
    unfold CV
    rw [ev_call (F := Try.f7) (c := (nav B7 [])) rfl Try.func7 rfl rfl rfl rfl]
    exact f7_ai10rzir_e_ok k a0 a0_1 a0_2 a0_3 a0_4 a0_5 a0_6 a0_7 a0_8 a0_9 a0_10 a1 a2 r hF
end Go.Proofs.YteggcokgkcfliaaV
