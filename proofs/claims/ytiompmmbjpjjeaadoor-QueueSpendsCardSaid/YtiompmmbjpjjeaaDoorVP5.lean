/- What the program's functions answer: plain functions, and that the interpreter answers what they do. Written by a program of this session, out of the translation. -/
import Derived.Test.YtiompmmbjpjjeaaDoorVP4
namespace Go.Proofs.YtiompmmbjpjjeaaDoorV
open Go
set_option linter.unusedVariables false
set_option linter.unusedSimpArgs false
set_option maxRecDepth 8000
set_option maxHeartbeats 4000000
-- f5_airzraiiz: f5 heliograph/heliographlaw20.QueueSpends
inductive R5_airzraiiz where
  | o0 (y : Bool)
noncomputable def R5_airzraiiz.st : R5_airzraiiz → V × List O × List O
  | .o0 y => (V.p (Value.bool y), [], [])
inductive R5_airzraiiz_l6 where
  | o0 (y : Bool)
  | o1 (y : List Int) (y_1 y_2 : Int) (y_3 : Bool) (y_4 : List Int) (y_5 y_6 y_7 y_8 : Int) (y_9 : List T54) (y_10 : List Int) (y_11 : List T44) (y_12 y_13 y_14 y_15 : Int) (y_16 : List T54) (y_17 : List Int) (y_18 : List T44)
noncomputable def R5_airzraiiz_l6.st : R5_airzraiiz_l6 → Out × St
  | .o0 y => (.ret, ({ n := 127, F := [(6, V.p (Value.bool y))], M := [] } : St))
  | .o1 y y_1 y_2 y_3 y_4 y_5 y_6 y_7 y_8 y_9 y_10 y_11 y_12 y_13 y_14 y_15 y_16 y_17 y_18 => (.exit 1, ({ n := 127, F := [(5, V.ptr 30000 0), (7, V.ptr 30001 0), (8, V.ptr 30005 0), (9, V.sl 1 (rowsOf (encI .i64) y)), (99, V.own 30007), (100, V.p (Value.int .i64 y_1)), (101, V.p (Value.int .i64 y_2)), (102, V.p (Value.bool y_3))], M := [(30000, O.box 58 (arrC (cI .i64) y_4)), (30001, O.box 28 [V.p (Value.int .i64 y_5), V.p (Value.int .i64 y_6), V.own 30002, V.own 30003, V.p (Value.int .i64 y_7), V.own 30004, V.p (Value.int .i64 y_8)]), (30002, O.row false 6 54 (rowsOf encT54 y_9)), (30003, O.row false 1 3 (rowsOf (encI .i64) y_10)), (30004, O.row false 3 44 (rowsOf encT44 y_11)), (30005, O.box 28 [V.p (Value.int .i64 y_12), V.p (Value.int .i64 y_13), V.own 30006, V.own 30007, V.p (Value.int .i64 y_14), V.own 30008, V.p (Value.int .i64 y_15)]), (30006, O.row true 6 54 (rowsOf encT54 y_16)), (30007, O.row true 1 3 (rowsOf (encI .i64) y_17)), (30008, O.row true 3 44 (rowsOf encT44 y_18))] } : St))
noncomputable def f5_airzraiiz_l6_j3 (k : Nat) (x9 : List Int) (x12 x100 x101 : Int) (x119 : Bool) (h0_ : List Int) (h1_ h1__1 h1__2 h1__3 : Int) (h2_ : List T54) (h3_ : List Int) (h4_ : List T44) (h5_ h5__1 h5__2 h5__3 : Int) (h6_ : List T54) (h7_ : List Int) (h8_ : List T44) : Option R5_airzraiiz_l6 :=
  ifE ((0 : Int) ≤ x12) (
    Option.bind (x9[(Int.toNat x12)]?) fun v2 =>
      none)
theorem f5_airzraiiz_l6_j3_ok (k : Nat) (x9 : List Int) (x12 x100 x101 : Int) (x119 : Bool) (h0_ : List Int) (h1_ h1__1 h1__2 h1__3 : Int) (h2_ : List T54) (h3_ : List Int) (h4_ : List T44) (h5_ h5__1 h5__2 h5__3 : Int) (h6_ : List T54) (h7_ : List Int) (h8_ : List T44) (r : R5_airzraiiz_l6) (hF : f5_airzraiiz_l6_j3 k x9 x12 x100 x101 x119 h0_ h1_ h1__1 h1__2 h1__3 h2_ h3_ h4_ h5_ h5__1 h5__2 h5__3 h6_ h7_ h8_ = some r) : SQ 5 k (nav B5 [2, 2, 2, 1, 2, 2, 1, 2, 2, 2, 2, 2, 2, 2, 2, 2, 2]) (blockK 2 (EX 5 k (nav B5 [2, 2, 2, 2, 1, 2, 2, 1, 2, 2, 1, 2, 2, 2, 2, 2, 2, 2, 2, 2, 2]) ({ n := 127, F := [(5, V.ptr 30000 0), (7, V.ptr 30001 0), (8, V.ptr 30005 0), (9, V.sl 1 (rowsOf (encI .i64) x9)), (12, V.p (Value.int .i64 x12)), (99, V.own 30007), (100, V.p (Value.int .i64 x100)), (101, V.p (Value.int .i64 x101)), (119, V.p (Value.bool x119))], M := [(30000, O.box 58 (arrC (cI .i64) h0_)), (30001, O.box 28 [V.p (Value.int .i64 h1_), V.p (Value.int .i64 h1__1), V.own 30002, V.own 30003, V.p (Value.int .i64 h1__2), V.own 30004, V.p (Value.int .i64 h1__3)]), (30002, O.row false 6 54 (rowsOf encT54 h2_)), (30003, O.row false 1 3 (rowsOf (encI .i64) h3_)), (30004, O.row false 3 44 (rowsOf encT44 h4_)), (30005, O.box 28 [V.p (Value.int .i64 h5_), V.p (Value.int .i64 h5__1), V.own 30006, V.own 30007, V.p (Value.int .i64 h5__2), V.own 30008, V.p (Value.int .i64 h5__3)]), (30006, O.row true 6 54 (rowsOf encT54 h6_)), (30007, O.row true 1 3 (rowsOf (encI .i64) h7_)), (30008, O.row true 3 44 (rowsOf encT44 h8_))] } : St))) = some r.st := by
  unfold f5_airzraiiz_l6_j3 at hF
  replace hF := ifE_some.1 hF
  obtain ⟨h1, hF⟩ := hF
  replace hF := Option.bind_eq_some_iff.1 hF
  obtain ⟨v2, h3, hF⟩ := hF
  cases hF
noncomputable def f5_airzraiiz_l6_j2 (k : Nat) (x9 : List Int) (x12 x13 x100 x101 : Int) (h0_ : List Int) (h1_ h1__1 h1__2 h1__3 : Int) (h2_ : List T54) (h3_ : List Int) (h4_ : List T44) (h5_ h5__1 h5__2 h5__3 : Int) (h6_ : List T54) (h7_ : List Int) (h8_ : List T44) : Option R5_airzraiiz_l6 :=
  ifE ((0 : Int) ≤ x12) (
    Option.bind (x9[(Int.toNat x12)]?) fun v2 =>
      cond ((v2 != x13))
        (some (R5_airzraiiz_l6.o0 false))
        (f5_airzraiiz_l6_j3 k x9 x12 x100 x101 false h0_ h1_ h1__1 h1__2 h1__3 h2_ h3_ h4_ h5_ h5__1 h5__2 h5__3 h6_ h7_ h8_))
theorem f5_airzraiiz_l6_j2_ok (k : Nat) (x9 : List Int) (x12 x13 x100 x101 : Int) (h0_ : List Int) (h1_ h1__1 h1__2 h1__3 : Int) (h2_ : List T54) (h3_ : List Int) (h4_ : List T44) (h5_ h5__1 h5__2 h5__3 : Int) (h6_ : List T54) (h7_ : List Int) (h8_ : List T44) (r : R5_airzraiiz_l6) (hF : f5_airzraiiz_l6_j2 k x9 x12 x13 x100 x101 h0_ h1_ h1__1 h1__2 h1__3 h2_ h3_ h4_ h5_ h5__1 h5__2 h5__3 h6_ h7_ h8_ = some r) : SQ 5 k (nav B5 [2, 2, 2, 1, 2, 2, 1, 2, 2, 2, 2, 2, 2, 2, 2, 2, 2]) (blockK 2 (EX 5 k (nav B5 [2, 2, 2, 1, 2, 2, 1, 2, 2, 1, 2, 2, 2, 2, 2, 2, 2, 2, 2, 2]) ({ n := 127, F := [(5, V.ptr 30000 0), (7, V.ptr 30001 0), (8, V.ptr 30005 0), (9, V.sl 1 (rowsOf (encI .i64) x9)), (12, V.p (Value.int .i64 x12)), (13, V.p (Value.int .i64 x13)), (99, V.own 30007), (100, V.p (Value.int .i64 x100)), (101, V.p (Value.int .i64 x101))], M := [(30000, O.box 58 (arrC (cI .i64) h0_)), (30001, O.box 28 [V.p (Value.int .i64 h1_), V.p (Value.int .i64 h1__1), V.own 30002, V.own 30003, V.p (Value.int .i64 h1__2), V.own 30004, V.p (Value.int .i64 h1__3)]), (30002, O.row false 6 54 (rowsOf encT54 h2_)), (30003, O.row false 1 3 (rowsOf (encI .i64) h3_)), (30004, O.row false 3 44 (rowsOf encT44 h4_)), (30005, O.box 28 [V.p (Value.int .i64 h5_), V.p (Value.int .i64 h5__1), V.own 30006, V.own 30007, V.p (Value.int .i64 h5__2), V.own 30008, V.p (Value.int .i64 h5__3)]), (30006, O.row true 6 54 (rowsOf encT54 h6_)), (30007, O.row true 1 3 (rowsOf (encI .i64) h7_)), (30008, O.row true 3 44 (rowsOf encT44 h8_))] } : St))) = some r.st := by
  unfold f5_airzraiiz_l6_j2 at hF
  replace hF := ifE_some.1 hF
  obtain ⟨h1, hF⟩ := hF
  replace hF := Option.bind_eq_some_iff.1 hF
  obtain ⟨v2, h3, hF⟩ := hF
  simp (maxSteps := 999999) (disch := first | exact D (by decide) | exact K (by kernel_rfl)) only [E, EE, ↓reduceIte, simprocAttr, xk B5 [2, 2, 2, 1, 2, 2, 1, 2, 2, 1, 2, 2, 2, 2, 2, 2, 2, 2, 2, 2] .sq rfl, xk B5 [1, 2, 2, 2, 1, 2, 2, 1, 2, 2, 1, 2, 2, 2, 2, 2, 2, 2, 2, 2, 2] .sq rfl, show (nav B5 [1, 1, 2, 2, 2, 1, 2, 2, 1, 2, 2, 1, 2, 2, 2, 2, 2, 2, 2, 2, 2, 2]) = Code.region 24 _ false from rfl, hk_5_24, hz_5_24, hs_5_24, indexAddrV, u_25, i_25, is_25, ib_25, iz_25, u_3, i_3, is_3, ib_3, iz_3, encI_eq, xk B5 [2, 1, 2, 2, 2, 1, 2, 2, 1, 2, 2, 1, 2, 2, 2, 2, 2, 2, 2, 2, 2, 2] (.cd 119) rfl, h1, h3]
  replace hF := cond_some hF
  rcases hF with ⟨h4, hF⟩ | ⟨h4, hF⟩
  · cases hF
    simp (maxSteps := 999999) (disch := first | exact D (by decide) | exact K (by kernel_rfl)) only [E, EE, ↓reduceIte, simprocAttr, xk B5 [2, 2, 1, 2, 2, 2, 1, 2, 2, 1, 2, 2, 1, 2, 2, 2, 2, 2, 2, 2, 2, 2, 2] .sq rfl, show (nav B5 [1, 2, 2, 1, 2, 2, 2, 1, 2, 2, 1, 2, 2, 1, 2, 2, 2, 2, 2, 2, 2, 2, 2, 2]) = Code.region 25 _ false from rfl, hk_5_25, hz_5_25, hs_5_25, xk B5 [2, 2, 2, 1, 2, 2, 2, 1, 2, 2, 1, 2, 2, 1, 2, 2, 2, 2, 2, 2, 2, 2, 2, 2] .rt rfl, R5_airzraiiz_l6.st, h1, h3, h4]
  · have hJ := f5_airzraiiz_l6_j3_ok k x9 x12 x100 x101 false h0_ h1_ h1__1 h1__2 h1__3 h2_ h3_ h4_ h5_ h5__1 h5__2 h5__3 h6_ h7_ h8_ _ hF
    simp (maxSteps := 999999) (disch := first | exact D (by decide) | exact K (by kernel_rfl)) only [E, EE, ↓reduceIte, simprocAttr, xk B5 [3, 2, 1, 2, 2, 2, 1, 2, 2, 1, 2, 2, 1, 2, 2, 2, 2, 2, 2, 2, 2, 2, 2] .sk rfl, h1, h3, h4]
    try simp only [NM, EE] at hJ
    exact hJ
noncomputable def f5_airzraiiz_l6_j4 (k : Nat) (x9 : List Int) (x12 x13 x100 x101 : Int) (x109 : Bool) (h0_ : List Int) (h1_ h1__1 h1__2 h1__3 : Int) (h2_ : List T54) (h3_ : List Int) (h4_ : List T44) (h5_ h5__1 h5__2 h5__3 : Int) (h6_ : List T54) (h7_ : List Int) (h8_ : List T44) : Option R5_airzraiiz_l6 :=
  ifE ((0 : Int) ≤ x12) (
    Option.bind (x9[(Int.toNat x12)]?) fun v2 =>
      cond ((v2 != x13))
        (some (R5_airzraiiz_l6.o0 false))
        (f5_airzraiiz_l6_j3 k x9 x12 x100 x101 false h0_ h1_ h1__1 h1__2 h1__3 h2_ h3_ h4_ h5_ h5__1 h5__2 h5__3 h6_ h7_ h8_))
theorem f5_airzraiiz_l6_j4_ok (k : Nat) (x9 : List Int) (x12 x13 x100 x101 : Int) (x109 : Bool) (h0_ : List Int) (h1_ h1__1 h1__2 h1__3 : Int) (h2_ : List T54) (h3_ : List Int) (h4_ : List T44) (h5_ h5__1 h5__2 h5__3 : Int) (h6_ : List T54) (h7_ : List Int) (h8_ : List T44) (r : R5_airzraiiz_l6) (hF : f5_airzraiiz_l6_j4 k x9 x12 x13 x100 x101 x109 h0_ h1_ h1__1 h1__2 h1__3 h2_ h3_ h4_ h5_ h5__1 h5__2 h5__3 h6_ h7_ h8_ = some r) : SQ 5 k (nav B5 [2, 2, 2, 1, 2, 2, 1, 2, 2, 2, 2, 2, 2, 2, 2, 2, 2]) (blockK 2 (EX 5 k (nav B5 [2, 2, 2, 1, 2, 2, 1, 2, 2, 1, 2, 2, 2, 2, 2, 2, 2, 2, 2, 2]) ({ n := 127, F := [(5, V.ptr 30000 0), (7, V.ptr 30001 0), (8, V.ptr 30005 0), (9, V.sl 1 (rowsOf (encI .i64) x9)), (12, V.p (Value.int .i64 x12)), (13, V.p (Value.int .i64 x13)), (99, V.own 30007), (100, V.p (Value.int .i64 x100)), (101, V.p (Value.int .i64 x101)), (109, V.p (Value.bool x109))], M := [(30000, O.box 58 (arrC (cI .i64) h0_)), (30001, O.box 28 [V.p (Value.int .i64 h1_), V.p (Value.int .i64 h1__1), V.own 30002, V.own 30003, V.p (Value.int .i64 h1__2), V.own 30004, V.p (Value.int .i64 h1__3)]), (30002, O.row false 6 54 (rowsOf encT54 h2_)), (30003, O.row false 1 3 (rowsOf (encI .i64) h3_)), (30004, O.row false 3 44 (rowsOf encT44 h4_)), (30005, O.box 28 [V.p (Value.int .i64 h5_), V.p (Value.int .i64 h5__1), V.own 30006, V.own 30007, V.p (Value.int .i64 h5__2), V.own 30008, V.p (Value.int .i64 h5__3)]), (30006, O.row true 6 54 (rowsOf encT54 h6_)), (30007, O.row true 1 3 (rowsOf (encI .i64) h7_)), (30008, O.row true 3 44 (rowsOf encT44 h8_))] } : St))) = some r.st := by
  unfold f5_airzraiiz_l6_j4 at hF
  replace hF := ifE_some.1 hF
  obtain ⟨h1, hF⟩ := hF
  replace hF := Option.bind_eq_some_iff.1 hF
  obtain ⟨v2, h3, hF⟩ := hF
  simp (maxSteps := 999999) (disch := first | exact D (by decide) | exact K (by kernel_rfl)) only [E, EE, ↓reduceIte, simprocAttr, xk B5 [2, 2, 2, 1, 2, 2, 1, 2, 2, 1, 2, 2, 2, 2, 2, 2, 2, 2, 2, 2] .sq rfl, xk B5 [1, 2, 2, 2, 1, 2, 2, 1, 2, 2, 1, 2, 2, 2, 2, 2, 2, 2, 2, 2, 2] .sq rfl, show (nav B5 [1, 1, 2, 2, 2, 1, 2, 2, 1, 2, 2, 1, 2, 2, 2, 2, 2, 2, 2, 2, 2, 2]) = Code.region 24 _ false from rfl, hk_5_24, hz_5_24, hs_5_24, indexAddrV, u_25, i_25, is_25, ib_25, iz_25, u_3, i_3, is_3, ib_3, iz_3, encI_eq, xk B5 [2, 1, 2, 2, 2, 1, 2, 2, 1, 2, 2, 1, 2, 2, 2, 2, 2, 2, 2, 2, 2, 2] (.cd 119) rfl, h1, h3]
  replace hF := cond_some hF
  rcases hF with ⟨h4, hF⟩ | ⟨h4, hF⟩
  · cases hF
    simp (maxSteps := 999999) (disch := first | exact D (by decide) | exact K (by kernel_rfl)) only [E, EE, ↓reduceIte, simprocAttr, xk B5 [2, 2, 1, 2, 2, 2, 1, 2, 2, 1, 2, 2, 1, 2, 2, 2, 2, 2, 2, 2, 2, 2, 2] .sq rfl, show (nav B5 [1, 2, 2, 1, 2, 2, 2, 1, 2, 2, 1, 2, 2, 1, 2, 2, 2, 2, 2, 2, 2, 2, 2, 2]) = Code.region 25 _ false from rfl, hk_5_25, hz_5_25, hs_5_25, xk B5 [2, 2, 2, 1, 2, 2, 2, 1, 2, 2, 1, 2, 2, 1, 2, 2, 2, 2, 2, 2, 2, 2, 2, 2] .rt rfl, R5_airzraiiz_l6.st, h1, h3, h4]
  · have hJ := f5_airzraiiz_l6_j3_ok k x9 x12 x100 x101 false h0_ h1_ h1__1 h1__2 h1__3 h2_ h3_ h4_ h5_ h5__1 h5__2 h5__3 h6_ h7_ h8_ _ hF
    simp (maxSteps := 999999) (disch := first | exact D (by decide) | exact K (by kernel_rfl)) only [E, EE, ↓reduceIte, simprocAttr, xk B5 [3, 2, 1, 2, 2, 2, 1, 2, 2, 1, 2, 2, 1, 2, 2, 2, 2, 2, 2, 2, 2, 2, 2] .sk rfl, h1, h3, h4]
    try simp only [NM, EE] at hJ
    exact hJ
noncomputable def f5_airzraiiz_l6_j1 (k : Nat) (x9 : List Int) (x100 x101 : Int) (x102 : Bool) (h0_ : List Int) (h1_ h1__1 h1__2 h1__3 : Int) (h2_ : List T54) (h3_ : List Int) (h4_ : List T44) (h5_ h5__1 h5__2 h5__3 : Int) (h6_ : List T54) (h7_ : List Int) (h8_ : List T44) : Option R5_airzraiiz_l6 :=
  ifE ((0 : Int) ≤ x101) (
    ifE (x101 < ((List.length h7_) : Int)) (
      Option.bind (h7_[(Int.toNat x101)]?) fun v3 =>
        Option.bind (List.head? h0_) fun v5 =>
          cond ((x101 == v5))
            (
              Option.bind (List.head? (List.drop 1 h0_)) fun v8 =>
                f5_airzraiiz_l6_j2 k x9 x101 (IntKind.i64.wrap (v3 - v8)) x100 x101 h0_ h1_ h1__1 h1__2 h1__3 h2_ h3_ h4_ h5_ h5__1 h5__2 h5__3 h6_ h7_ h8_)
            (f5_airzraiiz_l6_j4 k x9 x101 v3 x100 x101 false h0_ h1_ h1__1 h1__2 h1__3 h2_ h3_ h4_ h5_ h5__1 h5__2 h5__3 h6_ h7_ h8_)))
theorem f5_airzraiiz_l6_j1_ok (k : Nat) (x9 : List Int) (x100 x101 : Int) (x102 : Bool) (h0_ : List Int) (h1_ h1__1 h1__2 h1__3 : Int) (h2_ : List T54) (h3_ : List Int) (h4_ : List T44) (h5_ h5__1 h5__2 h5__3 : Int) (h6_ : List T54) (h7_ : List Int) (h8_ : List T44) (r : R5_airzraiiz_l6) (hF : f5_airzraiiz_l6_j1 k x9 x100 x101 x102 h0_ h1_ h1__1 h1__2 h1__3 h2_ h3_ h4_ h5_ h5__1 h5__2 h5__3 h6_ h7_ h8_ = some r) : EX 5 k (nav B5 [2, 2, 1, 2, 2, 1, 2, 2, 2, 2, 2, 2, 2, 2, 2, 2]) ({ n := 127, F := [(5, V.ptr 30000 0), (7, V.ptr 30001 0), (8, V.ptr 30005 0), (9, V.sl 1 (rowsOf (encI .i64) x9)), (99, V.own 30007), (100, V.p (Value.int .i64 x100)), (101, V.p (Value.int .i64 x101)), (102, V.p (Value.bool x102))], M := [(30000, O.box 58 (arrC (cI .i64) h0_)), (30001, O.box 28 [V.p (Value.int .i64 h1_), V.p (Value.int .i64 h1__1), V.own 30002, V.own 30003, V.p (Value.int .i64 h1__2), V.own 30004, V.p (Value.int .i64 h1__3)]), (30002, O.row false 6 54 (rowsOf encT54 h2_)), (30003, O.row false 1 3 (rowsOf (encI .i64) h3_)), (30004, O.row false 3 44 (rowsOf encT44 h4_)), (30005, O.box 28 [V.p (Value.int .i64 h5_), V.p (Value.int .i64 h5__1), V.own 30006, V.own 30007, V.p (Value.int .i64 h5__2), V.own 30008, V.p (Value.int .i64 h5__3)]), (30006, O.row true 6 54 (rowsOf encT54 h6_)), (30007, O.row true 1 3 (rowsOf (encI .i64) h7_)), (30008, O.row true 3 44 (rowsOf encT44 h8_))] } : St) = some r.st := by
  unfold f5_airzraiiz_l6_j1 at hF
  replace hF := ifE_some.1 hF
  obtain ⟨h1, hF⟩ := hF
  replace hF := ifE_some.1 hF
  obtain ⟨h2, hF⟩ := hF
  replace hF := Option.bind_eq_some_iff.1 hF
  obtain ⟨v3, h4, hF⟩ := hF
  replace hF := Option.bind_eq_some_iff.1 hF
  obtain ⟨v5, h6, hF⟩ := hF
  simp (maxSteps := 999999) (disch := first | exact D (by decide) | exact K (by kernel_rfl)) only [E, EE, ↓reduceIte, simprocAttr, xk B5 [2, 2, 1, 2, 2, 1, 2, 2, 2, 2, 2, 2, 2, 2, 2, 2] .sq rfl, xk B5 [1, 2, 2, 1, 2, 2, 1, 2, 2, 2, 2, 2, 2, 2, 2, 2, 2] (.bk 2) rfl, xk B5 [2, 1, 2, 2, 1, 2, 2, 1, 2, 2, 2, 2, 2, 2, 2, 2, 2, 2] .sq rfl, show (nav B5 [1, 2, 1, 2, 2, 1, 2, 2, 1, 2, 2, 2, 2, 2, 2, 2, 2, 2, 2]) = Code.region 21 _ false from rfl, hk_5_21, hz_5_21, hs_5_21, indexAddrV, u_25, i_25, is_25, ib_25, iz_25, u_3, i_3, is_3, ib_3, iz_3, encI_eq, xk B5 [2, 2, 1, 2, 2, 1, 2, 2, 1, 2, 2, 2, 2, 2, 2, 2, 2, 2, 2] .sq rfl, xk B5 [1, 2, 2, 1, 2, 2, 1, 2, 2, 1, 2, 2, 2, 2, 2, 2, 2, 2, 2, 2] .sq rfl, show (nav B5 [1, 1, 2, 2, 1, 2, 2, 1, 2, 2, 1, 2, 2, 2, 2, 2, 2, 2, 2, 2, 2]) = Code.region 22 _ false from rfl, hk_5_22, hz_5_22, hs_5_22, u_58, i_58, is_58, ib_58, iz_58, xk B5 [2, 1, 2, 2, 1, 2, 2, 1, 2, 2, 1, 2, 2, 2, 2, 2, 2, 2, 2, 2, 2] (.cd 109) rfl, h1, h2, h4, h6]
  replace hF := cond_some hF
  rcases hF with ⟨h7, hF⟩ | ⟨h7, hF⟩
  · replace hF := Option.bind_eq_some_iff.1 hF
    obtain ⟨v8, h9, hF⟩ := hF
    have hJ := f5_airzraiiz_l6_j2_ok k x9 x101 (IntKind.i64.wrap (v3 - v8)) x100 x101 h0_ h1_ h1__1 h1__2 h1__3 h2_ h3_ h4_ h5_ h5__1 h5__2 h5__3 h6_ h7_ h8_ _ hF
    simp (maxSteps := 999999) (disch := first | exact D (by decide) | exact K (by kernel_rfl)) only [E, EE, ↓reduceIte, simprocAttr, show (nav B5 [2, 2, 1, 2, 2, 1, 2, 2, 1, 2, 2, 1, 2, 2, 2, 2, 2, 2, 2, 2, 2, 2]) = Code.region 23 _ false from rfl, hk_5_23, hz_5_23, hs_5_23, indexAddrV, u_58, i_58, is_58, ib_58, iz_58, u_3, i_3, is_3, ib_3, iz_3, h1, h2, h4, h6, h7, h9]
    try simp only [NM, EE] at hJ
    exact hJ
  · have hJ := f5_airzraiiz_l6_j4_ok k x9 x101 v3 x100 x101 false h0_ h1_ h1__1 h1__2 h1__3 h2_ h3_ h4_ h5_ h5__1 h5__2 h5__3 h6_ h7_ h8_ _ hF
    simp (maxSteps := 999999) (disch := first | exact D (by decide) | exact K (by kernel_rfl)) only [E, EE, ↓reduceIte, simprocAttr, xk B5 [3, 2, 1, 2, 2, 1, 2, 2, 1, 2, 2, 1, 2, 2, 2, 2, 2, 2, 2, 2, 2, 2] .sk rfl, h1, h2, h4, h6, h7]
    try simp only [NM, EE] at hJ
    exact hJ
noncomputable def f5_airzraiiz_l6_b (k : Nat) (x9 : List Int) (x100 x101 : Int) (h0_ : List Int) (h1_ h1__1 h1__2 h1__3 : Int) (h2_ : List T54) (h3_ : List Int) (h4_ : List T44) (h5_ h5__1 h5__2 h5__3 : Int) (h6_ : List T54) (h7_ : List Int) (h8_ : List T44) : Option R5_airzraiiz_l6 :=
  cond ((decide (x101 < x100)))
    (f5_airzraiiz_l6_j1 k x9 x100 x101 true h0_ h1_ h1__1 h1__2 h1__3 h2_ h3_ h4_ h5_ h5__1 h5__2 h5__3 h6_ h7_ h8_)
    (some (R5_airzraiiz_l6.o1 x9 x100 x101 false h0_ h1_ h1__1 h1__2 h1__3 h2_ h3_ h4_ h5_ h5__1 h5__2 h5__3 h6_ h7_ h8_))
theorem f5_airzraiiz_l6_b_ok (k : Nat) (x9 : List Int) (x100 x101 : Int) (h0_ : List Int) (h1_ h1__1 h1__2 h1__3 : Int) (h2_ : List T54) (h3_ : List Int) (h4_ : List T44) (h5_ h5__1 h5__2 h5__3 : Int) (h6_ : List T54) (h7_ : List Int) (h8_ : List T44) (r : R5_airzraiiz_l6) (hF : f5_airzraiiz_l6_b k x9 x100 x101 h0_ h1_ h1__1 h1__2 h1__3 h2_ h3_ h4_ h5_ h5__1 h5__2 h5__3 h6_ h7_ h8_ = some r) : EX 5 k (nav B5 [1, 2, 2, 1, 2, 2, 2, 2, 2, 2, 2, 2, 2, 2]) ({ n := 127, F := [(5, V.ptr 30000 0), (7, V.ptr 30001 0), (8, V.ptr 30005 0), (9, V.sl 1 (rowsOf (encI .i64) x9)), (99, V.own 30007), (100, V.p (Value.int .i64 x100)), (101, V.p (Value.int .i64 x101))], M := [(30000, O.box 58 (arrC (cI .i64) h0_)), (30001, O.box 28 [V.p (Value.int .i64 h1_), V.p (Value.int .i64 h1__1), V.own 30002, V.own 30003, V.p (Value.int .i64 h1__2), V.own 30004, V.p (Value.int .i64 h1__3)]), (30002, O.row false 6 54 (rowsOf encT54 h2_)), (30003, O.row false 1 3 (rowsOf (encI .i64) h3_)), (30004, O.row false 3 44 (rowsOf encT44 h4_)), (30005, O.box 28 [V.p (Value.int .i64 h5_), V.p (Value.int .i64 h5__1), V.own 30006, V.own 30007, V.p (Value.int .i64 h5__2), V.own 30008, V.p (Value.int .i64 h5__3)]), (30006, O.row true 6 54 (rowsOf encT54 h6_)), (30007, O.row true 1 3 (rowsOf (encI .i64) h7_)), (30008, O.row true 3 44 (rowsOf encT44 h8_))] } : St) = some r.st := by
  unfold f5_airzraiiz_l6_b at hF
  simp (maxSteps := 999999) (disch := first | exact D (by decide) | exact K (by kernel_rfl)) only [E, EE, ↓reduceIte, simprocAttr, xk B5 [1, 2, 2, 1, 2, 2, 2, 2, 2, 2, 2, 2, 2, 2] .sq rfl, show (nav B5 [1, 1, 2, 2, 1, 2, 2, 2, 2, 2, 2, 2, 2, 2, 2]) = Code.region 20 _ false from rfl, hk_5_20, hz_5_20, hs_5_20, xk B5 [2, 1, 2, 2, 1, 2, 2, 2, 2, 2, 2, 2, 2, 2, 2] .sq rfl, xk B5 [1, 2, 1, 2, 2, 1, 2, 2, 2, 2, 2, 2, 2, 2, 2, 2] (.cd 102) rfl]
  replace hF := cond_some hF
  rcases hF with ⟨h1, hF⟩ | ⟨h1, hF⟩
  · have hJ := f5_airzraiiz_l6_j1_ok k x9 x100 x101 true h0_ h1_ h1__1 h1__2 h1__3 h2_ h3_ h4_ h5_ h5__1 h5__2 h5__3 h6_ h7_ h8_ _ hF
    simp (maxSteps := 999999) (disch := first | exact D (by decide) | exact K (by kernel_rfl)) only [E, EE, ↓reduceIte, simprocAttr, xk B5 [2, 1, 2, 1, 2, 2, 1, 2, 2, 2, 2, 2, 2, 2, 2, 2, 2] .sk rfl, h1]
    try simp only [NM, EE] at hJ
    exact hJ
  · cases hF
    simp (maxSteps := 999999) (disch := first | exact D (by decide) | exact K (by kernel_rfl)) only [E, EE, ↓reduceIte, simprocAttr, xk B5 [3, 1, 2, 1, 2, 2, 1, 2, 2, 2, 2, 2, 2, 2, 2, 2, 2] (.ex 1) rfl, R5_airzraiiz_l6.st, h1]
noncomputable def f5_airzraiiz_l6 (k : Nat) : Nat → (List Int) → Int → Int → (List Int) → Int → Int → Int → Int → (List T54) → (List Int) → (List T44) → Int → Int → Int → Int → (List T54) → (List Int) → (List T44) → Option R5_airzraiiz_l6
  | 0, _, _, _, _, _, _, _, _, _, _, _, _, _, _, _, _, _, _ => none
  | n + 1, x9, x100, x101, h0_, h1_, h1__1, h1__2, h1__3, h2_, h3_, h4_, h5_, h5__1, h5__2, h5__3, h6_, h7_, h8_ => Option.bind (f5_airzraiiz_l6_b k x9 x100 x101 h0_ h1_ h1__1 h1__2 h1__3 h2_ h3_ h4_ h5_ h5__1 h5__2 h5__3 h6_ h7_ h8_) fun o =>
    match o with
    | .o0 y => some (.o0 y)
    | .o1 y y_1 y_2 y_3 y_4 y_5 y_6 y_7 y_8 y_9 y_10 y_11 y_12 y_13 y_14 y_15 y_16 y_17 y_18 => some (.o1 y y_1 y_2 y_3 y_4 y_5 y_6 y_7 y_8 y_9 y_10 y_11 y_12 y_13 y_14 y_15 y_16 y_17 y_18)
theorem f5_airzraiiz_l6_ok (k n : Nat) : ∀ (x9 : List Int) (x100 x101 : Int) (h0_ : List Int) (h1_ h1__1 h1__2 h1__3 : Int) (h2_ : List T54) (h3_ : List Int) (h4_ : List T44) (h5_ h5__1 h5__2 h5__3 : Int) (h6_ : List T54) (h7_ : List Int) (h8_ : List T44) (r : R5_airzraiiz_l6) (hF : f5_airzraiiz_l6 k n x9 x100 x101 h0_ h1_ h1__1 h1__2 h1__3 h2_ h3_ h4_ h5_ h5__1 h5__2 h5__3 h6_ h7_ h8_ = some r) (σ : St) (hσ : headR (hints.head 5 20) (hints.canon 5 20) σ = some ({ n := 127, F := [(5, V.ptr 30000 0), (7, V.ptr 30001 0), (8, V.ptr 30005 0), (9, V.sl 1 (rowsOf (encI .i64) x9)), (99, V.own 30007), (100, V.p (Value.int .i64 x100)), (101, V.p (Value.int .i64 x101))], M := [(30000, O.box 58 (arrC (cI .i64) h0_)), (30001, O.box 28 [V.p (Value.int .i64 h1_), V.p (Value.int .i64 h1__1), V.own 30002, V.own 30003, V.p (Value.int .i64 h1__2), V.own 30004, V.p (Value.int .i64 h1__3)]), (30002, O.row false 6 54 (rowsOf encT54 h2_)), (30003, O.row false 1 3 (rowsOf (encI .i64) h3_)), (30004, O.row false 3 44 (rowsOf encT44 h4_)), (30005, O.box 28 [V.p (Value.int .i64 h5_), V.p (Value.int .i64 h5__1), V.own 30006, V.own 30007, V.p (Value.int .i64 h5__2), V.own 30008, V.p (Value.int .i64 h5__3)]), (30006, O.row true 6 54 (rowsOf encT54 h6_)), (30007, O.row true 1 3 (rowsOf (encI .i64) h7_)), (30008, O.row true 3 44 (rowsOf encT44 h8_))] } : St)), LP 5 k (nav B5 [1, 2, 2, 1, 2, 2, 2, 2, 2, 2, 2, 2, 2, 2]) n σ = some r.st := by
  induction n with
  | zero => intro x9 x100 x101 h0_ h1_ h1__1 h1__2 h1__3 h2_ h3_ h4_ h5_ h5__1 h5__2 h5__3 h6_ h7_ h8_ r hF; cases hF
  | succ n ih =>
    intro x9 x100 x101 h0_ h1_ h1__1 h1__2 h1__3 h2_ h3_ h4_ h5_ h5__1 h5__2 h5__3 h6_ h7_ h8_ r hF σ hσ
    rw [f5_airzraiiz_l6] at hF
    obtain ⟨o, h, hF⟩ := Option.bind_eq_some_iff.1 hF
    have hB := f5_airzraiiz_l6_b_ok k x9 x100 x101 h0_ h1_ h1__1 h1__2 h1__3 h2_ h3_ h4_ h5_ h5__1 h5__2 h5__3 h6_ h7_ h8_ o h
    unfold LP at ih ⊢
    unfold EX at hB
    rw [loopK_succ, show firstReg (nav B5 [1, 2, 2, 1, 2, 2, 2, 2, 2, 2, 2, 2, 2, 2]) = 20 from rfl, hσ, headK_some, hB]
    cases o with
    | o0 y => cases hF; rfl
    | o1 y y_1 y_2 y_3 y_4 y_5 y_6 y_7 y_8 y_9 y_10 y_11 y_12 y_13 y_14 y_15 y_16 y_17 y_18 => cases hF; rfl
noncomputable def f5_airzraiiz_j7 (k : Nat) (x9 : List Int) (x100 x101 : Int) (x102 : Bool) (h0_ : List Int) (h1_ h1__1 h1__2 h1__3 : Int) (h2_ : List T54) (h3_ : List Int) (h4_ : List T44) (h5_ h5__1 h5__2 h5__3 : Int) (h6_ : List T54) (h7_ : List Int) (h8_ : List T44) : Option R5_airzraiiz :=
  Option.bind (f17_aiirririzaiirririz k h1_ h1__1 h2_ h3_ h1__2 h4_ h1__3 h5_ h5__1 h6_ h7_ h5__2 h8_ h5__3) fun o1 =>
    match o1 with
    | .o0 v4 =>
      some (R5_airzraiiz.o0 v4)
theorem f5_airzraiiz_j7_ok (k : Nat) (x9 : List Int) (x100 x101 : Int) (x102 : Bool) (h0_ : List Int) (h1_ h1__1 h1__2 h1__3 : Int) (h2_ : List T54) (h3_ : List Int) (h4_ : List T44) (h5_ h5__1 h5__2 h5__3 : Int) (h6_ : List T54) (h7_ : List Int) (h8_ : List T44) (r : R5_airzraiiz) (hF : f5_airzraiiz_j7 k x9 x100 x101 x102 h0_ h1_ h1__1 h1__2 h1__3 h2_ h3_ h4_ h5_ h5__1 h5__2 h5__3 h6_ h7_ h8_ = some r) : finK Tryd.prog Tryd.f5 0 (EX 5 k (nav B5 [2, 2, 2, 2, 2, 2, 2, 2, 2, 2, 2]) ({ n := 127, F := [(5, V.ptr 30000 0), (7, V.ptr 30001 0), (8, V.ptr 30005 0), (9, V.sl 1 (rowsOf (encI .i64) x9)), (99, V.own 30007), (100, V.p (Value.int .i64 x100)), (101, V.p (Value.int .i64 x101)), (102, V.p (Value.bool x102))], M := [(30000, O.box 58 (arrC (cI .i64) h0_)), (30001, O.box 28 [V.p (Value.int .i64 h1_), V.p (Value.int .i64 h1__1), V.own 30002, V.own 30003, V.p (Value.int .i64 h1__2), V.own 30004, V.p (Value.int .i64 h1__3)]), (30002, O.row false 6 54 (rowsOf encT54 h2_)), (30003, O.row false 1 3 (rowsOf (encI .i64) h3_)), (30004, O.row false 3 44 (rowsOf encT44 h4_)), (30005, O.box 28 [V.p (Value.int .i64 h5_), V.p (Value.int .i64 h5__1), V.own 30006, V.own 30007, V.p (Value.int .i64 h5__2), V.own 30008, V.p (Value.int .i64 h5__3)]), (30006, O.row true 6 54 (rowsOf encT54 h6_)), (30007, O.row true 1 3 (rowsOf (encI .i64) h7_)), (30008, O.row true 3 44 (rowsOf encT44 h8_))] } : St)) = some r.st := by
  unfold f5_airzraiiz_j7 at hF
  replace hF := Option.bind_eq_some_iff.1 hF
  obtain ⟨o1, h2, hF⟩ := hF
  have hc3 := f17_aiirririzaiirririz_ok k h1_ h1__1 h2_ h3_ h1__2 h4_ h1__3 h5_ h5__1 h6_ h7_ h5__2 h8_ h5__3 _ h2
  cases o1 with
  | o0 v4 =>
    (try dsimp only at hF)
    (try simp only [NM, EE, R17_aiirririzaiirririz.st] at hc3)
    cases hF
    simp (maxSteps := 999999) (disch := first | exact D (by decide) | exact K (by kernel_rfl)) only [E, EE, ↓reduceIte, simprocAttr, xk B5 [2, 2, 2, 2, 2, 2, 2, 2, 2, 2, 2] .sq rfl, show (nav B5 [1, 2, 2, 2, 2, 2, 2, 2, 2, 2, 2, 2]) = Code.region 28 _ false from rfl, hk_5_28, hz_5_28, hs_5_28, u_28, i_28, is_28, ib_28, iz_28, callStep, CL, gv, List.contains, xk B5 [2, 2, 2, 2, 2, 2, 2, 2, 2, 2, 2, 2] .rt rfl, finK_norm, finK_ret, fin5, R5_airzraiiz.st, hc3]
noncomputable def f5_airzraiiz_j5 (k : Nat) (x9 : List Int) (x97 : Bool) (m5 : List Int) (m7 m7_1 m7_2 m7_3 : Int) (m19 : List T54) (m19_1_ : List Int) (m19_2_ : List T44) (m8 m8_1 m8_2 m8_3 : Int) (m21 : List T54) (m21_1_ : List Int) (m21_2_ : List T44) : Option R5_airzraiiz :=
  Option.bind (f5_airzraiiz_l6 k k x9 ((List.length m21_1_) : Int) 0 m5 m7 m7_1 m7_2 m7_3 m19 m19_1_ m19_2_ m8 m8_1 m8_2 m8_3 m21 m21_1_ m21_2_) fun o1 =>
    match o1 with
    | .o0 v4 =>
      some (R5_airzraiiz.o0 v4)
    | .o1 v5 v6 v7 v8 v9 v10 v11 v12 v13 v14 v15 v16 v17 v18 v19 v20 v21 v22 v23 =>
      f5_airzraiiz_j7 k v5 v6 v7 v8 v9 v10 v11 v12 v13 v14 v15 v16 v17 v18 v19 v20 v21 v22 v23
theorem f5_airzraiiz_j5_ok (k : Nat) (x9 : List Int) (x97 : Bool) (m5 : List Int) (m7 m7_1 m7_2 m7_3 : Int) (m19 : List T54) (m19_1_ : List Int) (m19_2_ : List T44) (m8 m8_1 m8_2 m8_3 : Int) (m21 : List T54) (m21_1_ : List Int) (m21_2_ : List T44) (r : R5_airzraiiz) (hF : f5_airzraiiz_j5 k x9 x97 m5 m7 m7_1 m7_2 m7_3 m19 m19_1_ m19_2_ m8 m8_1 m8_2 m8_3 m21 m21_1_ m21_2_ = some r) : finK Tryd.prog Tryd.f5 0 (EX 5 k (nav B5 [2, 2, 2, 2, 2, 2, 2, 2, 2, 2]) ({ n := 127, F := [(5, V.ptr 5 0), (7, V.ptr 7 0), (8, V.ptr 8 0), (9, V.sl 1 (rowsOf (encI .i64) x9)), (97, V.p (Value.bool x97))], M := [(5, O.box 58 (arrC (cI .i64) m5)), (7, O.box 28 [V.p (Value.int .i64 m7), V.p (Value.int .i64 m7_1), V.own 19, V.own 10019, V.p (Value.int .i64 m7_2), V.own 20019, V.p (Value.int .i64 m7_3)]), (19, O.row false 6 54 (rowsOf encT54 m19)), (10019, O.row false 1 3 (rowsOf (encI .i64) m19_1_)), (20019, O.row false 3 44 (rowsOf encT44 m19_2_)), (8, O.box 28 [V.p (Value.int .i64 m8), V.p (Value.int .i64 m8_1), V.own 21, V.own 10021, V.p (Value.int .i64 m8_2), V.own 20021, V.p (Value.int .i64 m8_3)]), (21, O.row true 6 54 (rowsOf encT54 m21)), (10021, O.row true 1 3 (rowsOf (encI .i64) m21_1_)), (20021, O.row true 3 44 (rowsOf encT44 m21_2_))] } : St)) = some r.st := by
  unfold f5_airzraiiz_j5 at hF
  replace hF := Option.bind_eq_some_iff.1 hF
  obtain ⟨o1, h2, hF⟩ := hF
  have hc3 := f5_airzraiiz_l6_ok k k x9 ((List.length m21_1_) : Int) 0 m5 m7 m7_1 m7_2 m7_3 m19 m19_1_ m19_2_ m8 m8_1 m8_2 m8_3 m21 m21_1_ m21_2_ _ h2
  simp (maxSteps := 999999) (disch := first | exact D (by decide) | exact K (by kernel_rfl)) only [E, EE, ↓reduceIte, simprocAttr, xk B5 [2, 2, 2, 2, 2, 2, 2, 2, 2, 2] .sq rfl, xk B5 [1, 2, 2, 2, 2, 2, 2, 2, 2, 2, 2] .sq rfl, show (nav B5 [1, 1, 2, 2, 2, 2, 2, 2, 2, 2, 2, 2]) = Code.region 19 _ false from rfl, hk_5_19, hz_5_19, hs_5_19, fieldAddrV, u_28, i_28, is_28, ib_28, iz_28, u_25, i_25, is_25, ib_25, iz_25, xk B5 [2, 1, 2, 2, 2, 2, 2, 2, 2, 2, 2, 2] (.bk 1) rfl, xk B5 [2, 2, 1, 2, 2, 2, 2, 2, 2, 2, 2, 2, 2] .lp rfl, hh_5_20, hc_5_20]
  (try simp only [NM, EE] at hc3)
  rw [hc3 _ (by simp (maxSteps := 999999) (disch := first | exact D (by decide) | exact K (by kernel_rfl)) only [E, EE, ↓reduceIte, simprocAttr, hh_5_20, hc_5_20])]
  clear hc3
  cases o1 with
  | o0 v4 =>
    (try dsimp only at hF)
    cases hF
    simp (maxSteps := 999999) (disch := first | exact D (by decide) | exact K (by kernel_rfl)) only [E, EE, ↓reduceIte, simprocAttr, R5_airzraiiz_l6.st, finK_norm, finK_ret, fin5, R5_airzraiiz.st]
  | o1 v5 v6 v7 v8 v9 v10 v11 v12 v13 v14 v15 v16 v17 v18 v19 v20 v21 v22 v23 =>
    (try dsimp only at hF)
    have hJ := f5_airzraiiz_j7_ok k v5 v6 v7 v8 v9 v10 v11 v12 v13 v14 v15 v16 v17 v18 v19 v20 v21 v22 v23 _ hF
    simp (maxSteps := 999999) (disch := first | exact D (by decide) | exact K (by kernel_rfl)) only [E, EE, ↓reduceIte, simprocAttr, R5_airzraiiz_l6.st]
    try simp only [NM, EE] at hJ
    exact hJ
noncomputable def f5_airzraiiz_j4 (k : Nat) (x9 : List Int) (x10 x11 : Int) (x79 : Bool) (m5 : List Int) (m7 m7_1 m7_2 m7_3 : Int) (m19 : List T54) (m19_1_ : List Int) (m19_2_ : List T44) (m8 m8_1 m8_2 m8_3 : Int) (m21 : List T54) (m21_1_ : List Int) (m21_2_ : List T44) : Option R5_airzraiiz :=
  cond ((x10 != 0))
    (some (R5_airzraiiz.o0 false))
    (
      cond ((((List.length x9) : Int) != ((List.length m21_1_) : Int)))
        (some (R5_airzraiiz.o0 false))
        (f5_airzraiiz_j5 k x9 false m5 m7 m7_1 m7_2 m7_3 m19 m19_1_ m19_2_ m8 m8_1 m8_2 m8_3 m21 m21_1_ m21_2_))
theorem f5_airzraiiz_j4_ok (k : Nat) (x9 : List Int) (x10 x11 : Int) (x79 : Bool) (m5 : List Int) (m7 m7_1 m7_2 m7_3 : Int) (m19 : List T54) (m19_1_ : List Int) (m19_2_ : List T44) (m8 m8_1 m8_2 m8_3 : Int) (m21 : List T54) (m21_1_ : List Int) (m21_2_ : List T44) (r : R5_airzraiiz) (hF : f5_airzraiiz_j4 k x9 x10 x11 x79 m5 m7 m7_1 m7_2 m7_3 m19 m19_1_ m19_2_ m8 m8_1 m8_2 m8_3 m21 m21_1_ m21_2_ = some r) : finK Tryd.prog Tryd.f5 0 (EX 5 k (nav B5 [2, 2, 2, 2, 2, 2, 2, 2, 2]) ({ n := 127, F := [(5, V.ptr 5 0), (7, V.ptr 7 0), (8, V.ptr 8 0), (9, V.sl 1 (rowsOf (encI .i64) x9)), (10, V.p (Value.int .i64 x10)), (11, V.p (Value.int .i64 x11)), (79, V.p (Value.bool x79))], M := [(5, O.box 58 (arrC (cI .i64) m5)), (7, O.box 28 [V.p (Value.int .i64 m7), V.p (Value.int .i64 m7_1), V.own 19, V.own 10019, V.p (Value.int .i64 m7_2), V.own 20019, V.p (Value.int .i64 m7_3)]), (19, O.row false 6 54 (rowsOf encT54 m19)), (10019, O.row false 1 3 (rowsOf (encI .i64) m19_1_)), (20019, O.row false 3 44 (rowsOf encT44 m19_2_)), (8, O.box 28 [V.p (Value.int .i64 m8), V.p (Value.int .i64 m8_1), V.own 21, V.own 10021, V.p (Value.int .i64 m8_2), V.own 20021, V.p (Value.int .i64 m8_3)]), (21, O.row true 6 54 (rowsOf encT54 m21)), (10021, O.row true 1 3 (rowsOf (encI .i64) m21_1_)), (20021, O.row true 3 44 (rowsOf encT44 m21_2_))] } : St)) = some r.st := by
  unfold f5_airzraiiz_j4 at hF
  simp (maxSteps := 999999) (disch := first | exact D (by decide) | exact K (by kernel_rfl)) only [E, EE, ↓reduceIte, simprocAttr, xk B5 [2, 2, 2, 2, 2, 2, 2, 2, 2] .sq rfl, xk B5 [1, 2, 2, 2, 2, 2, 2, 2, 2, 2] .sq rfl, show (nav B5 [1, 1, 2, 2, 2, 2, 2, 2, 2, 2, 2]) = Code.region 17 _ false from rfl, hk_5_17, hz_5_17, hs_5_17]
  replace hF := cond_some hF
  rcases hF with ⟨h1, hF⟩ | ⟨h1, hF⟩
  · cases hF
    simp (maxSteps := 999999) (disch := first | exact D (by decide) | exact K (by kernel_rfl)) only [E, EE, ↓reduceIte, simprocAttr, xk B5 [2, 1, 2, 2, 2, 2, 2, 2, 2, 2, 2] (.cd 97) rfl, xk B5 [2, 2, 1, 2, 2, 2, 2, 2, 2, 2, 2, 2] .sq rfl, show (nav B5 [1, 2, 2, 1, 2, 2, 2, 2, 2, 2, 2, 2, 2]) = Code.region 18 _ false from rfl, hk_5_18, hz_5_18, hs_5_18, xk B5 [2, 2, 2, 1, 2, 2, 2, 2, 2, 2, 2, 2, 2] .rt rfl, finK_norm, finK_ret, fin5, R5_airzraiiz.st, h1]
  · simp (maxSteps := 999999) (disch := first | exact D (by decide) | exact K (by kernel_rfl)) only [E, EE, ↓reduceIte, simprocAttr, u_25, i_25, is_25, ib_25, iz_25, fieldAddrV, u_28, i_28, is_28, ib_28, iz_28, xk B5 [2, 1, 2, 2, 2, 2, 2, 2, 2, 2, 2] (.cd 97) rfl, h1]
    replace hF := cond_some hF
    rcases hF with ⟨h2, hF⟩ | ⟨h2, hF⟩
    · cases hF
      simp (maxSteps := 999999) (disch := first | exact D (by decide) | exact K (by kernel_rfl)) only [E, EE, ↓reduceIte, simprocAttr, xk B5 [2, 2, 1, 2, 2, 2, 2, 2, 2, 2, 2, 2] .sq rfl, show (nav B5 [1, 2, 2, 1, 2, 2, 2, 2, 2, 2, 2, 2, 2]) = Code.region 18 _ false from rfl, hk_5_18, hz_5_18, hs_5_18, xk B5 [2, 2, 2, 1, 2, 2, 2, 2, 2, 2, 2, 2, 2] .rt rfl, finK_norm, finK_ret, fin5, R5_airzraiiz.st, h1, h2]
    · have hJ := f5_airzraiiz_j5_ok k x9 false m5 m7 m7_1 m7_2 m7_3 m19 m19_1_ m19_2_ m8 m8_1 m8_2 m8_3 m21 m21_1_ m21_2_ _ hF
      simp (maxSteps := 999999) (disch := first | exact D (by decide) | exact K (by kernel_rfl)) only [E, EE, ↓reduceIte, simprocAttr, xk B5 [3, 2, 1, 2, 2, 2, 2, 2, 2, 2, 2, 2] .sk rfl, h1, h2]
      try simp only [NM, EE] at hJ
      exact hJ
noncomputable def f5_airzraiiz_j3 (k : Nat) (x9 : List Int) (x10 x11 : Int) (m5 : List Int) (m7 m7_1 m7_2 m7_3 : Int) (m19 : List T54) (m19_1_ : List Int) (m19_2_ : List T44) (m8 m8_1 m8_2 m8_3 : Int) (m21 : List T54) (m21_1_ : List Int) (m21_2_ : List T44) : Option R5_airzraiiz :=
  cond ((x11 != 0))
    (
      cond ((x10 == x11))
        (some (R5_airzraiiz.o0 (((List.length x9) : Int) == 0)))
        (some (R5_airzraiiz.o0 false)))
    (f5_airzraiiz_j4 k x9 x10 x11 false m5 m7 m7_1 m7_2 m7_3 m19 m19_1_ m19_2_ m8 m8_1 m8_2 m8_3 m21 m21_1_ m21_2_)
theorem f5_airzraiiz_j3_ok (k : Nat) (x9 : List Int) (x10 x11 : Int) (m5 : List Int) (m7 m7_1 m7_2 m7_3 : Int) (m19 : List T54) (m19_1_ : List Int) (m19_2_ : List T44) (m8 m8_1 m8_2 m8_3 : Int) (m21 : List T54) (m21_1_ : List Int) (m21_2_ : List T44) (r : R5_airzraiiz) (hF : f5_airzraiiz_j3 k x9 x10 x11 m5 m7 m7_1 m7_2 m7_3 m19 m19_1_ m19_2_ m8 m8_1 m8_2 m8_3 m21 m21_1_ m21_2_ = some r) : finK Tryd.prog Tryd.f5 0 (EX 5 k (nav B5 [2, 2, 2, 2, 2, 2, 2, 2]) ({ n := 127, F := [(5, V.ptr 5 0), (7, V.ptr 7 0), (8, V.ptr 8 0), (9, V.sl 1 (rowsOf (encI .i64) x9)), (10, V.p (Value.int .i64 x10)), (11, V.p (Value.int .i64 x11))], M := [(5, O.box 58 (arrC (cI .i64) m5)), (7, O.box 28 [V.p (Value.int .i64 m7), V.p (Value.int .i64 m7_1), V.own 19, V.own 10019, V.p (Value.int .i64 m7_2), V.own 20019, V.p (Value.int .i64 m7_3)]), (19, O.row false 6 54 (rowsOf encT54 m19)), (10019, O.row false 1 3 (rowsOf (encI .i64) m19_1_)), (20019, O.row false 3 44 (rowsOf encT44 m19_2_)), (8, O.box 28 [V.p (Value.int .i64 m8), V.p (Value.int .i64 m8_1), V.own 21, V.own 10021, V.p (Value.int .i64 m8_2), V.own 20021, V.p (Value.int .i64 m8_3)]), (21, O.row true 6 54 (rowsOf encT54 m21)), (10021, O.row true 1 3 (rowsOf (encI .i64) m21_1_)), (20021, O.row true 3 44 (rowsOf encT44 m21_2_))] } : St)) = some r.st := by
  unfold f5_airzraiiz_j3 at hF
  simp (maxSteps := 999999) (disch := first | exact D (by decide) | exact K (by kernel_rfl)) only [E, EE, ↓reduceIte, simprocAttr, xk B5 [2, 2, 2, 2, 2, 2, 2, 2] .sq rfl, xk B5 [1, 2, 2, 2, 2, 2, 2, 2, 2] .sq rfl, show (nav B5 [1, 1, 2, 2, 2, 2, 2, 2, 2, 2]) = Code.region 15 _ false from rfl, hk_5_15, hz_5_15, hs_5_15, xk B5 [2, 1, 2, 2, 2, 2, 2, 2, 2, 2] (.cd 79) rfl]
  replace hF := cond_some hF
  rcases hF with ⟨h1, hF⟩ | ⟨h1, hF⟩
  · simp (maxSteps := 999999) (disch := first | exact D (by decide) | exact K (by kernel_rfl)) only [E, EE, ↓reduceIte, simprocAttr, xk B5 [2, 2, 1, 2, 2, 2, 2, 2, 2, 2, 2] .sq rfl, show (nav B5 [1, 2, 2, 1, 2, 2, 2, 2, 2, 2, 2, 2]) = Code.region 16 _ false from rfl, hk_5_16, hz_5_16, hs_5_16, h1]
    replace hF := cond_some hF
    rcases hF with ⟨h2, hF⟩ | ⟨h2, hF⟩
    · cases hF
      simp (maxSteps := 999999) (disch := first | exact D (by decide) | exact K (by kernel_rfl)) only [E, EE, ↓reduceIte, simprocAttr, u_25, i_25, is_25, ib_25, iz_25, xk B5 [2, 2, 2, 1, 2, 2, 2, 2, 2, 2, 2, 2] .rt rfl, finK_norm, finK_ret, fin5, R5_airzraiiz.st, h1, h2]
    · cases hF
      simp (maxSteps := 999999) (disch := first | exact D (by decide) | exact K (by kernel_rfl)) only [E, EE, ↓reduceIte, simprocAttr, xk B5 [2, 2, 2, 1, 2, 2, 2, 2, 2, 2, 2, 2] .rt rfl, finK_norm, finK_ret, fin5, R5_airzraiiz.st, h1, h2]
  · have hJ := f5_airzraiiz_j4_ok k x9 x10 x11 false m5 m7 m7_1 m7_2 m7_3 m19 m19_1_ m19_2_ m8 m8_1 m8_2 m8_3 m21 m21_1_ m21_2_ _ hF
    simp (maxSteps := 999999) (disch := first | exact D (by decide) | exact K (by kernel_rfl)) only [E, EE, ↓reduceIte, simprocAttr, xk B5 [3, 2, 1, 2, 2, 2, 2, 2, 2, 2, 2] .sk rfl, h1]
    try simp only [NM, EE] at hJ
    exact hJ
noncomputable def f5_airzraiiz_j8 (k : Nat) (x9 : List Int) (x10 x11 : Int) (x68 : Bool) (m5 : List Int) (m7 m7_1 m7_2 m7_3 : Int) (m19 : List T54) (m19_1_ : List Int) (m19_2_ : List T44) (m8 m8_1 m8_2 m8_3 : Int) (m21 : List T54) (m21_1_ : List Int) (m21_2_ : List T44) : Option R5_airzraiiz :=
  cond ((x11 != 0))
    (
      cond ((x10 == x11))
        (some (R5_airzraiiz.o0 (((List.length x9) : Int) == 0)))
        (some (R5_airzraiiz.o0 false)))
    (f5_airzraiiz_j4 k x9 x10 x11 false m5 m7 m7_1 m7_2 m7_3 m19 m19_1_ m19_2_ m8 m8_1 m8_2 m8_3 m21 m21_1_ m21_2_)
theorem f5_airzraiiz_j8_ok (k : Nat) (x9 : List Int) (x10 x11 : Int) (x68 : Bool) (m5 : List Int) (m7 m7_1 m7_2 m7_3 : Int) (m19 : List T54) (m19_1_ : List Int) (m19_2_ : List T44) (m8 m8_1 m8_2 m8_3 : Int) (m21 : List T54) (m21_1_ : List Int) (m21_2_ : List T44) (r : R5_airzraiiz) (hF : f5_airzraiiz_j8 k x9 x10 x11 x68 m5 m7 m7_1 m7_2 m7_3 m19 m19_1_ m19_2_ m8 m8_1 m8_2 m8_3 m21 m21_1_ m21_2_ = some r) : finK Tryd.prog Tryd.f5 0 (EX 5 k (nav B5 [2, 2, 2, 2, 2, 2, 2, 2]) ({ n := 127, F := [(5, V.ptr 5 0), (7, V.ptr 7 0), (8, V.ptr 8 0), (9, V.sl 1 (rowsOf (encI .i64) x9)), (10, V.p (Value.int .i64 x10)), (11, V.p (Value.int .i64 x11)), (68, V.p (Value.bool x68))], M := [(5, O.box 58 (arrC (cI .i64) m5)), (7, O.box 28 [V.p (Value.int .i64 m7), V.p (Value.int .i64 m7_1), V.own 19, V.own 10019, V.p (Value.int .i64 m7_2), V.own 20019, V.p (Value.int .i64 m7_3)]), (19, O.row false 6 54 (rowsOf encT54 m19)), (10019, O.row false 1 3 (rowsOf (encI .i64) m19_1_)), (20019, O.row false 3 44 (rowsOf encT44 m19_2_)), (8, O.box 28 [V.p (Value.int .i64 m8), V.p (Value.int .i64 m8_1), V.own 21, V.own 10021, V.p (Value.int .i64 m8_2), V.own 20021, V.p (Value.int .i64 m8_3)]), (21, O.row true 6 54 (rowsOf encT54 m21)), (10021, O.row true 1 3 (rowsOf (encI .i64) m21_1_)), (20021, O.row true 3 44 (rowsOf encT44 m21_2_))] } : St)) = some r.st := by
  unfold f5_airzraiiz_j8 at hF
  simp (maxSteps := 999999) (disch := first | exact D (by decide) | exact K (by kernel_rfl)) only [E, EE, ↓reduceIte, simprocAttr, xk B5 [2, 2, 2, 2, 2, 2, 2, 2] .sq rfl, xk B5 [1, 2, 2, 2, 2, 2, 2, 2, 2] .sq rfl, show (nav B5 [1, 1, 2, 2, 2, 2, 2, 2, 2, 2]) = Code.region 15 _ false from rfl, hk_5_15, hz_5_15, hs_5_15, xk B5 [2, 1, 2, 2, 2, 2, 2, 2, 2, 2] (.cd 79) rfl]
  replace hF := cond_some hF
  rcases hF with ⟨h1, hF⟩ | ⟨h1, hF⟩
  · simp (maxSteps := 999999) (disch := first | exact D (by decide) | exact K (by kernel_rfl)) only [E, EE, ↓reduceIte, simprocAttr, xk B5 [2, 2, 1, 2, 2, 2, 2, 2, 2, 2, 2] .sq rfl, show (nav B5 [1, 2, 2, 1, 2, 2, 2, 2, 2, 2, 2, 2]) = Code.region 16 _ false from rfl, hk_5_16, hz_5_16, hs_5_16, h1]
    replace hF := cond_some hF
    rcases hF with ⟨h2, hF⟩ | ⟨h2, hF⟩
    · cases hF
      simp (maxSteps := 999999) (disch := first | exact D (by decide) | exact K (by kernel_rfl)) only [E, EE, ↓reduceIte, simprocAttr, u_25, i_25, is_25, ib_25, iz_25, xk B5 [2, 2, 2, 1, 2, 2, 2, 2, 2, 2, 2, 2] .rt rfl, finK_norm, finK_ret, fin5, R5_airzraiiz.st, h1, h2]
    · cases hF
      simp (maxSteps := 999999) (disch := first | exact D (by decide) | exact K (by kernel_rfl)) only [E, EE, ↓reduceIte, simprocAttr, xk B5 [2, 2, 2, 1, 2, 2, 2, 2, 2, 2, 2, 2] .rt rfl, finK_norm, finK_ret, fin5, R5_airzraiiz.st, h1, h2]
  · have hJ := f5_airzraiiz_j4_ok k x9 x10 x11 false m5 m7 m7_1 m7_2 m7_3 m19 m19_1_ m19_2_ m8 m8_1 m8_2 m8_3 m21 m21_1_ m21_2_ _ hF
    simp (maxSteps := 999999) (disch := first | exact D (by decide) | exact K (by kernel_rfl)) only [E, EE, ↓reduceIte, simprocAttr, xk B5 [3, 2, 1, 2, 2, 2, 2, 2, 2, 2, 2] .sk rfl, h1]
    try simp only [NM, EE] at hJ
    exact hJ
noncomputable def f5_airzraiiz_j2 (k : Nat) (x9 : List Int) (x10 : Int) (x37 : Bool) (m5 : List Int) (m7 m7_1 m7_2 m7_3 : Int) (m19 : List T54) (m19_1_ : List Int) (m19_2_ : List T44) (m8 m8_1 m8_2 m8_3 : Int) (m21 : List T54) (m21_1_ : List Int) (m21_2_ : List T44) : Option R5_airzraiiz :=
  Option.bind (f18_airz k m8_1 m21) fun o1 =>
    match o1 with
    | .o0 v4 =>
      cond ((!v4))
        (f5_airzraiiz_j3 k x9 x10 230 m5 m7 m7_1 m7_2 m7_3 m19 m19_1_ m19_2_ m8 m8_1 m8_2 m8_3 m21 m21_1_ m21_2_)
        (
          Option.bind (f19_airzr k m8_1 m21 m21_1_) fun o6 =>
            match o6 with
            | .o0 v9 =>
              cond ((!v9))
                (f5_airzraiiz_j3 k x9 x10 2 m5 m7 m7_1 m7_2 m7_3 m19 m19_1_ m19_2_ m8 m8_1 m8_2 m8_3 m21 m21_1_ m21_2_)
                (
                  Option.bind (List.head? m5) fun v11 =>
                    cond ((decide (v11 < 0)))
                      (f5_airzraiiz_j3 k x9 x10 2 m5 m7 m7_1 m7_2 m7_3 m19 m19_1_ m19_2_ m8 m8_1 m8_2 m8_3 m21 m21_1_ m21_2_)
                      (
                        cond ((decide (v11 ≥ ((List.length m21_1_) : Int))))
                          (f5_airzraiiz_j3 k x9 x10 2 m5 m7 m7_1 m7_2 m7_3 m19 m19_1_ m19_2_ m8 m8_1 m8_2 m8_3 m21 m21_1_ m21_2_)
                          (
                            Option.bind (List.head? (List.drop 1 m5)) fun v15 =>
                              cond ((decide (v15 < 0)))
                                (f5_airzraiiz_j3 k x9 x10 2 m5 m7 m7_1 m7_2 m7_3 m19 m19_1_ m19_2_ m8 m8_1 m8_2 m8_3 m21 m21_1_ m21_2_)
                                (
                                  ifE ((0 : Int) ≤ v11) (
                                    ifE (v11 < ((List.length m21_1_) : Int)) (
                                      Option.bind (m21_1_[(Int.toNat v11)]?) fun v20 =>
                                        cond ((decide (v15 > v20)))
                                          (f5_airzraiiz_j3 k x9 x10 6 m5 m7 m7_1 m7_2 m7_3 m19 m19_1_ m19_2_ m8 m8_1 m8_2 m8_3 m21 m21_1_ m21_2_)
                                          (f5_airzraiiz_j8 k x9 x10 0 false m5 m7 m7_1 m7_2 m7_3 m19 m19_1_ m19_2_ m8 m8_1 m8_2 m8_3 m21 m21_1_ m21_2_))))))))
theorem f5_airzraiiz_j2_ok (k : Nat) (x9 : List Int) (x10 : Int) (x37 : Bool) (m5 : List Int) (m7 m7_1 m7_2 m7_3 : Int) (m19 : List T54) (m19_1_ : List Int) (m19_2_ : List T44) (m8 m8_1 m8_2 m8_3 : Int) (m21 : List T54) (m21_1_ : List Int) (m21_2_ : List T44) (r : R5_airzraiiz) (hF : f5_airzraiiz_j2 k x9 x10 x37 m5 m7 m7_1 m7_2 m7_3 m19 m19_1_ m19_2_ m8 m8_1 m8_2 m8_3 m21 m21_1_ m21_2_ = some r) : finK Tryd.prog Tryd.f5 0 (EX 5 k (nav B5 [2, 2, 2, 2, 2, 2]) ({ n := 127, F := [(5, V.ptr 5 0), (7, V.ptr 7 0), (8, V.ptr 8 0), (9, V.sl 1 (rowsOf (encI .i64) x9)), (10, V.p (Value.int .i64 x10)), (37, V.p (Value.bool x37))], M := [(5, O.box 58 (arrC (cI .i64) m5)), (7, O.box 28 [V.p (Value.int .i64 m7), V.p (Value.int .i64 m7_1), V.own 19, V.own 10019, V.p (Value.int .i64 m7_2), V.own 20019, V.p (Value.int .i64 m7_3)]), (19, O.row false 6 54 (rowsOf encT54 m19)), (10019, O.row false 1 3 (rowsOf (encI .i64) m19_1_)), (20019, O.row false 3 44 (rowsOf encT44 m19_2_)), (8, O.box 28 [V.p (Value.int .i64 m8), V.p (Value.int .i64 m8_1), V.own 21, V.own 10021, V.p (Value.int .i64 m8_2), V.own 20021, V.p (Value.int .i64 m8_3)]), (21, O.row true 6 54 (rowsOf encT54 m21)), (10021, O.row true 1 3 (rowsOf (encI .i64) m21_1_)), (20021, O.row true 3 44 (rowsOf encT44 m21_2_))] } : St)) = some r.st := by
  unfold f5_airzraiiz_j2 at hF
  replace hF := Option.bind_eq_some_iff.1 hF
  obtain ⟨o1, h2, hF⟩ := hF
  have hc3 := f18_airz_ok k m8_1 m21 _ h2
  cases o1 with
  | o0 v4 =>
    (try dsimp only at hF)
    (try simp only [NM, EE, R18_airz.st] at hc3)
    simp (maxSteps := 999999) (disch := first | exact D (by decide) | exact K (by kernel_rfl)) only [E, EE, ↓reduceIte, simprocAttr, xk B5 [2, 2, 2, 2, 2, 2] .sq rfl, show (nav B5 [1, 2, 2, 2, 2, 2, 2]) = Code.region 8 _ false from rfl, hk_5_8, hz_5_8, hs_5_8, xk B5 [2, 2, 2, 2, 2, 2, 2] .sq rfl, xk B5 [1, 2, 2, 2, 2, 2, 2, 2] (.bk 0) rfl, xk B5 [2, 1, 2, 2, 2, 2, 2, 2, 2] .sq rfl, show (nav B5 [1, 2, 1, 2, 2, 2, 2, 2, 2, 2]) = Code.region 9 _ false from rfl, hk_5_9, hz_5_9, hs_5_9, fieldAddrV, u_28, i_28, is_28, ib_28, iz_28, u_24, i_24, is_24, ib_24, iz_24, callStep, CL, gv, List.contains, xk B5 [2, 2, 1, 2, 2, 2, 2, 2, 2, 2] (.cd 38) rfl, hc3]
    replace hF := cond_some hF
    rcases hF with ⟨h5, hF⟩ | ⟨h5, hF⟩
    · have hJ := f5_airzraiiz_j3_ok k x9 x10 230 m5 m7 m7_1 m7_2 m7_3 m19 m19_1_ m19_2_ m8 m8_1 m8_2 m8_3 m21 m21_1_ m21_2_ _ hF
      simp (maxSteps := 999999) (disch := first | exact D (by decide) | exact K (by kernel_rfl)) only [E, EE, ↓reduceIte, simprocAttr, show (nav B5 [2, 2, 2, 1, 2, 2, 2, 2, 2, 2, 2]) = Code.region 10 _ false from rfl, hk_5_10, hz_5_10, hs_5_10, hc3, h5]
      try simp only [NM, EE] at hJ
      exact hJ
    · replace hF := Option.bind_eq_some_iff.1 hF
      obtain ⟨o6, h7, hF⟩ := hF
      have hc8 := f19_airzr_ok k m8_1 m21 m21_1_ _ h7
      cases o6 with
      | o0 v9 =>
        (try dsimp only at hF)
        (try simp only [NM, EE, R19_airzr.st] at hc8)
        simp (maxSteps := 999999) (disch := first | exact D (by decide) | exact K (by kernel_rfl)) only [E, EE, ↓reduceIte, simprocAttr, xk B5 [3, 2, 2, 1, 2, 2, 2, 2, 2, 2, 2] .sq rfl, show (nav B5 [1, 3, 2, 2, 1, 2, 2, 2, 2, 2, 2, 2]) = Code.region 11 _ false from rfl, hk_5_11, hz_5_11, hs_5_11, fieldAddrV, u_28, i_28, is_28, ib_28, iz_28, u_24, i_24, is_24, ib_24, iz_24, u_25, i_25, is_25, ib_25, iz_25, callStep, CL, gv, List.contains, hc3, h5, hc8]
        replace hF := cond_some hF
        rcases hF with ⟨h10, hF⟩ | ⟨h10, hF⟩
        · have hJ := f5_airzraiiz_j3_ok k x9 x10 2 m5 m7 m7_1 m7_2 m7_3 m19 m19_1_ m19_2_ m8 m8_1 m8_2 m8_3 m21 m21_1_ m21_2_ _ hF
          simp (maxSteps := 999999) (disch := first | exact D (by decide) | exact K (by kernel_rfl)) only [E, EE, ↓reduceIte, simprocAttr, xk B5 [2, 3, 2, 2, 1, 2, 2, 2, 2, 2, 2, 2] (.cd 43) rfl, show (nav B5 [2, 2, 3, 2, 2, 1, 2, 2, 2, 2, 2, 2, 2]) = Code.region 12 _ false from rfl, hk_5_12, hz_5_12, hs_5_12, hc3, h5, hc8, h10]
          try simp only [NM, EE] at hJ
          exact hJ
        · replace hF := Option.bind_eq_some_iff.1 hF
          obtain ⟨v11, h12, hF⟩ := hF
          simp (maxSteps := 999999) (disch := first | exact D (by decide) | exact K (by kernel_rfl)) only [E, EE, ↓reduceIte, simprocAttr, indexAddrV, u_58, i_58, is_58, ib_58, iz_58, u_3, i_3, is_3, ib_3, iz_3, hc3, h5, hc8, h10, h12]
          replace hF := cond_some hF
          rcases hF with ⟨h13, hF⟩ | ⟨h13, hF⟩
          · have hJ := f5_airzraiiz_j3_ok k x9 x10 2 m5 m7 m7_1 m7_2 m7_3 m19 m19_1_ m19_2_ m8 m8_1 m8_2 m8_3 m21 m21_1_ m21_2_ _ hF
            simp (maxSteps := 999999) (disch := first | exact D (by decide) | exact K (by kernel_rfl)) only [E, EE, ↓reduceIte, simprocAttr, xk B5 [2, 3, 2, 2, 1, 2, 2, 2, 2, 2, 2, 2] (.cd 43) rfl, show (nav B5 [2, 2, 3, 2, 2, 1, 2, 2, 2, 2, 2, 2, 2]) = Code.region 12 _ false from rfl, hk_5_12, hz_5_12, hs_5_12, hc3, h5, hc8, h10, h12, h13]
            try simp only [NM, EE] at hJ
            exact hJ
          · simp (maxSteps := 999999) (disch := first | exact D (by decide) | exact K (by kernel_rfl)) only [E, EE, ↓reduceIte, simprocAttr, indexAddrV, u_58, i_58, is_58, ib_58, iz_58, u_3, i_3, is_3, ib_3, iz_3, fieldAddrV, u_28, i_28, is_28, ib_28, iz_28, u_25, i_25, is_25, ib_25, iz_25, hc3, h5, hc8, h10, h12, h13]
            replace hF := cond_some hF
            rcases hF with ⟨h14, hF⟩ | ⟨h14, hF⟩
            · have hJ := f5_airzraiiz_j3_ok k x9 x10 2 m5 m7 m7_1 m7_2 m7_3 m19 m19_1_ m19_2_ m8 m8_1 m8_2 m8_3 m21 m21_1_ m21_2_ _ hF
              simp (maxSteps := 999999) (disch := first | exact D (by decide) | exact K (by kernel_rfl)) only [E, EE, ↓reduceIte, simprocAttr, xk B5 [2, 3, 2, 2, 1, 2, 2, 2, 2, 2, 2, 2] (.cd 43) rfl, show (nav B5 [2, 2, 3, 2, 2, 1, 2, 2, 2, 2, 2, 2, 2]) = Code.region 12 _ false from rfl, hk_5_12, hz_5_12, hs_5_12, hc3, h5, hc8, h10, h12, h13, h14]
              try simp only [NM, EE] at hJ
              exact hJ
            · replace hF := Option.bind_eq_some_iff.1 hF
              obtain ⟨v15, h16, hF⟩ := hF
              simp (maxSteps := 999999) (disch := first | exact D (by decide) | exact K (by kernel_rfl)) only [E, EE, ↓reduceIte, simprocAttr, indexAddrV, u_58, i_58, is_58, ib_58, iz_58, u_3, i_3, is_3, ib_3, iz_3, xk B5 [2, 3, 2, 2, 1, 2, 2, 2, 2, 2, 2, 2] (.cd 43) rfl, hc3, h5, hc8, h10, h12, h13, h14, h16]
              replace hF := cond_some hF
              rcases hF with ⟨h17, hF⟩ | ⟨h17, hF⟩
              · have hJ := f5_airzraiiz_j3_ok k x9 x10 2 m5 m7 m7_1 m7_2 m7_3 m19 m19_1_ m19_2_ m8 m8_1 m8_2 m8_3 m21 m21_1_ m21_2_ _ hF
                simp (maxSteps := 999999) (disch := first | exact D (by decide) | exact K (by kernel_rfl)) only [E, EE, ↓reduceIte, simprocAttr, show (nav B5 [2, 2, 3, 2, 2, 1, 2, 2, 2, 2, 2, 2, 2]) = Code.region 12 _ false from rfl, hk_5_12, hz_5_12, hs_5_12, hc3, h5, hc8, h10, h12, h13, h14, h16, h17]
                try simp only [NM, EE] at hJ
                exact hJ
              · replace hF := ifE_some.1 hF
                obtain ⟨h18, hF⟩ := hF
                replace hF := ifE_some.1 hF
                obtain ⟨h19, hF⟩ := hF
                replace hF := Option.bind_eq_some_iff.1 hF
                obtain ⟨v20, h21, hF⟩ := hF
                simp (maxSteps := 999999) (disch := first | exact D (by decide) | exact K (by kernel_rfl)) only [E, EE, ↓reduceIte, simprocAttr, xk B5 [3, 2, 3, 2, 2, 1, 2, 2, 2, 2, 2, 2, 2] .sq rfl, show (nav B5 [1, 3, 2, 3, 2, 2, 1, 2, 2, 2, 2, 2, 2, 2]) = Code.region 13 _ true from rfl, hk_5_13, hz_5_13, hs_5_13, indexAddrV, u_58, i_58, is_58, ib_58, iz_58, u_3, i_3, is_3, ib_3, iz_3, fieldAddrV, u_28, i_28, is_28, ib_28, iz_28, u_25, i_25, is_25, ib_25, iz_25, encI_eq, xk B5 [2, 3, 2, 3, 2, 2, 1, 2, 2, 2, 2, 2, 2, 2] (.cd 68) rfl, hc3, h5, hc8, h10, h12, h13, h14, h16, h17, h18, h19, h21]
                replace hF := cond_some hF
                rcases hF with ⟨h22, hF⟩ | ⟨h22, hF⟩
                · have hJ := f5_airzraiiz_j3_ok k x9 x10 6 m5 m7 m7_1 m7_2 m7_3 m19 m19_1_ m19_2_ m8 m8_1 m8_2 m8_3 m21 m21_1_ m21_2_ _ hF
                  simp (maxSteps := 999999) (disch := first | exact D (by decide) | exact K (by kernel_rfl)) only [E, EE, ↓reduceIte, simprocAttr, show (nav B5 [2, 2, 3, 2, 3, 2, 2, 1, 2, 2, 2, 2, 2, 2, 2]) = Code.region 14 _ false from rfl, hk_5_14, hz_5_14, hs_5_14, hc3, h5, hc8, h10, h12, h13, h14, h16, h17, h18, h19, h21, h22]
                  try simp only [NM, EE] at hJ
                  exact hJ
                · have hJ := f5_airzraiiz_j8_ok k x9 x10 0 false m5 m7 m7_1 m7_2 m7_3 m19 m19_1_ m19_2_ m8 m8_1 m8_2 m8_3 m21 m21_1_ m21_2_ _ hF
                  simp (maxSteps := 999999) (disch := first | exact D (by decide) | exact K (by kernel_rfl)) only [E, EE, ↓reduceIte, simprocAttr, xk B5 [3, 2, 3, 2, 3, 2, 2, 1, 2, 2, 2, 2, 2, 2, 2] .sk rfl, hc3, h5, hc8, h10, h12, h13, h14, h16, h17, h18, h19, h21, h22]
                  try simp only [NM, EE] at hJ
                  exact hJ
inductive R5_airzraiiz_l13 where
  | o0 (y : Bool)
  | o1 (y y_1 : Int) (y_2 : List Int) (y_3 y_4 y_5 y_6 : Int) (y_7 : List T54) (y_8 : List Int) (y_9 : List T44) (y_10 y_11 y_12 y_13 : Int) (y_14 : List T54) (y_15 : List Int) (y_16 : List T44) (y_17 : List Int)
  | o2 (y y_1 : Int) (y_2 : Bool) (y_3 : List Int) (y_4 y_5 y_6 y_7 : Int) (y_8 : List T54) (y_9 : List Int) (y_10 : List T44) (y_11 y_12 y_13 y_14 : Int) (y_15 : List T54) (y_16 : List Int) (y_17 : List T44) (y_18 : List Int)
noncomputable def R5_airzraiiz_l13.st : R5_airzraiiz_l13 → Out × St
  | .o0 y => (.ret, ({ n := 127, F := [(6, V.p (Value.bool y))], M := [] } : St))
  | .o1 y y_1 y_2 y_3 y_4 y_5 y_6 y_7 y_8 y_9 y_10 y_11 y_12 y_13 y_14 y_15 y_16 y_17 => (.norm, ({ n := 127, F := [(5, V.ptr 30000 0), (7, V.ptr 30001 0), (8, V.ptr 30005 0), (9, V.own 30009), (99, V.own 30007), (100, V.p (Value.int .i64 y)), (101, V.p (Value.int .i64 y_1))], M := [(30000, O.box 58 (arrC (cI .i64) y_2)), (30001, O.box 28 [V.p (Value.int .i64 y_3), V.p (Value.int .i64 y_4), V.own 30002, V.own 30003, V.p (Value.int .i64 y_5), V.own 30004, V.p (Value.int .i64 y_6)]), (30002, O.row false 6 54 (rowsOf encT54 y_7)), (30003, O.row false 1 3 (rowsOf (encI .i64) y_8)), (30004, O.row false 3 44 (rowsOf encT44 y_9)), (30005, O.box 28 [V.p (Value.int .i64 y_10), V.p (Value.int .i64 y_11), V.own 30006, V.own 30007, V.p (Value.int .i64 y_12), V.own 30008, V.p (Value.int .i64 y_13)]), (30006, O.row true 6 54 (rowsOf encT54 y_14)), (30007, O.row true 1 3 (rowsOf (encI .i64) y_15)), (30008, O.row true 3 44 (rowsOf encT44 y_16)), (30009, O.row true 1 3 (rowsOf (encI .i64) y_17))] } : St))
  | .o2 y y_1 y_2 y_3 y_4 y_5 y_6 y_7 y_8 y_9 y_10 y_11 y_12 y_13 y_14 y_15 y_16 y_17 y_18 => (.exit 1, ({ n := 127, F := [(5, V.ptr 30000 0), (7, V.ptr 30001 0), (8, V.ptr 30005 0), (9, V.own 30009), (99, V.own 30007), (100, V.p (Value.int .i64 y)), (101, V.p (Value.int .i64 y_1)), (102, V.p (Value.bool y_2))], M := [(30000, O.box 58 (arrC (cI .i64) y_3)), (30001, O.box 28 [V.p (Value.int .i64 y_4), V.p (Value.int .i64 y_5), V.own 30002, V.own 30003, V.p (Value.int .i64 y_6), V.own 30004, V.p (Value.int .i64 y_7)]), (30002, O.row false 6 54 (rowsOf encT54 y_8)), (30003, O.row false 1 3 (rowsOf (encI .i64) y_9)), (30004, O.row false 3 44 (rowsOf encT44 y_10)), (30005, O.box 28 [V.p (Value.int .i64 y_11), V.p (Value.int .i64 y_12), V.own 30006, V.own 30007, V.p (Value.int .i64 y_13), V.own 30008, V.p (Value.int .i64 y_14)]), (30006, O.row true 6 54 (rowsOf encT54 y_15)), (30007, O.row true 1 3 (rowsOf (encI .i64) y_16)), (30008, O.row true 3 44 (rowsOf encT44 y_17)), (30009, O.row true 1 3 (rowsOf (encI .i64) y_18))] } : St))
noncomputable def f5_airzraiiz_l13_j4 (k : Nat) (x100 x101 : Int) (h0_ : List Int) (h1_ h1__1 h1__2 h1__3 : Int) (h2_ : List T54) (h3_ : List Int) (h4_ : List T44) (h5_ h5__1 h5__2 h5__3 : Int) (h6_ : List T54) (h7_ : List Int) (h8_ : List T44) (h9_ : List Int) : Option R5_airzraiiz_l13 :=
  some (R5_airzraiiz_l13.o1 x100 (IntKind.i64.wrap (x101 + (1 : Int))) h0_ h1_ h1__1 h1__2 h1__3 h2_ h3_ h4_ h5_ h5__1 h5__2 h5__3 h6_ h7_ h8_ h9_)
theorem f5_airzraiiz_l13_j4_ok (k : Nat) (x100 x101 : Int) (h0_ : List Int) (h1_ h1__1 h1__2 h1__3 : Int) (h2_ : List T54) (h3_ : List Int) (h4_ : List T44) (h5_ h5__1 h5__2 h5__3 : Int) (h6_ : List T54) (h7_ : List Int) (h8_ : List T44) (h9_ : List Int) (r : R5_airzraiiz_l13) (hF : f5_airzraiiz_l13_j4 k x100 x101 h0_ h1_ h1__1 h1__2 h1__3 h2_ h3_ h4_ h5_ h5__1 h5__2 h5__3 h6_ h7_ h8_ h9_ = some r) : EX 5 k (nav B5 [2, 2, 2, 1, 2, 2, 1, 2, 2, 2, 2, 2, 2, 2, 2, 2, 2]) ({ n := 127, F := [(5, V.ptr 30000 0), (7, V.ptr 30001 0), (8, V.ptr 30005 0), (9, V.own 30009), (99, V.own 30007), (100, V.p (Value.int .i64 x100)), (101, V.p (Value.int .i64 x101))], M := [(30000, O.box 58 (arrC (cI .i64) h0_)), (30001, O.box 28 [V.p (Value.int .i64 h1_), V.p (Value.int .i64 h1__1), V.own 30002, V.own 30003, V.p (Value.int .i64 h1__2), V.own 30004, V.p (Value.int .i64 h1__3)]), (30002, O.row false 6 54 (rowsOf encT54 h2_)), (30003, O.row false 1 3 (rowsOf (encI .i64) h3_)), (30004, O.row false 3 44 (rowsOf encT44 h4_)), (30005, O.box 28 [V.p (Value.int .i64 h5_), V.p (Value.int .i64 h5__1), V.own 30006, V.own 30007, V.p (Value.int .i64 h5__2), V.own 30008, V.p (Value.int .i64 h5__3)]), (30006, O.row true 6 54 (rowsOf encT54 h6_)), (30007, O.row true 1 3 (rowsOf (encI .i64) h7_)), (30008, O.row true 3 44 (rowsOf encT44 h8_)), (30009, O.row true 1 3 (rowsOf (encI .i64) h9_))] } : St) = some r.st := by
  unfold f5_airzraiiz_l13_j4 at hF
  cases hF
  simp (maxSteps := 999999) (disch := first | exact D (by decide) | exact K (by kernel_rfl)) only [E, EE, ↓reduceIte, simprocAttr, show (nav B5 [2, 2, 2, 1, 2, 2, 1, 2, 2, 2, 2, 2, 2, 2, 2, 2, 2]) = Code.region 27 _ false from rfl, hk_5_27, hz_5_27, hs_5_27, R5_airzraiiz_l13.st]
noncomputable def f5_airzraiiz_l13_j3 (k : Nat) (x12 x100 x101 : Int) (x119 : Bool) (h0_ : List Int) (h1_ h1__1 h1__2 h1__3 : Int) (h2_ : List T54) (h3_ : List Int) (h4_ : List T44) (h5_ h5__1 h5__2 h5__3 : Int) (h6_ : List T54) (h7_ : List Int) (h8_ : List T44) (h9_ : List Int) : Option R5_airzraiiz_l13 :=
  ifE ((0 : Int) ≤ x12) (
    ifE (x12 < ((List.length h9_) : Int)) (
      Option.bind (h9_[(Int.toNat x12)]?) fun v3 =>
        f5_airzraiiz_l13_j4 k x100 x101 h0_ h1_ h1__1 h1__2 h1__3 h2_ h3_ h4_ h5_ h5__1 h5__2 h5__3 h6_ h7_ h8_ ((List.set h9_ (Int.toNat x12) (-9)))))
theorem f5_airzraiiz_l13_j3_ok (k : Nat) (x12 x100 x101 : Int) (x119 : Bool) (h0_ : List Int) (h1_ h1__1 h1__2 h1__3 : Int) (h2_ : List T54) (h3_ : List Int) (h4_ : List T44) (h5_ h5__1 h5__2 h5__3 : Int) (h6_ : List T54) (h7_ : List Int) (h8_ : List T44) (h9_ : List Int) (r : R5_airzraiiz_l13) (hF : f5_airzraiiz_l13_j3 k x12 x100 x101 x119 h0_ h1_ h1__1 h1__2 h1__3 h2_ h3_ h4_ h5_ h5__1 h5__2 h5__3 h6_ h7_ h8_ h9_ = some r) : SQ 5 k (nav B5 [2, 2, 2, 1, 2, 2, 1, 2, 2, 2, 2, 2, 2, 2, 2, 2, 2]) (blockK 2 (EX 5 k (nav B5 [2, 2, 2, 2, 1, 2, 2, 1, 2, 2, 1, 2, 2, 2, 2, 2, 2, 2, 2, 2, 2]) ({ n := 127, F := [(5, V.ptr 30000 0), (7, V.ptr 30001 0), (8, V.ptr 30005 0), (9, V.own 30009), (12, V.p (Value.int .i64 x12)), (99, V.own 30007), (100, V.p (Value.int .i64 x100)), (101, V.p (Value.int .i64 x101)), (119, V.p (Value.bool x119))], M := [(30000, O.box 58 (arrC (cI .i64) h0_)), (30001, O.box 28 [V.p (Value.int .i64 h1_), V.p (Value.int .i64 h1__1), V.own 30002, V.own 30003, V.p (Value.int .i64 h1__2), V.own 30004, V.p (Value.int .i64 h1__3)]), (30002, O.row false 6 54 (rowsOf encT54 h2_)), (30003, O.row false 1 3 (rowsOf (encI .i64) h3_)), (30004, O.row false 3 44 (rowsOf encT44 h4_)), (30005, O.box 28 [V.p (Value.int .i64 h5_), V.p (Value.int .i64 h5__1), V.own 30006, V.own 30007, V.p (Value.int .i64 h5__2), V.own 30008, V.p (Value.int .i64 h5__3)]), (30006, O.row true 6 54 (rowsOf encT54 h6_)), (30007, O.row true 1 3 (rowsOf (encI .i64) h7_)), (30008, O.row true 3 44 (rowsOf encT44 h8_)), (30009, O.row true 1 3 (rowsOf (encI .i64) h9_))] } : St))) = some r.st := by
  unfold f5_airzraiiz_l13_j3 at hF
  replace hF := ifE_some.1 hF
  obtain ⟨h1, hF⟩ := hF
  replace hF := ifE_some.1 hF
  obtain ⟨h2, hF⟩ := hF
  replace hF := Option.bind_eq_some_iff.1 hF
  obtain ⟨v3, h4, hF⟩ := hF
  have q5 : List.set (rowsOf (encI .i64) h9_) (Int.toNat x12) [V.p (Value.int .i64 (-9))] = rowsOf (encI .i64) (List.set h9_ (Int.toNat x12) (-9)) := (rowsOf_set (enc := (encI .i64)) (l := h9_) (i := (Int.toNat x12)) (x := (-9))).symm
  have hJ := f5_airzraiiz_l13_j4_ok k x100 x101 h0_ h1_ h1__1 h1__2 h1__3 h2_ h3_ h4_ h5_ h5__1 h5__2 h5__3 h6_ h7_ h8_ ((List.set h9_ (Int.toNat x12) (-9))) _ hF
  simp (maxSteps := 999999) (disch := first | exact D (by decide) | exact K (by kernel_rfl)) only [E, EE, ↓reduceIte, simprocAttr, show (nav B5 [2, 2, 2, 2, 1, 2, 2, 1, 2, 2, 1, 2, 2, 2, 2, 2, 2, 2, 2, 2, 2]) = Code.region 26 _ false from rfl, hk_5_26, hz_5_26, hs_5_26, indexAddrV, u_25, i_25, is_25, ib_25, iz_25, u_3, i_3, is_3, ib_3, iz_3, sm_3, encI_eq, h1, h2, h4, q5]
  try simp only [NM, EE] at hJ
  exact hJ
noncomputable def f5_airzraiiz_l13_j2 (k : Nat) (x12 x13 x100 x101 : Int) (h0_ : List Int) (h1_ h1__1 h1__2 h1__3 : Int) (h2_ : List T54) (h3_ : List Int) (h4_ : List T44) (h5_ h5__1 h5__2 h5__3 : Int) (h6_ : List T54) (h7_ : List Int) (h8_ : List T44) (h9_ : List Int) : Option R5_airzraiiz_l13 :=
  ifE ((0 : Int) ≤ x12) (
    ifE (x12 < ((List.length h9_) : Int)) (
      Option.bind (h9_[(Int.toNat x12)]?) fun v3 =>
        cond ((v3 != x13))
          (some (R5_airzraiiz_l13.o0 false))
          (f5_airzraiiz_l13_j3 k x12 x100 x101 false h0_ h1_ h1__1 h1__2 h1__3 h2_ h3_ h4_ h5_ h5__1 h5__2 h5__3 h6_ h7_ h8_ h9_)))
theorem f5_airzraiiz_l13_j2_ok (k : Nat) (x12 x13 x100 x101 : Int) (h0_ : List Int) (h1_ h1__1 h1__2 h1__3 : Int) (h2_ : List T54) (h3_ : List Int) (h4_ : List T44) (h5_ h5__1 h5__2 h5__3 : Int) (h6_ : List T54) (h7_ : List Int) (h8_ : List T44) (h9_ : List Int) (r : R5_airzraiiz_l13) (hF : f5_airzraiiz_l13_j2 k x12 x13 x100 x101 h0_ h1_ h1__1 h1__2 h1__3 h2_ h3_ h4_ h5_ h5__1 h5__2 h5__3 h6_ h7_ h8_ h9_ = some r) : SQ 5 k (nav B5 [2, 2, 2, 1, 2, 2, 1, 2, 2, 2, 2, 2, 2, 2, 2, 2, 2]) (blockK 2 (EX 5 k (nav B5 [2, 2, 2, 1, 2, 2, 1, 2, 2, 1, 2, 2, 2, 2, 2, 2, 2, 2, 2, 2]) ({ n := 127, F := [(5, V.ptr 30000 0), (7, V.ptr 30001 0), (8, V.ptr 30005 0), (9, V.own 30009), (12, V.p (Value.int .i64 x12)), (13, V.p (Value.int .i64 x13)), (99, V.own 30007), (100, V.p (Value.int .i64 x100)), (101, V.p (Value.int .i64 x101))], M := [(30000, O.box 58 (arrC (cI .i64) h0_)), (30001, O.box 28 [V.p (Value.int .i64 h1_), V.p (Value.int .i64 h1__1), V.own 30002, V.own 30003, V.p (Value.int .i64 h1__2), V.own 30004, V.p (Value.int .i64 h1__3)]), (30002, O.row false 6 54 (rowsOf encT54 h2_)), (30003, O.row false 1 3 (rowsOf (encI .i64) h3_)), (30004, O.row false 3 44 (rowsOf encT44 h4_)), (30005, O.box 28 [V.p (Value.int .i64 h5_), V.p (Value.int .i64 h5__1), V.own 30006, V.own 30007, V.p (Value.int .i64 h5__2), V.own 30008, V.p (Value.int .i64 h5__3)]), (30006, O.row true 6 54 (rowsOf encT54 h6_)), (30007, O.row true 1 3 (rowsOf (encI .i64) h7_)), (30008, O.row true 3 44 (rowsOf encT44 h8_)), (30009, O.row true 1 3 (rowsOf (encI .i64) h9_))] } : St))) = some r.st := by
  unfold f5_airzraiiz_l13_j2 at hF
  replace hF := ifE_some.1 hF
  obtain ⟨h1, hF⟩ := hF
  replace hF := ifE_some.1 hF
  obtain ⟨h2, hF⟩ := hF
  replace hF := Option.bind_eq_some_iff.1 hF
  obtain ⟨v3, h4, hF⟩ := hF
  simp (maxSteps := 999999) (disch := first | exact D (by decide) | exact K (by kernel_rfl)) only [E, EE, ↓reduceIte, simprocAttr, xk B5 [2, 2, 2, 1, 2, 2, 1, 2, 2, 1, 2, 2, 2, 2, 2, 2, 2, 2, 2, 2] .sq rfl, xk B5 [1, 2, 2, 2, 1, 2, 2, 1, 2, 2, 1, 2, 2, 2, 2, 2, 2, 2, 2, 2, 2] .sq rfl, show (nav B5 [1, 1, 2, 2, 2, 1, 2, 2, 1, 2, 2, 1, 2, 2, 2, 2, 2, 2, 2, 2, 2, 2]) = Code.region 24 _ false from rfl, hk_5_24, hz_5_24, hs_5_24, indexAddrV, u_25, i_25, is_25, ib_25, iz_25, u_3, i_3, is_3, ib_3, iz_3, encI_eq, xk B5 [2, 1, 2, 2, 2, 1, 2, 2, 1, 2, 2, 1, 2, 2, 2, 2, 2, 2, 2, 2, 2, 2] (.cd 119) rfl, h1, h2, h4]
  replace hF := cond_some hF
  rcases hF with ⟨h5, hF⟩ | ⟨h5, hF⟩
  · cases hF
    simp (maxSteps := 999999) (disch := first | exact D (by decide) | exact K (by kernel_rfl)) only [E, EE, ↓reduceIte, simprocAttr, xk B5 [2, 2, 1, 2, 2, 2, 1, 2, 2, 1, 2, 2, 1, 2, 2, 2, 2, 2, 2, 2, 2, 2, 2] .sq rfl, show (nav B5 [1, 2, 2, 1, 2, 2, 2, 1, 2, 2, 1, 2, 2, 1, 2, 2, 2, 2, 2, 2, 2, 2, 2, 2]) = Code.region 25 _ false from rfl, hk_5_25, hz_5_25, hs_5_25, xk B5 [2, 2, 2, 1, 2, 2, 2, 1, 2, 2, 1, 2, 2, 1, 2, 2, 2, 2, 2, 2, 2, 2, 2, 2] .rt rfl, R5_airzraiiz_l13.st, h1, h2, h4, h5]
  · have hJ := f5_airzraiiz_l13_j3_ok k x12 x100 x101 false h0_ h1_ h1__1 h1__2 h1__3 h2_ h3_ h4_ h5_ h5__1 h5__2 h5__3 h6_ h7_ h8_ h9_ _ hF
    simp (maxSteps := 999999) (disch := first | exact D (by decide) | exact K (by kernel_rfl)) only [E, EE, ↓reduceIte, simprocAttr, xk B5 [3, 2, 1, 2, 2, 2, 1, 2, 2, 1, 2, 2, 1, 2, 2, 2, 2, 2, 2, 2, 2, 2, 2] .sk rfl, h1, h2, h4, h5]
    try simp only [NM, EE] at hJ
    exact hJ
noncomputable def f5_airzraiiz_l13_j5 (k : Nat) (x12 x13 x100 x101 : Int) (x109 : Bool) (h0_ : List Int) (h1_ h1__1 h1__2 h1__3 : Int) (h2_ : List T54) (h3_ : List Int) (h4_ : List T44) (h5_ h5__1 h5__2 h5__3 : Int) (h6_ : List T54) (h7_ : List Int) (h8_ : List T44) (h9_ : List Int) : Option R5_airzraiiz_l13 :=
  ifE ((0 : Int) ≤ x12) (
    ifE (x12 < ((List.length h9_) : Int)) (
      Option.bind (h9_[(Int.toNat x12)]?) fun v3 =>
        cond ((v3 != x13))
          (some (R5_airzraiiz_l13.o0 false))
          (f5_airzraiiz_l13_j3 k x12 x100 x101 false h0_ h1_ h1__1 h1__2 h1__3 h2_ h3_ h4_ h5_ h5__1 h5__2 h5__3 h6_ h7_ h8_ h9_)))
theorem f5_airzraiiz_l13_j5_ok (k : Nat) (x12 x13 x100 x101 : Int) (x109 : Bool) (h0_ : List Int) (h1_ h1__1 h1__2 h1__3 : Int) (h2_ : List T54) (h3_ : List Int) (h4_ : List T44) (h5_ h5__1 h5__2 h5__3 : Int) (h6_ : List T54) (h7_ : List Int) (h8_ : List T44) (h9_ : List Int) (r : R5_airzraiiz_l13) (hF : f5_airzraiiz_l13_j5 k x12 x13 x100 x101 x109 h0_ h1_ h1__1 h1__2 h1__3 h2_ h3_ h4_ h5_ h5__1 h5__2 h5__3 h6_ h7_ h8_ h9_ = some r) : SQ 5 k (nav B5 [2, 2, 2, 1, 2, 2, 1, 2, 2, 2, 2, 2, 2, 2, 2, 2, 2]) (blockK 2 (EX 5 k (nav B5 [2, 2, 2, 1, 2, 2, 1, 2, 2, 1, 2, 2, 2, 2, 2, 2, 2, 2, 2, 2]) ({ n := 127, F := [(5, V.ptr 30000 0), (7, V.ptr 30001 0), (8, V.ptr 30005 0), (9, V.own 30009), (12, V.p (Value.int .i64 x12)), (13, V.p (Value.int .i64 x13)), (99, V.own 30007), (100, V.p (Value.int .i64 x100)), (101, V.p (Value.int .i64 x101)), (109, V.p (Value.bool x109))], M := [(30000, O.box 58 (arrC (cI .i64) h0_)), (30001, O.box 28 [V.p (Value.int .i64 h1_), V.p (Value.int .i64 h1__1), V.own 30002, V.own 30003, V.p (Value.int .i64 h1__2), V.own 30004, V.p (Value.int .i64 h1__3)]), (30002, O.row false 6 54 (rowsOf encT54 h2_)), (30003, O.row false 1 3 (rowsOf (encI .i64) h3_)), (30004, O.row false 3 44 (rowsOf encT44 h4_)), (30005, O.box 28 [V.p (Value.int .i64 h5_), V.p (Value.int .i64 h5__1), V.own 30006, V.own 30007, V.p (Value.int .i64 h5__2), V.own 30008, V.p (Value.int .i64 h5__3)]), (30006, O.row true 6 54 (rowsOf encT54 h6_)), (30007, O.row true 1 3 (rowsOf (encI .i64) h7_)), (30008, O.row true 3 44 (rowsOf encT44 h8_)), (30009, O.row true 1 3 (rowsOf (encI .i64) h9_))] } : St))) = some r.st := by
  unfold f5_airzraiiz_l13_j5 at hF
  replace hF := ifE_some.1 hF
  obtain ⟨h1, hF⟩ := hF
  replace hF := ifE_some.1 hF
  obtain ⟨h2, hF⟩ := hF
  replace hF := Option.bind_eq_some_iff.1 hF
  obtain ⟨v3, h4, hF⟩ := hF
  simp (maxSteps := 999999) (disch := first | exact D (by decide) | exact K (by kernel_rfl)) only [E, EE, ↓reduceIte, simprocAttr, xk B5 [2, 2, 2, 1, 2, 2, 1, 2, 2, 1, 2, 2, 2, 2, 2, 2, 2, 2, 2, 2] .sq rfl, xk B5 [1, 2, 2, 2, 1, 2, 2, 1, 2, 2, 1, 2, 2, 2, 2, 2, 2, 2, 2, 2, 2] .sq rfl, show (nav B5 [1, 1, 2, 2, 2, 1, 2, 2, 1, 2, 2, 1, 2, 2, 2, 2, 2, 2, 2, 2, 2, 2]) = Code.region 24 _ false from rfl, hk_5_24, hz_5_24, hs_5_24, indexAddrV, u_25, i_25, is_25, ib_25, iz_25, u_3, i_3, is_3, ib_3, iz_3, encI_eq, xk B5 [2, 1, 2, 2, 2, 1, 2, 2, 1, 2, 2, 1, 2, 2, 2, 2, 2, 2, 2, 2, 2, 2] (.cd 119) rfl, h1, h2, h4]
  replace hF := cond_some hF
  rcases hF with ⟨h5, hF⟩ | ⟨h5, hF⟩
  · cases hF
    simp (maxSteps := 999999) (disch := first | exact D (by decide) | exact K (by kernel_rfl)) only [E, EE, ↓reduceIte, simprocAttr, xk B5 [2, 2, 1, 2, 2, 2, 1, 2, 2, 1, 2, 2, 1, 2, 2, 2, 2, 2, 2, 2, 2, 2, 2] .sq rfl, show (nav B5 [1, 2, 2, 1, 2, 2, 2, 1, 2, 2, 1, 2, 2, 1, 2, 2, 2, 2, 2, 2, 2, 2, 2, 2]) = Code.region 25 _ false from rfl, hk_5_25, hz_5_25, hs_5_25, xk B5 [2, 2, 2, 1, 2, 2, 2, 1, 2, 2, 1, 2, 2, 1, 2, 2, 2, 2, 2, 2, 2, 2, 2, 2] .rt rfl, R5_airzraiiz_l13.st, h1, h2, h4, h5]
  · have hJ := f5_airzraiiz_l13_j3_ok k x12 x100 x101 false h0_ h1_ h1__1 h1__2 h1__3 h2_ h3_ h4_ h5_ h5__1 h5__2 h5__3 h6_ h7_ h8_ h9_ _ hF
    simp (maxSteps := 999999) (disch := first | exact D (by decide) | exact K (by kernel_rfl)) only [E, EE, ↓reduceIte, simprocAttr, xk B5 [3, 2, 1, 2, 2, 2, 1, 2, 2, 1, 2, 2, 1, 2, 2, 2, 2, 2, 2, 2, 2, 2, 2] .sk rfl, h1, h2, h4, h5]
    try simp only [NM, EE] at hJ
    exact hJ
noncomputable def f5_airzraiiz_l13_j1 (k : Nat) (x100 x101 : Int) (x102 : Bool) (h0_ : List Int) (h1_ h1__1 h1__2 h1__3 : Int) (h2_ : List T54) (h3_ : List Int) (h4_ : List T44) (h5_ h5__1 h5__2 h5__3 : Int) (h6_ : List T54) (h7_ : List Int) (h8_ : List T44) (h9_ : List Int) : Option R5_airzraiiz_l13 :=
  ifE ((0 : Int) ≤ x101) (
    ifE (x101 < ((List.length h7_) : Int)) (
      Option.bind (h7_[(Int.toNat x101)]?) fun v3 =>
        Option.bind (List.head? h0_) fun v5 =>
          cond ((x101 == v5))
            (
              Option.bind (List.head? (List.drop 1 h0_)) fun v8 =>
                f5_airzraiiz_l13_j2 k x101 (IntKind.i64.wrap (v3 - v8)) x100 x101 h0_ h1_ h1__1 h1__2 h1__3 h2_ h3_ h4_ h5_ h5__1 h5__2 h5__3 h6_ h7_ h8_ h9_)
            (f5_airzraiiz_l13_j5 k x101 v3 x100 x101 false h0_ h1_ h1__1 h1__2 h1__3 h2_ h3_ h4_ h5_ h5__1 h5__2 h5__3 h6_ h7_ h8_ h9_)))
theorem f5_airzraiiz_l13_j1_ok (k : Nat) (x100 x101 : Int) (x102 : Bool) (h0_ : List Int) (h1_ h1__1 h1__2 h1__3 : Int) (h2_ : List T54) (h3_ : List Int) (h4_ : List T44) (h5_ h5__1 h5__2 h5__3 : Int) (h6_ : List T54) (h7_ : List Int) (h8_ : List T44) (h9_ : List Int) (r : R5_airzraiiz_l13) (hF : f5_airzraiiz_l13_j1 k x100 x101 x102 h0_ h1_ h1__1 h1__2 h1__3 h2_ h3_ h4_ h5_ h5__1 h5__2 h5__3 h6_ h7_ h8_ h9_ = some r) : EX 5 k (nav B5 [2, 2, 1, 2, 2, 1, 2, 2, 2, 2, 2, 2, 2, 2, 2, 2]) ({ n := 127, F := [(5, V.ptr 30000 0), (7, V.ptr 30001 0), (8, V.ptr 30005 0), (9, V.own 30009), (99, V.own 30007), (100, V.p (Value.int .i64 x100)), (101, V.p (Value.int .i64 x101)), (102, V.p (Value.bool x102))], M := [(30000, O.box 58 (arrC (cI .i64) h0_)), (30001, O.box 28 [V.p (Value.int .i64 h1_), V.p (Value.int .i64 h1__1), V.own 30002, V.own 30003, V.p (Value.int .i64 h1__2), V.own 30004, V.p (Value.int .i64 h1__3)]), (30002, O.row false 6 54 (rowsOf encT54 h2_)), (30003, O.row false 1 3 (rowsOf (encI .i64) h3_)), (30004, O.row false 3 44 (rowsOf encT44 h4_)), (30005, O.box 28 [V.p (Value.int .i64 h5_), V.p (Value.int .i64 h5__1), V.own 30006, V.own 30007, V.p (Value.int .i64 h5__2), V.own 30008, V.p (Value.int .i64 h5__3)]), (30006, O.row true 6 54 (rowsOf encT54 h6_)), (30007, O.row true 1 3 (rowsOf (encI .i64) h7_)), (30008, O.row true 3 44 (rowsOf encT44 h8_)), (30009, O.row true 1 3 (rowsOf (encI .i64) h9_))] } : St) = some r.st := by
  unfold f5_airzraiiz_l13_j1 at hF
  replace hF := ifE_some.1 hF
  obtain ⟨h1, hF⟩ := hF
  replace hF := ifE_some.1 hF
  obtain ⟨h2, hF⟩ := hF
  replace hF := Option.bind_eq_some_iff.1 hF
  obtain ⟨v3, h4, hF⟩ := hF
  replace hF := Option.bind_eq_some_iff.1 hF
  obtain ⟨v5, h6, hF⟩ := hF
  simp (maxSteps := 999999) (disch := first | exact D (by decide) | exact K (by kernel_rfl)) only [E, EE, ↓reduceIte, simprocAttr, xk B5 [2, 2, 1, 2, 2, 1, 2, 2, 2, 2, 2, 2, 2, 2, 2, 2] .sq rfl, xk B5 [1, 2, 2, 1, 2, 2, 1, 2, 2, 2, 2, 2, 2, 2, 2, 2, 2] (.bk 2) rfl, xk B5 [2, 1, 2, 2, 1, 2, 2, 1, 2, 2, 2, 2, 2, 2, 2, 2, 2, 2] .sq rfl, show (nav B5 [1, 2, 1, 2, 2, 1, 2, 2, 1, 2, 2, 2, 2, 2, 2, 2, 2, 2, 2]) = Code.region 21 _ false from rfl, hk_5_21, hz_5_21, hs_5_21, indexAddrV, u_25, i_25, is_25, ib_25, iz_25, u_3, i_3, is_3, ib_3, iz_3, encI_eq, xk B5 [2, 2, 1, 2, 2, 1, 2, 2, 1, 2, 2, 2, 2, 2, 2, 2, 2, 2, 2] .sq rfl, xk B5 [1, 2, 2, 1, 2, 2, 1, 2, 2, 1, 2, 2, 2, 2, 2, 2, 2, 2, 2, 2] .sq rfl, show (nav B5 [1, 1, 2, 2, 1, 2, 2, 1, 2, 2, 1, 2, 2, 2, 2, 2, 2, 2, 2, 2, 2]) = Code.region 22 _ false from rfl, hk_5_22, hz_5_22, hs_5_22, u_58, i_58, is_58, ib_58, iz_58, xk B5 [2, 1, 2, 2, 1, 2, 2, 1, 2, 2, 1, 2, 2, 2, 2, 2, 2, 2, 2, 2, 2] (.cd 109) rfl, h1, h2, h4, h6]
  replace hF := cond_some hF
  rcases hF with ⟨h7, hF⟩ | ⟨h7, hF⟩
  · replace hF := Option.bind_eq_some_iff.1 hF
    obtain ⟨v8, h9, hF⟩ := hF
    have hJ := f5_airzraiiz_l13_j2_ok k x101 (IntKind.i64.wrap (v3 - v8)) x100 x101 h0_ h1_ h1__1 h1__2 h1__3 h2_ h3_ h4_ h5_ h5__1 h5__2 h5__3 h6_ h7_ h8_ h9_ _ hF
    simp (maxSteps := 999999) (disch := first | exact D (by decide) | exact K (by kernel_rfl)) only [E, EE, ↓reduceIte, simprocAttr, show (nav B5 [2, 2, 1, 2, 2, 1, 2, 2, 1, 2, 2, 1, 2, 2, 2, 2, 2, 2, 2, 2, 2, 2]) = Code.region 23 _ false from rfl, hk_5_23, hz_5_23, hs_5_23, indexAddrV, u_58, i_58, is_58, ib_58, iz_58, u_3, i_3, is_3, ib_3, iz_3, h1, h2, h4, h6, h7, h9]
    try simp only [NM, EE] at hJ
    exact hJ
  · have hJ := f5_airzraiiz_l13_j5_ok k x101 v3 x100 x101 false h0_ h1_ h1__1 h1__2 h1__3 h2_ h3_ h4_ h5_ h5__1 h5__2 h5__3 h6_ h7_ h8_ h9_ _ hF
    simp (maxSteps := 999999) (disch := first | exact D (by decide) | exact K (by kernel_rfl)) only [E, EE, ↓reduceIte, simprocAttr, xk B5 [3, 2, 1, 2, 2, 1, 2, 2, 1, 2, 2, 1, 2, 2, 2, 2, 2, 2, 2, 2, 2, 2] .sk rfl, h1, h2, h4, h6, h7]
    try simp only [NM, EE] at hJ
    exact hJ
noncomputable def f5_airzraiiz_l13_b (k : Nat) (x100 x101 : Int) (h0_ : List Int) (h1_ h1__1 h1__2 h1__3 : Int) (h2_ : List T54) (h3_ : List Int) (h4_ : List T44) (h5_ h5__1 h5__2 h5__3 : Int) (h6_ : List T54) (h7_ : List Int) (h8_ : List T44) (h9_ : List Int) : Option R5_airzraiiz_l13 :=
  cond ((decide (x101 < x100)))
    (f5_airzraiiz_l13_j1 k x100 x101 true h0_ h1_ h1__1 h1__2 h1__3 h2_ h3_ h4_ h5_ h5__1 h5__2 h5__3 h6_ h7_ h8_ h9_)
    (some (R5_airzraiiz_l13.o2 x100 x101 false h0_ h1_ h1__1 h1__2 h1__3 h2_ h3_ h4_ h5_ h5__1 h5__2 h5__3 h6_ h7_ h8_ h9_))
theorem f5_airzraiiz_l13_b_ok (k : Nat) (x100 x101 : Int) (h0_ : List Int) (h1_ h1__1 h1__2 h1__3 : Int) (h2_ : List T54) (h3_ : List Int) (h4_ : List T44) (h5_ h5__1 h5__2 h5__3 : Int) (h6_ : List T54) (h7_ : List Int) (h8_ : List T44) (h9_ : List Int) (r : R5_airzraiiz_l13) (hF : f5_airzraiiz_l13_b k x100 x101 h0_ h1_ h1__1 h1__2 h1__3 h2_ h3_ h4_ h5_ h5__1 h5__2 h5__3 h6_ h7_ h8_ h9_ = some r) : EX 5 k (nav B5 [1, 2, 2, 1, 2, 2, 2, 2, 2, 2, 2, 2, 2, 2]) ({ n := 127, F := [(5, V.ptr 30000 0), (7, V.ptr 30001 0), (8, V.ptr 30005 0), (9, V.own 30009), (99, V.own 30007), (100, V.p (Value.int .i64 x100)), (101, V.p (Value.int .i64 x101))], M := [(30000, O.box 58 (arrC (cI .i64) h0_)), (30001, O.box 28 [V.p (Value.int .i64 h1_), V.p (Value.int .i64 h1__1), V.own 30002, V.own 30003, V.p (Value.int .i64 h1__2), V.own 30004, V.p (Value.int .i64 h1__3)]), (30002, O.row false 6 54 (rowsOf encT54 h2_)), (30003, O.row false 1 3 (rowsOf (encI .i64) h3_)), (30004, O.row false 3 44 (rowsOf encT44 h4_)), (30005, O.box 28 [V.p (Value.int .i64 h5_), V.p (Value.int .i64 h5__1), V.own 30006, V.own 30007, V.p (Value.int .i64 h5__2), V.own 30008, V.p (Value.int .i64 h5__3)]), (30006, O.row true 6 54 (rowsOf encT54 h6_)), (30007, O.row true 1 3 (rowsOf (encI .i64) h7_)), (30008, O.row true 3 44 (rowsOf encT44 h8_)), (30009, O.row true 1 3 (rowsOf (encI .i64) h9_))] } : St) = some r.st := by
  unfold f5_airzraiiz_l13_b at hF
  simp (maxSteps := 999999) (disch := first | exact D (by decide) | exact K (by kernel_rfl)) only [E, EE, ↓reduceIte, simprocAttr, xk B5 [1, 2, 2, 1, 2, 2, 2, 2, 2, 2, 2, 2, 2, 2] .sq rfl, show (nav B5 [1, 1, 2, 2, 1, 2, 2, 2, 2, 2, 2, 2, 2, 2, 2]) = Code.region 20 _ false from rfl, hk_5_20, hz_5_20, hs_5_20, xk B5 [2, 1, 2, 2, 1, 2, 2, 2, 2, 2, 2, 2, 2, 2, 2] .sq rfl, xk B5 [1, 2, 1, 2, 2, 1, 2, 2, 2, 2, 2, 2, 2, 2, 2, 2] (.cd 102) rfl]
  replace hF := cond_some hF
  rcases hF with ⟨h1, hF⟩ | ⟨h1, hF⟩
  · have hJ := f5_airzraiiz_l13_j1_ok k x100 x101 true h0_ h1_ h1__1 h1__2 h1__3 h2_ h3_ h4_ h5_ h5__1 h5__2 h5__3 h6_ h7_ h8_ h9_ _ hF
    simp (maxSteps := 999999) (disch := first | exact D (by decide) | exact K (by kernel_rfl)) only [E, EE, ↓reduceIte, simprocAttr, xk B5 [2, 1, 2, 1, 2, 2, 1, 2, 2, 2, 2, 2, 2, 2, 2, 2, 2] .sk rfl, h1]
    try simp only [NM, EE] at hJ
    exact hJ
  · cases hF
    simp (maxSteps := 999999) (disch := first | exact D (by decide) | exact K (by kernel_rfl)) only [E, EE, ↓reduceIte, simprocAttr, xk B5 [3, 1, 2, 1, 2, 2, 1, 2, 2, 2, 2, 2, 2, 2, 2, 2, 2] (.ex 1) rfl, R5_airzraiiz_l13.st, h1]
noncomputable def f5_airzraiiz_l13 (k : Nat) : Nat → Int → Int → (List Int) → Int → Int → Int → Int → (List T54) → (List Int) → (List T44) → Int → Int → Int → Int → (List T54) → (List Int) → (List T44) → (List Int) → Option R5_airzraiiz_l13
  | 0, _, _, _, _, _, _, _, _, _, _, _, _, _, _, _, _, _, _ => none
  | n + 1, x100, x101, h0_, h1_, h1__1, h1__2, h1__3, h2_, h3_, h4_, h5_, h5__1, h5__2, h5__3, h6_, h7_, h8_, h9_ => Option.bind (f5_airzraiiz_l13_b k x100 x101 h0_ h1_ h1__1 h1__2 h1__3 h2_ h3_ h4_ h5_ h5__1 h5__2 h5__3 h6_ h7_ h8_ h9_) fun o =>
    match o with
    | .o0 y => some (.o0 y)
    | .o1 y y_1 y_2 y_3 y_4 y_5 y_6 y_7 y_8 y_9 y_10 y_11 y_12 y_13 y_14 y_15 y_16 y_17 => f5_airzraiiz_l13 k n y y_1 y_2 y_3 y_4 y_5 y_6 y_7 y_8 y_9 y_10 y_11 y_12 y_13 y_14 y_15 y_16 y_17
    | .o2 y y_1 y_2 y_3 y_4 y_5 y_6 y_7 y_8 y_9 y_10 y_11 y_12 y_13 y_14 y_15 y_16 y_17 y_18 => some (.o2 y y_1 y_2 y_3 y_4 y_5 y_6 y_7 y_8 y_9 y_10 y_11 y_12 y_13 y_14 y_15 y_16 y_17 y_18)
theorem f5_airzraiiz_l13_ok (k n : Nat) : ∀ (x100 x101 : Int) (h0_ : List Int) (h1_ h1__1 h1__2 h1__3 : Int) (h2_ : List T54) (h3_ : List Int) (h4_ : List T44) (h5_ h5__1 h5__2 h5__3 : Int) (h6_ : List T54) (h7_ : List Int) (h8_ : List T44) (h9_ : List Int) (r : R5_airzraiiz_l13) (hF : f5_airzraiiz_l13 k n x100 x101 h0_ h1_ h1__1 h1__2 h1__3 h2_ h3_ h4_ h5_ h5__1 h5__2 h5__3 h6_ h7_ h8_ h9_ = some r) (σ : St) (hσ : headR (hints.head 5 20) (hints.canon 5 20) σ = some ({ n := 127, F := [(5, V.ptr 30000 0), (7, V.ptr 30001 0), (8, V.ptr 30005 0), (9, V.own 30009), (99, V.own 30007), (100, V.p (Value.int .i64 x100)), (101, V.p (Value.int .i64 x101))], M := [(30000, O.box 58 (arrC (cI .i64) h0_)), (30001, O.box 28 [V.p (Value.int .i64 h1_), V.p (Value.int .i64 h1__1), V.own 30002, V.own 30003, V.p (Value.int .i64 h1__2), V.own 30004, V.p (Value.int .i64 h1__3)]), (30002, O.row false 6 54 (rowsOf encT54 h2_)), (30003, O.row false 1 3 (rowsOf (encI .i64) h3_)), (30004, O.row false 3 44 (rowsOf encT44 h4_)), (30005, O.box 28 [V.p (Value.int .i64 h5_), V.p (Value.int .i64 h5__1), V.own 30006, V.own 30007, V.p (Value.int .i64 h5__2), V.own 30008, V.p (Value.int .i64 h5__3)]), (30006, O.row true 6 54 (rowsOf encT54 h6_)), (30007, O.row true 1 3 (rowsOf (encI .i64) h7_)), (30008, O.row true 3 44 (rowsOf encT44 h8_)), (30009, O.row true 1 3 (rowsOf (encI .i64) h9_))] } : St)), LP 5 k (nav B5 [1, 2, 2, 1, 2, 2, 2, 2, 2, 2, 2, 2, 2, 2]) n σ = some r.st := by
  induction n with
  | zero => intro x100 x101 h0_ h1_ h1__1 h1__2 h1__3 h2_ h3_ h4_ h5_ h5__1 h5__2 h5__3 h6_ h7_ h8_ h9_ r hF; cases hF
  | succ n ih =>
    intro x100 x101 h0_ h1_ h1__1 h1__2 h1__3 h2_ h3_ h4_ h5_ h5__1 h5__2 h5__3 h6_ h7_ h8_ h9_ r hF σ hσ
    rw [f5_airzraiiz_l13] at hF
    obtain ⟨o, h, hF⟩ := Option.bind_eq_some_iff.1 hF
    have hB := f5_airzraiiz_l13_b_ok k x100 x101 h0_ h1_ h1__1 h1__2 h1__3 h2_ h3_ h4_ h5_ h5__1 h5__2 h5__3 h6_ h7_ h8_ h9_ o h
    unfold LP at ih ⊢
    unfold EX at hB
    rw [loopK_succ, show firstReg (nav B5 [1, 2, 2, 1, 2, 2, 2, 2, 2, 2, 2, 2, 2, 2]) = 20 from rfl, hσ, headK_some, hB]
    cases o with
    | o0 y => cases hF; rfl
    | o1 y y_1 y_2 y_3 y_4 y_5 y_6 y_7 y_8 y_9 y_10 y_11 y_12 y_13 y_14 y_15 y_16 y_17 =>
      refine ih y y_1 y_2 y_3 y_4 y_5 y_6 y_7 y_8 y_9 y_10 y_11 y_12 y_13 y_14 y_15 y_16 y_17 r hF _ ?_
      simp (maxSteps := 999999) (disch := first | exact D (by decide) | exact K (by kernel_rfl)) only [E, EE, ↓reduceIte, simprocAttr, hh_5_20, hc_5_20]
    | o2 y y_1 y_2 y_3 y_4 y_5 y_6 y_7 y_8 y_9 y_10 y_11 y_12 y_13 y_14 y_15 y_16 y_17 y_18 => cases hF; rfl
noncomputable def f5_airzraiiz_j14 (k : Nat) (x100 x101 : Int) (x102 : Bool) (h0_ : List Int) (h1_ h1__1 h1__2 h1__3 : Int) (h2_ : List T54) (h3_ : List Int) (h4_ : List T44) (h5_ h5__1 h5__2 h5__3 : Int) (h6_ : List T54) (h7_ : List Int) (h8_ : List T44) (h9_ : List Int) : Option R5_airzraiiz :=
  Option.bind (f17_aiirririzaiirririz k h1_ h1__1 h2_ h3_ h1__2 h4_ h1__3 h5_ h5__1 h6_ h7_ h5__2 h8_ h5__3) fun o1 =>
    match o1 with
    | .o0 v4 =>
      some (R5_airzraiiz.o0 v4)
theorem f5_airzraiiz_j14_ok (k : Nat) (x100 x101 : Int) (x102 : Bool) (h0_ : List Int) (h1_ h1__1 h1__2 h1__3 : Int) (h2_ : List T54) (h3_ : List Int) (h4_ : List T44) (h5_ h5__1 h5__2 h5__3 : Int) (h6_ : List T54) (h7_ : List Int) (h8_ : List T44) (h9_ : List Int) (r : R5_airzraiiz) (hF : f5_airzraiiz_j14 k x100 x101 x102 h0_ h1_ h1__1 h1__2 h1__3 h2_ h3_ h4_ h5_ h5__1 h5__2 h5__3 h6_ h7_ h8_ h9_ = some r) : finK Tryd.prog Tryd.f5 0 (EX 5 k (nav B5 [2, 2, 2, 2, 2, 2, 2, 2, 2, 2, 2]) ({ n := 127, F := [(5, V.ptr 30000 0), (7, V.ptr 30001 0), (8, V.ptr 30005 0), (9, V.own 30009), (99, V.own 30007), (100, V.p (Value.int .i64 x100)), (101, V.p (Value.int .i64 x101)), (102, V.p (Value.bool x102))], M := [(30000, O.box 58 (arrC (cI .i64) h0_)), (30001, O.box 28 [V.p (Value.int .i64 h1_), V.p (Value.int .i64 h1__1), V.own 30002, V.own 30003, V.p (Value.int .i64 h1__2), V.own 30004, V.p (Value.int .i64 h1__3)]), (30002, O.row false 6 54 (rowsOf encT54 h2_)), (30003, O.row false 1 3 (rowsOf (encI .i64) h3_)), (30004, O.row false 3 44 (rowsOf encT44 h4_)), (30005, O.box 28 [V.p (Value.int .i64 h5_), V.p (Value.int .i64 h5__1), V.own 30006, V.own 30007, V.p (Value.int .i64 h5__2), V.own 30008, V.p (Value.int .i64 h5__3)]), (30006, O.row true 6 54 (rowsOf encT54 h6_)), (30007, O.row true 1 3 (rowsOf (encI .i64) h7_)), (30008, O.row true 3 44 (rowsOf encT44 h8_)), (30009, O.row true 1 3 (rowsOf (encI .i64) h9_))] } : St)) = some r.st := by
  unfold f5_airzraiiz_j14 at hF
  replace hF := Option.bind_eq_some_iff.1 hF
  obtain ⟨o1, h2, hF⟩ := hF
  have hc3 := f17_aiirririzaiirririz_ok k h1_ h1__1 h2_ h3_ h1__2 h4_ h1__3 h5_ h5__1 h6_ h7_ h5__2 h8_ h5__3 _ h2
  cases o1 with
  | o0 v4 =>
    (try dsimp only at hF)
    (try simp only [NM, EE, R17_aiirririzaiirririz.st] at hc3)
    cases hF
    simp (maxSteps := 999999) (disch := first | exact D (by decide) | exact K (by kernel_rfl)) only [E, EE, ↓reduceIte, simprocAttr, xk B5 [2, 2, 2, 2, 2, 2, 2, 2, 2, 2, 2] .sq rfl, show (nav B5 [1, 2, 2, 2, 2, 2, 2, 2, 2, 2, 2, 2]) = Code.region 28 _ false from rfl, hk_5_28, hz_5_28, hs_5_28, u_28, i_28, is_28, ib_28, iz_28, callStep, CL, gv, List.contains, xk B5 [2, 2, 2, 2, 2, 2, 2, 2, 2, 2, 2, 2] .rt rfl, finK_norm, finK_ret, fin5, R5_airzraiiz.st, hc3]
noncomputable def f5_airzraiiz_j12 (k : Nat) (x97 : Bool) (m5 : List Int) (m7 m7_1 m7_2 m7_3 : Int) (m19 : List T54) (m19_1_ : List Int) (m19_2_ : List T44) (m8 m8_1 m8_2 m8_3 : Int) (m21 : List T54) (m21_1_ : List Int) (m21_2_ : List T44) (m31 : List Int) : Option R5_airzraiiz :=
  Option.bind (f5_airzraiiz_l13 k k ((List.length m21_1_) : Int) 0 m5 m7 m7_1 m7_2 m7_3 m19 m19_1_ m19_2_ m8 m8_1 m8_2 m8_3 m21 m21_1_ m21_2_ m31) fun o1 =>
    match o1 with
    | .o0 v4 =>
      some (R5_airzraiiz.o0 v4)
    | .o1 _ _ _ _ _ _ _ _ _ _ _ _ _ _ _ _ _ _ =>
      none
    | .o2 v5 v6 v7 v8 v9 v10 v11 v12 v13 v14 v15 v16 v17 v18 v19 v20 v21 v22 v23 =>
      f5_airzraiiz_j14 k v5 v6 v7 v8 v9 v10 v11 v12 v13 v14 v15 v16 v17 v18 v19 v20 v21 v22 v23
theorem f5_airzraiiz_j12_ok (k : Nat) (x97 : Bool) (m5 : List Int) (m7 m7_1 m7_2 m7_3 : Int) (m19 : List T54) (m19_1_ : List Int) (m19_2_ : List T44) (m8 m8_1 m8_2 m8_3 : Int) (m21 : List T54) (m21_1_ : List Int) (m21_2_ : List T44) (m31 : List Int) (r : R5_airzraiiz) (hF : f5_airzraiiz_j12 k x97 m5 m7 m7_1 m7_2 m7_3 m19 m19_1_ m19_2_ m8 m8_1 m8_2 m8_3 m21 m21_1_ m21_2_ m31 = some r) : finK Tryd.prog Tryd.f5 0 (EX 5 k (nav B5 [2, 2, 2, 2, 2, 2, 2, 2, 2, 2]) ({ n := 127, F := [(5, V.ptr 5 0), (7, V.ptr 7 0), (8, V.ptr 8 0), (9, V.own 31), (97, V.p (Value.bool x97))], M := [(5, O.box 58 (arrC (cI .i64) m5)), (7, O.box 28 [V.p (Value.int .i64 m7), V.p (Value.int .i64 m7_1), V.own 19, V.own 10019, V.p (Value.int .i64 m7_2), V.own 20019, V.p (Value.int .i64 m7_3)]), (19, O.row false 6 54 (rowsOf encT54 m19)), (10019, O.row false 1 3 (rowsOf (encI .i64) m19_1_)), (20019, O.row false 3 44 (rowsOf encT44 m19_2_)), (8, O.box 28 [V.p (Value.int .i64 m8), V.p (Value.int .i64 m8_1), V.own 21, V.own 10021, V.p (Value.int .i64 m8_2), V.own 20021, V.p (Value.int .i64 m8_3)]), (21, O.row true 6 54 (rowsOf encT54 m21)), (10021, O.row true 1 3 (rowsOf (encI .i64) m21_1_)), (20021, O.row true 3 44 (rowsOf encT44 m21_2_)), (31, O.row true 1 3 (rowsOf (encI .i64) m31))] } : St)) = some r.st := by
  unfold f5_airzraiiz_j12 at hF
  replace hF := Option.bind_eq_some_iff.1 hF
  obtain ⟨o1, h2, hF⟩ := hF
  have hc3 := f5_airzraiiz_l13_ok k k ((List.length m21_1_) : Int) 0 m5 m7 m7_1 m7_2 m7_3 m19 m19_1_ m19_2_ m8 m8_1 m8_2 m8_3 m21 m21_1_ m21_2_ m31 _ h2
  simp (maxSteps := 999999) (disch := first | exact D (by decide) | exact K (by kernel_rfl)) only [E, EE, ↓reduceIte, simprocAttr, xk B5 [2, 2, 2, 2, 2, 2, 2, 2, 2, 2] .sq rfl, xk B5 [1, 2, 2, 2, 2, 2, 2, 2, 2, 2, 2] .sq rfl, show (nav B5 [1, 1, 2, 2, 2, 2, 2, 2, 2, 2, 2, 2]) = Code.region 19 _ false from rfl, hk_5_19, hz_5_19, hs_5_19, fieldAddrV, u_28, i_28, is_28, ib_28, iz_28, u_25, i_25, is_25, ib_25, iz_25, xk B5 [2, 1, 2, 2, 2, 2, 2, 2, 2, 2, 2, 2] (.bk 1) rfl, xk B5 [2, 2, 1, 2, 2, 2, 2, 2, 2, 2, 2, 2, 2] .lp rfl, hh_5_20, hc_5_20]
  (try simp only [NM, EE] at hc3)
  rw [hc3 _ (by simp (maxSteps := 999999) (disch := first | exact D (by decide) | exact K (by kernel_rfl)) only [E, EE, ↓reduceIte, simprocAttr, hh_5_20, hc_5_20])]
  clear hc3
  cases o1 with
  | o0 v4 =>
    (try dsimp only at hF)
    cases hF
    simp (maxSteps := 999999) (disch := first | exact D (by decide) | exact K (by kernel_rfl)) only [E, EE, ↓reduceIte, simprocAttr, R5_airzraiiz_l13.st, finK_norm, finK_ret, fin5, R5_airzraiiz.st]
  | o1 _ _ _ _ _ _ _ _ _ _ _ _ _ _ _ _ _ _ =>
    (try dsimp only at hF)
    cases hF
  | o2 v5 v6 v7 v8 v9 v10 v11 v12 v13 v14 v15 v16 v17 v18 v19 v20 v21 v22 v23 =>
    (try dsimp only at hF)
    have hJ := f5_airzraiiz_j14_ok k v5 v6 v7 v8 v9 v10 v11 v12 v13 v14 v15 v16 v17 v18 v19 v20 v21 v22 v23 _ hF
    simp (maxSteps := 999999) (disch := first | exact D (by decide) | exact K (by kernel_rfl)) only [E, EE, ↓reduceIte, simprocAttr, R5_airzraiiz_l13.st]
    try simp only [NM, EE] at hJ
    exact hJ
noncomputable def f5_airzraiiz_j11 (k : Nat) (x10 x11 : Int) (x79 : Bool) (m5 : List Int) (m7 m7_1 m7_2 m7_3 : Int) (m19 : List T54) (m19_1_ : List Int) (m19_2_ : List T44) (m8 m8_1 m8_2 m8_3 : Int) (m21 : List T54) (m21_1_ : List Int) (m21_2_ : List T44) (m31 : List Int) : Option R5_airzraiiz :=
  cond ((x10 != 0))
    (some (R5_airzraiiz.o0 false))
    (
      cond ((((List.length m31) : Int) != ((List.length m21_1_) : Int)))
        (some (R5_airzraiiz.o0 false))
        (f5_airzraiiz_j12 k false m5 m7 m7_1 m7_2 m7_3 m19 m19_1_ m19_2_ m8 m8_1 m8_2 m8_3 m21 m21_1_ m21_2_ m31))
theorem f5_airzraiiz_j11_ok (k : Nat) (x10 x11 : Int) (x79 : Bool) (m5 : List Int) (m7 m7_1 m7_2 m7_3 : Int) (m19 : List T54) (m19_1_ : List Int) (m19_2_ : List T44) (m8 m8_1 m8_2 m8_3 : Int) (m21 : List T54) (m21_1_ : List Int) (m21_2_ : List T44) (m31 : List Int) (r : R5_airzraiiz) (hF : f5_airzraiiz_j11 k x10 x11 x79 m5 m7 m7_1 m7_2 m7_3 m19 m19_1_ m19_2_ m8 m8_1 m8_2 m8_3 m21 m21_1_ m21_2_ m31 = some r) : finK Tryd.prog Tryd.f5 0 (EX 5 k (nav B5 [2, 2, 2, 2, 2, 2, 2, 2, 2]) ({ n := 127, F := [(5, V.ptr 5 0), (7, V.ptr 7 0), (8, V.ptr 8 0), (9, V.own 31), (10, V.p (Value.int .i64 x10)), (11, V.p (Value.int .i64 x11)), (79, V.p (Value.bool x79))], M := [(5, O.box 58 (arrC (cI .i64) m5)), (7, O.box 28 [V.p (Value.int .i64 m7), V.p (Value.int .i64 m7_1), V.own 19, V.own 10019, V.p (Value.int .i64 m7_2), V.own 20019, V.p (Value.int .i64 m7_3)]), (19, O.row false 6 54 (rowsOf encT54 m19)), (10019, O.row false 1 3 (rowsOf (encI .i64) m19_1_)), (20019, O.row false 3 44 (rowsOf encT44 m19_2_)), (8, O.box 28 [V.p (Value.int .i64 m8), V.p (Value.int .i64 m8_1), V.own 21, V.own 10021, V.p (Value.int .i64 m8_2), V.own 20021, V.p (Value.int .i64 m8_3)]), (21, O.row true 6 54 (rowsOf encT54 m21)), (10021, O.row true 1 3 (rowsOf (encI .i64) m21_1_)), (20021, O.row true 3 44 (rowsOf encT44 m21_2_)), (31, O.row true 1 3 (rowsOf (encI .i64) m31))] } : St)) = some r.st := by
  unfold f5_airzraiiz_j11 at hF
  simp (maxSteps := 999999) (disch := first | exact D (by decide) | exact K (by kernel_rfl)) only [E, EE, ↓reduceIte, simprocAttr, xk B5 [2, 2, 2, 2, 2, 2, 2, 2, 2] .sq rfl, xk B5 [1, 2, 2, 2, 2, 2, 2, 2, 2, 2] .sq rfl, show (nav B5 [1, 1, 2, 2, 2, 2, 2, 2, 2, 2, 2]) = Code.region 17 _ false from rfl, hk_5_17, hz_5_17, hs_5_17]
  replace hF := cond_some hF
  rcases hF with ⟨h1, hF⟩ | ⟨h1, hF⟩
  · cases hF
    simp (maxSteps := 999999) (disch := first | exact D (by decide) | exact K (by kernel_rfl)) only [E, EE, ↓reduceIte, simprocAttr, xk B5 [2, 1, 2, 2, 2, 2, 2, 2, 2, 2, 2] (.cd 97) rfl, xk B5 [2, 2, 1, 2, 2, 2, 2, 2, 2, 2, 2, 2] .sq rfl, show (nav B5 [1, 2, 2, 1, 2, 2, 2, 2, 2, 2, 2, 2, 2]) = Code.region 18 _ false from rfl, hk_5_18, hz_5_18, hs_5_18, xk B5 [2, 2, 2, 1, 2, 2, 2, 2, 2, 2, 2, 2, 2] .rt rfl, finK_norm, finK_ret, fin5, R5_airzraiiz.st, h1]
  · simp (maxSteps := 999999) (disch := first | exact D (by decide) | exact K (by kernel_rfl)) only [E, EE, ↓reduceIte, simprocAttr, u_25, i_25, is_25, ib_25, iz_25, fieldAddrV, u_28, i_28, is_28, ib_28, iz_28, xk B5 [2, 1, 2, 2, 2, 2, 2, 2, 2, 2, 2] (.cd 97) rfl, h1]
    replace hF := cond_some hF
    rcases hF with ⟨h2, hF⟩ | ⟨h2, hF⟩
    · cases hF
      simp (maxSteps := 999999) (disch := first | exact D (by decide) | exact K (by kernel_rfl)) only [E, EE, ↓reduceIte, simprocAttr, xk B5 [2, 2, 1, 2, 2, 2, 2, 2, 2, 2, 2, 2] .sq rfl, show (nav B5 [1, 2, 2, 1, 2, 2, 2, 2, 2, 2, 2, 2, 2]) = Code.region 18 _ false from rfl, hk_5_18, hz_5_18, hs_5_18, xk B5 [2, 2, 2, 1, 2, 2, 2, 2, 2, 2, 2, 2, 2] .rt rfl, finK_norm, finK_ret, fin5, R5_airzraiiz.st, h1, h2]
    · have hJ := f5_airzraiiz_j12_ok k false m5 m7 m7_1 m7_2 m7_3 m19 m19_1_ m19_2_ m8 m8_1 m8_2 m8_3 m21 m21_1_ m21_2_ m31 _ hF
      simp (maxSteps := 999999) (disch := first | exact D (by decide) | exact K (by kernel_rfl)) only [E, EE, ↓reduceIte, simprocAttr, xk B5 [3, 2, 1, 2, 2, 2, 2, 2, 2, 2, 2, 2] .sk rfl, h1, h2]
      try simp only [NM, EE] at hJ
      exact hJ
noncomputable def f5_airzraiiz_j10 (k : Nat) (x10 x11 : Int) (m5 : List Int) (m7 m7_1 m7_2 m7_3 : Int) (m19 : List T54) (m19_1_ : List Int) (m19_2_ : List T44) (m8 m8_1 m8_2 m8_3 : Int) (m21 : List T54) (m21_1_ : List Int) (m21_2_ : List T44) (m31 : List Int) : Option R5_airzraiiz :=
  cond ((x11 != 0))
    (
      cond ((x10 == x11))
        (some (R5_airzraiiz.o0 (((List.length m31) : Int) == 0)))
        (some (R5_airzraiiz.o0 false)))
    (f5_airzraiiz_j11 k x10 x11 false m5 m7 m7_1 m7_2 m7_3 m19 m19_1_ m19_2_ m8 m8_1 m8_2 m8_3 m21 m21_1_ m21_2_ m31)
theorem f5_airzraiiz_j10_ok (k : Nat) (x10 x11 : Int) (m5 : List Int) (m7 m7_1 m7_2 m7_3 : Int) (m19 : List T54) (m19_1_ : List Int) (m19_2_ : List T44) (m8 m8_1 m8_2 m8_3 : Int) (m21 : List T54) (m21_1_ : List Int) (m21_2_ : List T44) (m31 : List Int) (r : R5_airzraiiz) (hF : f5_airzraiiz_j10 k x10 x11 m5 m7 m7_1 m7_2 m7_3 m19 m19_1_ m19_2_ m8 m8_1 m8_2 m8_3 m21 m21_1_ m21_2_ m31 = some r) : finK Tryd.prog Tryd.f5 0 (EX 5 k (nav B5 [2, 2, 2, 2, 2, 2, 2, 2]) ({ n := 127, F := [(5, V.ptr 5 0), (7, V.ptr 7 0), (8, V.ptr 8 0), (9, V.own 31), (10, V.p (Value.int .i64 x10)), (11, V.p (Value.int .i64 x11))], M := [(5, O.box 58 (arrC (cI .i64) m5)), (7, O.box 28 [V.p (Value.int .i64 m7), V.p (Value.int .i64 m7_1), V.own 19, V.own 10019, V.p (Value.int .i64 m7_2), V.own 20019, V.p (Value.int .i64 m7_3)]), (19, O.row false 6 54 (rowsOf encT54 m19)), (10019, O.row false 1 3 (rowsOf (encI .i64) m19_1_)), (20019, O.row false 3 44 (rowsOf encT44 m19_2_)), (8, O.box 28 [V.p (Value.int .i64 m8), V.p (Value.int .i64 m8_1), V.own 21, V.own 10021, V.p (Value.int .i64 m8_2), V.own 20021, V.p (Value.int .i64 m8_3)]), (21, O.row true 6 54 (rowsOf encT54 m21)), (10021, O.row true 1 3 (rowsOf (encI .i64) m21_1_)), (20021, O.row true 3 44 (rowsOf encT44 m21_2_)), (31, O.row true 1 3 (rowsOf (encI .i64) m31))] } : St)) = some r.st := by
  unfold f5_airzraiiz_j10 at hF
  simp (maxSteps := 999999) (disch := first | exact D (by decide) | exact K (by kernel_rfl)) only [E, EE, ↓reduceIte, simprocAttr, xk B5 [2, 2, 2, 2, 2, 2, 2, 2] .sq rfl, xk B5 [1, 2, 2, 2, 2, 2, 2, 2, 2] .sq rfl, show (nav B5 [1, 1, 2, 2, 2, 2, 2, 2, 2, 2]) = Code.region 15 _ false from rfl, hk_5_15, hz_5_15, hs_5_15, xk B5 [2, 1, 2, 2, 2, 2, 2, 2, 2, 2] (.cd 79) rfl]
  replace hF := cond_some hF
  rcases hF with ⟨h1, hF⟩ | ⟨h1, hF⟩
  · simp (maxSteps := 999999) (disch := first | exact D (by decide) | exact K (by kernel_rfl)) only [E, EE, ↓reduceIte, simprocAttr, xk B5 [2, 2, 1, 2, 2, 2, 2, 2, 2, 2, 2] .sq rfl, show (nav B5 [1, 2, 2, 1, 2, 2, 2, 2, 2, 2, 2, 2]) = Code.region 16 _ false from rfl, hk_5_16, hz_5_16, hs_5_16, h1]
    replace hF := cond_some hF
    rcases hF with ⟨h2, hF⟩ | ⟨h2, hF⟩
    · cases hF
      simp (maxSteps := 999999) (disch := first | exact D (by decide) | exact K (by kernel_rfl)) only [E, EE, ↓reduceIte, simprocAttr, u_25, i_25, is_25, ib_25, iz_25, xk B5 [2, 2, 2, 1, 2, 2, 2, 2, 2, 2, 2, 2] .rt rfl, finK_norm, finK_ret, fin5, R5_airzraiiz.st, h1, h2]
    · cases hF
      simp (maxSteps := 999999) (disch := first | exact D (by decide) | exact K (by kernel_rfl)) only [E, EE, ↓reduceIte, simprocAttr, xk B5 [2, 2, 2, 1, 2, 2, 2, 2, 2, 2, 2, 2] .rt rfl, finK_norm, finK_ret, fin5, R5_airzraiiz.st, h1, h2]
  · have hJ := f5_airzraiiz_j11_ok k x10 x11 false m5 m7 m7_1 m7_2 m7_3 m19 m19_1_ m19_2_ m8 m8_1 m8_2 m8_3 m21 m21_1_ m21_2_ m31 _ hF
    simp (maxSteps := 999999) (disch := first | exact D (by decide) | exact K (by kernel_rfl)) only [E, EE, ↓reduceIte, simprocAttr, xk B5 [3, 2, 1, 2, 2, 2, 2, 2, 2, 2, 2] .sk rfl, h1]
    try simp only [NM, EE] at hJ
    exact hJ
noncomputable def f5_airzraiiz_j15 (k : Nat) (x10 x11 : Int) (x68 : Bool) (m5 : List Int) (m7 m7_1 m7_2 m7_3 : Int) (m19 : List T54) (m19_1_ : List Int) (m19_2_ : List T44) (m8 m8_1 m8_2 m8_3 : Int) (m21 : List T54) (m21_1_ : List Int) (m21_2_ : List T44) (m31 : List Int) : Option R5_airzraiiz :=
  cond ((x11 != 0))
    (
      cond ((x10 == x11))
        (some (R5_airzraiiz.o0 (((List.length m31) : Int) == 0)))
        (some (R5_airzraiiz.o0 false)))
    (f5_airzraiiz_j11 k x10 x11 false m5 m7 m7_1 m7_2 m7_3 m19 m19_1_ m19_2_ m8 m8_1 m8_2 m8_3 m21 m21_1_ m21_2_ m31)
theorem f5_airzraiiz_j15_ok (k : Nat) (x10 x11 : Int) (x68 : Bool) (m5 : List Int) (m7 m7_1 m7_2 m7_3 : Int) (m19 : List T54) (m19_1_ : List Int) (m19_2_ : List T44) (m8 m8_1 m8_2 m8_3 : Int) (m21 : List T54) (m21_1_ : List Int) (m21_2_ : List T44) (m31 : List Int) (r : R5_airzraiiz) (hF : f5_airzraiiz_j15 k x10 x11 x68 m5 m7 m7_1 m7_2 m7_3 m19 m19_1_ m19_2_ m8 m8_1 m8_2 m8_3 m21 m21_1_ m21_2_ m31 = some r) : finK Tryd.prog Tryd.f5 0 (EX 5 k (nav B5 [2, 2, 2, 2, 2, 2, 2, 2]) ({ n := 127, F := [(5, V.ptr 5 0), (7, V.ptr 7 0), (8, V.ptr 8 0), (9, V.own 31), (10, V.p (Value.int .i64 x10)), (11, V.p (Value.int .i64 x11)), (68, V.p (Value.bool x68))], M := [(5, O.box 58 (arrC (cI .i64) m5)), (7, O.box 28 [V.p (Value.int .i64 m7), V.p (Value.int .i64 m7_1), V.own 19, V.own 10019, V.p (Value.int .i64 m7_2), V.own 20019, V.p (Value.int .i64 m7_3)]), (19, O.row false 6 54 (rowsOf encT54 m19)), (10019, O.row false 1 3 (rowsOf (encI .i64) m19_1_)), (20019, O.row false 3 44 (rowsOf encT44 m19_2_)), (8, O.box 28 [V.p (Value.int .i64 m8), V.p (Value.int .i64 m8_1), V.own 21, V.own 10021, V.p (Value.int .i64 m8_2), V.own 20021, V.p (Value.int .i64 m8_3)]), (21, O.row true 6 54 (rowsOf encT54 m21)), (10021, O.row true 1 3 (rowsOf (encI .i64) m21_1_)), (20021, O.row true 3 44 (rowsOf encT44 m21_2_)), (31, O.row true 1 3 (rowsOf (encI .i64) m31))] } : St)) = some r.st := by
  unfold f5_airzraiiz_j15 at hF
  simp (maxSteps := 999999) (disch := first | exact D (by decide) | exact K (by kernel_rfl)) only [E, EE, ↓reduceIte, simprocAttr, xk B5 [2, 2, 2, 2, 2, 2, 2, 2] .sq rfl, xk B5 [1, 2, 2, 2, 2, 2, 2, 2, 2] .sq rfl, show (nav B5 [1, 1, 2, 2, 2, 2, 2, 2, 2, 2]) = Code.region 15 _ false from rfl, hk_5_15, hz_5_15, hs_5_15, xk B5 [2, 1, 2, 2, 2, 2, 2, 2, 2, 2] (.cd 79) rfl]
  replace hF := cond_some hF
  rcases hF with ⟨h1, hF⟩ | ⟨h1, hF⟩
  · simp (maxSteps := 999999) (disch := first | exact D (by decide) | exact K (by kernel_rfl)) only [E, EE, ↓reduceIte, simprocAttr, xk B5 [2, 2, 1, 2, 2, 2, 2, 2, 2, 2, 2] .sq rfl, show (nav B5 [1, 2, 2, 1, 2, 2, 2, 2, 2, 2, 2, 2]) = Code.region 16 _ false from rfl, hk_5_16, hz_5_16, hs_5_16, h1]
    replace hF := cond_some hF
    rcases hF with ⟨h2, hF⟩ | ⟨h2, hF⟩
    · cases hF
      simp (maxSteps := 999999) (disch := first | exact D (by decide) | exact K (by kernel_rfl)) only [E, EE, ↓reduceIte, simprocAttr, u_25, i_25, is_25, ib_25, iz_25, xk B5 [2, 2, 2, 1, 2, 2, 2, 2, 2, 2, 2, 2] .rt rfl, finK_norm, finK_ret, fin5, R5_airzraiiz.st, h1, h2]
    · cases hF
      simp (maxSteps := 999999) (disch := first | exact D (by decide) | exact K (by kernel_rfl)) only [E, EE, ↓reduceIte, simprocAttr, xk B5 [2, 2, 2, 1, 2, 2, 2, 2, 2, 2, 2, 2] .rt rfl, finK_norm, finK_ret, fin5, R5_airzraiiz.st, h1, h2]
  · have hJ := f5_airzraiiz_j11_ok k x10 x11 false m5 m7 m7_1 m7_2 m7_3 m19 m19_1_ m19_2_ m8 m8_1 m8_2 m8_3 m21 m21_1_ m21_2_ m31 _ hF
    simp (maxSteps := 999999) (disch := first | exact D (by decide) | exact K (by kernel_rfl)) only [E, EE, ↓reduceIte, simprocAttr, xk B5 [3, 2, 1, 2, 2, 2, 2, 2, 2, 2, 2] .sk rfl, h1]
    try simp only [NM, EE] at hJ
    exact hJ
noncomputable def f5_airzraiiz_j9 (k : Nat) (x10 : Int) (x37 : Bool) (m5 : List Int) (m7 m7_1 m7_2 m7_3 : Int) (m19 : List T54) (m19_1_ : List Int) (m19_2_ : List T44) (m8 m8_1 m8_2 m8_3 : Int) (m21 : List T54) (m21_1_ : List Int) (m21_2_ : List T44) (m31 : List Int) : Option R5_airzraiiz :=
  Option.bind (f18_airz k m8_1 m21) fun o1 =>
    match o1 with
    | .o0 v4 =>
      cond ((!v4))
        (f5_airzraiiz_j10 k x10 230 m5 m7 m7_1 m7_2 m7_3 m19 m19_1_ m19_2_ m8 m8_1 m8_2 m8_3 m21 m21_1_ m21_2_ m31)
        (
          Option.bind (f19_airzr k m8_1 m21 m21_1_) fun o6 =>
            match o6 with
            | .o0 v9 =>
              cond ((!v9))
                (f5_airzraiiz_j10 k x10 2 m5 m7 m7_1 m7_2 m7_3 m19 m19_1_ m19_2_ m8 m8_1 m8_2 m8_3 m21 m21_1_ m21_2_ m31)
                (
                  Option.bind (List.head? m5) fun v11 =>
                    cond ((decide (v11 < 0)))
                      (f5_airzraiiz_j10 k x10 2 m5 m7 m7_1 m7_2 m7_3 m19 m19_1_ m19_2_ m8 m8_1 m8_2 m8_3 m21 m21_1_ m21_2_ m31)
                      (
                        cond ((decide (v11 ≥ ((List.length m21_1_) : Int))))
                          (f5_airzraiiz_j10 k x10 2 m5 m7 m7_1 m7_2 m7_3 m19 m19_1_ m19_2_ m8 m8_1 m8_2 m8_3 m21 m21_1_ m21_2_ m31)
                          (
                            Option.bind (List.head? (List.drop 1 m5)) fun v15 =>
                              cond ((decide (v15 < 0)))
                                (f5_airzraiiz_j10 k x10 2 m5 m7 m7_1 m7_2 m7_3 m19 m19_1_ m19_2_ m8 m8_1 m8_2 m8_3 m21 m21_1_ m21_2_ m31)
                                (
                                  ifE ((0 : Int) ≤ v11) (
                                    ifE (v11 < ((List.length m21_1_) : Int)) (
                                      Option.bind (m21_1_[(Int.toNat v11)]?) fun v20 =>
                                        cond ((decide (v15 > v20)))
                                          (f5_airzraiiz_j10 k x10 6 m5 m7 m7_1 m7_2 m7_3 m19 m19_1_ m19_2_ m8 m8_1 m8_2 m8_3 m21 m21_1_ m21_2_ m31)
                                          (f5_airzraiiz_j15 k x10 0 false m5 m7 m7_1 m7_2 m7_3 m19 m19_1_ m19_2_ m8 m8_1 m8_2 m8_3 m21 m21_1_ m21_2_ m31))))))))
theorem f5_airzraiiz_j9_ok (k : Nat) (x10 : Int) (x37 : Bool) (m5 : List Int) (m7 m7_1 m7_2 m7_3 : Int) (m19 : List T54) (m19_1_ : List Int) (m19_2_ : List T44) (m8 m8_1 m8_2 m8_3 : Int) (m21 : List T54) (m21_1_ : List Int) (m21_2_ : List T44) (m31 : List Int) (r : R5_airzraiiz) (hF : f5_airzraiiz_j9 k x10 x37 m5 m7 m7_1 m7_2 m7_3 m19 m19_1_ m19_2_ m8 m8_1 m8_2 m8_3 m21 m21_1_ m21_2_ m31 = some r) : finK Tryd.prog Tryd.f5 0 (EX 5 k (nav B5 [2, 2, 2, 2, 2, 2]) ({ n := 127, F := [(5, V.ptr 5 0), (7, V.ptr 7 0), (8, V.ptr 8 0), (9, V.own 31), (10, V.p (Value.int .i64 x10)), (37, V.p (Value.bool x37))], M := [(5, O.box 58 (arrC (cI .i64) m5)), (7, O.box 28 [V.p (Value.int .i64 m7), V.p (Value.int .i64 m7_1), V.own 19, V.own 10019, V.p (Value.int .i64 m7_2), V.own 20019, V.p (Value.int .i64 m7_3)]), (19, O.row false 6 54 (rowsOf encT54 m19)), (10019, O.row false 1 3 (rowsOf (encI .i64) m19_1_)), (20019, O.row false 3 44 (rowsOf encT44 m19_2_)), (8, O.box 28 [V.p (Value.int .i64 m8), V.p (Value.int .i64 m8_1), V.own 21, V.own 10021, V.p (Value.int .i64 m8_2), V.own 20021, V.p (Value.int .i64 m8_3)]), (21, O.row true 6 54 (rowsOf encT54 m21)), (10021, O.row true 1 3 (rowsOf (encI .i64) m21_1_)), (20021, O.row true 3 44 (rowsOf encT44 m21_2_)), (31, O.row true 1 3 (rowsOf (encI .i64) m31))] } : St)) = some r.st := by
  unfold f5_airzraiiz_j9 at hF
  replace hF := Option.bind_eq_some_iff.1 hF
  obtain ⟨o1, h2, hF⟩ := hF
  have hc3 := f18_airz_ok k m8_1 m21 _ h2
  cases o1 with
  | o0 v4 =>
    (try dsimp only at hF)
    (try simp only [NM, EE, R18_airz.st] at hc3)
    simp (maxSteps := 999999) (disch := first | exact D (by decide) | exact K (by kernel_rfl)) only [E, EE, ↓reduceIte, simprocAttr, xk B5 [2, 2, 2, 2, 2, 2] .sq rfl, show (nav B5 [1, 2, 2, 2, 2, 2, 2]) = Code.region 8 _ false from rfl, hk_5_8, hz_5_8, hs_5_8, xk B5 [2, 2, 2, 2, 2, 2, 2] .sq rfl, xk B5 [1, 2, 2, 2, 2, 2, 2, 2] (.bk 0) rfl, xk B5 [2, 1, 2, 2, 2, 2, 2, 2, 2] .sq rfl, show (nav B5 [1, 2, 1, 2, 2, 2, 2, 2, 2, 2]) = Code.region 9 _ false from rfl, hk_5_9, hz_5_9, hs_5_9, fieldAddrV, u_28, i_28, is_28, ib_28, iz_28, u_24, i_24, is_24, ib_24, iz_24, callStep, CL, gv, List.contains, xk B5 [2, 2, 1, 2, 2, 2, 2, 2, 2, 2] (.cd 38) rfl, hc3]
    replace hF := cond_some hF
    rcases hF with ⟨h5, hF⟩ | ⟨h5, hF⟩
    · have hJ := f5_airzraiiz_j10_ok k x10 230 m5 m7 m7_1 m7_2 m7_3 m19 m19_1_ m19_2_ m8 m8_1 m8_2 m8_3 m21 m21_1_ m21_2_ m31 _ hF
      simp (maxSteps := 999999) (disch := first | exact D (by decide) | exact K (by kernel_rfl)) only [E, EE, ↓reduceIte, simprocAttr, show (nav B5 [2, 2, 2, 1, 2, 2, 2, 2, 2, 2, 2]) = Code.region 10 _ false from rfl, hk_5_10, hz_5_10, hs_5_10, hc3, h5]
      try simp only [NM, EE] at hJ
      exact hJ
    · replace hF := Option.bind_eq_some_iff.1 hF
      obtain ⟨o6, h7, hF⟩ := hF
      have hc8 := f19_airzr_ok k m8_1 m21 m21_1_ _ h7
      cases o6 with
      | o0 v9 =>
        (try dsimp only at hF)
        (try simp only [NM, EE, R19_airzr.st] at hc8)
        simp (maxSteps := 999999) (disch := first | exact D (by decide) | exact K (by kernel_rfl)) only [E, EE, ↓reduceIte, simprocAttr, xk B5 [3, 2, 2, 1, 2, 2, 2, 2, 2, 2, 2] .sq rfl, show (nav B5 [1, 3, 2, 2, 1, 2, 2, 2, 2, 2, 2, 2]) = Code.region 11 _ false from rfl, hk_5_11, hz_5_11, hs_5_11, fieldAddrV, u_28, i_28, is_28, ib_28, iz_28, u_24, i_24, is_24, ib_24, iz_24, u_25, i_25, is_25, ib_25, iz_25, callStep, CL, gv, List.contains, hc3, h5, hc8]
        replace hF := cond_some hF
        rcases hF with ⟨h10, hF⟩ | ⟨h10, hF⟩
        · have hJ := f5_airzraiiz_j10_ok k x10 2 m5 m7 m7_1 m7_2 m7_3 m19 m19_1_ m19_2_ m8 m8_1 m8_2 m8_3 m21 m21_1_ m21_2_ m31 _ hF
          simp (maxSteps := 999999) (disch := first | exact D (by decide) | exact K (by kernel_rfl)) only [E, EE, ↓reduceIte, simprocAttr, xk B5 [2, 3, 2, 2, 1, 2, 2, 2, 2, 2, 2, 2] (.cd 43) rfl, show (nav B5 [2, 2, 3, 2, 2, 1, 2, 2, 2, 2, 2, 2, 2]) = Code.region 12 _ false from rfl, hk_5_12, hz_5_12, hs_5_12, hc3, h5, hc8, h10]
          try simp only [NM, EE] at hJ
          exact hJ
        · replace hF := Option.bind_eq_some_iff.1 hF
          obtain ⟨v11, h12, hF⟩ := hF
          simp (maxSteps := 999999) (disch := first | exact D (by decide) | exact K (by kernel_rfl)) only [E, EE, ↓reduceIte, simprocAttr, indexAddrV, u_58, i_58, is_58, ib_58, iz_58, u_3, i_3, is_3, ib_3, iz_3, hc3, h5, hc8, h10, h12]
          replace hF := cond_some hF
          rcases hF with ⟨h13, hF⟩ | ⟨h13, hF⟩
          · have hJ := f5_airzraiiz_j10_ok k x10 2 m5 m7 m7_1 m7_2 m7_3 m19 m19_1_ m19_2_ m8 m8_1 m8_2 m8_3 m21 m21_1_ m21_2_ m31 _ hF
            simp (maxSteps := 999999) (disch := first | exact D (by decide) | exact K (by kernel_rfl)) only [E, EE, ↓reduceIte, simprocAttr, xk B5 [2, 3, 2, 2, 1, 2, 2, 2, 2, 2, 2, 2] (.cd 43) rfl, show (nav B5 [2, 2, 3, 2, 2, 1, 2, 2, 2, 2, 2, 2, 2]) = Code.region 12 _ false from rfl, hk_5_12, hz_5_12, hs_5_12, hc3, h5, hc8, h10, h12, h13]
            try simp only [NM, EE] at hJ
            exact hJ
          · simp (maxSteps := 999999) (disch := first | exact D (by decide) | exact K (by kernel_rfl)) only [E, EE, ↓reduceIte, simprocAttr, indexAddrV, u_58, i_58, is_58, ib_58, iz_58, u_3, i_3, is_3, ib_3, iz_3, fieldAddrV, u_28, i_28, is_28, ib_28, iz_28, u_25, i_25, is_25, ib_25, iz_25, hc3, h5, hc8, h10, h12, h13]
            replace hF := cond_some hF
            rcases hF with ⟨h14, hF⟩ | ⟨h14, hF⟩
            · have hJ := f5_airzraiiz_j10_ok k x10 2 m5 m7 m7_1 m7_2 m7_3 m19 m19_1_ m19_2_ m8 m8_1 m8_2 m8_3 m21 m21_1_ m21_2_ m31 _ hF
              simp (maxSteps := 999999) (disch := first | exact D (by decide) | exact K (by kernel_rfl)) only [E, EE, ↓reduceIte, simprocAttr, xk B5 [2, 3, 2, 2, 1, 2, 2, 2, 2, 2, 2, 2] (.cd 43) rfl, show (nav B5 [2, 2, 3, 2, 2, 1, 2, 2, 2, 2, 2, 2, 2]) = Code.region 12 _ false from rfl, hk_5_12, hz_5_12, hs_5_12, hc3, h5, hc8, h10, h12, h13, h14]
              try simp only [NM, EE] at hJ
              exact hJ
            · replace hF := Option.bind_eq_some_iff.1 hF
              obtain ⟨v15, h16, hF⟩ := hF
              simp (maxSteps := 999999) (disch := first | exact D (by decide) | exact K (by kernel_rfl)) only [E, EE, ↓reduceIte, simprocAttr, indexAddrV, u_58, i_58, is_58, ib_58, iz_58, u_3, i_3, is_3, ib_3, iz_3, xk B5 [2, 3, 2, 2, 1, 2, 2, 2, 2, 2, 2, 2] (.cd 43) rfl, hc3, h5, hc8, h10, h12, h13, h14, h16]
              replace hF := cond_some hF
              rcases hF with ⟨h17, hF⟩ | ⟨h17, hF⟩
              · have hJ := f5_airzraiiz_j10_ok k x10 2 m5 m7 m7_1 m7_2 m7_3 m19 m19_1_ m19_2_ m8 m8_1 m8_2 m8_3 m21 m21_1_ m21_2_ m31 _ hF
                simp (maxSteps := 999999) (disch := first | exact D (by decide) | exact K (by kernel_rfl)) only [E, EE, ↓reduceIte, simprocAttr, show (nav B5 [2, 2, 3, 2, 2, 1, 2, 2, 2, 2, 2, 2, 2]) = Code.region 12 _ false from rfl, hk_5_12, hz_5_12, hs_5_12, hc3, h5, hc8, h10, h12, h13, h14, h16, h17]
                try simp only [NM, EE] at hJ
                exact hJ
              · replace hF := ifE_some.1 hF
                obtain ⟨h18, hF⟩ := hF
                replace hF := ifE_some.1 hF
                obtain ⟨h19, hF⟩ := hF
                replace hF := Option.bind_eq_some_iff.1 hF
                obtain ⟨v20, h21, hF⟩ := hF
                simp (maxSteps := 999999) (disch := first | exact D (by decide) | exact K (by kernel_rfl)) only [E, EE, ↓reduceIte, simprocAttr, xk B5 [3, 2, 3, 2, 2, 1, 2, 2, 2, 2, 2, 2, 2] .sq rfl, show (nav B5 [1, 3, 2, 3, 2, 2, 1, 2, 2, 2, 2, 2, 2, 2]) = Code.region 13 _ true from rfl, hk_5_13, hz_5_13, hs_5_13, indexAddrV, u_58, i_58, is_58, ib_58, iz_58, u_3, i_3, is_3, ib_3, iz_3, fieldAddrV, u_28, i_28, is_28, ib_28, iz_28, u_25, i_25, is_25, ib_25, iz_25, encI_eq, xk B5 [2, 3, 2, 3, 2, 2, 1, 2, 2, 2, 2, 2, 2, 2] (.cd 68) rfl, hc3, h5, hc8, h10, h12, h13, h14, h16, h17, h18, h19, h21]
                replace hF := cond_some hF
                rcases hF with ⟨h22, hF⟩ | ⟨h22, hF⟩
                · have hJ := f5_airzraiiz_j10_ok k x10 6 m5 m7 m7_1 m7_2 m7_3 m19 m19_1_ m19_2_ m8 m8_1 m8_2 m8_3 m21 m21_1_ m21_2_ m31 _ hF
                  simp (maxSteps := 999999) (disch := first | exact D (by decide) | exact K (by kernel_rfl)) only [E, EE, ↓reduceIte, simprocAttr, show (nav B5 [2, 2, 3, 2, 3, 2, 2, 1, 2, 2, 2, 2, 2, 2, 2]) = Code.region 14 _ false from rfl, hk_5_14, hz_5_14, hs_5_14, hc3, h5, hc8, h10, h12, h13, h14, h16, h17, h18, h19, h21, h22]
                  try simp only [NM, EE] at hJ
                  exact hJ
                · have hJ := f5_airzraiiz_j15_ok k x10 0 false m5 m7 m7_1 m7_2 m7_3 m19 m19_1_ m19_2_ m8 m8_1 m8_2 m8_3 m21 m21_1_ m21_2_ m31 _ hF
                  simp (maxSteps := 999999) (disch := first | exact D (by decide) | exact K (by kernel_rfl)) only [E, EE, ↓reduceIte, simprocAttr, xk B5 [3, 2, 3, 2, 3, 2, 2, 1, 2, 2, 2, 2, 2, 2, 2] .sk rfl, hc3, h5, hc8, h10, h12, h13, h14, h16, h17, h18, h19, h21, h22]
                  try simp only [NM, EE] at hJ
                  exact hJ
noncomputable def f5_airzraiiz_j1 (k : Nat) (x1 : List Int) (x15 : Bool) (m3 : Int) (m3_1 : List T54) (m5 : List Int) : Option R5_airzraiiz :=
  Option.bind (f9_aiirriniz k 0 m3 m3_1 x1 0 0) fun o1 =>
    match o1 with
    | .o0 v4 v5 v6 v7 v8 v9 v10 =>
      Option.bind (f9_aiirririz k v4 v5 v8 v9 v6 v10 v7) fun o11 =>
        match o11 with
        | .o0 v14 v15 v16 v17 v18 v19 v20 =>
          Option.bind (List.head? m5) fun v21 =>
            Option.bind (List.head? (List.drop 1 m5)) fun v23 =>
              Option.bind (f16_airzrii k v5 v8 v9 v21 v23) fun o25 =>
                match o25 with
                | .o0 v28 v29 =>
                  Option.bind (f17_aiirririzaiirririz k v4 v5 v8 v9 v6 v10 v7 v14 v15 v18 v19 v16 v20 v17) fun o30 =>
                    match o30 with
                    | .o0 v33 =>
                      cond ((!v33))
                        (some (R5_airzraiiz.o0 false))
                        (f5_airzraiiz_j2 k v28 v29 false m5 v4 v5 v6 v7 v8 v9 v10 v14 v15 v16 v17 v18 v19 v20)
                | .o1 v35 v36 =>
                  Option.bind (f17_aiirririzaiirririz k v4 v5 v8 v9 v6 v10 v7 v14 v15 v18 v19 v16 v20 v17) fun o37 =>
                    match o37 with
                    | .o0 v40 =>
                      cond ((!v40))
                        (some (R5_airzraiiz.o0 false))
                        (f5_airzraiiz_j9 k v35 false m5 v4 v5 v6 v7 v8 v9 v10 v14 v15 v16 v17 v18 v19 v20 v36)
theorem f5_airzraiiz_j1_ok (k : Nat) (x1 : List Int) (x15 : Bool) (m3 : Int) (m3_1 : List T54) (m5 : List Int) (r : R5_airzraiiz) (hF : f5_airzraiiz_j1 k x1 x15 m3 m3_1 m5 = some r) : finK Tryd.prog Tryd.f5 0 (EX 5 k (nav B5 [2, 2]) ({ n := 127, F := [(1, V.sl 1 (rowsOf (encI .i64) x1)), (3, V.ptr 3 0), (5, V.ptr 5 0), (15, V.p (Value.bool x15))], M := [(3, O.box 24 [V.p (Value.int .i64 m3), V.sl 6 (rowsOf encT54 m3_1)]), (5, O.box 58 (arrC (cI .i64) m5))] } : St)) = some r.st := by
  unfold f5_airzraiiz_j1 at hF
  replace hF := Option.bind_eq_some_iff.1 hF
  obtain ⟨o1, h2, hF⟩ := hF
  have hc3 := f9_aiirriniz_ok k 0 m3 m3_1 x1 0 0 _ h2
  cases o1 with
  | o0 v4 v5 v6 v7 v8 v9 v10 =>
    (try dsimp only at hF)
    (try simp only [NM, EE, R9_aiirriniz.st] at hc3)
    replace hF := Option.bind_eq_some_iff.1 hF
    obtain ⟨o11, h12, hF⟩ := hF
    have hc13 := f9_aiirririz_ok k v4 v5 v8 v9 v6 v10 v7 _ h12
    cases o11 with
    | o0 v14 v15 v16 v17 v18 v19 v20 =>
      (try dsimp only at hF)
      (try simp only [NM, EE, R9_aiirririz.st] at hc13)
      replace hF := Option.bind_eq_some_iff.1 hF
      obtain ⟨v21, h22, hF⟩ := hF
      replace hF := Option.bind_eq_some_iff.1 hF
      obtain ⟨v23, h24, hF⟩ := hF
      simp (maxSteps := 999999) (disch := first | exact D (by decide) | exact K (by kernel_rfl)) only [E, EE, ↓reduceIte, simprocAttr, xk B5 [2, 2] .sq rfl, show (nav B5 [1, 2, 2]) = Code.region 3 _ false from rfl, hk_5_3, hz_5_3, hs_5_3, u_24, i_24, is_24, ib_24, iz_24, bl_28, u_28, i_28, is_28, ib_28, iz_28, callStep, CL, gv, List.contains, xk B5 [2, 2, 2] .sq rfl, show (nav B5 [1, 2, 2, 2]) = Code.region 4 _ false from rfl, hk_5_4, hz_5_4, hs_5_4, xk B5 [2, 2, 2, 2] .sq rfl, show (nav B5 [1, 2, 2, 2, 2]) = Code.region 5 _ false from rfl, hk_5_5, hz_5_5, hs_5_5, fieldAddrV, u_25, i_25, is_25, ib_25, iz_25, indexAddrV, u_58, i_58, is_58, ib_58, iz_58, u_3, i_3, is_3, ib_3, iz_3, hc3, hc13, h22, h24]
      replace hF := Option.bind_eq_some_iff.1 hF
      obtain ⟨o25, h26, hF⟩ := hF
      have hc27 := f16_airzrii_ok k v5 v8 v9 v21 v23 _ h26
      cases o25 with
      | o0 v28 v29 =>
        (try dsimp only at hF)
        (try simp only [NM, EE, R16_airzrii.st] at hc27)
        replace hF := Option.bind_eq_some_iff.1 hF
        obtain ⟨o30, h31, hF⟩ := hF
        have hc32 := f17_aiirririzaiirririz_ok k v4 v5 v8 v9 v6 v10 v7 v14 v15 v18 v19 v16 v20 v17 _ h31
        cases o30 with
        | o0 v33 =>
          (try dsimp only at hF)
          (try simp only [NM, EE, R17_aiirririzaiirririz.st] at hc32)
          simp (maxSteps := 999999) (disch := first | exact D (by decide) | exact K (by kernel_rfl)) only [E, EE, ↓reduceIte, simprocAttr, xk B5 [2, 2, 2, 2, 2] .sq rfl, xk B5 [1, 2, 2, 2, 2, 2] .sq rfl, show (nav B5 [1, 1, 2, 2, 2, 2, 2]) = Code.region 6 _ false from rfl, hk_5_6, hz_5_6, hs_5_6, u_28, i_28, is_28, ib_28, iz_28, callStep, CL, gv, List.contains, xk B5 [2, 1, 2, 2, 2, 2, 2] (.cd 37) rfl, hc3, hc13, h22, h24, hc27, hc32]
          replace hF := cond_some hF
          rcases hF with ⟨h34, hF⟩ | ⟨h34, hF⟩
          · cases hF
            simp (maxSteps := 999999) (disch := first | exact D (by decide) | exact K (by kernel_rfl)) only [E, EE, ↓reduceIte, simprocAttr, xk B5 [2, 2, 1, 2, 2, 2, 2, 2] .sq rfl, show (nav B5 [1, 2, 2, 1, 2, 2, 2, 2, 2]) = Code.region 7 _ false from rfl, hk_5_7, hz_5_7, hs_5_7, xk B5 [2, 2, 2, 1, 2, 2, 2, 2, 2] .rt rfl, finK_norm, finK_ret, fin5, R5_airzraiiz.st, hc3, hc13, h22, h24, hc27, hc32, h34]
          · have hJ := f5_airzraiiz_j2_ok k v28 v29 false m5 v4 v5 v6 v7 v8 v9 v10 v14 v15 v16 v17 v18 v19 v20 _ hF
            simp (maxSteps := 999999) (disch := first | exact D (by decide) | exact K (by kernel_rfl)) only [E, EE, ↓reduceIte, simprocAttr, xk B5 [3, 2, 1, 2, 2, 2, 2, 2] .sk rfl, hc3, hc13, h22, h24, hc27, hc32, h34]
            try simp only [NM, EE] at hJ
            exact hJ
      | o1 v35 v36 =>
        (try dsimp only at hF)
        (try simp only [NM, EE, R16_airzrii.st] at hc27)
        replace hF := Option.bind_eq_some_iff.1 hF
        obtain ⟨o37, h38, hF⟩ := hF
        have hc39 := f17_aiirririzaiirririz_ok k v4 v5 v8 v9 v6 v10 v7 v14 v15 v18 v19 v16 v20 v17 _ h38
        cases o37 with
        | o0 v40 =>
          (try dsimp only at hF)
          (try simp only [NM, EE, R17_aiirririzaiirririz.st] at hc39)
          simp (maxSteps := 999999) (disch := first | exact D (by decide) | exact K (by kernel_rfl)) only [E, EE, ↓reduceIte, simprocAttr, xk B5 [2, 2, 2, 2, 2] .sq rfl, xk B5 [1, 2, 2, 2, 2, 2] .sq rfl, show (nav B5 [1, 1, 2, 2, 2, 2, 2]) = Code.region 6 _ false from rfl, hk_5_6, hz_5_6, hs_5_6, u_28, i_28, is_28, ib_28, iz_28, callStep, CL, gv, List.contains, xk B5 [2, 1, 2, 2, 2, 2, 2] (.cd 37) rfl, hc3, hc13, h22, h24, hc27, hc39]
          replace hF := cond_some hF
          rcases hF with ⟨h41, hF⟩ | ⟨h41, hF⟩
          · cases hF
            simp (maxSteps := 999999) (disch := first | exact D (by decide) | exact K (by kernel_rfl)) only [E, EE, ↓reduceIte, simprocAttr, xk B5 [2, 2, 1, 2, 2, 2, 2, 2] .sq rfl, show (nav B5 [1, 2, 2, 1, 2, 2, 2, 2, 2]) = Code.region 7 _ false from rfl, hk_5_7, hz_5_7, hs_5_7, xk B5 [2, 2, 2, 1, 2, 2, 2, 2, 2] .rt rfl, finK_norm, finK_ret, fin5, R5_airzraiiz.st, hc3, hc13, h22, h24, hc27, hc39, h41]
          · have hJ := f5_airzraiiz_j9_ok k v35 false m5 v4 v5 v6 v7 v8 v9 v10 v14 v15 v16 v17 v18 v19 v20 v36 _ hF
            simp (maxSteps := 999999) (disch := first | exact D (by decide) | exact K (by kernel_rfl)) only [E, EE, ↓reduceIte, simprocAttr, xk B5 [3, 2, 1, 2, 2, 2, 2, 2] .sk rfl, hc3, hc13, h22, h24, hc27, hc39, h41]
            try simp only [NM, EE] at hJ
            exact hJ
noncomputable def f5_airzraiiz_e (k : Nat) (a0 : Int) (a0_1 : List T54) (a1 : List Int) (a2 a2_1 : Int) : Option R5_airzraiiz :=
  Option.bind (f8_ k) fun o2 =>
    match o2 with
    | .o0 v5 =>
      cond ((!v5))
        (some (R5_airzraiiz.o0 false))
        (f5_airzraiiz_j1 k a1 false a0 a0_1 ([a2, a2_1] : List Int))
theorem f5_airzraiiz_e_ok (k : Nat) (a0 : Int) (a0_1 : List T54) (a1 : List Int) (a2 a2_1 : Int) (r : R5_airzraiiz) (hF : f5_airzraiiz_e k a0 a0_1 a1 a2 a2_1 = some r) : finK Tryd.prog Tryd.f5 0 (EX 5 k (nav B5 []) ({ n := 127, F := [(0, V.agg [V.p (Value.int .i64 a0), V.sl 6 (rowsOf encT54 a0_1)]), (1, V.sl 1 (rowsOf (encI .i64) a1)), (2, V.agg [V.p (Value.int .i64 a2), V.p (Value.int .i64 a2_1)])], M := [] } : St)) = some r.st := by
  unfold f5_airzraiiz_e at hF
  have q1 : [V.p (Value.int .i64 a2), V.p (Value.int .i64 a2_1)] = arrC (cI .i64) ([a2, a2_1] : List Int) := rfl
  replace hF := Option.bind_eq_some_iff.1 hF
  obtain ⟨o2, h3, hF⟩ := hF
  have hc4 := f8__ok k _ h3
  cases o2 with
  | o0 v5 =>
    (try dsimp only at hF)
    (try simp only [NM, EE, R8_.st] at hc4)
    simp (maxSteps := 999999) (disch := first | exact D (by decide) | exact K (by kernel_rfl)) only [E, EE, ↓reduceIte, simprocAttr, xk B5 [] .sq rfl, show (nav B5 [1]) = Code.region 0 _ false from rfl, hk_5_0, hz_5_0, hs_5_0, xk B5 [2] .sq rfl, xk B5 [1, 2] .sq rfl, show (nav B5 [1, 1, 2]) = Code.region 1 _ false from rfl, hk_5_1, hz_5_1, hs_5_1, callStep, CL, gv, List.contains, xk B5 [2, 1, 2] (.cd 15) rfl, q1, hc4]
    replace hF := cond_some hF
    rcases hF with ⟨h6, hF⟩ | ⟨h6, hF⟩
    · cases hF
      simp (maxSteps := 999999) (disch := first | exact D (by decide) | exact K (by kernel_rfl)) only [E, EE, ↓reduceIte, simprocAttr, xk B5 [2, 2, 1, 2] .sq rfl, show (nav B5 [1, 2, 2, 1, 2]) = Code.region 2 _ false from rfl, hk_5_2, hz_5_2, hs_5_2, xk B5 [2, 2, 2, 1, 2] .rt rfl, finK_norm, finK_ret, fin5, R5_airzraiiz.st, q1, hc4, h6]
    · have hJ := f5_airzraiiz_j1_ok k a1 false a0 a0_1 ([a2, a2_1] : List Int) _ hF
      simp (maxSteps := 999999) (disch := first | exact D (by decide) | exact K (by kernel_rfl)) only [E, EE, ↓reduceIte, simprocAttr, xk B5 [3, 2, 1, 2] .sk rfl, q1, hc4, h6]
      try simp only [NM, EE] at hJ
      exact hJ
noncomputable def f5_airzraiiz (k : Nat) (a0 : Int) (a0_1 : List T54) (a1 : List Int) (a2 a2_1 : Int) : Option R5_airzraiiz := match k with | 0 => none | k + 1 => f5_airzraiiz_e k a0 a0_1 a1 a2 a2_1
theorem f5_airzraiiz_ok (k : Nat) (a0 : Int) (a0_1 : List T54) (a1 : List Int) (a2 a2_1 : Int) (r : R5_airzraiiz) (hF : f5_airzraiiz k a0 a0_1 a1 a2 a2_1 = some r) : CV k 5 [V.agg [V.p (Value.int .i64 a0), V.sl 6 (rowsOf encT54 a0_1)], V.sl 1 (rowsOf (encI .i64) a1), V.agg [V.p (Value.int .i64 a2), V.p (Value.int .i64 a2_1)]] [] = some r.st := by
  cases k with
  | zero => cases hF
  | succ k =>
    unfold CV
    rw [ev_call (F := Tryd.f5) (c := (nav B5 [])) rfl Tryd.func5 rfl rfl rfl rfl]
    exact f5_airzraiiz_e_ok k a0 a0_1 a1 a2 a2_1 r hF
end Go.Proofs.YtiompmmbjpjjeaaDoorV
