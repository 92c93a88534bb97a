/- What the program's functions answer: plain functions, and that the interpreter answers what they do. Written by a program of this session, out of the translation. -/
import Derived.Test.YtmogplhglcodjaaVP2
namespace Go.Proofs.YtmogplhglcodjaaV
open Go
set_option linter.unusedVariables false
set_option linter.unusedSimpArgs false
set_option maxRecDepth 8000
set_option maxHeartbeats 4000000
-- f23_airriziii: f23 (heliograph/plan.search).arrives
inductive R23_airriziii where
  | o0 (y : Int) (y_1 : Bool)
noncomputable def R23_airriziii.st : R23_airriziii → V × List O × List O
  | .o0 y y_1 => (V.tup [V.p (Value.int .i64 y), V.p (Value.bool y_1)], [], [])
inductive R23_airriziii_s1_l1_l1 where
  | o0 (y y_1 y_2 y_3 : Int) (y_4 : List T44) (y_5 : List Int) (y_6 : Int) (y_7 : List Int) (y_8 y_9 : List Bool)
  | o1 (y y_1 y_2 : Int) (y_3 : Bool) (y_4 : Int) (y_5 : List T44) (y_6 : List Int) (y_7 : Int) (y_8 : List Int) (y_9 y_10 : List Bool)
noncomputable def R23_airriziii_s1_l1_l1.st : R23_airriziii_s1_l1_l1 → Out × St
  | .o0 y y_1 y_2 y_3 y_4 y_5 y_6 y_7 y_8 y_9 => (.norm, ({ n := 99, F := [(2, V.p (Value.int .i64 y)), (4, V.ptr 30000 0), (10, V.ptr 30001 0), (11, V.ptr 30002 0), (12, V.ptr 30003 0), (13, V.p (Value.int .i64 y_1)), (14, V.p (Value.int .i64 y_2))], M := [(30000, O.box 54 [V.p (Value.int .i64 y_3), V.sl 6 (rowsOf encT44 y_4), V.sl 1 (rowsOf (encI .i64) y_5), V.p (Value.int .i64 y_6)]), (30001, O.box 60 (arrC (cI .i64) y_7)), (30002, O.box 67 (arrC cB y_8)), (30003, O.box 67 (arrC cB y_9))] } : St))
  | .o1 y y_1 y_2 y_3 y_4 y_5 y_6 y_7 y_8 y_9 y_10 => (.exit 2, ({ n := 99, F := [(2, V.p (Value.int .i64 y)), (4, V.ptr 30000 0), (10, V.ptr 30001 0), (11, V.ptr 30002 0), (12, V.ptr 30003 0), (13, V.p (Value.int .i64 y_1)), (14, V.p (Value.int .i64 y_2)), (27, V.p (Value.bool y_3))], M := [(30000, O.box 54 [V.p (Value.int .i64 y_4), V.sl 6 (rowsOf encT44 y_5), V.sl 1 (rowsOf (encI .i64) y_6), V.p (Value.int .i64 y_7)]), (30001, O.box 60 (arrC (cI .i64) y_8)), (30002, O.box 67 (arrC cB y_9)), (30003, O.box 67 (arrC cB y_10))] } : St))
noncomputable def f23_airriziii_s1_l1_l1_j2 (k : Nat) (x2 x13 x14 h0_ : Int) (h0__1 : List T44) (h0__2 : List Int) (h0__3 : Int) (h1_ : List Int) (h2_ h3_ : List Bool) : Option R23_airriziii_s1_l1_l1 :=
  some (R23_airriziii_s1_l1_l1.o0 x2 x13 (IntKind.i64.wrap (x14 + (1 : Int))) h0_ h0__1 h0__2 h0__3 h1_ h2_ h3_)
theorem f23_airriziii_s1_l1_l1_j2_ok (k : Nat) (x2 x13 x14 h0_ : Int) (h0__1 : List T44) (h0__2 : List Int) (h0__3 : Int) (h1_ : List Int) (h2_ h3_ : List Bool) (r : R23_airriziii_s1_l1_l1) (hF : f23_airriziii_s1_l1_l1_j2 k x2 x13 x14 h0_ h0__1 h0__2 h0__3 h1_ h2_ h3_ = some r) : EX 23 k (nav B23 [2, 2, 1, 2, 2, 1, 2, 2, 1, 2, 1, 2, 2, 2, 2, 1, 2]) ({ n := 99, F := [(2, V.p (Value.int .i64 x2)), (4, V.ptr 30000 0), (10, V.ptr 30001 0), (11, V.ptr 30002 0), (12, V.ptr 30003 0), (13, V.p (Value.int .i64 x13)), (14, V.p (Value.int .i64 x14))], M := [(30000, O.box 54 [V.p (Value.int .i64 h0_), V.sl 6 (rowsOf encT44 h0__1), V.sl 1 (rowsOf (encI .i64) h0__2), V.p (Value.int .i64 h0__3)]), (30001, O.box 60 (arrC (cI .i64) h1_)), (30002, O.box 67 (arrC cB h2_)), (30003, O.box 67 (arrC cB h3_))] } : St) = some r.st := by
  unfold f23_airriziii_s1_l1_l1_j2 at hF
  cases hF
  simp (maxSteps := 999999) (disch := first | exact D (by decide) | exact K (by kernel_rfl)) only [E, EE, ↓reduceIte, simprocAttr, show (nav B23 [2, 2, 1, 2, 2, 1, 2, 2, 1, 2, 1, 2, 2, 2, 2, 1, 2]) = Code.region 7 _ false from rfl, hk_23_7, hz_23_7, hs_23_7, R23_airriziii_s1_l1_l1.st]
noncomputable def f23_airriziii_s1_l1_l1_j3 (k : Nat) (x2 x13 x14 : Int) (x51 : Bool) (h0_ : Int) (h0__1 : List T44) (h0__2 : List Int) (h0__3 : Int) (h1_ : List Int) (h2_ h3_ : List Bool) : Option R23_airriziii_s1_l1_l1 :=
  some (R23_airriziii_s1_l1_l1.o0 x2 x13 (IntKind.i64.wrap (x14 + (1 : Int))) h0_ h0__1 h0__2 h0__3 h1_ h2_ h3_)
theorem f23_airriziii_s1_l1_l1_j3_ok (k : Nat) (x2 x13 x14 : Int) (x51 : Bool) (h0_ : Int) (h0__1 : List T44) (h0__2 : List Int) (h0__3 : Int) (h1_ : List Int) (h2_ h3_ : List Bool) (r : R23_airriziii_s1_l1_l1) (hF : f23_airriziii_s1_l1_l1_j3 k x2 x13 x14 x51 h0_ h0__1 h0__2 h0__3 h1_ h2_ h3_ = some r) : EX 23 k (nav B23 [2, 2, 1, 2, 2, 1, 2, 2, 1, 2, 1, 2, 2, 2, 2, 1, 2]) ({ n := 99, F := [(2, V.p (Value.int .i64 x2)), (4, V.ptr 30000 0), (10, V.ptr 30001 0), (11, V.ptr 30002 0), (12, V.ptr 30003 0), (13, V.p (Value.int .i64 x13)), (14, V.p (Value.int .i64 x14)), (51, V.p (Value.bool x51))], M := [(30000, O.box 54 [V.p (Value.int .i64 h0_), V.sl 6 (rowsOf encT44 h0__1), V.sl 1 (rowsOf (encI .i64) h0__2), V.p (Value.int .i64 h0__3)]), (30001, O.box 60 (arrC (cI .i64) h1_)), (30002, O.box 67 (arrC cB h2_)), (30003, O.box 67 (arrC cB h3_))] } : St) = some r.st := by
  unfold f23_airriziii_s1_l1_l1_j3 at hF
  cases hF
  simp (maxSteps := 999999) (disch := first | exact D (by decide) | exact K (by kernel_rfl)) only [E, EE, ↓reduceIte, simprocAttr, show (nav B23 [2, 2, 1, 2, 2, 1, 2, 2, 1, 2, 1, 2, 2, 2, 2, 1, 2]) = Code.region 7 _ false from rfl, hk_23_7, hz_23_7, hs_23_7, R23_airriziii_s1_l1_l1.st]
noncomputable def f23_airriziii_s1_l1_l1_j1 (k : Nat) (x2 x13 x14 : Int) (x27 : Bool) (h0_ : Int) (h0__1 : List T44) (h0__2 : List Int) (h0__3 : Int) (h1_ : List Int) (h2_ h3_ : List Bool) : Option R23_airriziii_s1_l1_l1 :=
  ifE ((0 : Int) ≤ x14) (
    ifE (x14 < 7) (
      Option.bind (List.head? (List.drop (Int.toNat x14) h2_)) fun v3 =>
        cond (v3)
          (
            Option.bind (List.head? (List.drop (Int.toNat x14) h3_)) fun v6 =>
              cond ((!v6))
                (
                  cond ((x13 == 0))
                    (f23_airriziii_s1_l1_l1_j2 k x2 x14 x14 h0_ h0__1 h0__2 h0__3 h1_ h2_ h3_)
                    (
                      Option.bind (List.head? (List.drop (Int.toNat x14) h1_)) fun v10 =>
                        ifE ((0 : Int) ≤ x13) (
                          ifE (x13 < 7) (
                            Option.bind (List.head? (List.drop (Int.toNat x13) h1_)) fun v14 =>
                              cond ((decide (v10 < v14)))
                                (f23_airriziii_s1_l1_l1_j2 k x2 x14 x14 h0_ h0__1 h0__2 h0__3 h1_ h2_ h3_)
                                (f23_airriziii_s1_l1_l1_j3 k x2 x13 x14 false h0_ h0__1 h0__2 h0__3 h1_ h2_ h3_)))))
                (f23_airriziii_s1_l1_l1_j3 k x2 x13 x14 false h0_ h0__1 h0__2 h0__3 h1_ h2_ h3_))
          (f23_airriziii_s1_l1_l1_j3 k x2 x13 x14 false h0_ h0__1 h0__2 h0__3 h1_ h2_ h3_)))
theorem f23_airriziii_s1_l1_l1_j1_ok (k : Nat) (x2 x13 x14 : Int) (x27 : Bool) (h0_ : Int) (h0__1 : List T44) (h0__2 : List Int) (h0__3 : Int) (h1_ : List Int) (h2_ h3_ : List Bool) (r : R23_airriziii_s1_l1_l1) (hF : f23_airriziii_s1_l1_l1_j1 k x2 x13 x14 x27 h0_ h0__1 h0__2 h0__3 h1_ h2_ h3_ = some r) : EX 23 k (nav B23 [2, 1, 2, 2, 1, 2, 2, 1, 2, 1, 2, 2, 2, 2, 1, 2]) ({ n := 99, F := [(2, V.p (Value.int .i64 x2)), (4, V.ptr 30000 0), (10, V.ptr 30001 0), (11, V.ptr 30002 0), (12, V.ptr 30003 0), (13, V.p (Value.int .i64 x13)), (14, V.p (Value.int .i64 x14)), (27, V.p (Value.bool x27))], M := [(30000, O.box 54 [V.p (Value.int .i64 h0_), V.sl 6 (rowsOf encT44 h0__1), V.sl 1 (rowsOf (encI .i64) h0__2), V.p (Value.int .i64 h0__3)]), (30001, O.box 60 (arrC (cI .i64) h1_)), (30002, O.box 67 (arrC cB h2_)), (30003, O.box 67 (arrC cB h3_))] } : St) = some r.st := by
  unfold f23_airriziii_s1_l1_l1_j1 at hF
  replace hF := ifE_some.1 hF
  obtain ⟨h1, hF⟩ := hF
  replace hF := ifE_some.1 hF
  obtain ⟨h2, hF⟩ := hF
  replace hF := Option.bind_eq_some_iff.1 hF
  obtain ⟨v3, h4, hF⟩ := hF
  simp (maxSteps := 999999) (disch := first | exact D (by decide) | exact K (by kernel_rfl)) only [E, EE, ↓reduceIte, simprocAttr, xk B23 [2, 1, 2, 2, 1, 2, 2, 1, 2, 1, 2, 2, 2, 2, 1, 2] .sq rfl, xk B23 [1, 2, 1, 2, 2, 1, 2, 2, 1, 2, 1, 2, 2, 2, 2, 1, 2] (.bk 3) rfl, xk B23 [2, 1, 2, 1, 2, 2, 1, 2, 2, 1, 2, 1, 2, 2, 2, 2, 1, 2] .sq rfl, show (nav B23 [1, 2, 1, 2, 1, 2, 2, 1, 2, 2, 1, 2, 1, 2, 2, 2, 2, 1, 2]) = Code.region 8 _ true from rfl, hk_23_8, hz_23_8, hs_23_8, indexAddrV, u_67, i_67, is_67, ib_67, iz_67, u_4, i_4, is_4, ib_4, iz_4, h1, h2, h4]
  replace hF := cond_some hF
  rcases hF with ⟨h5, hF⟩ | ⟨h5, hF⟩
  · replace hF := Option.bind_eq_some_iff.1 hF
    obtain ⟨v6, h7, hF⟩ := hF
    simp (maxSteps := 999999) (disch := first | exact D (by decide) | exact K (by kernel_rfl)) only [E, EE, ↓reduceIte, simprocAttr, indexAddrV, u_67, i_67, is_67, ib_67, iz_67, u_4, i_4, is_4, ib_4, iz_4, h1, h2, h4, h5, h7]
    replace hF := cond_some hF
    rcases hF with ⟨h8, hF⟩ | ⟨h8, hF⟩
    · replace hF := cond_some hF
      rcases hF with ⟨h9, hF⟩ | ⟨h9, hF⟩
      · have hJ := f23_airriziii_s1_l1_l1_j2_ok k x2 x14 x14 h0_ h0__1 h0__2 h0__3 h1_ h2_ h3_ _ hF
        simp (maxSteps := 999999) (disch := first | exact D (by decide) | exact K (by kernel_rfl)) only [E, EE, ↓reduceIte, simprocAttr, xk B23 [2, 2, 1, 2, 1, 2, 2, 1, 2, 2, 1, 2, 1, 2, 2, 2, 2, 1, 2] (.cd 51) rfl, show (nav B23 [2, 2, 2, 1, 2, 1, 2, 2, 1, 2, 2, 1, 2, 1, 2, 2, 2, 2, 1, 2]) = Code.region 9 _ false from rfl, hk_23_9, hz_23_9, hs_23_9, h1, h2, h4, h5, h7, h8, h9]
        try simp only [NM, EE] at hJ
        exact hJ
      · replace hF := Option.bind_eq_some_iff.1 hF
        obtain ⟨v10, h11, hF⟩ := hF
        replace hF := ifE_some.1 hF
        obtain ⟨h12, hF⟩ := hF
        replace hF := ifE_some.1 hF
        obtain ⟨h13, hF⟩ := hF
        replace hF := Option.bind_eq_some_iff.1 hF
        obtain ⟨v14, h15, hF⟩ := hF
        simp (maxSteps := 999999) (disch := first | exact D (by decide) | exact K (by kernel_rfl)) only [E, EE, ↓reduceIte, simprocAttr, indexAddrV, u_60, i_60, is_60, ib_60, iz_60, u_3, i_3, is_3, ib_3, iz_3, xk B23 [2, 2, 1, 2, 1, 2, 2, 1, 2, 2, 1, 2, 1, 2, 2, 2, 2, 1, 2] (.cd 51) rfl, h1, h2, h4, h5, h7, h8, h9, h11, h12, h13, h15]
        replace hF := cond_some hF
        rcases hF with ⟨h16, hF⟩ | ⟨h16, hF⟩
        · have hJ := f23_airriziii_s1_l1_l1_j2_ok k x2 x14 x14 h0_ h0__1 h0__2 h0__3 h1_ h2_ h3_ _ hF
          simp (maxSteps := 999999) (disch := first | exact D (by decide) | exact K (by kernel_rfl)) only [E, EE, ↓reduceIte, simprocAttr, show (nav B23 [2, 2, 2, 1, 2, 1, 2, 2, 1, 2, 2, 1, 2, 1, 2, 2, 2, 2, 1, 2]) = Code.region 9 _ false from rfl, hk_23_9, hz_23_9, hs_23_9, h1, h2, h4, h5, h7, h8, h9, h11, h12, h13, h15, h16]
          try simp only [NM, EE] at hJ
          exact hJ
        · have hJ := f23_airriziii_s1_l1_l1_j3_ok k x2 x13 x14 false h0_ h0__1 h0__2 h0__3 h1_ h2_ h3_ _ hF
          simp (maxSteps := 999999) (disch := first | exact D (by decide) | exact K (by kernel_rfl)) only [E, EE, ↓reduceIte, simprocAttr, xk B23 [3, 2, 2, 1, 2, 1, 2, 2, 1, 2, 2, 1, 2, 1, 2, 2, 2, 2, 1, 2] .sk rfl, h1, h2, h4, h5, h7, h8, h9, h11, h12, h13, h15, h16]
          try simp only [NM, EE] at hJ
          exact hJ
    · have hJ := f23_airriziii_s1_l1_l1_j3_ok k x2 x13 x14 false h0_ h0__1 h0__2 h0__3 h1_ h2_ h3_ _ hF
      simp (maxSteps := 999999) (disch := first | exact D (by decide) | exact K (by kernel_rfl)) only [E, EE, ↓reduceIte, simprocAttr, xk B23 [2, 2, 1, 2, 1, 2, 2, 1, 2, 2, 1, 2, 1, 2, 2, 2, 2, 1, 2] (.cd 51) rfl, xk B23 [3, 2, 2, 1, 2, 1, 2, 2, 1, 2, 2, 1, 2, 1, 2, 2, 2, 2, 1, 2] .sk rfl, h1, h2, h4, h5, h7, h8]
      try simp only [NM, EE] at hJ
      exact hJ
  · have hJ := f23_airriziii_s1_l1_l1_j3_ok k x2 x13 x14 false h0_ h0__1 h0__2 h0__3 h1_ h2_ h3_ _ hF
    simp (maxSteps := 999999) (disch := first | exact D (by decide) | exact K (by kernel_rfl)) only [E, EE, ↓reduceIte, simprocAttr, xk B23 [2, 2, 1, 2, 1, 2, 2, 1, 2, 2, 1, 2, 1, 2, 2, 2, 2, 1, 2] (.cd 51) rfl, xk B23 [3, 2, 2, 1, 2, 1, 2, 2, 1, 2, 2, 1, 2, 1, 2, 2, 2, 2, 1, 2] .sk rfl, h1, h2, h4, h5]
    try simp only [NM, EE] at hJ
    exact hJ
noncomputable def f23_airriziii_s1_l1_l1_b (k : Nat) (x2 x13 x14 h0_ : Int) (h0__1 : List T44) (h0__2 : List Int) (h0__3 : Int) (h1_ : List Int) (h2_ h3_ : List Bool) : Option R23_airriziii_s1_l1_l1 :=
  cond ((decide (x14 ≤ h0_)))
    (f23_airriziii_s1_l1_l1_j1 k x2 x13 x14 true h0_ h0__1 h0__2 h0__3 h1_ h2_ h3_)
    (some (R23_airriziii_s1_l1_l1.o1 x2 x13 x14 false h0_ h0__1 h0__2 h0__3 h1_ h2_ h3_))
theorem f23_airriziii_s1_l1_l1_b_ok (k : Nat) (x2 x13 x14 h0_ : Int) (h0__1 : List T44) (h0__2 : List Int) (h0__3 : Int) (h1_ : List Int) (h2_ h3_ : List Bool) (r : R23_airriziii_s1_l1_l1) (hF : f23_airriziii_s1_l1_l1_b k x2 x13 x14 h0_ h0__1 h0__2 h0__3 h1_ h2_ h3_ = some r) : EX 23 k (nav B23 [1, 2, 2, 1, 2, 2, 1, 2, 1, 2, 2, 2, 2, 1, 2]) ({ n := 99, F := [(2, V.p (Value.int .i64 x2)), (4, V.ptr 30000 0), (10, V.ptr 30001 0), (11, V.ptr 30002 0), (12, V.ptr 30003 0), (13, V.p (Value.int .i64 x13)), (14, V.p (Value.int .i64 x14))], M := [(30000, O.box 54 [V.p (Value.int .i64 h0_), V.sl 6 (rowsOf encT44 h0__1), V.sl 1 (rowsOf (encI .i64) h0__2), V.p (Value.int .i64 h0__3)]), (30001, O.box 60 (arrC (cI .i64) h1_)), (30002, O.box 67 (arrC cB h2_)), (30003, O.box 67 (arrC cB h3_))] } : St) = some r.st := by
  unfold f23_airriziii_s1_l1_l1_b at hF
  simp (maxSteps := 999999) (disch := first | exact D (by decide) | exact K (by kernel_rfl)) only [E, EE, ↓reduceIte, simprocAttr, xk B23 [1, 2, 2, 1, 2, 2, 1, 2, 1, 2, 2, 2, 2, 1, 2] .sq rfl, xk B23 [1, 1, 2, 2, 1, 2, 2, 1, 2, 1, 2, 2, 2, 2, 1, 2] .sq rfl, show (nav B23 [1, 1, 1, 2, 2, 1, 2, 2, 1, 2, 1, 2, 2, 2, 2, 1, 2]) = Code.region 6 _ false from rfl, hk_23_6, hz_23_6, hs_23_6, fieldAddrV, u_54, i_54, is_54, ib_54, iz_54, u_24, i_24, is_24, ib_24, iz_24, u_3, i_3, is_3, ib_3, iz_3, xk B23 [2, 1, 1, 2, 2, 1, 2, 2, 1, 2, 1, 2, 2, 2, 2, 1, 2] (.cd 27) rfl]
  replace hF := cond_some hF
  rcases hF with ⟨h1, hF⟩ | ⟨h1, hF⟩
  · have hJ := f23_airriziii_s1_l1_l1_j1_ok k x2 x13 x14 true h0_ h0__1 h0__2 h0__3 h1_ h2_ h3_ _ hF
    simp (maxSteps := 999999) (disch := first | exact D (by decide) | exact K (by kernel_rfl)) only [E, EE, ↓reduceIte, simprocAttr, xk B23 [2, 2, 1, 1, 2, 2, 1, 2, 2, 1, 2, 1, 2, 2, 2, 2, 1, 2] .sk rfl, h1]
    try simp only [NM, EE] at hJ
    exact hJ
  · cases hF
    simp (maxSteps := 999999) (disch := first | exact D (by decide) | exact K (by kernel_rfl)) only [E, EE, ↓reduceIte, simprocAttr, xk B23 [3, 2, 1, 1, 2, 2, 1, 2, 2, 1, 2, 1, 2, 2, 2, 2, 1, 2] (.ex 2) rfl, R23_airriziii_s1_l1_l1.st, h1]
noncomputable def f23_airriziii_s1_l1_l1 (k : Nat) : Nat → Int → Int → Int → Int → (List T44) → (List Int) → Int → (List Int) → (List Bool) → (List Bool) → Option R23_airriziii_s1_l1_l1
  | 0, _, _, _, _, _, _, _, _, _, _ => none
  | n + 1, x2, x13, x14, h0_, h0__1, h0__2, h0__3, h1_, h2_, h3_ => Option.bind (f23_airriziii_s1_l1_l1_b k x2 x13 x14 h0_ h0__1 h0__2 h0__3 h1_ h2_ h3_) fun o =>
    match o with
    | .o0 y y_1 y_2 y_3 y_4 y_5 y_6 y_7 y_8 y_9 => f23_airriziii_s1_l1_l1 k n y y_1 y_2 y_3 y_4 y_5 y_6 y_7 y_8 y_9
    | .o1 y y_1 y_2 y_3 y_4 y_5 y_6 y_7 y_8 y_9 y_10 => some (.o1 y y_1 y_2 y_3 y_4 y_5 y_6 y_7 y_8 y_9 y_10)
theorem f23_airriziii_s1_l1_l1_ok (k n : Nat) : ∀ (x2 x13 x14 h0_ : Int) (h0__1 : List T44) (h0__2 : List Int) (h0__3 : Int) (h1_ : List Int) (h2_ h3_ : List Bool) (r : R23_airriziii_s1_l1_l1) (hF : f23_airriziii_s1_l1_l1 k n x2 x13 x14 h0_ h0__1 h0__2 h0__3 h1_ h2_ h3_ = some r) (σ : St) (hσ : headR (hints.head 23 6) (hints.canon 23 6) σ = some ({ n := 99, F := [(2, V.p (Value.int .i64 x2)), (4, V.ptr 30000 0), (10, V.ptr 30001 0), (11, V.ptr 30002 0), (12, V.ptr 30003 0), (13, V.p (Value.int .i64 x13)), (14, V.p (Value.int .i64 x14))], M := [(30000, O.box 54 [V.p (Value.int .i64 h0_), V.sl 6 (rowsOf encT44 h0__1), V.sl 1 (rowsOf (encI .i64) h0__2), V.p (Value.int .i64 h0__3)]), (30001, O.box 60 (arrC (cI .i64) h1_)), (30002, O.box 67 (arrC cB h2_)), (30003, O.box 67 (arrC cB h3_))] } : St)), LP 23 k (nav B23 [1, 2, 2, 1, 2, 2, 1, 2, 1, 2, 2, 2, 2, 1, 2]) n σ = some r.st := by
  induction n with
  | zero => intro x2 x13 x14 h0_ h0__1 h0__2 h0__3 h1_ h2_ h3_ r hF; cases hF
  | succ n ih =>
    intro x2 x13 x14 h0_ h0__1 h0__2 h0__3 h1_ h2_ h3_ r hF σ hσ
    rw [f23_airriziii_s1_l1_l1] at hF
    obtain ⟨o, h, hF⟩ := Option.bind_eq_some_iff.1 hF
    have hB := f23_airriziii_s1_l1_l1_b_ok k x2 x13 x14 h0_ h0__1 h0__2 h0__3 h1_ h2_ h3_ o h
    unfold LP at ih ⊢
    unfold EX at hB
    rw [loopK_succ, show firstReg (nav B23 [1, 2, 2, 1, 2, 2, 1, 2, 1, 2, 2, 2, 2, 1, 2]) = 6 from rfl, hσ, headK_some, hB]
    cases o with
    | o0 y y_1 y_2 y_3 y_4 y_5 y_6 y_7 y_8 y_9 =>
      refine ih y y_1 y_2 y_3 y_4 y_5 y_6 y_7 y_8 y_9 r hF _ ?_
      simp (maxSteps := 999999) (disch := first | exact D (by decide) | exact K (by kernel_rfl)) only [E, EE, ↓reduceIte, simprocAttr, hh_23_6, hc_23_6]
    | o1 y y_1 y_2 y_3 y_4 y_5 y_6 y_7 y_8 y_9 y_10 => cases hF; rfl
inductive R23_airriziii_s1_l1 where
  | o0 (y y_1 : Int) (y_2 : Bool) (y_3 : Int) (y_4 : List T44) (y_5 : List Int) (y_6 : Int) (y_7 : List Int) (y_8 y_9 : List Bool)
  | o1 (y y_1 : Int) (y_2 : List T44) (y_3 : List Int) (y_4 : Int) (y_5 : List Int) (y_6 y_7 : List Bool)
noncomputable def R23_airriziii_s1_l1.st : R23_airriziii_s1_l1 → Out × St
  | .o0 y y_1 y_2 y_3 y_4 y_5 y_6 y_7 y_8 y_9 => (.exit 0, ({ n := 99, F := [(2, V.p (Value.int .i64 y)), (4, V.ptr 30000 0), (10, V.ptr 30001 0), (11, V.ptr 30002 0), (12, V.ptr 30003 0), (13, V.p (Value.int .i64 y_1)), (59, V.p (Value.bool y_2))], M := [(30000, O.box 54 [V.p (Value.int .i64 y_3), V.sl 6 (rowsOf encT44 y_4), V.sl 1 (rowsOf (encI .i64) y_5), V.p (Value.int .i64 y_6)]), (30001, O.box 60 (arrC (cI .i64) y_7)), (30002, O.box 67 (arrC cB y_8)), (30003, O.box 67 (arrC cB y_9))] } : St))
  | .o1 y y_1 y_2 y_3 y_4 y_5 y_6 y_7 => (.norm, ({ n := 99, F := [(2, V.p (Value.int .i64 y)), (4, V.ptr 30000 0), (10, V.ptr 30001 0), (11, V.ptr 30002 0), (12, V.ptr 30003 0)], M := [(30000, O.box 54 [V.p (Value.int .i64 y_1), V.sl 6 (rowsOf encT44 y_2), V.sl 1 (rowsOf (encI .i64) y_3), V.p (Value.int .i64 y_4)]), (30001, O.box 60 (arrC (cI .i64) y_5)), (30002, O.box 67 (arrC cB y_6)), (30003, O.box 67 (arrC cB y_7))] } : St))
noncomputable def f23_airriziii_s1_l1_j3 (k : Nat) (x2 x13 : Int) (x59 : Bool) (h0_ : Int) (h0__1 : List T44) (h0__2 : List Int) (h0__3 : Int) (h1_ : List Int) (h2_ h3_ : List Bool) : Option R23_airriziii_s1_l1 :=
  ifE ((0 : Int) ≤ x13) (
    ifE (x13 < 7) (
      ifE (((Int.toNat x13) + 1) ≤ (List.length h3_)) (
        Option.bind (List.head? (List.drop (Int.toNat x13) h1_)) fun v4 =>
          Option.bind (f22_airrizii k h0_ h0__1 h0__2 h0__3 x13 v4) fun o6 =>
            match o6 with
            | .o0 v9 v10 v11 v12 v13 v14 =>
              Option.bind (f29_yppp_lpppbirribLbLbirribibi k h0_ h0__1 h0__2 h0__3 h1_ h2_ v9 v10 v11 v12 v13 v14) fun o15 =>
                match o15 with
                | .o0 v18 v19 v20 v21 v22 v23 v24 v25 v26 v27 v28 v29 =>
                  some (R23_airriziii_s1_l1.o1 x2 v18 v19 v20 v21 v22 v23 (((List.take (Int.toNat x13) h3_) ++ (true :: (List.drop ((Int.toNat x13) + 1) h3_))))))))
theorem f23_airriziii_s1_l1_j3_ok (k : Nat) (x2 x13 : Int) (x59 : Bool) (h0_ : Int) (h0__1 : List T44) (h0__2 : List Int) (h0__3 : Int) (h1_ : List Int) (h2_ h3_ : List Bool) (r : R23_airriziii_s1_l1) (hF : f23_airriziii_s1_l1_j3 k x2 x13 x59 h0_ h0__1 h0__2 h0__3 h1_ h2_ h3_ = some r) : blockK 1 (EX 23 k (nav B23 [2, 2, 2, 2, 1, 2, 1, 2, 2, 2, 2, 1, 2]) ({ n := 99, F := [(2, V.p (Value.int .i64 x2)), (4, V.ptr 30000 0), (10, V.ptr 30001 0), (11, V.ptr 30002 0), (12, V.ptr 30003 0), (13, V.p (Value.int .i64 x13)), (59, V.p (Value.bool x59))], M := [(30000, O.box 54 [V.p (Value.int .i64 h0_), V.sl 6 (rowsOf encT44 h0__1), V.sl 1 (rowsOf (encI .i64) h0__2), V.p (Value.int .i64 h0__3)]), (30001, O.box 60 (arrC (cI .i64) h1_)), (30002, O.box 67 (arrC cB h2_)), (30003, O.box 67 (arrC cB h3_))] } : St)) = some r.st := by
  unfold f23_airriziii_s1_l1_j3 at hF
  replace hF := ifE_some.1 hF
  obtain ⟨h1, hF⟩ := hF
  replace hF := ifE_some.1 hF
  obtain ⟨h2, hF⟩ := hF
  replace hF := ifE_some.1 hF
  obtain ⟨h3, hF⟩ := hF
  replace hF := Option.bind_eq_some_iff.1 hF
  obtain ⟨v4, h5, hF⟩ := hF
  replace hF := Option.bind_eq_some_iff.1 hF
  obtain ⟨o6, h7, hF⟩ := hF
  have hc8 := f22_airrizii_ok k h0_ h0__1 h0__2 h0__3 x13 v4 _ h7
  cases o6 with
  | o0 v9 v10 v11 v12 v13 v14 =>
    (try dsimp only at hF)
    (try simp only [NM, EE, R22_airrizii.st] at hc8)
    replace hF := Option.bind_eq_some_iff.1 hF
    obtain ⟨o15, h16, hF⟩ := hF
    have hc17 := f29_yppp_lpppbirribLbLbirribibi_ok k h0_ h0__1 h0__2 h0__3 h1_ h2_ v9 v10 v11 v12 v13 v14 _ h16
    cases o15 with
    | o0 v18 v19 v20 v21 v22 v23 v24 v25 v26 v27 v28 v29 =>
      (try dsimp only at hF)
      (try simp only [NM, EE, R29_yppp_lpppbirribLbLbirribibi.st] at hc17)
      cases hF
      simp (maxSteps := 999999) (disch := first | exact D (by decide) | exact K (by kernel_rfl)) only [E, EE, ↓reduceIte, simprocAttr, xk B23 [2, 2, 2, 2, 1, 2, 1, 2, 2, 2, 2, 1, 2] .sq rfl, show (nav B23 [1, 2, 2, 2, 2, 1, 2, 1, 2, 2, 2, 2, 1, 2]) = Code.region 11 _ false from rfl, hk_23_11, hz_23_11, hs_23_11, indexAddrV, u_67, i_67, is_67, ib_67, iz_67, u_4, i_4, is_4, ib_4, iz_4, xk B23 [2, 2, 2, 2, 2, 1, 2, 1, 2, 2, 2, 2, 1, 2] .sq rfl, show (nav B23 [1, 2, 2, 2, 2, 2, 1, 2, 1, 2, 2, 2, 2, 1, 2]) = Code.region 12 _ true from rfl, hk_23_12, hz_23_12, hs_23_12, u_54, i_54, is_54, ib_54, iz_54, u_60, i_60, is_60, ib_60, iz_60, u_3, i_3, is_3, ib_3, iz_3, callStep, CL, gv, List.contains, xk B23 [2, 2, 2, 2, 2, 2, 1, 2, 1, 2, 2, 2, 2, 1, 2] (.bk 4) rfl, xk B23 [2, 2, 2, 2, 2, 2, 2, 1, 2, 1, 2, 2, 2, 2, 1, 2] (.rf (.tmp 67) [68, 69] 15) rfl, hh_23_1000015, hk_23_1000015, R23_airriziii_s1_l1.st, h1, h2, h3, h5, hc8, hc17]
noncomputable def f23_airriziii_s1_l1_j2 (k : Nat) (x2 x13 x14 : Int) (x27 : Bool) (h0_ : Int) (h0__1 : List T44) (h0__2 : List Int) (h0__3 : Int) (h1_ : List Int) (h2_ h3_ : List Bool) : Option R23_airriziii_s1_l1 :=
  cond ((x13 == 0))
    (some (R23_airriziii_s1_l1.o0 x2 x13 true h0_ h0__1 h0__2 h0__3 h1_ h2_ h3_))
    (
      cond ((x13 == x2))
        (some (R23_airriziii_s1_l1.o0 x2 x13 true h0_ h0__1 h0__2 h0__3 h1_ h2_ h3_))
        (f23_airriziii_s1_l1_j3 k x2 x13 false h0_ h0__1 h0__2 h0__3 h1_ h2_ h3_))
theorem f23_airriziii_s1_l1_j2_ok (k : Nat) (x2 x13 x14 : Int) (x27 : Bool) (h0_ : Int) (h0__1 : List T44) (h0__2 : List Int) (h0__3 : Int) (h1_ : List Int) (h2_ h3_ : List Bool) (r : R23_airriziii_s1_l1) (hF : f23_airriziii_s1_l1_j2 k x2 x13 x14 x27 h0_ h0__1 h0__2 h0__3 h1_ h2_ h3_ = some r) : blockK 1 (EX 23 k (nav B23 [2, 2, 2, 1, 2, 1, 2, 2, 2, 2, 1, 2]) ({ n := 99, F := [(2, V.p (Value.int .i64 x2)), (4, V.ptr 30000 0), (10, V.ptr 30001 0), (11, V.ptr 30002 0), (12, V.ptr 30003 0), (13, V.p (Value.int .i64 x13)), (14, V.p (Value.int .i64 x14)), (27, V.p (Value.bool x27))], M := [(30000, O.box 54 [V.p (Value.int .i64 h0_), V.sl 6 (rowsOf encT44 h0__1), V.sl 1 (rowsOf (encI .i64) h0__2), V.p (Value.int .i64 h0__3)]), (30001, O.box 60 (arrC (cI .i64) h1_)), (30002, O.box 67 (arrC cB h2_)), (30003, O.box 67 (arrC cB h3_))] } : St)) = some r.st := by
  unfold f23_airriziii_s1_l1_j2 at hF
  simp (maxSteps := 999999) (disch := first | exact D (by decide) | exact K (by kernel_rfl)) only [E, EE, ↓reduceIte, simprocAttr, xk B23 [2, 2, 2, 1, 2, 1, 2, 2, 2, 2, 1, 2] .sq rfl, xk B23 [1, 2, 2, 2, 1, 2, 1, 2, 2, 2, 2, 1, 2] .sq rfl, show (nav B23 [1, 1, 2, 2, 2, 1, 2, 1, 2, 2, 2, 2, 1, 2]) = Code.region 10 _ false from rfl, hk_23_10, hz_23_10, hs_23_10]
  replace hF := cond_some hF
  rcases hF with ⟨h1, hF⟩ | ⟨h1, hF⟩
  · cases hF
    simp (maxSteps := 999999) (disch := first | exact D (by decide) | exact K (by kernel_rfl)) only [E, EE, ↓reduceIte, simprocAttr, xk B23 [2, 1, 2, 2, 2, 1, 2, 1, 2, 2, 2, 2, 1, 2] (.cd 59) rfl, xk B23 [2, 2, 1, 2, 2, 2, 1, 2, 1, 2, 2, 2, 2, 1, 2] (.ex 0) rfl, R23_airriziii_s1_l1.st, h1]
  · simp (maxSteps := 999999) (disch := first | exact D (by decide) | exact K (by kernel_rfl)) only [E, EE, ↓reduceIte, simprocAttr, xk B23 [2, 1, 2, 2, 2, 1, 2, 1, 2, 2, 2, 2, 1, 2] (.cd 59) rfl, h1]
    replace hF := cond_some hF
    rcases hF with ⟨h2, hF⟩ | ⟨h2, hF⟩
    · cases hF
      simp (maxSteps := 999999) (disch := first | exact D (by decide) | exact K (by kernel_rfl)) only [E, EE, ↓reduceIte, simprocAttr, xk B23 [2, 2, 1, 2, 2, 2, 1, 2, 1, 2, 2, 2, 2, 1, 2] (.ex 0) rfl, R23_airriziii_s1_l1.st, h1, h2]
    · have hJ := f23_airriziii_s1_l1_j3_ok k x2 x13 false h0_ h0__1 h0__2 h0__3 h1_ h2_ h3_ _ hF
      simp (maxSteps := 999999) (disch := first | exact D (by decide) | exact K (by kernel_rfl)) only [E, EE, ↓reduceIte, simprocAttr, xk B23 [3, 2, 1, 2, 2, 2, 1, 2, 1, 2, 2, 2, 2, 1, 2] .sk rfl, h1, h2]
      try simp only [NM, EE] at hJ
      exact hJ
noncomputable def f23_airriziii_s1_l1_b (k : Nat) (x2 h0_ : Int) (h0__1 : List T44) (h0__2 : List Int) (h0__3 : Int) (h1_ : List Int) (h2_ h3_ : List Bool) : Option R23_airriziii_s1_l1 :=
  Option.bind (f23_airriziii_s1_l1_l1 k k x2 0 1 h0_ h0__1 h0__2 h0__3 h1_ h2_ h3_) fun o1 =>
    match o1 with
    | .o0 _ _ _ _ _ _ _ _ _ _ =>
      none
    | .o1 v4 v5 v6 v7 v8 v9 v10 v11 v12 v13 v14 =>
      f23_airriziii_s1_l1_j2 k v4 v5 v6 v7 v8 v9 v10 v11 v12 v13 v14
theorem f23_airriziii_s1_l1_b_ok (k : Nat) (x2 h0_ : Int) (h0__1 : List T44) (h0__2 : List Int) (h0__3 : Int) (h1_ : List Int) (h2_ h3_ : List Bool) (r : R23_airriziii_s1_l1) (hF : f23_airriziii_s1_l1_b k x2 h0_ h0__1 h0__2 h0__3 h1_ h2_ h3_ = some r) : EX 23 k (nav B23 [1, 2, 1, 2, 2, 2, 2, 1, 2]) ({ n := 99, F := [(2, V.p (Value.int .i64 x2)), (4, V.ptr 30000 0), (10, V.ptr 30001 0), (11, V.ptr 30002 0), (12, V.ptr 30003 0)], M := [(30000, O.box 54 [V.p (Value.int .i64 h0_), V.sl 6 (rowsOf encT44 h0__1), V.sl 1 (rowsOf (encI .i64) h0__2), V.p (Value.int .i64 h0__3)]), (30001, O.box 60 (arrC (cI .i64) h1_)), (30002, O.box 67 (arrC cB h2_)), (30003, O.box 67 (arrC cB h3_))] } : St) = some r.st := by
  unfold f23_airriziii_s1_l1_b at hF
  replace hF := Option.bind_eq_some_iff.1 hF
  obtain ⟨o1, h2, hF⟩ := hF
  have hc3 := f23_airriziii_s1_l1_l1_ok k k x2 0 1 h0_ h0__1 h0__2 h0__3 h1_ h2_ h3_ _ h2
  simp (maxSteps := 999999) (disch := first | exact D (by decide) | exact K (by kernel_rfl)) only [E, EE, ↓reduceIte, simprocAttr, xk B23 [1, 2, 1, 2, 2, 2, 2, 1, 2] (.bk 1) rfl, xk B23 [2, 1, 2, 1, 2, 2, 2, 2, 1, 2] .sq rfl, show (nav B23 [1, 2, 1, 2, 1, 2, 2, 2, 2, 1, 2]) = Code.region 4 _ false from rfl, hk_23_4, hz_23_4, hs_23_4, xk B23 [2, 2, 1, 2, 1, 2, 2, 2, 2, 1, 2] .sq rfl, xk B23 [1, 2, 2, 1, 2, 1, 2, 2, 2, 2, 1, 2] .sq rfl, show (nav B23 [1, 1, 2, 2, 1, 2, 1, 2, 2, 2, 2, 1, 2]) = Code.region 5 _ false from rfl, hk_23_5, hz_23_5, hs_23_5, xk B23 [2, 1, 2, 2, 1, 2, 1, 2, 2, 2, 2, 1, 2] (.bk 2) rfl, xk B23 [2, 2, 1, 2, 2, 1, 2, 1, 2, 2, 2, 2, 1, 2] .lp rfl, hh_23_6, hc_23_6]
  (try simp only [NM, EE] at hc3)
  rw [hc3 _ (by simp (maxSteps := 999999) (disch := first | exact D (by decide) | exact K (by kernel_rfl)) only [E, EE, ↓reduceIte, simprocAttr, hh_23_6, hc_23_6])]
  clear hc3
  cases o1 with
  | o0 _ _ _ _ _ _ _ _ _ _ =>
    (try dsimp only at hF)
    cases hF
  | o1 v4 v5 v6 v7 v8 v9 v10 v11 v12 v13 v14 =>
    (try dsimp only at hF)
    have hJ := f23_airriziii_s1_l1_j2_ok k v4 v5 v6 v7 v8 v9 v10 v11 v12 v13 v14 _ hF
    simp (maxSteps := 999999) (disch := first | exact D (by decide) | exact K (by kernel_rfl)) only [E, EE, ↓reduceIte, simprocAttr, R23_airriziii_s1_l1_l1.st]
    try simp only [NM, EE] at hJ
    exact hJ
noncomputable def f23_airriziii_s1_l1 (k : Nat) : Nat → Int → Int → (List T44) → (List Int) → Int → (List Int) → (List Bool) → (List Bool) → Option R23_airriziii_s1_l1
  | 0, _, _, _, _, _, _, _, _ => none
  | n + 1, x2, h0_, h0__1, h0__2, h0__3, h1_, h2_, h3_ => Option.bind (f23_airriziii_s1_l1_b k x2 h0_ h0__1 h0__2 h0__3 h1_ h2_ h3_) fun o =>
    match o with
    | .o0 y y_1 y_2 y_3 y_4 y_5 y_6 y_7 y_8 y_9 => some (.o0 y y_1 y_2 y_3 y_4 y_5 y_6 y_7 y_8 y_9)
    | .o1 y y_1 y_2 y_3 y_4 y_5 y_6 y_7 => f23_airriziii_s1_l1 k n y y_1 y_2 y_3 y_4 y_5 y_6 y_7
theorem f23_airriziii_s1_l1_ok (k n : Nat) : ∀ (x2 h0_ : Int) (h0__1 : List T44) (h0__2 : List Int) (h0__3 : Int) (h1_ : List Int) (h2_ h3_ : List Bool) (r : R23_airriziii_s1_l1) (hF : f23_airriziii_s1_l1 k n x2 h0_ h0__1 h0__2 h0__3 h1_ h2_ h3_ = some r) (σ : St) (hσ : headR (hints.head 23 4) (hints.canon 23 4) σ = some ({ n := 99, F := [(2, V.p (Value.int .i64 x2)), (4, V.ptr 30000 0), (10, V.ptr 30001 0), (11, V.ptr 30002 0), (12, V.ptr 30003 0)], M := [(30000, O.box 54 [V.p (Value.int .i64 h0_), V.sl 6 (rowsOf encT44 h0__1), V.sl 1 (rowsOf (encI .i64) h0__2), V.p (Value.int .i64 h0__3)]), (30001, O.box 60 (arrC (cI .i64) h1_)), (30002, O.box 67 (arrC cB h2_)), (30003, O.box 67 (arrC cB h3_))] } : St)), LP 23 k (nav B23 [1, 2, 1, 2, 2, 2, 2, 1, 2]) n σ = some r.st := by
  induction n with
  | zero => intro x2 h0_ h0__1 h0__2 h0__3 h1_ h2_ h3_ r hF; cases hF
  | succ n ih =>
    intro x2 h0_ h0__1 h0__2 h0__3 h1_ h2_ h3_ r hF σ hσ
    rw [f23_airriziii_s1_l1] at hF
    obtain ⟨o, h, hF⟩ := Option.bind_eq_some_iff.1 hF
    have hB := f23_airriziii_s1_l1_b_ok k x2 h0_ h0__1 h0__2 h0__3 h1_ h2_ h3_ o h
    unfold LP at ih ⊢
    unfold EX at hB
    rw [loopK_succ, show firstReg (nav B23 [1, 2, 1, 2, 2, 2, 2, 1, 2]) = 4 from rfl, hσ, headK_some, hB]
    cases o with
    | o0 y y_1 y_2 y_3 y_4 y_5 y_6 y_7 y_8 y_9 => cases hF; rfl
    | o1 y y_1 y_2 y_3 y_4 y_5 y_6 y_7 =>
      refine ih y y_1 y_2 y_3 y_4 y_5 y_6 y_7 r hF _ ?_
      simp (maxSteps := 999999) (disch := first | exact D (by decide) | exact K (by kernel_rfl)) only [E, EE, ↓reduceIte, simprocAttr, hh_23_4, hc_23_4]
inductive R23_airriziii_s1 where
  | o0 (y : Int) (y_1 : Bool)
noncomputable def R23_airriziii_s1.st : R23_airriziii_s1 → Out × St
  | .o0 y y_1 => (.ret, ({ n := 99, F := [(8, V.p (Value.int .i64 y)), (9, V.p (Value.bool y_1))], M := [] } : St))
noncomputable def f23_airriziii_s1_j2 (k : Nat) (x2 x13 : Int) (x59 : Bool) (h0_ : Int) (h0__1 : List T44) (h0__2 : List Int) (h0__3 : Int) (h1_ : List Int) (h2_ h3_ : List Bool) : Option R23_airriziii_s1 :=
  ifE ((0 : Int) ≤ x2) (
    ifE (x2 < 7) (
      Option.bind (List.head? (List.drop (Int.toNat x2) h1_)) fun v3 =>
        Option.bind (List.head? (List.drop (Int.toNat x2) h2_)) fun v5 =>
          some (R23_airriziii_s1.o0 v3 v5)))
theorem f23_airriziii_s1_j2_ok (k : Nat) (x2 x13 : Int) (x59 : Bool) (h0_ : Int) (h0__1 : List T44) (h0__2 : List Int) (h0__3 : Int) (h1_ : List Int) (h2_ h3_ : List Bool) (r : R23_airriziii_s1) (hF : f23_airriziii_s1_j2 k x2 x13 x59 h0_ h0__1 h0__2 h0__3 h1_ h2_ h3_ = some r) : EX 23 k (nav B23 [2, 2, 2, 2, 2, 1, 2]) ({ n := 99, F := [(2, V.p (Value.int .i64 x2)), (4, V.ptr 30000 0), (10, V.ptr 30001 0), (11, V.ptr 30002 0), (12, V.ptr 30003 0), (13, V.p (Value.int .i64 x13)), (59, V.p (Value.bool x59))], M := [(30000, O.box 54 [V.p (Value.int .i64 h0_), V.sl 6 (rowsOf encT44 h0__1), V.sl 1 (rowsOf (encI .i64) h0__2), V.p (Value.int .i64 h0__3)]), (30001, O.box 60 (arrC (cI .i64) h1_)), (30002, O.box 67 (arrC cB h2_)), (30003, O.box 67 (arrC cB h3_))] } : St) = some r.st := by
  unfold f23_airriziii_s1_j2 at hF
  replace hF := ifE_some.1 hF
  obtain ⟨h1, hF⟩ := hF
  replace hF := ifE_some.1 hF
  obtain ⟨h2, hF⟩ := hF
  replace hF := Option.bind_eq_some_iff.1 hF
  obtain ⟨v3, h4, hF⟩ := hF
  replace hF := Option.bind_eq_some_iff.1 hF
  obtain ⟨v5, h6, hF⟩ := hF
  cases hF
  simp (maxSteps := 999999) (disch := first | exact D (by decide) | exact K (by kernel_rfl)) only [E, EE, ↓reduceIte, simprocAttr, xk B23 [2, 2, 2, 2, 2, 1, 2] .sq rfl, show (nav B23 [1, 2, 2, 2, 2, 2, 1, 2]) = Code.region 18 _ true from rfl, hk_23_18, hz_23_18, hs_23_18, indexAddrV, u_60, i_60, is_60, ib_60, iz_60, u_3, i_3, is_3, ib_3, iz_3, u_67, i_67, is_67, ib_67, iz_67, u_4, i_4, is_4, ib_4, iz_4, xk B23 [2, 2, 2, 2, 2, 2, 1, 2] .rt rfl, R23_airriziii_s1.st, h1, h2, h4, h6]
noncomputable def f23_airriziii_s1_b (k : Nat) (x1 x2 x3 m4 : Int) (m4_1 : List T44) (m4_2 : List Int) (m4_3 : Int) : Option R23_airriziii_s1 :=
  ifE ((0 : Int) ≤ x1) (
    ifE (x1 < 7) (
      ifE (((Int.toNat x1) + 1) ≤ 7) (
        Option.bind (f23_airriziii_s1_l1 k k x2 m4 m4_1 m4_2 m4_3 (((List.take (Int.toNat x1) (List.replicate 7 (0 : Int))) ++ (x3 :: (List.drop ((Int.toNat x1) + 1) (List.replicate 7 (0 : Int)))))) (((List.take (Int.toNat x1) (List.replicate 7 (false : Bool))) ++ (true :: (List.drop ((Int.toNat x1) + 1) (List.replicate 7 (false : Bool)))))) (List.replicate 7 (false : Bool))) fun o7 =>
          match o7 with
          | .o0 v10 v11 v12 v13 v14 v15 v16 v17 v18 v19 =>
            f23_airriziii_s1_j2 k v10 v11 v12 v13 v14 v15 v16 v17 v18 v19
          | .o1 _ _ _ _ _ _ _ _ =>
            none)))
theorem f23_airriziii_s1_b_ok (k : Nat) (x1 x2 x3 m4 : Int) (m4_1 : List T44) (m4_2 : List Int) (m4_3 : Int) (r : R23_airriziii_s1) (hF : f23_airriziii_s1_b k x1 x2 x3 m4 m4_1 m4_2 m4_3 = some r) : EX 23 k (nav B23 [1, 2]) ({ n := 99, F := [(1, V.p (Value.int .i64 x1)), (2, V.p (Value.int .i64 x2)), (3, V.p (Value.int .i64 x3)), (4, V.ptr 4 0)], M := [(4, O.box 54 [V.p (Value.int .i64 m4), V.sl 6 (rowsOf encT44 m4_1), V.sl 1 (rowsOf (encI .i64) m4_2), V.p (Value.int .i64 m4_3)])] } : St) = some r.st := by
  unfold f23_airriziii_s1_b at hF
  have q1 : [V.p (Value.int .i64 0), V.p (Value.int .i64 0), V.p (Value.int .i64 0), V.p (Value.int .i64 0), V.p (Value.int .i64 0), V.p (Value.int .i64 0), V.p (Value.int .i64 0)] = arrC (cI .i64) (List.replicate 7 (0 : Int)) := rfl
  have q2 : [V.p (Value.bool false), V.p (Value.bool false), V.p (Value.bool false), V.p (Value.bool false), V.p (Value.bool false), V.p (Value.bool false), V.p (Value.bool false)] = arrC cB (List.replicate 7 (false : Bool)) := rfl
  have q3 : [V.p (Value.bool false), V.p (Value.bool false), V.p (Value.bool false), V.p (Value.bool false), V.p (Value.bool false), V.p (Value.bool false), V.p (Value.bool false)] = arrC cB (List.replicate 7 (false : Bool)) := rfl
  replace hF := ifE_some.1 hF
  obtain ⟨h4, hF⟩ := hF
  replace hF := ifE_some.1 hF
  obtain ⟨h5, hF⟩ := hF
  replace hF := ifE_some.1 hF
  obtain ⟨h6, hF⟩ := hF
  replace hF := Option.bind_eq_some_iff.1 hF
  obtain ⟨o7, h8, hF⟩ := hF
  have hc9 := f23_airriziii_s1_l1_ok k k x2 m4 m4_1 m4_2 m4_3 (((List.take (Int.toNat x1) (List.replicate 7 (0 : Int))) ++ (x3 :: (List.drop ((Int.toNat x1) + 1) (List.replicate 7 (0 : Int)))))) (((List.take (Int.toNat x1) (List.replicate 7 (false : Bool))) ++ (true :: (List.drop ((Int.toNat x1) + 1) (List.replicate 7 (false : Bool)))))) (List.replicate 7 (false : Bool)) _ h8
  simp (maxSteps := 999999) (disch := first | exact D (by decide) | exact K (by kernel_rfl)) only [E, EE, ↓reduceIte, simprocAttr, xk B23 [1, 2] .sq rfl, show (nav B23 [1, 1, 2]) = Code.region 1 _ false from rfl, hk_23_1, hz_23_1, hs_23_1, u_60, i_60, is_60, ib_60, iz_60, xk B23 [2, 1, 2] .sq rfl, show (nav B23 [1, 2, 1, 2]) = Code.region 2 _ false from rfl, hk_23_2, hz_23_2, hs_23_2, u_67, i_67, is_67, ib_67, iz_67, xk B23 [2, 2, 1, 2] .sq rfl, show (nav B23 [1, 2, 2, 1, 2]) = Code.region 3 _ false from rfl, hk_23_3, hz_23_3, hs_23_3, indexAddrV, u_3, i_3, is_3, ib_3, iz_3, u_4, i_4, is_4, ib_4, iz_4, xk B23 [2, 2, 2, 1, 2] .sq rfl, xk B23 [1, 2, 2, 2, 1, 2] (.lb 0) rfl, xk B23 [2, 2, 2, 2, 1, 2] .sq rfl, xk B23 [1, 2, 2, 2, 2, 1, 2] (.bk 0) rfl, xk B23 [2, 1, 2, 2, 2, 2, 1, 2] .lp rfl, hh_23_4, hc_23_4, q1, q2, q3, h4, h5, h6]
  (try simp only [NM, EE] at hc9)
  rw [hc9 _ (by simp (maxSteps := 999999) (disch := first | exact D (by decide) | exact K (by kernel_rfl)) only [E, EE, ↓reduceIte, simprocAttr, hh_23_4, hc_23_4, q1, q2, q3, h4, h5, h6])]
  clear hc9
  cases o7 with
  | o0 v10 v11 v12 v13 v14 v15 v16 v17 v18 v19 =>
    (try dsimp only at hF)
    have hJ := f23_airriziii_s1_j2_ok k v10 v11 v12 v13 v14 v15 v16 v17 v18 v19 _ hF
    simp (maxSteps := 999999) (disch := first | exact D (by decide) | exact K (by kernel_rfl)) only [E, EE, ↓reduceIte, simprocAttr, R23_airriziii_s1_l1.st, q1, q2, q3, h4, h5, h6]
    try simp only [NM, EE] at hJ
    exact hJ
  | o1 _ _ _ _ _ _ _ _ =>
    (try dsimp only at hF)
    cases hF
noncomputable def f23_airriziii_s1 (k : Nat) (x1 x2 x3 m4 : Int) (m4_1 : List T44) (m4_2 : List Int) (m4_3 : Int) : Option R23_airriziii_s1 := Option.bind (f23_airriziii_s1_b k x1 x2 x3 m4 m4_1 m4_2 m4_3) fun o =>
  match o with
  | .o0 y y_1 => some (.o0 y y_1)
theorem f23_airriziii_s1_ok (k : Nat) (x1 x2 x3 m4 : Int) (m4_1 : List T44) (m4_2 : List Int) (m4_3 : Int) (r : R23_airriziii_s1) (hF : f23_airriziii_s1 k x1 x2 x3 m4 m4_1 m4_2 m4_3 = some r) : EX 23 k (nav B23 [2]) ({ n := 99, F := [(1, V.p (Value.int .i64 x1)), (2, V.p (Value.int .i64 x2)), (3, V.p (Value.int .i64 x3)), (4, V.ptr 4 0)], M := [(4, O.box 54 [V.p (Value.int .i64 m4), V.sl 6 (rowsOf encT44 m4_1), V.sl 1 (rowsOf (encI .i64) m4_2), V.p (Value.int .i64 m4_3)])] } : St) = some r.st := by
  unfold f23_airriziii_s1 at hF
  obtain ⟨o, h, hF⟩ := Option.bind_eq_some_iff.1 hF
  unfold EX
  rw [show (nav B23 [2]) = Code.scope (nav B23 [1, 2]) from rfl, ev_scope, (show exec _ _ _ _ _ _ _ _ = _ from f23_airriziii_s1_b_ok k x1 x2 x3 m4 m4_1 m4_2 m4_3 o h)]
  cases o with
  | o0 y y_1 => cases hF; simp only [R23_airriziii_s1.st, jumpsK_norm, jumpsK_ret, jumpsK_exit]
noncomputable def f23_airriziii_e (k : Nat) (a0 : Int) (a0_1 : List T44) (a0_2 : List Int) (a0_3 a1 a2 a3 : Int) : Option R23_airriziii :=
  Option.bind (f23_airriziii_s1 k a1 a2 a3 a0 a0_1 a0_2 a0_3) fun o1 =>
    match o1 with
    | .o0 v4 v5 =>
      some (R23_airriziii.o0 v4 v5)
theorem f23_airriziii_e_ok (k : Nat) (a0 : Int) (a0_1 : List T44) (a0_2 : List Int) (a0_3 a1 a2 a3 : Int) (r : R23_airriziii) (hF : f23_airriziii_e k a0 a0_1 a0_2 a0_3 a1 a2 a3 = some r) : finK Try.prog Try.f23 0 (EX 23 k (nav B23 []) ({ n := 99, F := [(0, V.agg [V.p (Value.int .i64 a0), V.sl 6 (rowsOf encT44 a0_1), V.sl 1 (rowsOf (encI .i64) a0_2), V.p (Value.int .i64 a0_3)]), (1, V.p (Value.int .i64 a1)), (2, V.p (Value.int .i64 a2)), (3, V.p (Value.int .i64 a3))], M := [] } : St)) = some r.st := by
  unfold f23_airriziii_e at hF
  simp (maxSteps := 999999) (disch := first | exact D (by decide) | exact K (by kernel_rfl)) only [E, EE, ↓reduceIte, simprocAttr, xk B23 [] .sq rfl, show (nav B23 [1]) = Code.region 0 _ false from rfl, hk_23_0, hz_23_0, hs_23_0]
  replace hF := Option.bind_eq_some_iff.1 hF
  obtain ⟨o1, h2, hF⟩ := hF
  have hc3 := f23_airriziii_s1_ok k a1 a2 a3 a0 a0_1 a0_2 a0_3 _ h2
  cases o1 with
  | o0 v4 v5 =>
    (try dsimp only at hF)
    (try simp only [NM, EE, R23_airriziii_s1.st] at hc3)
    cases hF
    simp (maxSteps := 999999) (disch := first | exact D (by decide) | exact K (by kernel_rfl)) only [E, EE, ↓reduceIte, simprocAttr, R23_airriziii_s1.st, finK_norm, finK_ret, fin23, R23_airriziii.st, hc3]
noncomputable def f23_airriziii (k : Nat) (a0 : Int) (a0_1 : List T44) (a0_2 : List Int) (a0_3 a1 a2 a3 : Int) : Option R23_airriziii := match k with | 0 => none | k + 1 => f23_airriziii_e k a0 a0_1 a0_2 a0_3 a1 a2 a3
theorem f23_airriziii_ok (k : Nat) (a0 : Int) (a0_1 : List T44) (a0_2 : List Int) (a0_3 a1 a2 a3 : Int) (r : R23_airriziii) (hF : f23_airriziii k a0 a0_1 a0_2 a0_3 a1 a2 a3 = some r) : CV k 23 [V.agg [V.p (Value.int .i64 a0), V.sl 6 (rowsOf encT44 a0_1), V.sl 1 (rowsOf (encI .i64) a0_2), V.p (Value.int .i64 a0_3)], V.p (Value.int .i64 a1), V.p (Value.int .i64 a2), V.p (Value.int .i64 a3)] [] = some r.st := by
  cases k with
  | zero => cases hF
  | succ k =>
    unfold CV
    rw [ev_call (F := Try.f23) (c := (nav B23 [])) rfl Try.func23 rfl rfl rfl rfl]
    exact f23_airriziii_e_ok k a0 a0_1 a0_2 a0_3 a1 a2 a3 r hF
-- f999999999_iiy_lpppppbirbibirribibi: f8 heliograph/plan.Route
inductive R999999999_iiy_lpppppbirbibirribibi where
  | o0 (y : Int) (y_1 : List T44) (y_2 y_3 : Int) (y_4 : List T44) (y_5 : List Int) (y_6 y_7 y_8 : Int)
noncomputable def R999999999_iiy_lpppppbirbibirribibi.st : R999999999_iiy_lpppppbirbibirribibi → V × List O × List O
  | .o0 y y_1 y_2 y_3 y_4 y_5 y_6 y_7 y_8 => (V.p (Value.bool true), [O.lp 8 105 [(6, V.ptr 1000001 0), (9, V.ptr 1000002 0), (16, V.ptr 1000003 0), (17, V.ptr 1000004 0), (18, V.ptr 1000005 0)] [74, 75] (nav B8 [3, 2, 2, 1, 2, 2, 2, 2, 2]) (nav B8 [4, 2, 2, 1, 2, 2, 2, 2, 2]) 0 .norm, O.box 24 [V.p (Value.int .i64 y), V.sl 6 (rowsOf encT44 y_1)], O.box 3 [V.p (Value.int .i64 y_2)], O.box 54 [V.p (Value.int .i64 y_3), V.sl 6 (rowsOf encT44 y_4), V.sl 1 (rowsOf (encI .i64) y_5), V.p (Value.int .i64 y_6)], O.box 3 [V.p (Value.int .i64 y_7)], O.box 3 [V.p (Value.int .i64 y_8)]], [])
noncomputable def f999999999_iiy_lpppppbirbibirribibi_e (k : Nat) (a0 a1 e1 : Int) (e1_1 : List T44) (e2 e3 : Int) (e3_1 : List T44) (e3_2 : List Int) (e3_3 e4 e5 : Int) : Option R999999999_iiy_lpppppbirbibirribibi :=
  ifE ((0 : Int) ≤ a0) (
    Option.bind (e1_1[(Int.toNat a0)]?) fun v2 =>
      Option.bind (f23_airriziii k e3 e3_1 e3_2 e3_3 v2.To e2 a1) fun o4 =>
        match o4 with
        | .o0 v7 v8 =>
          cond (v8)
            (
              cond ((decide (e4 < 0)))
                (some (R999999999_iiy_lpppppbirbibirribibi.o0 e1 e1_1 e2 e3 e3_1 e3_2 e3_3 a0 v7))
                (
                  cond ((decide (v7 < e5)))
                    (some (R999999999_iiy_lpppppbirbibirribibi.o0 e1 e1_1 e2 e3 e3_1 e3_2 e3_3 a0 v7))
                    (some (R999999999_iiy_lpppppbirbibirribibi.o0 e1 e1_1 e2 e3 e3_1 e3_2 e3_3 e4 e5))))
            (some (R999999999_iiy_lpppppbirbibirribibi.o0 e1 e1_1 e2 e3 e3_1 e3_2 e3_3 e4 e5)))
theorem f999999999_iiy_lpppppbirbibirribibi_e_ok (k : Nat) (a0 a1 e1 : Int) (e1_1 : List T44) (e2 e3 : Int) (e3_1 : List T44) (e3_2 : List Int) (e3_3 e4 e5 : Int) (r : R999999999_iiy_lpppppbirbibirribibi) (hF : f999999999_iiy_lpppppbirbibirribibi_e k a0 a1 e1 e1_1 e2 e3 e3_1 e3_2 e3_3 e4 e5 = some r) : roundB 1000000 6 (roundA Try.prog (callV Try.prog ctx hints k) hints 8 k 1000000 (nav B8 [4, 2, 2, 1, 2, 2, 2, 2, 2]) (EX 8 k (nav B8 [3, 2, 2, 1, 2, 2, 2, 2, 2]) ({ n := 105, F := [(75, V.p (Value.int .i64 a1)), (74, V.p (Value.int .i64 a0)), (6, V.ptr 1000001 0), (9, V.ptr 1000002 0), (16, V.ptr 1000003 0), (17, V.ptr 1000004 0), (18, V.ptr 1000005 0)], M := [(1000000, O.lp 8 105 [(6, V.ptr 1000001 0), (9, V.ptr 1000002 0), (16, V.ptr 1000003 0), (17, V.ptr 1000004 0), (18, V.ptr 1000005 0)] [74, 75] (nav B8 [3, 2, 2, 1, 2, 2, 2, 2, 2]) (nav B8 [4, 2, 2, 1, 2, 2, 2, 2, 2]) 0 .norm), (1000001, O.box 24 [V.p (Value.int .i64 e1), V.sl 6 (rowsOf encT44 e1_1)]), (1000002, O.box 3 [V.p (Value.int .i64 e2)]), (1000003, O.box 54 [V.p (Value.int .i64 e3), V.sl 6 (rowsOf encT44 e3_1), V.sl 1 (rowsOf (encI .i64) e3_2), V.p (Value.int .i64 e3_3)]), (1000004, O.box 3 [V.p (Value.int .i64 e4)]), (1000005, O.box 3 [V.p (Value.int .i64 e5)])] } : St))) = some r.st := by
  unfold f999999999_iiy_lpppppbirbibirribibi_e at hF
  replace hF := ifE_some.1 hF
  obtain ⟨h1, hF⟩ := hF
  replace hF := Option.bind_eq_some_iff.1 hF
  obtain ⟨v2, h3, hF⟩ := hF
  replace hF := Option.bind_eq_some_iff.1 hF
  obtain ⟨o4, h5, hF⟩ := hF
  have hc6 := f23_airriziii_ok k e3 e3_1 e3_2 e3_3 v2.To e2 a1 _ h5
  cases o4 with
  | o0 v7 v8 =>
    (try dsimp only at hF)
    (try simp only [NM, EE, R23_airriziii.st] at hc6)
    simp (maxSteps := 999999) (disch := first | exact D (by decide) | exact K (by kernel_rfl)) only [E, EE, ↓reduceIte, simprocAttr, xk B8 [3, 2, 2, 1, 2, 2, 2, 2, 2] .sq rfl, show (nav B8 [1, 3, 2, 2, 1, 2, 2, 2, 2, 2]) = Code.region 9 _ false from rfl, hk_8_9, hz_8_9, hs_8_9, show (nav B8 [2, 3, 2, 2, 1, 2, 2, 2, 2, 2]) = Code.region 10 _ false from rfl, hk_8_10, hz_8_10, hs_8_10, xk B8 [4, 2, 2, 1, 2, 2, 2, 2, 2] (.bk 1) rfl, xk B8 [2, 4, 2, 2, 1, 2, 2, 2, 2, 2] .sq rfl, show (nav B8 [1, 2, 4, 2, 2, 1, 2, 2, 2, 2, 2]) = Code.region 11 _ true from rfl, hk_8_11, hz_8_11, hs_8_11, u_54, i_54, is_54, ib_54, iz_54, fieldAddrV, u_24, i_24, is_24, ib_24, iz_24, u_22, i_22, is_22, ib_22, iz_22, indexAddrV, u_44, i_44, is_44, ib_44, iz_44, encT44_eq, u_3, i_3, is_3, ib_3, iz_3, callStep, CL, gv, List.contains, xk B8 [2, 2, 4, 2, 2, 1, 2, 2, 2, 2, 2] .sq rfl, show (nav B8 [1, 2, 2, 4, 2, 2, 1, 2, 2, 2, 2, 2]) = Code.region 12 _ false from rfl, hk_8_12, hz_8_12, hs_8_12, h1, h3, hc6]
    replace hF := cond_some hF
    rcases hF with ⟨h9, hF⟩ | ⟨h9, hF⟩
    · simp (maxSteps := 999999) (disch := first | exact D (by decide) | exact K (by kernel_rfl)) only [E, EE, ↓reduceIte, simprocAttr, u_3, i_3, is_3, ib_3, iz_3, h1, h3, hc6, h9]
      replace hF := cond_some hF
      rcases hF with ⟨h10, hF⟩ | ⟨h10, hF⟩
      · cases hF
        simp (maxSteps := 999999) (disch := first | exact D (by decide) | exact K (by kernel_rfl)) only [E, EE, ↓reduceIte, simprocAttr, xk B8 [2, 2, 2, 4, 2, 2, 1, 2, 2, 2, 2, 2] (.cd 98) rfl, show (nav B8 [2, 2, 2, 2, 4, 2, 2, 1, 2, 2, 2, 2, 2]) = Code.region 13 _ false from rfl, hk_8_13, hz_8_13, hs_8_13, u_3, i_3, is_3, ib_3, iz_3, R999999999_iiy_lpppppbirbibirribibi.st, h1, h3, hc6, h9, h10]
      · simp (maxSteps := 999999) (disch := first | exact D (by decide) | exact K (by kernel_rfl)) only [E, EE, ↓reduceIte, simprocAttr, u_3, i_3, is_3, ib_3, iz_3, xk B8 [2, 2, 2, 4, 2, 2, 1, 2, 2, 2, 2, 2] (.cd 98) rfl, h1, h3, hc6, h9, h10]
        replace hF := cond_some hF
        rcases hF with ⟨h11, hF⟩ | ⟨h11, hF⟩
        · cases hF
          simp (maxSteps := 999999) (disch := first | exact D (by decide) | exact K (by kernel_rfl)) only [E, EE, ↓reduceIte, simprocAttr, show (nav B8 [2, 2, 2, 2, 4, 2, 2, 1, 2, 2, 2, 2, 2]) = Code.region 13 _ false from rfl, hk_8_13, hz_8_13, hs_8_13, u_3, i_3, is_3, ib_3, iz_3, R999999999_iiy_lpppppbirbibirribibi.st, h1, h3, hc6, h9, h10, h11]
        · cases hF
          simp (maxSteps := 999999) (disch := first | exact D (by decide) | exact K (by kernel_rfl)) only [E, EE, ↓reduceIte, simprocAttr, xk B8 [3, 2, 2, 2, 4, 2, 2, 1, 2, 2, 2, 2, 2] .sk rfl, R999999999_iiy_lpppppbirbibirribibi.st, h1, h3, hc6, h9, h10, h11]
    · cases hF
      simp (maxSteps := 999999) (disch := first | exact D (by decide) | exact K (by kernel_rfl)) only [E, EE, ↓reduceIte, simprocAttr, xk B8 [2, 2, 2, 4, 2, 2, 1, 2, 2, 2, 2, 2] (.cd 98) rfl, xk B8 [3, 2, 2, 2, 4, 2, 2, 1, 2, 2, 2, 2, 2] .sk rfl, R999999999_iiy_lpppppbirbibirribibi.st, h1, h3, hc6, h9]
noncomputable def f999999999_iiy_lpppppbirbibirribibi (k : Nat) (a0 a1 e1 : Int) (e1_1 : List T44) (e2 e3 : Int) (e3_1 : List T44) (e3_2 : List Int) (e3_3 e4 e5 : Int) : Option R999999999_iiy_lpppppbirbibirribibi := match k with | 0 => none | k + 1 => f999999999_iiy_lpppppbirbibirribibi_e k a0 a1 e1 e1_1 e2 e3 e3_1 e3_2 e3_3 e4 e5
theorem f999999999_iiy_lpppppbirbibirribibi_ok (k : Nat) (a0 a1 e1 : Int) (e1_1 : List T44) (e2 e3 : Int) (e3_1 : List T44) (e3_2 : List Int) (e3_3 e4 e5 : Int) (r : R999999999_iiy_lpppppbirbibirribibi) (hF : f999999999_iiy_lpppppbirbibirribibi k a0 a1 e1 e1_1 e2 e3 e3_1 e3_2 e3_3 e4 e5 = some r) : CV k 999999999 [V.p (Value.int .i64 a0), V.p (Value.int .i64 a1), V.yld 1000000] [O.lp 8 105 [(6, V.ptr 1000001 0), (9, V.ptr 1000002 0), (16, V.ptr 1000003 0), (17, V.ptr 1000004 0), (18, V.ptr 1000005 0)] [74, 75] (nav B8 [3, 2, 2, 1, 2, 2, 2, 2, 2]) (nav B8 [4, 2, 2, 1, 2, 2, 2, 2, 2]) 0 .norm, O.box 24 [V.p (Value.int .i64 e1), V.sl 6 (rowsOf encT44 e1_1)], O.box 3 [V.p (Value.int .i64 e2)], O.box 54 [V.p (Value.int .i64 e3), V.sl 6 (rowsOf encT44 e3_1), V.sl 1 (rowsOf (encI .i64) e3_2), V.p (Value.int .i64 e3_3)], O.box 3 [V.p (Value.int .i64 e4)], O.box 3 [V.p (Value.int .i64 e5)]] = some r.st := by
  cases k with
  | zero => cases hF
  | succ k =>
    unfold CV
    rw [ev_round (id := 1000000) (fn := 8) (n := 105) (ps := [74, 75]) (a := (nav B8 [3, 2, 2, 1, 2, 2, 2, 2, 2])) (b := (nav B8 [4, 2, 2, 1, 2, 2, 2, 2, 2])) rfl rfl rfl rfl rfl (by kernel_rfl) (by kernel_rfl)]
    exact f999999999_iiy_lpppppbirbibirribibi_e_ok k a0 a1 e1 e1_1 e2 e3 e3_1 e3_2 e3_3 e4 e5 r hF
end Go.Proofs.YtmogplhglcodjaaV
