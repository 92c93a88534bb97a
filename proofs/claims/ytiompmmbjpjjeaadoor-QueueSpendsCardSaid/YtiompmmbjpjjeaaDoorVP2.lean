/- What the program's functions answer: plain functions, and that the interpreter answers what they do. Written by a program of this session, out of the translation. -/
import Derived.Test.YtiompmmbjpjjeaaDoorVP1
namespace Go.Proofs.YtiompmmbjpjjeaaDoorV
open Go
set_option linter.unusedVariables false
set_option linter.unusedSimpArgs false
set_option maxRecDepth 8000
set_option maxHeartbeats 4000000
-- f34_rf63: f34 slices.ContainsFunc[[]int,int]
inductive R34_rf63 where
  | o0 (y : Bool)
noncomputable def R34_rf63.st : R34_rf63 → V × List O × List O
  | .o0 y => (V.p (Value.bool y), [], [])
noncomputable def f34_rf63_e (k : Nat) (a0 : List Int) : Option R34_rf63 :=
  Option.bind (f54_rf63 k a0) fun o1 =>
    match o1 with
    | .o0 v4 =>
      some (R34_rf63.o0 (decide (v4 ≥ 0)))
theorem f34_rf63_e_ok (k : Nat) (a0 : List Int) (r : R34_rf63) (hF : f34_rf63_e k a0 = some r) : finK Tryd.prog Tryd.f34 0 (EX 34 k (nav B34 []) ({ n := 9, F := [(0, V.sl 1 (rowsOf (encI .i64) a0)), (1, V.p (Value.func (Fn.func 63) #[] #[]))], M := [] } : St)) = some r.st := by
  unfold f34_rf63_e at hF
  replace hF := Option.bind_eq_some_iff.1 hF
  obtain ⟨o1, h2, hF⟩ := hF
  have hc3 := f54_rf63_ok k a0 _ h2
  cases o1 with
  | o0 v4 =>
    (try dsimp only at hF)
    (try simp only [NM, EE, R54_rf63.st] at hc3)
    cases hF
    simp (maxSteps := 999999) (disch := first | exact D (by decide) | exact K (by kernel_rfl)) only [E, EE, ↓reduceIte, simprocAttr, xk B34 [] .sq rfl, show (nav B34 [1]) = Code.region 0 _ false from rfl, hk_34_0, hz_34_0, hs_34_0, xk B34 [2] .sq rfl, show (nav B34 [1, 2]) = Code.region 1 _ false from rfl, hk_34_1, hz_34_1, hs_34_1, callStep, CL, gv, List.contains, xk B34 [2, 2] .rt rfl, finK_norm, finK_ret, fin34, R34_rf63.st, hc3]
noncomputable def f34_rf63 (k : Nat) (a0 : List Int) : Option R34_rf63 := match k with | 0 => none | k + 1 => f34_rf63_e k a0
theorem f34_rf63_ok (k : Nat) (a0 : List Int) (r : R34_rf63) (hF : f34_rf63 k a0 = some r) : CV k 34 [V.sl 1 (rowsOf (encI .i64) a0), V.p (Value.func (Fn.func 63) #[] #[])] [] = some r.st := by
  cases k with
  | zero => cases hF
  | succ k =>
    unfold CV
    rw [ev_call (F := Tryd.f34) (c := (nav B34 [])) rfl Tryd.func34 rfl rfl rfl rfl]
    exact f34_rf63_e_ok k a0 r hF
-- f40_airzr: f40 heliograph/queue.fits
inductive R40_airzr where
  | o0 (y : Bool)
noncomputable def R40_airzr.st : R40_airzr → V × List O × List O
  | .o0 y => (V.p (Value.bool y), [], [])
noncomputable def f40_airzr_e (k : Nat) (a0 : Int) (a0_1 : List T54) (a1 : List Int) : Option R40_airzr :=
  cond ((((List.length a1) : Int) == ((List.length a0_1) : Int)))
    (
      Option.bind (f34_rf63 k a1) fun o2 =>
        match o2 with
        | .o0 v5 =>
          some (R40_airzr.o0 (!v5)))
    (some (R40_airzr.o0 false))
theorem f40_airzr_e_ok (k : Nat) (a0 : Int) (a0_1 : List T54) (a1 : List Int) (r : R40_airzr) (hF : f40_airzr_e k a0 a0_1 a1 = some r) : finK Tryd.prog Tryd.f40 0 (EX 40 k (nav B40 []) ({ n := 16, F := [(0, V.agg [V.p (Value.int .i64 a0), V.sl 6 (rowsOf encT54 a0_1)]), (1, V.sl 1 (rowsOf (encI .i64) a1))], M := [] } : St)) = some r.st := by
  unfold f40_airzr_e at hF
  simp (maxSteps := 999999) (disch := first | exact D (by decide) | exact K (by kernel_rfl)) only [E, EE, ↓reduceIte, simprocAttr, xk B40 [] .sq rfl, show (nav B40 [1]) = Code.region 0 _ false from rfl, hk_40_0, hz_40_0, hs_40_0, xk B40 [2] .sq rfl, show (nav B40 [1, 2]) = Code.region 1 _ false from rfl, hk_40_1, hz_40_1, hs_40_1, u_25, i_25, is_25, ib_25, iz_25, fieldAddrV, u_24, i_24, is_24, ib_24, iz_24, u_22, i_22, is_22, ib_22, iz_22]
  replace hF := cond_some hF
  rcases hF with ⟨h1, hF⟩ | ⟨h1, hF⟩
  · replace hF := Option.bind_eq_some_iff.1 hF
    obtain ⟨o2, h3, hF⟩ := hF
    have hc4 := f34_rf63_ok k a1 _ h3
    cases o2 with
    | o0 v5 =>
      (try dsimp only at hF)
      (try simp only [NM, EE, R34_rf63.st] at hc4)
      cases hF
      simp (maxSteps := 999999) (disch := first | exact D (by decide) | exact K (by kernel_rfl)) only [E, EE, ↓reduceIte, simprocAttr, callStep, CL, gv, List.contains, xk B40 [2, 2] .rt rfl, finK_norm, finK_ret, fin40, R40_airzr.st, h1, hc4]
  · cases hF
    simp (maxSteps := 999999) (disch := first | exact D (by decide) | exact K (by kernel_rfl)) only [E, EE, ↓reduceIte, simprocAttr, xk B40 [2, 2] .rt rfl, finK_norm, finK_ret, fin40, R40_airzr.st, h1]
noncomputable def f40_airzr (k : Nat) (a0 : Int) (a0_1 : List T54) (a1 : List Int) : Option R40_airzr := match k with | 0 => none | k + 1 => f40_airzr_e k a0 a0_1 a1
theorem f40_airzr_ok (k : Nat) (a0 : Int) (a0_1 : List T54) (a1 : List Int) (r : R40_airzr) (hF : f40_airzr k a0 a0_1 a1 = some r) : CV k 40 [V.agg [V.p (Value.int .i64 a0), V.sl 6 (rowsOf encT54 a0_1)], V.sl 1 (rowsOf (encI .i64) a1)] [] = some r.st := by
  cases k with
  | zero => cases hF
  | succ k =>
    unfold CV
    rw [ev_call (F := Tryd.f40) (c := (nav B40 [])) rfl Tryd.func40 rfl rfl rfl rfl]
    exact f40_airzr_e_ok k a0 a0_1 a1 r hF
-- f41_iii: f41 heliograph/queue.in
inductive R41_iii where
  | o0 (y : Bool)
noncomputable def R41_iii.st : R41_iii → V × List O × List O
  | .o0 y => (V.p (Value.bool y), [], [])
noncomputable def f41_iii_e (k : Nat) (a0 a1 a2 : Int) : Option R41_iii :=
  cond ((decide (a0 ≥ a1)))
    (some (R41_iii.o0 (decide (a0 ≤ a2))))
    (some (R41_iii.o0 false))
theorem f41_iii_e_ok (k : Nat) (a0 a1 a2 : Int) (r : R41_iii) (hF : f41_iii_e k a0 a1 a2 = some r) : finK Tryd.prog Tryd.f41 0 (EX 41 k (nav B41 []) ({ n := 15, F := [(0, V.p (Value.int .i64 a0)), (1, V.p (Value.int .i64 a1)), (2, V.p (Value.int .i64 a2))], M := [] } : St)) = some r.st := by
  unfold f41_iii_e at hF
  simp (maxSteps := 999999) (disch := first | exact D (by decide) | exact K (by kernel_rfl)) only [E, EE, ↓reduceIte, simprocAttr, xk B41 [] .sq rfl, show (nav B41 [1]) = Code.region 0 _ false from rfl, hk_41_0, hz_41_0, hs_41_0, xk B41 [2] .sq rfl, show (nav B41 [1, 2]) = Code.region 1 _ false from rfl, hk_41_1, hz_41_1, hs_41_1]
  replace hF := cond_some hF
  rcases hF with ⟨h1, hF⟩ | ⟨h1, hF⟩
  · cases hF
    simp (maxSteps := 999999) (disch := first | exact D (by decide) | exact K (by kernel_rfl)) only [E, EE, ↓reduceIte, simprocAttr, xk B41 [2, 2] .rt rfl, finK_norm, finK_ret, fin41, R41_iii.st, h1]
  · cases hF
    simp (maxSteps := 999999) (disch := first | exact D (by decide) | exact K (by kernel_rfl)) only [E, EE, ↓reduceIte, simprocAttr, xk B41 [2, 2] .rt rfl, finK_norm, finK_ret, fin41, R41_iii.st, h1]
noncomputable def f41_iii (k : Nat) (a0 a1 a2 : Int) : Option R41_iii := match k with | 0 => none | k + 1 => f41_iii_e k a0 a1 a2
theorem f41_iii_ok (k : Nat) (a0 a1 a2 : Int) (r : R41_iii) (hF : f41_iii k a0 a1 a2 = some r) : CV k 41 [V.p (Value.int .i64 a0), V.p (Value.int .i64 a1), V.p (Value.int .i64 a2)] [] = some r.st := by
  cases k with
  | zero => cases hF
  | succ k =>
    unfold CV
    rw [ev_call (F := Tryd.f41) (c := (nav B41 [])) rfl Tryd.func41 rfl rfl rfl rfl]
    exact f41_iii_e_ok k a0 a1 a2 r hF
-- f42_r: f42 slices.Clone[[]int,int]
inductive R42_r where
  | o0 (y : List Int)
noncomputable def R42_r.st : R42_r → V × List O × List O
  | .o0 y => (V.own 2000000, [], [O.row true 1 3 (rowsOf (encI .i64) y)])
noncomputable def f42_r (k : Nat) (a0 : List Int) : Option R42_r := match k with | 0 => none | _ + 1 => ifE (a0.length * 8 ≤ roomy) (some (.o0 a0))
theorem f42_r_ok (k : Nat) (a0 : List Int) (r : R42_r) (hF : f42_r k a0 = some r) : CV k 42 [V.sl 1 (rowsOf (encI .i64) a0)] [] = some r.st := by
  cases k with
  | zero => cases hF
  | succ k =>
    obtain ⟨h, hF⟩ := ifE_some.1 hF
    cases hF
    have h' : ((rowsOf (encI .i64) a0)).length * 8 ≤ roomy := by rw [rowsOf_length]; exact h
    unfold CV
    rw [ev_ctx (show ctx 42 = some (cloneS 1 3 8) from rfl) rfl]
    simp only [cloneS, h', and_self, if_true]; rfl
-- f16_airzrii: f16 heliograph/queue.Spend
inductive R16_airzrii where
  | o0 (y : List Int) (y_1 : Int)
  | o1 (y : Int) (y_1 : List Int)
noncomputable def R16_airzrii.st : R16_airzrii → V × List O × List O
  | .o0 y y_1 => (V.tup [V.sl 1 (rowsOf (encI .i64) y), V.p (Value.int .i64 y_1)], [], [])
  | .o1 y y_1 => (V.tup [V.own 2000000, V.p (Value.int .i64 y)], [], [O.row true 1 3 (rowsOf (encI .i64) y_1)])
noncomputable def f16_airzrii_j1 (k : Nat) (x1 : List Int) (x2 x3 : Int) (x31 : Bool) : Option R16_airzrii :=
  Option.bind (f42_r k x1) fun o1 =>
    match o1 with
    | .o0 v4 =>
      ifE ((0 : Int) ≤ x2) (
        ifE (x2 < ((List.length v4) : Int)) (
          Option.bind (v4[(Int.toNat x2)]?) fun v7 =>
            some (R16_airzrii.o1 0 ((List.set v4 (Int.toNat x2) (IntKind.i64.wrap (v7 - x3)))))))
theorem f16_airzrii_j1_ok (k : Nat) (x1 : List Int) (x2 x3 : Int) (x31 : Bool) (r : R16_airzrii) (hF : f16_airzrii_j1 k x1 x2 x3 x31 = some r) : finK Tryd.prog Tryd.f16 0 (EX 16 k (nav B16 [2, 2]) ({ n := 48, F := [(1, V.sl 1 (rowsOf (encI .i64) x1)), (2, V.p (Value.int .i64 x2)), (3, V.p (Value.int .i64 x3)), (31, V.p (Value.bool x31))], M := [] } : St)) = some r.st := by
  unfold f16_airzrii_j1 at hF
  replace hF := Option.bind_eq_some_iff.1 hF
  obtain ⟨o1, h2, hF⟩ := hF
  have hc3 := f42_r_ok k x1 _ h2
  cases o1 with
  | o0 v4 =>
    (try dsimp only at hF)
    (try simp only [NM, EE, R42_r.st] at hc3)
    replace hF := ifE_some.1 hF
    obtain ⟨h5, hF⟩ := hF
    replace hF := ifE_some.1 hF
    obtain ⟨h6, hF⟩ := hF
    replace hF := Option.bind_eq_some_iff.1 hF
    obtain ⟨v7, h8, hF⟩ := hF
    have q9 : List.set (rowsOf (encI .i64) v4) (Int.toNat x2) [V.p (Value.int .i64 (IntKind.i64.wrap (v7 - x3)))] = rowsOf (encI .i64) (List.set v4 (Int.toNat x2) (IntKind.i64.wrap (v7 - x3))) := (rowsOf_set (enc := (encI .i64)) (l := v4) (i := (Int.toNat x2)) (x := (IntKind.i64.wrap (v7 - x3)))).symm
    cases hF
    simp (maxSteps := 999999) (disch := first | exact D (by decide) | exact K (by kernel_rfl)) only [E, EE, ↓reduceIte, simprocAttr, xk B16 [2, 2] .sq rfl, show (nav B16 [1, 2, 2]) = Code.region 7 _ false from rfl, hk_16_7, hz_16_7, hs_16_7, callStep, CL, gv, List.contains, xk B16 [2, 2, 2] .sq rfl, show (nav B16 [1, 2, 2, 2]) = Code.region 8 _ false from rfl, hk_16_8, hz_16_8, hs_16_8, indexAddrV, u_25, i_25, is_25, ib_25, iz_25, u_3, i_3, is_3, ib_3, iz_3, encI_eq, sm_3, xk B16 [2, 2, 2, 2] .sq rfl, show (nav B16 [1, 2, 2, 2, 2]) = Code.region 9 _ false from rfl, hk_16_9, hz_16_9, hs_16_9, xk B16 [2, 2, 2, 2, 2] .rt rfl, finK_norm, finK_ret, fin16, R16_airzrii.st, hc3, h5, h6, h8, q9]
noncomputable def f16_airzrii_e (k : Nat) (a0 : Int) (a0_1 : List T54) (a1 : List Int) (a2 a3 : Int) : Option R16_airzrii :=
  Option.bind (f33_airz k a0 a0_1) fun o1 =>
    match o1 with
    | .o0 v4 =>
      cond ((v4 != 0))
        (some (R16_airzrii.o0 [] 230))
        (
          Option.bind (f40_airzr k a0 a0_1 a1) fun o6 =>
            match o6 with
            | .o0 v9 =>
              cond ((!v9))
                (some (R16_airzrii.o0 [] 2))
                (
                  Option.bind (f41_iii k a2 0 ((IntKind.i64.wrap (((List.length a1) : Int) - (1 : Int))))) fun o11 =>
                    match o11 with
                    | .o0 v14 =>
                      cond ((!v14))
                        (some (R16_airzrii.o0 [] 2))
                        (
                          cond ((decide (a3 < 0)))
                            (some (R16_airzrii.o0 [] 2))
                            (
                              ifE ((0 : Int) ≤ a2) (
                                Option.bind (a1[(Int.toNat a2)]?) fun v18 =>
                                  cond ((decide (a3 > v18)))
                                    (some (R16_airzrii.o0 [] 6))
                                    (f16_airzrii_j1 k a1 a2 a3 false))))))
theorem f16_airzrii_e_ok (k : Nat) (a0 : Int) (a0_1 : List T54) (a1 : List Int) (a2 a3 : Int) (r : R16_airzrii) (hF : f16_airzrii_e k a0 a0_1 a1 a2 a3 = some r) : finK Tryd.prog Tryd.f16 0 (EX 16 k (nav B16 []) ({ n := 48, F := [(0, V.agg [V.p (Value.int .i64 a0), V.sl 6 (rowsOf encT54 a0_1)]), (1, V.sl 1 (rowsOf (encI .i64) a1)), (2, V.p (Value.int .i64 a2)), (3, V.p (Value.int .i64 a3))], M := [] } : St)) = some r.st := by
  unfold f16_airzrii_e at hF
  replace hF := Option.bind_eq_some_iff.1 hF
  obtain ⟨o1, h2, hF⟩ := hF
  have hc3 := f33_airz_ok k a0 a0_1 _ h2
  cases o1 with
  | o0 v4 =>
    (try dsimp only at hF)
    (try simp only [NM, EE, R33_airz.st] at hc3)
    simp (maxSteps := 999999) (disch := first | exact D (by decide) | exact K (by kernel_rfl)) only [E, EE, ↓reduceIte, simprocAttr, xk B16 [] .sq rfl, show (nav B16 [1]) = Code.region 0 _ false from rfl, hk_16_0, hz_16_0, hs_16_0, xk B16 [2] .sq rfl, xk B16 [1, 2] (.bk 0) rfl, xk B16 [2, 1, 2] .sq rfl, show (nav B16 [1, 2, 1, 2]) = Code.region 1 _ false from rfl, hk_16_1, hz_16_1, hs_16_1, u_24, i_24, is_24, ib_24, iz_24, callStep, CL, gv, List.contains, xk B16 [2, 2, 1, 2] (.cd 10) rfl, hc3]
    replace hF := cond_some hF
    rcases hF with ⟨h5, hF⟩ | ⟨h5, hF⟩
    · cases hF
      simp (maxSteps := 999999) (disch := first | exact D (by decide) | exact K (by kernel_rfl)) only [E, EE, ↓reduceIte, simprocAttr, xk B16 [2, 2, 2, 1, 2] .sq rfl, show (nav B16 [1, 2, 2, 2, 1, 2]) = Code.region 2 _ false from rfl, hk_16_2, hz_16_2, hs_16_2, xk B16 [2, 2, 2, 2, 1, 2] .rt rfl, finK_norm, finK_ret, fin16, R16_airzrii.st, hc3, h5]
    · replace hF := Option.bind_eq_some_iff.1 hF
      obtain ⟨o6, h7, hF⟩ := hF
      have hc8 := f40_airzr_ok k a0 a0_1 a1 _ h7
      cases o6 with
      | o0 v9 =>
        (try dsimp only at hF)
        (try simp only [NM, EE, R40_airzr.st] at hc8)
        simp (maxSteps := 999999) (disch := first | exact D (by decide) | exact K (by kernel_rfl)) only [E, EE, ↓reduceIte, simprocAttr, xk B16 [3, 2, 2, 1, 2] .sq rfl, show (nav B16 [1, 3, 2, 2, 1, 2]) = Code.region 3 _ false from rfl, hk_16_3, hz_16_3, hs_16_3, u_24, i_24, is_24, ib_24, iz_24, callStep, CL, gv, List.contains, hc3, h5, hc8]
        replace hF := cond_some hF
        rcases hF with ⟨h10, hF⟩ | ⟨h10, hF⟩
        · cases hF
          simp (maxSteps := 999999) (disch := first | exact D (by decide) | exact K (by kernel_rfl)) only [E, EE, ↓reduceIte, simprocAttr, xk B16 [2, 3, 2, 2, 1, 2] (.cd 14) rfl, xk B16 [2, 2, 3, 2, 2, 1, 2] .sq rfl, show (nav B16 [1, 2, 2, 3, 2, 2, 1, 2]) = Code.region 4 _ false from rfl, hk_16_4, hz_16_4, hs_16_4, xk B16 [2, 2, 2, 3, 2, 2, 1, 2] .rt rfl, finK_norm, finK_ret, fin16, R16_airzrii.st, hc3, h5, hc8, h10]
        · replace hF := Option.bind_eq_some_iff.1 hF
          obtain ⟨o11, h12, hF⟩ := hF
          have hc13 := f41_iii_ok k a2 0 ((IntKind.i64.wrap (((List.length a1) : Int) - (1 : Int)))) _ h12
          cases o11 with
          | o0 v14 =>
            (try dsimp only at hF)
            (try simp only [NM, EE, R41_iii.st] at hc13)
            simp (maxSteps := 999999) (disch := first | exact D (by decide) | exact K (by kernel_rfl)) only [E, EE, ↓reduceIte, simprocAttr, u_25, i_25, is_25, ib_25, iz_25, callStep, CL, gv, List.contains, hc3, h5, hc8, h10, hc13]
            replace hF := cond_some hF
            rcases hF with ⟨h15, hF⟩ | ⟨h15, hF⟩
            · cases hF
              simp (maxSteps := 999999) (disch := first | exact D (by decide) | exact K (by kernel_rfl)) only [E, EE, ↓reduceIte, simprocAttr, xk B16 [2, 3, 2, 2, 1, 2] (.cd 14) rfl, xk B16 [2, 2, 3, 2, 2, 1, 2] .sq rfl, show (nav B16 [1, 2, 2, 3, 2, 2, 1, 2]) = Code.region 4 _ false from rfl, hk_16_4, hz_16_4, hs_16_4, xk B16 [2, 2, 2, 3, 2, 2, 1, 2] .rt rfl, finK_norm, finK_ret, fin16, R16_airzrii.st, hc3, h5, hc8, h10, hc13, h15]
            · simp (maxSteps := 999999) (disch := first | exact D (by decide) | exact K (by kernel_rfl)) only [E, EE, ↓reduceIte, simprocAttr, xk B16 [2, 3, 2, 2, 1, 2] (.cd 14) rfl, hc3, h5, hc8, h10, hc13, h15]
              replace hF := cond_some hF
              rcases hF with ⟨h16, hF⟩ | ⟨h16, hF⟩
              · cases hF
                simp (maxSteps := 999999) (disch := first | exact D (by decide) | exact K (by kernel_rfl)) only [E, EE, ↓reduceIte, simprocAttr, xk B16 [2, 2, 3, 2, 2, 1, 2] .sq rfl, show (nav B16 [1, 2, 2, 3, 2, 2, 1, 2]) = Code.region 4 _ false from rfl, hk_16_4, hz_16_4, hs_16_4, xk B16 [2, 2, 2, 3, 2, 2, 1, 2] .rt rfl, finK_norm, finK_ret, fin16, R16_airzrii.st, hc3, h5, hc8, h10, hc13, h15, h16]
              · replace hF := ifE_some.1 hF
                obtain ⟨h17, hF⟩ := hF
                replace hF := Option.bind_eq_some_iff.1 hF
                obtain ⟨v18, h19, hF⟩ := hF
                simp (maxSteps := 999999) (disch := first | exact D (by decide) | exact K (by kernel_rfl)) only [E, EE, ↓reduceIte, simprocAttr, xk B16 [3, 2, 3, 2, 2, 1, 2] .sq rfl, show (nav B16 [1, 3, 2, 3, 2, 2, 1, 2]) = Code.region 5 _ false from rfl, hk_16_5, hz_16_5, hs_16_5, indexAddrV, u_25, i_25, is_25, ib_25, iz_25, u_3, i_3, is_3, ib_3, iz_3, encI_eq, xk B16 [2, 3, 2, 3, 2, 2, 1, 2] (.cd 31) rfl, hc3, h5, hc8, h10, hc13, h15, h16, h17, h19]
                replace hF := cond_some hF
                rcases hF with ⟨h20, hF⟩ | ⟨h20, hF⟩
                · cases hF
                  simp (maxSteps := 999999) (disch := first | exact D (by decide) | exact K (by kernel_rfl)) only [E, EE, ↓reduceIte, simprocAttr, xk B16 [2, 2, 3, 2, 3, 2, 2, 1, 2] .sq rfl, show (nav B16 [1, 2, 2, 3, 2, 3, 2, 2, 1, 2]) = Code.region 6 _ false from rfl, hk_16_6, hz_16_6, hs_16_6, xk B16 [2, 2, 2, 3, 2, 3, 2, 2, 1, 2] .rt rfl, finK_norm, finK_ret, fin16, R16_airzrii.st, hc3, h5, hc8, h10, hc13, h15, h16, h17, h19, h20]
                · have hJ := f16_airzrii_j1_ok k a1 a2 a3 false _ hF
                  simp (maxSteps := 999999) (disch := first | exact D (by decide) | exact K (by kernel_rfl)) only [E, EE, ↓reduceIte, simprocAttr, xk B16 [3, 2, 3, 2, 3, 2, 2, 1, 2] .sk rfl, hc3, h5, hc8, h10, hc13, h15, h16, h17, h19, h20]
                  try simp only [NM, EE] at hJ
                  exact hJ
noncomputable def f16_airzrii (k : Nat) (a0 : Int) (a0_1 : List T54) (a1 : List Int) (a2 a3 : Int) : Option R16_airzrii := match k with | 0 => none | k + 1 => f16_airzrii_e k a0 a0_1 a1 a2 a3
theorem f16_airzrii_ok (k : Nat) (a0 : Int) (a0_1 : List T54) (a1 : List Int) (a2 a3 : Int) (r : R16_airzrii) (hF : f16_airzrii k a0 a0_1 a1 a2 a3 = some r) : CV k 16 [V.agg [V.p (Value.int .i64 a0), V.sl 6 (rowsOf encT54 a0_1)], V.sl 1 (rowsOf (encI .i64) a1), V.p (Value.int .i64 a2), V.p (Value.int .i64 a3)] [] = some r.st := by
  cases k with
  | zero => cases hF
  | succ k =>
    unfold CV
    rw [ev_call (F := Tryd.f16) (c := (nav B16 [])) rfl Tryd.func16 rfl rfl rfl rfl]
    exact f16_airzrii_e_ok k a0 a0_1 a1 a2 a3 r hF
end Go.Proofs.YtiompmmbjpjjeaaDoorV
