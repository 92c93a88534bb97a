/- What the program's functions answer: plain functions,and that the interpreter answers what they do. Written by a program of this session,out of the translation. -/
import Derived.Test.YticggdfaehneeaaVP11
namespace Go.Proofs.YticggdfaehneeaaV
open Go
set_option linter.unusedVariables false
set_option linter.unusedSimpArgs false
set_option maxRecDepth 8000
set_option maxHeartbeats 4000000
-- f14_ai10rzai10rz: f14 heliograph/heliographref09.Same
inductive R14_ai10rzai10rz where
 | o0 (y : Bool)
noncomputable def R14_ai10rzai10rz.st : R14_ai10rzai10rz → V × List O × List O
 | .o0 y => (.p (.bool y),[],[])
noncomputable def f14_ai10rzai10rz_e (k : Nat) (a0 a0_1 a0_2 a0_3 a0_4 a0_5 a0_6 a0_7 a0_8 a0_9 : Int) (a0_10 : List Int) (a1 a1_1 a1_2 a1_3 a1_4 a1_5 a1_6 a1_7 a1_8 a1_9 : Int) (a1_10 : List Int) : Option R14_ai10rzai10rz :=
 cond ((a0 == a1))
  (
   cond ((a0_1 == a1_1))
    (
     cond ((a0_2 == a1_2))
      (
       cond ((a0_3 == a1_3))
        (
         cond ((a0_4 == a1_4))
          (
           cond ((a0_5 == a1_5))
            (
             cond ((a0_6 == a1_6))
              (
               cond ((a0_7 == a1_7))
                (
                 cond ((a0_8 == a1_8))
                  (
                   cond ((a0_9 == a1_9))
                    (
                     Option.bind (f30_rr k a0_10 a1_10) fun o11 =>
                      match o11 with
                      | .o0 v14 =>
                       some (R14_ai10rzai10rz.o0 v14))
                    (some (R14_ai10rzai10rz.o0 false)))
                  (some (R14_ai10rzai10rz.o0 false)))
                (some (R14_ai10rzai10rz.o0 false)))
              (some (R14_ai10rzai10rz.o0 false)))
            (some (R14_ai10rzai10rz.o0 false)))
          (some (R14_ai10rzai10rz.o0 false)))
        (some (R14_ai10rzai10rz.o0 false)))
      (some (R14_ai10rzai10rz.o0 false)))
    (some (R14_ai10rzai10rz.o0 false)))
  (some (R14_ai10rzai10rz.o0 false))
theorem f14_ai10rzai10rz_e_ok (k : Nat) (a0 a0_1 a0_2 a0_3 a0_4 a0_5 a0_6 a0_7 a0_8 a0_9 : Int) (a0_10 : List Int) (a1 a1_1 a1_2 a1_3 a1_4 a1_5 a1_6 a1_7 a1_8 a1_9 : Int) (a1_10 : List Int) (r : R14_ai10rzai10rz) (hF : f14_ai10rzai10rz_e k a0 a0_1 a0_2 a0_3 a0_4 a0_5 a0_6 a0_7 a0_8 a0_9 a0_10 a1 a1_1 a1_2 a1_3 a1_4 a1_5 a1_6 a1_7 a1_8 a1_9 a1_10 = some r) : finK Try.prog Try.f14 0 (EX 14 k (nav B14 []) (⟨80,[(0,.agg [.p (.int .i64 a0),.p (.int .i64 a0_1),.p (.int .u32 a0_2),.p (.int .i64 a0_3),.p (.int .i64 a0_4),.p (.int .i64 a0_5),.p (.int .i64 a0_6),.p (.int .i64 a0_7),.p (.int .i64 a0_8),.p (.int .i64 a0_9),.sl 1 (rowsOf (encI .u8) a0_10)]),(1,.agg [.p (.int .i64 a1),.p (.int .i64 a1_1),.p (.int .u32 a1_2),.p (.int .i64 a1_3),.p (.int .i64 a1_4),.p (.int .i64 a1_5),.p (.int .i64 a1_6),.p (.int .i64 a1_7),.p (.int .i64 a1_8),.p (.int .i64 a1_9),.sl 1 (rowsOf (encI .u8) a1_10)])],[]⟩ : St)) = some r.st := by
 unfold f14_ai10rzai10rz_e at hF
 simp (maxSteps:=999999) (disch:=first|exact D (by decide)|exact K (by kernel_rfl)) only [E,EE,↓reduceIte,simprocAttr,xk B14 [] .sq rfl,rg B14 [1] 0 false rfl,hr_14_0,xk B14 [2] .sq rfl,rg B14 [1,2] 1 false rfl,hr_14_1,fieldAddrV,t_39,t_3]
 rcases cond_some hF with ⟨h1,hF⟩ | ⟨h1,hF⟩
 ·simp (maxSteps:=999999) (disch:=first|exact D (by decide)|exact K (by kernel_rfl)) only [E,EE,↓reduceIte,simprocAttr,fieldAddrV,t_39,t_3,h1]
  rcases cond_some hF with ⟨h2,hF⟩ | ⟨h2,hF⟩
  ·simp (maxSteps:=999999) (disch:=first|exact D (by decide)|exact K (by kernel_rfl)) only [E,EE,↓reduceIte,simprocAttr,fieldAddrV,t_39,t_22,h1,h2]
   rcases cond_some hF with ⟨h3,hF⟩ | ⟨h3,hF⟩
   ·simp (maxSteps:=999999) (disch:=first|exact D (by decide)|exact K (by kernel_rfl)) only [E,EE,↓reduceIte,simprocAttr,fieldAddrV,t_39,t_3,h1,h2,h3]
    rcases cond_some hF with ⟨h4,hF⟩ | ⟨h4,hF⟩
    ·simp (maxSteps:=999999) (disch:=first|exact D (by decide)|exact K (by kernel_rfl)) only [E,EE,↓reduceIte,simprocAttr,fieldAddrV,t_39,t_3,h1,h2,h3,h4]
     rcases cond_some hF with ⟨h5,hF⟩ | ⟨h5,hF⟩
     ·simp (maxSteps:=999999) (disch:=first|exact D (by decide)|exact K (by kernel_rfl)) only [E,EE,↓reduceIte,simprocAttr,fieldAddrV,t_39,t_3,h1,h2,h3,h4,h5]
      rcases cond_some hF with ⟨h6,hF⟩ | ⟨h6,hF⟩
      ·simp (maxSteps:=999999) (disch:=first|exact D (by decide)|exact K (by kernel_rfl)) only [E,EE,↓reduceIte,simprocAttr,fieldAddrV,t_39,t_3,h1,h2,h3,h4,h5,h6]
       rcases cond_some hF with ⟨h7,hF⟩ | ⟨h7,hF⟩
       ·simp (maxSteps:=999999) (disch:=first|exact D (by decide)|exact K (by kernel_rfl)) only [E,EE,↓reduceIte,simprocAttr,fieldAddrV,t_39,t_3,h1,h2,h3,h4,h5,h6,h7]
        rcases cond_some hF with ⟨h8,hF⟩ | ⟨h8,hF⟩
        ·simp (maxSteps:=999999) (disch:=first|exact D (by decide)|exact K (by kernel_rfl)) only [E,EE,↓reduceIte,simprocAttr,fieldAddrV,t_39,t_3,h1,h2,h3,h4,h5,h6,h7,h8]
         rcases cond_some hF with ⟨h9,hF⟩ | ⟨h9,hF⟩
         ·simp (maxSteps:=999999) (disch:=first|exact D (by decide)|exact K (by kernel_rfl)) only [E,EE,↓reduceIte,simprocAttr,fieldAddrV,t_39,t_3,h1,h2,h3,h4,h5,h6,h7,h8,h9]
          rcases cond_some hF with ⟨h10,hF⟩ | ⟨h10,hF⟩
          ·obtain ⟨o11,h12,hF⟩ := bs hF
           have hc13 := f30_rr_ok k a0_10 a1_10 _ h12
           cases o11 with
           | o0 v14 =>
            (try dsimp only at hF)
            (try simp only [NM,EE,R30_rr.st] at hc13)
            cases hF
            simp (maxSteps:=999999) (disch:=first|exact D (by decide)|exact K (by kernel_rfl)) only [E,EE,↓reduceIte,simprocAttr,fieldAddrV,t_39,t_29,callStep,CL,gv,List.contains,xk B14 [2,2] .rt rfl,finK_norm,finK_ret,fin14,R14_ai10rzai10rz.st,h1,h2,h3,h4,h5,h6,h7,h8,h9,h10,hc13]
          ·cases hF
           simp (maxSteps:=999999) (disch:=first|exact D (by decide)|exact K (by kernel_rfl)) only [E,EE,↓reduceIte,simprocAttr,xk B14 [2,2] .rt rfl,finK_norm,finK_ret,fin14,R14_ai10rzai10rz.st,h1,h2,h3,h4,h5,h6,h7,h8,h9,h10]
         ·cases hF
          simp (maxSteps:=999999) (disch:=first|exact D (by decide)|exact K (by kernel_rfl)) only [E,EE,↓reduceIte,simprocAttr,xk B14 [2,2] .rt rfl,finK_norm,finK_ret,fin14,R14_ai10rzai10rz.st,h1,h2,h3,h4,h5,h6,h7,h8,h9]
        ·cases hF
         simp (maxSteps:=999999) (disch:=first|exact D (by decide)|exact K (by kernel_rfl)) only [E,EE,↓reduceIte,simprocAttr,xk B14 [2,2] .rt rfl,finK_norm,finK_ret,fin14,R14_ai10rzai10rz.st,h1,h2,h3,h4,h5,h6,h7,h8]
       ·cases hF
        simp (maxSteps:=999999) (disch:=first|exact D (by decide)|exact K (by kernel_rfl)) only [E,EE,↓reduceIte,simprocAttr,xk B14 [2,2] .rt rfl,finK_norm,finK_ret,fin14,R14_ai10rzai10rz.st,h1,h2,h3,h4,h5,h6,h7]
      ·cases hF
       simp (maxSteps:=999999) (disch:=first|exact D (by decide)|exact K (by kernel_rfl)) only [E,EE,↓reduceIte,simprocAttr,xk B14 [2,2] .rt rfl,finK_norm,finK_ret,fin14,R14_ai10rzai10rz.st,h1,h2,h3,h4,h5,h6]
     ·cases hF
      simp (maxSteps:=999999) (disch:=first|exact D (by decide)|exact K (by kernel_rfl)) only [E,EE,↓reduceIte,simprocAttr,xk B14 [2,2] .rt rfl,finK_norm,finK_ret,fin14,R14_ai10rzai10rz.st,h1,h2,h3,h4,h5]
    ·cases hF
     simp (maxSteps:=999999) (disch:=first|exact D (by decide)|exact K (by kernel_rfl)) only [E,EE,↓reduceIte,simprocAttr,xk B14 [2,2] .rt rfl,finK_norm,finK_ret,fin14,R14_ai10rzai10rz.st,h1,h2,h3,h4]
   ·cases hF
    simp (maxSteps:=999999) (disch:=first|exact D (by decide)|exact K (by kernel_rfl)) only [E,EE,↓reduceIte,simprocAttr,xk B14 [2,2] .rt rfl,finK_norm,finK_ret,fin14,R14_ai10rzai10rz.st,h1,h2,h3]
  ·cases hF
   simp (maxSteps:=999999) (disch:=first|exact D (by decide)|exact K (by kernel_rfl)) only [E,EE,↓reduceIte,simprocAttr,xk B14 [2,2] .rt rfl,finK_norm,finK_ret,fin14,R14_ai10rzai10rz.st,h1,h2]
 ·cases hF
  simp (maxSteps:=999999) (disch:=first|exact D (by decide)|exact K (by kernel_rfl)) only [E,EE,↓reduceIte,simprocAttr,xk B14 [2,2] .rt rfl,finK_norm,finK_ret,fin14,R14_ai10rzai10rz.st,h1]
noncomputable def f14_ai10rzai10rz (k : Nat) (a0 a0_1 a0_2 a0_3 a0_4 a0_5 a0_6 a0_7 a0_8 a0_9 : Int) (a0_10 : List Int) (a1 a1_1 a1_2 a1_3 a1_4 a1_5 a1_6 a1_7 a1_8 a1_9 : Int) (a1_10 : List Int) : Option R14_ai10rzai10rz := match k with | 0 => none | k + 1 => f14_ai10rzai10rz_e k a0 a0_1 a0_2 a0_3 a0_4 a0_5 a0_6 a0_7 a0_8 a0_9 a0_10 a1 a1_1 a1_2 a1_3 a1_4 a1_5 a1_6 a1_7 a1_8 a1_9 a1_10
theorem f14_ai10rzai10rz_ok (k : Nat) (a0 a0_1 a0_2 a0_3 a0_4 a0_5 a0_6 a0_7 a0_8 a0_9 : Int) (a0_10 : List Int) (a1 a1_1 a1_2 a1_3 a1_4 a1_5 a1_6 a1_7 a1_8 a1_9 : Int) (a1_10 : List Int) (r : R14_ai10rzai10rz) (hF : f14_ai10rzai10rz k a0 a0_1 a0_2 a0_3 a0_4 a0_5 a0_6 a0_7 a0_8 a0_9 a0_10 a1 a1_1 a1_2 a1_3 a1_4 a1_5 a1_6 a1_7 a1_8 a1_9 a1_10 = some r) : CV k 14 [.agg [.p (.int .i64 a0),.p (.int .i64 a0_1),.p (.int .u32 a0_2),.p (.int .i64 a0_3),.p (.int .i64 a0_4),.p (.int .i64 a0_5),.p (.int .i64 a0_6),.p (.int .i64 a0_7),.p (.int .i64 a0_8),.p (.int .i64 a0_9),.sl 1 (rowsOf (encI .u8) a0_10)],.agg [.p (.int .i64 a1),.p (.int .i64 a1_1),.p (.int .u32 a1_2),.p (.int .i64 a1_3),.p (.int .i64 a1_4),.p (.int .i64 a1_5),.p (.int .i64 a1_6),.p (.int .i64 a1_7),.p (.int .i64 a1_8),.p (.int .i64 a1_9),.sl 1 (rowsOf (encI .u8) a1_10)]] [] = some r.st := by
 cases k with
 | zero => cases hF
 | succ k =>
  unfold CV
  rw [ev_call (F := Try.f14) (c := (nav B14 [])) rfl Try.func14 rfl rfl rfl rfl]
  exact f14_ai10rzai10rz_e_ok k a0 a0_1 a0_2 a0_3 a0_4 a0_5 a0_6 a0_7 a0_8 a0_9 a0_10 a1 a1_1 a1_2 a1_3 a1_4 a1_5 a1_6 a1_7 a1_8 a1_9 a1_10 r hF
-- f31_rr: f31 heliograph/heliographref17.Same
inductive R31_rr where
 | o0 (y : Bool)
noncomputable def R31_rr.st : R31_rr → V × List O × List O
 | .o0 y => (.p (.bool y),[],[])
inductive R31_rr_l2 where
 | o0 (y : Bool)
 | o1 (y y_1 : List T39) (y_2 : Int)
 | o2 (y y_1 : List T39) (y_2 : Int) (y_3 : Bool)
noncomputable def R31_rr_l2.st : R31_rr_l2 → Out × St
 | .o0 y => (.ret,(⟨27,[(4,.p (.bool y))],[]⟩ : St))
 | .o1 y y_1 y_2 => (.norm,(⟨27,[(0,.sl 11 (rowsOf encT39 y)),(1,.sl 11 (rowsOf encT39 y_1)),(5,.p (.int .i64 y_2))],[]⟩ : St))
 | .o2 y y_1 y_2 y_3 => (.exit 0,(⟨27,[(0,.sl 11 (rowsOf encT39 y)),(1,.sl 11 (rowsOf encT39 y_1)),(5,.p (.int .i64 y_2)),(14,.p (.bool y_3))],[]⟩ : St))
noncomputable def f31_rr_l2_j2 (k : Nat) (x0 x1 : List T39) (x5 : Int) (x26 : Bool) : Option R31_rr_l2 :=
 some (R31_rr_l2.o1 x0 x1 (IntKind.i64.wrap (x5 + (1 : Int))))
theorem f31_rr_l2_j2_ok (k : Nat) (x0 x1 : List T39) (x5 : Int) (x26 : Bool) (r : R31_rr_l2) (hF : f31_rr_l2_j2 k x0 x1 x5 x26 = some r) : EX 31 k (nav B31 [2,2,1,2,2,1,2,2]) (⟨27,[(0,.sl 11 (rowsOf encT39 x0)),(1,.sl 11 (rowsOf encT39 x1)),(5,.p (.int .i64 x5)),(26,.p (.bool x26))],[]⟩ : St) = some r.st := by
 unfold f31_rr_l2_j2 at hF
 cases hF
 simp (maxSteps:=999999) (disch:=first|exact D (by decide)|exact K (by kernel_rfl)) only [E,EE,↓reduceIte,simprocAttr,rg B31 [2,2,1,2,2,1,2,2] 5 false rfl,hr_31_5,R31_rr_l2.st]
noncomputable def f31_rr_l2_j1 (k : Nat) (x0 x1 : List T39) (x5 : Int) (x14 : Bool) : Option R31_rr_l2 :=
 ifE ((0 : Int) ≤ x5) (
  Option.bind (x0[(Int.toNat x5)]?) fun v2 =>
   Option.bind (x1[(Int.toNat x5)]?) fun v4 =>
    Option.bind (f14_ai10rzai10rz k v2.Source v2.Dest v2.Seq v2.Created v2.Lifetime v2.HopLimit v2.Hops v2.Priority v2.Offset v2.Total v2.Payload v4.Source v4.Dest v4.Seq v4.Created v4.Lifetime v4.HopLimit v4.Hops v4.Priority v4.Offset v4.Total v4.Payload) fun o6 =>
     match o6 with
     | .o0 v9 =>
      cond ((!v9))
       (some (R31_rr_l2.o0 false))
       (f31_rr_l2_j2 k x0 x1 x5 false))
theorem f31_rr_l2_j1_ok (k : Nat) (x0 x1 : List T39) (x5 : Int) (x14 : Bool) (r : R31_rr_l2) (hF : f31_rr_l2_j1 k x0 x1 x5 x14 = some r) : EX 31 k (nav B31 [2,1,2,2,1,2,2]) (⟨27,[(0,.sl 11 (rowsOf encT39 x0)),(1,.sl 11 (rowsOf encT39 x1)),(5,.p (.int .i64 x5)),(14,.p (.bool x14))],[]⟩ : St) = some r.st := by
 unfold f31_rr_l2_j1 at hF
 obtain ⟨h1,hF⟩ := ifE_some.1 hF
 obtain ⟨v2,h3,hF⟩ := bs hF
 obtain ⟨v4,h5,hF⟩ := bs hF
 obtain ⟨o6,h7,hF⟩ := bs hF
 have hc8 := f14_ai10rzai10rz_ok k v2.Source v2.Dest v2.Seq v2.Created v2.Lifetime v2.HopLimit v2.Hops v2.Priority v2.Offset v2.Total v2.Payload v4.Source v4.Dest v4.Seq v4.Created v4.Lifetime v4.HopLimit v4.Hops v4.Priority v4.Offset v4.Total v4.Payload _ h7
 cases o6 with
 | o0 v9 =>
  (try dsimp only at hF)
  (try simp only [NM,EE,R14_ai10rzai10rz.st] at hc8)
  simp (maxSteps:=999999) (disch:=first|exact D (by decide)|exact K (by kernel_rfl)) only [E,EE,↓reduceIte,simprocAttr,xk B31 [2,1,2,2,1,2,2] .sq rfl,xk B31 [1,2,1,2,2,1,2,2] (.bk 1) rfl,xk B31 [2,1,2,1,2,2,1,2,2] .sq rfl,rg B31 [1,2,1,2,1,2,2,1,2,2] 6 true rfl,hr_31_6,indexAddrV,t_24,t_39,encT39_eq,callStep,CL,gv,List.contains,xk B31 [2,2,1,2,1,2,2,1,2,2] (.cd 26) rfl,h1,h3,h5,hc8]
  rcases cond_some hF with ⟨h10,hF⟩ | ⟨h10,hF⟩
  ·cases hF
   simp (maxSteps:=999999) (disch:=first|exact D (by decide)|exact K (by kernel_rfl)) only [E,EE,↓reduceIte,simprocAttr,xk B31 [2,2,2,1,2,1,2,2,1,2,2] .sq rfl,rg B31 [1,2,2,2,1,2,1,2,2,1,2,2] 7 false rfl,hr_31_7,xk B31 [2,2,2,2,1,2,1,2,2,1,2,2] .rt rfl,R31_rr_l2.st,h1,h3,h5,hc8,h10]
  ·have hJ := f31_rr_l2_j2_ok k x0 x1 x5 false _ hF
   simp (maxSteps:=999999) (disch:=first|exact D (by decide)|exact K (by kernel_rfl)) only [E,EE,↓reduceIte,simprocAttr,xk B31 [3,2,2,1,2,1,2,2,1,2,2] .sk rfl,h1,h3,h5,hc8,h10]
   try simp only [NM,EE] at hJ
   exact hJ
noncomputable def f31_rr_l2_b (k : Nat) (x0 x1 : List T39) (x5 : Int) : Option R31_rr_l2 :=
 cond ((decide (x5 < ((List.length x0) : Int))))
  (f31_rr_l2_j1 k x0 x1 x5 true)
  (some (R31_rr_l2.o2 x0 x1 x5 false))
theorem f31_rr_l2_b_ok (k : Nat) (x0 x1 : List T39) (x5 : Int) (r : R31_rr_l2) (hF : f31_rr_l2_b k x0 x1 x5 = some r) : EX 31 k (nav B31 [1,2,2,1,2,2]) (⟨27,[(0,.sl 11 (rowsOf encT39 x0)),(1,.sl 11 (rowsOf encT39 x1)),(5,.p (.int .i64 x5))],[]⟩ : St) = some r.st := by
 unfold f31_rr_l2_b at hF
 simp (maxSteps:=999999) (disch:=first|exact D (by decide)|exact K (by kernel_rfl)) only [E,EE,↓reduceIte,simprocAttr,xk B31 [1,2,2,1,2,2] .sq rfl,xk B31 [1,1,2,2,1,2,2] .sq rfl,rg B31 [1,1,1,2,2,1,2,2] 4 false rfl,hr_31_4,t_24,xk B31 [2,1,1,2,2,1,2,2] (.cd 14) rfl]
 rcases cond_some hF with ⟨h1,hF⟩ | ⟨h1,hF⟩
 ·have hJ := f31_rr_l2_j1_ok k x0 x1 x5 true _ hF
  simp (maxSteps:=999999) (disch:=first|exact D (by decide)|exact K (by kernel_rfl)) only [E,EE,↓reduceIte,simprocAttr,xk B31 [2,2,1,1,2,2,1,2,2] .sk rfl,h1]
  try simp only [NM,EE] at hJ
  exact hJ
 ·cases hF
  simp (maxSteps:=999999) (disch:=first|exact D (by decide)|exact K (by kernel_rfl)) only [E,EE,↓reduceIte,simprocAttr,xk B31 [3,2,1,1,2,2,1,2,2] (.ex 0) rfl,R31_rr_l2.st,h1]
noncomputable def f31_rr_l2 (k : Nat) : Nat → (List T39) → (List T39) → Int → Option R31_rr_l2
 | 0,_,_,_ => none
 | n + 1,x0,x1,x5 => Option.bind (f31_rr_l2_b k x0 x1 x5) fun o =>
  match o with
  | .o0 y => some (.o0 y)
  | .o1 y y_1 y_2 => f31_rr_l2 k n y y_1 y_2
  | .o2 y y_1 y_2 y_3 => some (.o2 y y_1 y_2 y_3)
theorem f31_rr_l2_ok (k n : Nat) : ∀ (x0 x1 : List T39) (x5 : Int) (r : R31_rr_l2) (hF : f31_rr_l2 k n x0 x1 x5 = some r) (σ : St) (hσ : headR (hints.head 31 4) (hints.canon 31 4) σ = some (⟨27,[(0,.sl 11 (rowsOf encT39 x0)),(1,.sl 11 (rowsOf encT39 x1)),(5,.p (.int .i64 x5))],[]⟩ : St)),LP 31 k (nav B31 [1,2,2,1,2,2]) n σ = some r.st := by
 induction n with
 | zero => intro x0 x1 x5 r hF; cases hF
 | succ n ih =>
  intro x0 x1 x5 r hF σ hσ
  rw [f31_rr_l2] at hF
  obtain ⟨o,h,hF⟩ := Option.bind_eq_some_iff.1 hF
  have hB := f31_rr_l2_b_ok k x0 x1 x5 o h
  unfold LP at ih ⊢
  unfold EX at hB
  rw [loopK_succ,show firstReg (nav B31 [1,2,2,1,2,2]) = 4 from rfl,hσ,headK_some,hB]
  cases o with
  | o0 y => cases hF; rfl
  | o1 y y_1 y_2 =>
   refine ih y y_1 y_2 r hF _ ?_
   simp (maxSteps:=999999) (disch:=first|exact D (by decide)|exact K (by kernel_rfl)) only [E,EE,↓reduceIte,simprocAttr,hh_31_4,hc_31_4]
  | o2 y y_1 y_2 y_3 => cases hF; rfl
noncomputable def f31_rr_j3 (k : Nat) (x0 x1 : List T39) (x5 : Int) (x14 : Bool) : Option R31_rr :=
 some (R31_rr.o0 true)
theorem f31_rr_j3_ok (k : Nat) (x0 x1 : List T39) (x5 : Int) (x14 : Bool) (r : R31_rr) (hF : f31_rr_j3 k x0 x1 x5 x14 = some r) : finK Try.prog Try.f31 0 (EX 31 k (nav B31 [2,2,2]) (⟨27,[(0,.sl 11 (rowsOf encT39 x0)),(1,.sl 11 (rowsOf encT39 x1)),(5,.p (.int .i64 x5)),(14,.p (.bool x14))],[]⟩ : St)) = some r.st := by
 unfold f31_rr_j3 at hF
 cases hF
 simp (maxSteps:=999999) (disch:=first|exact D (by decide)|exact K (by kernel_rfl)) only [E,EE,↓reduceIte,simprocAttr,xk B31 [2,2,2] .sq rfl,rg B31 [1,2,2,2] 8 false rfl,hr_31_8,xk B31 [2,2,2,2] .rt rfl,finK_norm,finK_ret,fin31,R31_rr.st]
noncomputable def f31_rr_j1 (k : Nat) (x0 x1 : List T39) (x10 : Bool) : Option R31_rr :=
 Option.bind (f31_rr_l2 k k x0 x1 0) fun o1 =>
  match o1 with
  | .o0 v4 =>
   some (R31_rr.o0 v4)
  | .o1 _ _ _ =>
   none
  | .o2 v5 v6 v7 v8 =>
   f31_rr_j3 k v5 v6 v7 v8
theorem f31_rr_j1_ok (k : Nat) (x0 x1 : List T39) (x10 : Bool) (r : R31_rr) (hF : f31_rr_j1 k x0 x1 x10 = some r) : finK Try.prog Try.f31 0 (EX 31 k (nav B31 [2,2]) (⟨27,[(0,.sl 11 (rowsOf encT39 x0)),(1,.sl 11 (rowsOf encT39 x1)),(10,.p (.bool x10))],[]⟩ : St)) = some r.st := by
 unfold f31_rr_j1 at hF
 obtain ⟨o1,h2,hF⟩ := bs hF
 have hc3 := f31_rr_l2_ok k k x0 x1 0 _ h2
 simp (maxSteps:=999999) (disch:=first|exact D (by decide)|exact K (by kernel_rfl)) only [E,EE,↓reduceIte,simprocAttr,xk B31 [2,2] .sq rfl,xk B31 [1,2,2] .sq rfl,rg B31 [1,1,2,2] 3 false rfl,hr_31_3,xk B31 [2,1,2,2] (.bk 0) rfl,xk B31 [2,2,1,2,2] .lp rfl,hh_31_4,hc_31_4]
 (try simp only [NM,EE] at hc3)
 rw [hc3 _ (by simp (maxSteps:=999999) (disch:=first|exact D (by decide)|exact K (by kernel_rfl)) only [E,EE,↓reduceIte,simprocAttr,hh_31_4,hc_31_4])]
 clear hc3
 cases o1 with
 | o0 v4 =>
  (try dsimp only at hF)
  cases hF
  simp (maxSteps:=999999) (disch:=first|exact D (by decide)|exact K (by kernel_rfl)) only [E,EE,↓reduceIte,simprocAttr,R31_rr_l2.st,finK_norm,finK_ret,fin31,R31_rr.st]
 | o1 _ _ _ =>
  (try dsimp only at hF)
  cases hF
 | o2 v5 v6 v7 v8 =>
  (try dsimp only at hF)
  have hJ := f31_rr_j3_ok k v5 v6 v7 v8 _ hF
  simp (maxSteps:=999999) (disch:=first|exact D (by decide)|exact K (by kernel_rfl)) only [E,EE,↓reduceIte,simprocAttr,R31_rr_l2.st]
  try simp only [NM,EE] at hJ
  exact hJ
noncomputable def f31_rr_e (k : Nat) (a0 a1 : List T39) : Option R31_rr :=
 cond ((((List.length a0) : Int) != ((List.length a1) : Int)))
  (some (R31_rr.o0 false))
  (f31_rr_j1 k a0 a1 false)
theorem f31_rr_e_ok (k : Nat) (a0 a1 : List T39) (r : R31_rr) (hF : f31_rr_e k a0 a1 = some r) : finK Try.prog Try.f31 0 (EX 31 k (nav B31 []) (⟨27,[(0,.sl 11 (rowsOf encT39 a0)),(1,.sl 11 (rowsOf encT39 a1))],[]⟩ : St)) = some r.st := by
 unfold f31_rr_e at hF
 simp (maxSteps:=999999) (disch:=first|exact D (by decide)|exact K (by kernel_rfl)) only [E,EE,↓reduceIte,simprocAttr,xk B31 [] .sq rfl,rg B31 [1] 0 false rfl,hr_31_0,xk B31 [2] .sq rfl,xk B31 [1,2] .sq rfl,rg B31 [1,1,2] 1 false rfl,hr_31_1,t_24,xk B31 [2,1,2] (.cd 10) rfl]
 rcases cond_some hF with ⟨h1,hF⟩ | ⟨h1,hF⟩
 ·cases hF
  simp (maxSteps:=999999) (disch:=first|exact D (by decide)|exact K (by kernel_rfl)) only [E,EE,↓reduceIte,simprocAttr,xk B31 [2,2,1,2] .sq rfl,rg B31 [1,2,2,1,2] 2 false rfl,hr_31_2,xk B31 [2,2,2,1,2] .rt rfl,finK_norm,finK_ret,fin31,R31_rr.st,h1]
 ·have hJ := f31_rr_j1_ok k a0 a1 false _ hF
  simp (maxSteps:=999999) (disch:=first|exact D (by decide)|exact K (by kernel_rfl)) only [E,EE,↓reduceIte,simprocAttr,xk B31 [3,2,1,2] .sk rfl,h1]
  try simp only [NM,EE] at hJ
  exact hJ
noncomputable def f31_rr (k : Nat) (a0 a1 : List T39) : Option R31_rr := match k with | 0 => none | k + 1 => f31_rr_e k a0 a1
theorem f31_rr_ok (k : Nat) (a0 a1 : List T39) (r : R31_rr) (hF : f31_rr k a0 a1 = some r) : CV k 31 [.sl 11 (rowsOf encT39 a0),.sl 11 (rowsOf encT39 a1)] [] = some r.st := by
 cases k with
 | zero => cases hF
 | succ k =>
  unfold CV
  rw [ev_call (F := Try.f31) (c := (nav B31 [])) rfl Try.func31 rfl rfl rfl rfl]
  exact f31_rr_e_ok k a0 a1 r hF
-- f15_aiirrzaiinnz: f15 heliograph/heliographref19.Same
inductive R15_aiirrzaiinnz where
 | o0 (y : Bool)
noncomputable def R15_aiirrzaiinnz.st : R15_aiirrzaiinnz → V × List O × List O
 | .o0 y => (.p (.bool y),[],[])
inductive R15_aiirrzaiinnz_l2 where
 | o0 (y : Bool)
 | o1 (y y_1 y_2 : Int) (y_3 : List T65) (y_4 : List T39) (y_5 y_6 : Int) (y_7 : List T65) (y_8 : List T39)
 | o2 (y : Int) (y_1 : Bool) (y_2 y_3 : Int) (y_4 : List T65) (y_5 : List T39) (y_6 y_7 : Int) (y_8 : List T65) (y_9 : List T39)
noncomputable def R15_aiirrzaiinnz_l2.st : R15_aiirrzaiinnz_l2 → Out × St
 | .o0 y => (.ret,(⟨53,[(4,.p (.bool y))],[]⟩ : St))
 | .o1 y y_1 y_2 y_3 y_4 y_5 y_6 y_7 y_8 => (.norm,(⟨53,[(2,.ptr 30000 0),(3,.ptr 30001 0),(5,.p (.int .i64 y))],[(30000,.box 26 [.p (.int .i64 y_1),.p (.int .u32 y_2),.sl 4 (rowsOf encT65 y_3),.sl 11 (rowsOf encT39 y_4)]),(30001,.box 26 [.p (.int .i64 y_5),.p (.int .u32 y_6),.sl 4 (rowsOf encT65 y_7),.sl 11 (rowsOf encT39 y_8)])]⟩ : St))
 | .o2 y y_1 y_2 y_3 y_4 y_5 y_6 y_7 y_8 y_9 => (.exit 0,(⟨53,[(2,.ptr 30000 0),(3,.ptr 30001 0),(5,.p (.int .i64 y)),(39,.p (.bool y_1))],[(30000,.box 26 [.p (.int .i64 y_2),.p (.int .u32 y_3),.sl 4 (rowsOf encT65 y_4),.sl 11 (rowsOf encT39 y_5)]),(30001,.box 26 [.p (.int .i64 y_6),.p (.int .u32 y_7),.sl 4 (rowsOf encT65 y_8),.sl 11 (rowsOf encT39 y_9)])]⟩ : St))
noncomputable def f15_aiirrzaiinnz_l2_j2 (k : Nat) (x5 : Int) (x52 : Bool) (h0_ h0__1 : Int) (h0__2 : List T65) (h0__3 : List T39) (h1_ h1__1 : Int) (h1__2 : List T65) (h1__3 : List T39) : Option R15_aiirrzaiinnz_l2 :=
 some (R15_aiirrzaiinnz_l2.o1 (IntKind.i64.wrap (x5 + (1 : Int))) h0_ h0__1 h0__2 h0__3 h1_ h1__1 h1__2 h1__3)
theorem f15_aiirrzaiinnz_l2_j2_ok (k : Nat) (x5 : Int) (x52 : Bool) (h0_ h0__1 : Int) (h0__2 : List T65) (h0__3 : List T39) (h1_ h1__1 : Int) (h1__2 : List T65) (h1__3 : List T39) (r : R15_aiirrzaiinnz_l2) (hF : f15_aiirrzaiinnz_l2_j2 k x5 x52 h0_ h0__1 h0__2 h0__3 h1_ h1__1 h1__2 h1__3 = some r) : EX 15 k (nav B15 [2,2,1,2,2,1,2,2]) (⟨53,[(2,.ptr 30000 0),(3,.ptr 30001 0),(5,.p (.int .i64 x5)),(52,.p (.bool x52))],[(30000,.box 26 [.p (.int .i64 h0_),.p (.int .u32 h0__1),.sl 4 (rowsOf encT65 h0__2),.sl 11 (rowsOf encT39 h0__3)]),(30001,.box 26 [.p (.int .i64 h1_),.p (.int .u32 h1__1),.sl 4 (rowsOf encT65 h1__2),.sl 11 (rowsOf encT39 h1__3)])]⟩ : St) = some r.st := by
 unfold f15_aiirrzaiinnz_l2_j2 at hF
 cases hF
 simp (maxSteps:=999999) (disch:=first|exact D (by decide)|exact K (by kernel_rfl)) only [E,EE,↓reduceIte,simprocAttr,rg B15 [2,2,1,2,2,1,2,2] 5 false rfl,hr_15_5,R15_aiirrzaiinnz_l2.st]
noncomputable def f15_aiirrzaiinnz_l2_j1 (k : Nat) (x5 : Int) (x39 : Bool) (h0_ h0__1 : Int) (h0__2 : List T65) (h0__3 : List T39) (h1_ h1__1 : Int) (h1__2 : List T65) (h1__3 : List T39) : Option R15_aiirrzaiinnz_l2 :=
 ifE ((0 : Int) ≤ x5) (
  Option.bind (h0__2[(Int.toNat x5)]?) fun v2 =>
   Option.bind (h1__2[(Int.toNat x5)]?) fun v4 =>
    cond ((!(((v2.Key_Source == v4.Key_Source) && ((v2.Key_Seq == v4.Key_Seq) && (v2.Key_Offset == v4.Key_Offset))) && (v2.N == v4.N))))
     (some (R15_aiirrzaiinnz_l2.o0 false))
     (f15_aiirrzaiinnz_l2_j2 k x5 false h0_ h0__1 h0__2 h0__3 h1_ h1__1 h1__2 h1__3))
theorem f15_aiirrzaiinnz_l2_j1_ok (k : Nat) (x5 : Int) (x39 : Bool) (h0_ h0__1 : Int) (h0__2 : List T65) (h0__3 : List T39) (h1_ h1__1 : Int) (h1__2 : List T65) (h1__3 : List T39) (r : R15_aiirrzaiinnz_l2) (hF : f15_aiirrzaiinnz_l2_j1 k x5 x39 h0_ h0__1 h0__2 h0__3 h1_ h1__1 h1__2 h1__3 = some r) : EX 15 k (nav B15 [2,1,2,2,1,2,2]) (⟨53,[(2,.ptr 30000 0),(3,.ptr 30001 0),(5,.p (.int .i64 x5)),(39,.p (.bool x39))],[(30000,.box 26 [.p (.int .i64 h0_),.p (.int .u32 h0__1),.sl 4 (rowsOf encT65 h0__2),.sl 11 (rowsOf encT39 h0__3)]),(30001,.box 26 [.p (.int .i64 h1_),.p (.int .u32 h1__1),.sl 4 (rowsOf encT65 h1__2),.sl 11 (rowsOf encT39 h1__3)])]⟩ : St) = some r.st := by
 unfold f15_aiirrzaiinnz_l2_j1 at hF
 obtain ⟨h1,hF⟩ := ifE_some.1 hF
 obtain ⟨v2,h3,hF⟩ := bs hF
 obtain ⟨v4,h5,hF⟩ := bs hF
 simp (maxSteps:=999999) (disch:=first|exact D (by decide)|exact K (by kernel_rfl)) only [E,EE,↓reduceIte,simprocAttr,xk B15 [2,1,2,2,1,2,2] .sq rfl,xk B15 [1,2,1,2,2,1,2,2] (.bk 1) rfl,xk B15 [2,1,2,1,2,2,1,2,2] .sq rfl,rg B15 [1,2,1,2,1,2,2,1,2,2] 6 true rfl,hr_15_6,fieldAddrV,t_26,t_23,indexAddrV,t_65,encT65_eq,ag_65,ag_63,t_63,t_3,t_22,xk B15 [2,2,1,2,1,2,2,1,2,2] (.cd 52) rfl,h1,h3,h5]
 rcases cond_some hF with ⟨h6,hF⟩ | ⟨h6,hF⟩
 ·cases hF
  simp (maxSteps:=999999) (disch:=first|exact D (by decide)|exact K (by kernel_rfl)) only [E,EE,↓reduceIte,simprocAttr,xk B15 [2,2,2,1,2,1,2,2,1,2,2] .sq rfl,rg B15 [1,2,2,2,1,2,1,2,2,1,2,2] 7 false rfl,hr_15_7,xk B15 [2,2,2,2,1,2,1,2,2,1,2,2] .rt rfl,R15_aiirrzaiinnz_l2.st,h1,h3,h5,h6]
 ·have hJ := f15_aiirrzaiinnz_l2_j2_ok k x5 false h0_ h0__1 h0__2 h0__3 h1_ h1__1 h1__2 h1__3 _ hF
  simp (maxSteps:=999999) (disch:=first|exact D (by decide)|exact K (by kernel_rfl)) only [E,EE,↓reduceIte,simprocAttr,xk B15 [3,2,2,1,2,1,2,2,1,2,2] .sk rfl,h1,h3,h5,h6]
  try simp only [NM,EE] at hJ
  exact hJ
noncomputable def f15_aiirrzaiinnz_l2_b (k : Nat) (x5 h0_ h0__1 : Int) (h0__2 : List T65) (h0__3 : List T39) (h1_ h1__1 : Int) (h1__2 : List T65) (h1__3 : List T39) : Option R15_aiirrzaiinnz_l2 :=
 cond ((decide (x5 < ((List.length h0__2) : Int))))
  (f15_aiirrzaiinnz_l2_j1 k x5 true h0_ h0__1 h0__2 h0__3 h1_ h1__1 h1__2 h1__3)
  (some (R15_aiirrzaiinnz_l2.o2 x5 false h0_ h0__1 h0__2 h0__3 h1_ h1__1 h1__2 h1__3))
theorem f15_aiirrzaiinnz_l2_b_ok (k : Nat) (x5 h0_ h0__1 : Int) (h0__2 : List T65) (h0__3 : List T39) (h1_ h1__1 : Int) (h1__2 : List T65) (h1__3 : List T39) (r : R15_aiirrzaiinnz_l2) (hF : f15_aiirrzaiinnz_l2_b k x5 h0_ h0__1 h0__2 h0__3 h1_ h1__1 h1__2 h1__3 = some r) : EX 15 k (nav B15 [1,2,2,1,2,2]) (⟨53,[(2,.ptr 30000 0),(3,.ptr 30001 0),(5,.p (.int .i64 x5))],[(30000,.box 26 [.p (.int .i64 h0_),.p (.int .u32 h0__1),.sl 4 (rowsOf encT65 h0__2),.sl 11 (rowsOf encT39 h0__3)]),(30001,.box 26 [.p (.int .i64 h1_),.p (.int .u32 h1__1),.sl 4 (rowsOf encT65 h1__2),.sl 11 (rowsOf encT39 h1__3)])]⟩ : St) = some r.st := by
 unfold f15_aiirrzaiinnz_l2_b at hF
 simp (maxSteps:=999999) (disch:=first|exact D (by decide)|exact K (by kernel_rfl)) only [E,EE,↓reduceIte,simprocAttr,xk B15 [1,2,2,1,2,2] .sq rfl,xk B15 [1,1,2,2,1,2,2] .sq rfl,rg B15 [1,1,1,2,2,1,2,2] 4 false rfl,hr_15_4,fieldAddrV,t_26,t_23,xk B15 [2,1,1,2,2,1,2,2] (.cd 39) rfl]
 rcases cond_some hF with ⟨h1,hF⟩ | ⟨h1,hF⟩
 ·have hJ := f15_aiirrzaiinnz_l2_j1_ok k x5 true h0_ h0__1 h0__2 h0__3 h1_ h1__1 h1__2 h1__3 _ hF
  simp (maxSteps:=999999) (disch:=first|exact D (by decide)|exact K (by kernel_rfl)) only [E,EE,↓reduceIte,simprocAttr,xk B15 [2,2,1,1,2,2,1,2,2] .sk rfl,h1]
  try simp only [NM,EE] at hJ
  exact hJ
 ·cases hF
  simp (maxSteps:=999999) (disch:=first|exact D (by decide)|exact K (by kernel_rfl)) only [E,EE,↓reduceIte,simprocAttr,xk B15 [3,2,1,1,2,2,1,2,2] (.ex 0) rfl,R15_aiirrzaiinnz_l2.st,h1]
noncomputable def f15_aiirrzaiinnz_l2 (k : Nat) : Nat → Int → Int → Int → (List T65) → (List T39) → Int → Int → (List T65) → (List T39) → Option R15_aiirrzaiinnz_l2
 | 0,_,_,_,_,_,_,_,_,_ => none
 | n + 1,x5,h0_,h0__1,h0__2,h0__3,h1_,h1__1,h1__2,h1__3 => Option.bind (f15_aiirrzaiinnz_l2_b k x5 h0_ h0__1 h0__2 h0__3 h1_ h1__1 h1__2 h1__3) fun o =>
  match o with
  | .o0 y => some (.o0 y)
  | .o1 y y_1 y_2 y_3 y_4 y_5 y_6 y_7 y_8 => f15_aiirrzaiinnz_l2 k n y y_1 y_2 y_3 y_4 y_5 y_6 y_7 y_8
  | .o2 y y_1 y_2 y_3 y_4 y_5 y_6 y_7 y_8 y_9 => some (.o2 y y_1 y_2 y_3 y_4 y_5 y_6 y_7 y_8 y_9)
theorem f15_aiirrzaiinnz_l2_ok (k n : Nat) : ∀ (x5 h0_ h0__1 : Int) (h0__2 : List T65) (h0__3 : List T39) (h1_ h1__1 : Int) (h1__2 : List T65) (h1__3 : List T39) (r : R15_aiirrzaiinnz_l2) (hF : f15_aiirrzaiinnz_l2 k n x5 h0_ h0__1 h0__2 h0__3 h1_ h1__1 h1__2 h1__3 = some r) (σ : St) (hσ : headR (hints.head 15 4) (hints.canon 15 4) σ = some (⟨53,[(2,.ptr 30000 0),(3,.ptr 30001 0),(5,.p (.int .i64 x5))],[(30000,.box 26 [.p (.int .i64 h0_),.p (.int .u32 h0__1),.sl 4 (rowsOf encT65 h0__2),.sl 11 (rowsOf encT39 h0__3)]),(30001,.box 26 [.p (.int .i64 h1_),.p (.int .u32 h1__1),.sl 4 (rowsOf encT65 h1__2),.sl 11 (rowsOf encT39 h1__3)])]⟩ : St)),LP 15 k (nav B15 [1,2,2,1,2,2]) n σ = some r.st := by
 induction n with
 | zero => intro x5 h0_ h0__1 h0__2 h0__3 h1_ h1__1 h1__2 h1__3 r hF; cases hF
 | succ n ih =>
  intro x5 h0_ h0__1 h0__2 h0__3 h1_ h1__1 h1__2 h1__3 r hF σ hσ
  rw [f15_aiirrzaiinnz_l2] at hF
  obtain ⟨o,h,hF⟩ := Option.bind_eq_some_iff.1 hF
  have hB := f15_aiirrzaiinnz_l2_b_ok k x5 h0_ h0__1 h0__2 h0__3 h1_ h1__1 h1__2 h1__3 o h
  unfold LP at ih ⊢
  unfold EX at hB
  rw [loopK_succ,show firstReg (nav B15 [1,2,2,1,2,2]) = 4 from rfl,hσ,headK_some,hB]
  cases o with
  | o0 y => cases hF; rfl
  | o1 y y_1 y_2 y_3 y_4 y_5 y_6 y_7 y_8 =>
   refine ih y y_1 y_2 y_3 y_4 y_5 y_6 y_7 y_8 r hF _ ?_
   simp (maxSteps:=999999) (disch:=first|exact D (by decide)|exact K (by kernel_rfl)) only [E,EE,↓reduceIte,simprocAttr,hh_15_4,hc_15_4]
  | o2 y y_1 y_2 y_3 y_4 y_5 y_6 y_7 y_8 y_9 => cases hF; rfl
noncomputable def f15_aiirrzaiinnz_j3 (k : Nat) (x5 : Int) (x39 : Bool) (h0_ h0__1 : Int) (h0__2 : List T65) (h0__3 : List T39) (h1_ h1__1 : Int) (h1__2 : List T65) (h1__3 : List T39) : Option R15_aiirrzaiinnz :=
 some (R15_aiirrzaiinnz.o0 true)
theorem f15_aiirrzaiinnz_j3_ok (k : Nat) (x5 : Int) (x39 : Bool) (h0_ h0__1 : Int) (h0__2 : List T65) (h0__3 : List T39) (h1_ h1__1 : Int) (h1__2 : List T65) (h1__3 : List T39) (r : R15_aiirrzaiinnz) (hF : f15_aiirrzaiinnz_j3 k x5 x39 h0_ h0__1 h0__2 h0__3 h1_ h1__1 h1__2 h1__3 = some r) : finK Try.prog Try.f15 0 (EX 15 k (nav B15 [2,2,2]) (⟨53,[(2,.ptr 30000 0),(3,.ptr 30001 0),(5,.p (.int .i64 x5)),(39,.p (.bool x39))],[(30000,.box 26 [.p (.int .i64 h0_),.p (.int .u32 h0__1),.sl 4 (rowsOf encT65 h0__2),.sl 11 (rowsOf encT39 h0__3)]),(30001,.box 26 [.p (.int .i64 h1_),.p (.int .u32 h1__1),.sl 4 (rowsOf encT65 h1__2),.sl 11 (rowsOf encT39 h1__3)])]⟩ : St)) = some r.st := by
 unfold f15_aiirrzaiinnz_j3 at hF
 cases hF
 simp (maxSteps:=999999) (disch:=first|exact D (by decide)|exact K (by kernel_rfl)) only [E,EE,↓reduceIte,simprocAttr,xk B15 [2,2,2] .sq rfl,rg B15 [1,2,2,2] 8 false rfl,hr_15_8,xk B15 [2,2,2,2] .rt rfl,finK_norm,finK_ret,fin15,R15_aiirrzaiinnz.st]
noncomputable def f15_aiirrzaiinnz_j1 (k : Nat) (x34 : Bool) (m2 m2_1 : Int) (m2_2 : List T65) (m2_3 : List T39) (m3 m3_1 : Int) (m3_2 : List T65) (m3_3 : List T39) : Option R15_aiirrzaiinnz :=
 Option.bind (f15_aiirrzaiinnz_l2 k k 0 m2 m2_1 m2_2 m2_3 m3 m3_1 m3_2 m3_3) fun o1 =>
  match o1 with
  | .o0 v4 =>
   some (R15_aiirrzaiinnz.o0 v4)
  | .o1 _ _ _ _ _ _ _ _ _ =>
   none
  | .o2 v5 v6 v7 v8 v9 v10 v11 v12 v13 v14 =>
   f15_aiirrzaiinnz_j3 k v5 v6 v7 v8 v9 v10 v11 v12 v13 v14
theorem f15_aiirrzaiinnz_j1_ok (k : Nat) (x34 : Bool) (m2 m2_1 : Int) (m2_2 : List T65) (m2_3 : List T39) (m3 m3_1 : Int) (m3_2 : List T65) (m3_3 : List T39) (r : R15_aiirrzaiinnz) (hF : f15_aiirrzaiinnz_j1 k x34 m2 m2_1 m2_2 m2_3 m3 m3_1 m3_2 m3_3 = some r) : finK Try.prog Try.f15 0 (EX 15 k (nav B15 [2,2]) (⟨53,[(2,.ptr 2 0),(3,.ptr 3 0),(34,.p (.bool x34))],[(2,.box 26 [.p (.int .i64 m2),.p (.int .u32 m2_1),.sl 4 (rowsOf encT65 m2_2),.sl 11 (rowsOf encT39 m2_3)]),(3,.box 26 [.p (.int .i64 m3),.p (.int .u32 m3_1),.sl 4 (rowsOf encT65 m3_2),.sl 11 (rowsOf encT39 m3_3)])]⟩ : St)) = some r.st := by
 unfold f15_aiirrzaiinnz_j1 at hF
 obtain ⟨o1,h2,hF⟩ := bs hF
 have hc3 := f15_aiirrzaiinnz_l2_ok k k 0 m2 m2_1 m2_2 m2_3 m3 m3_1 m3_2 m3_3 _ h2
 simp (maxSteps:=999999) (disch:=first|exact D (by decide)|exact K (by kernel_rfl)) only [E,EE,↓reduceIte,simprocAttr,xk B15 [2,2] .sq rfl,xk B15 [1,2,2] .sq rfl,rg B15 [1,1,2,2] 3 false rfl,hr_15_3,xk B15 [2,1,2,2] (.bk 0) rfl,xk B15 [2,2,1,2,2] .lp rfl,hh_15_4,hc_15_4]
 (try simp only [NM,EE] at hc3)
 rw [hc3 _ (by simp (maxSteps:=999999) (disch:=first|exact D (by decide)|exact K (by kernel_rfl)) only [E,EE,↓reduceIte,simprocAttr,hh_15_4,hc_15_4])]
 clear hc3
 cases o1 with
 | o0 v4 =>
  (try dsimp only at hF)
  cases hF
  simp (maxSteps:=999999) (disch:=first|exact D (by decide)|exact K (by kernel_rfl)) only [E,EE,↓reduceIte,simprocAttr,R15_aiirrzaiinnz_l2.st,finK_norm,finK_ret,fin15,R15_aiirrzaiinnz.st]
 | o1 _ _ _ _ _ _ _ _ _ =>
  (try dsimp only at hF)
  cases hF
 | o2 v5 v6 v7 v8 v9 v10 v11 v12 v13 v14 =>
  (try dsimp only at hF)
  have hJ := f15_aiirrzaiinnz_j3_ok k v5 v6 v7 v8 v9 v10 v11 v12 v13 v14 _ hF
  simp (maxSteps:=999999) (disch:=first|exact D (by decide)|exact K (by kernel_rfl)) only [E,EE,↓reduceIte,simprocAttr,R15_aiirrzaiinnz_l2.st]
  try simp only [NM,EE] at hJ
  exact hJ
noncomputable def f15_aiirrzaiinnz_e (k : Nat) (a0 a0_1 : Int) (a0_2 : List T65) (a0_3 : List T39) (a1 a1_1 : Int) : Option R15_aiirrzaiinnz :=
 cond ((a0 != a1))
  (some (R15_aiirrzaiinnz.o0 false))
  (
   cond ((a0_1 != a1_1))
    (some (R15_aiirrzaiinnz.o0 false))
    (
     cond ((((List.length a0_2) : Int) != 0))
      (some (R15_aiirrzaiinnz.o0 false))
      (
       Option.bind (f31_rr k a0_3 []) fun o4 =>
        match o4 with
        | .o0 v7 =>
         cond ((!v7))
          (some (R15_aiirrzaiinnz.o0 false))
          (f15_aiirrzaiinnz_j1 k false a0 a0_1 a0_2 a0_3 a1 a1_1 [] []))))
theorem f15_aiirrzaiinnz_e_ok (k : Nat) (a0 a0_1 : Int) (a0_2 : List T65) (a0_3 : List T39) (a1 a1_1 : Int) (r : R15_aiirrzaiinnz) (hF : f15_aiirrzaiinnz_e k a0 a0_1 a0_2 a0_3 a1 a1_1 = some r) : finK Try.prog Try.f15 0 (EX 15 k (nav B15 []) (⟨53,[(0,.agg [.p (.int .i64 a0),.p (.int .u32 a0_1),.sl 4 (rowsOf encT65 a0_2),.sl 11 (rowsOf encT39 a0_3)]),(1,.agg [.p (.int .i64 a1),.p (.int .u32 a1_1),V.nil,V.nil])],[]⟩ : St)) = some r.st := by
 unfold f15_aiirrzaiinnz_e at hF
 simp (maxSteps:=999999) (disch:=first|exact D (by decide)|exact K (by kernel_rfl)) only [E,EE,↓reduceIte,simprocAttr,xk B15 [] .sq rfl,rg B15 [1] 0 false rfl,hr_15_0,xk B15 [2] .sq rfl,xk B15 [1,2] .sq rfl,rg B15 [1,1,2] 1 false rfl,hr_15_1,fieldAddrV,t_26,t_3]
 rcases cond_some hF with ⟨h1,hF⟩ | ⟨h1,hF⟩
 ·cases hF
  simp (maxSteps:=999999) (disch:=first|exact D (by decide)|exact K (by kernel_rfl)) only [E,EE,↓reduceIte,simprocAttr,xk B15 [2,1,2] (.cd 34) rfl,xk B15 [2,2,1,2] .sq rfl,rg B15 [1,2,2,1,2] 2 false rfl,hr_15_2,xk B15 [2,2,2,1,2] .rt rfl,finK_norm,finK_ret,fin15,R15_aiirrzaiinnz.st,h1]
 ·simp (maxSteps:=999999) (disch:=first|exact D (by decide)|exact K (by kernel_rfl)) only [E,EE,↓reduceIte,simprocAttr,fieldAddrV,t_26,t_22,h1]
  rcases cond_some hF with ⟨h2,hF⟩ | ⟨h2,hF⟩
  ·cases hF
   simp (maxSteps:=999999) (disch:=first|exact D (by decide)|exact K (by kernel_rfl)) only [E,EE,↓reduceIte,simprocAttr,xk B15 [2,1,2] (.cd 34) rfl,xk B15 [2,2,1,2] .sq rfl,rg B15 [1,2,2,1,2] 2 false rfl,hr_15_2,xk B15 [2,2,2,1,2] .rt rfl,finK_norm,finK_ret,fin15,R15_aiirrzaiinnz.st,h1,h2]
  ·simp (maxSteps:=999999) (disch:=first|exact D (by decide)|exact K (by kernel_rfl)) only [E,EE,↓reduceIte,simprocAttr,fieldAddrV,t_26,t_23,h1,h2]
   rcases cond_some hF with ⟨h3,hF⟩ | ⟨h3,hF⟩
   ·cases hF
    simp (maxSteps:=999999) (disch:=first|exact D (by decide)|exact K (by kernel_rfl)) only [E,EE,↓reduceIte,simprocAttr,xk B15 [2,1,2] (.cd 34) rfl,xk B15 [2,2,1,2] .sq rfl,rg B15 [1,2,2,1,2] 2 false rfl,hr_15_2,xk B15 [2,2,2,1,2] .rt rfl,finK_norm,finK_ret,fin15,R15_aiirrzaiinnz.st,h1,h2,h3]
   ·obtain ⟨o4,h5,hF⟩ := bs hF
    have hc6 := f31_rr_ok k a0_3 [] _ h5
    cases o4 with
    | o0 v7 =>
     (try dsimp only at hF)
     (try simp only [NM,EE,R31_rr.st] at hc6)
     simp (maxSteps:=999999) (disch:=first|exact D (by decide)|exact K (by kernel_rfl)) only [E,EE,↓reduceIte,simprocAttr,fieldAddrV,t_26,t_24,callStep,CL,gv,List.contains,xk B15 [2,1,2] (.cd 34) rfl,h1,h2,h3,hc6]
     rcases cond_some hF with ⟨h8,hF⟩ | ⟨h8,hF⟩
     ·cases hF
      simp (maxSteps:=999999) (disch:=first|exact D (by decide)|exact K (by kernel_rfl)) only [E,EE,↓reduceIte,simprocAttr,xk B15 [2,2,1,2] .sq rfl,rg B15 [1,2,2,1,2] 2 false rfl,hr_15_2,xk B15 [2,2,2,1,2] .rt rfl,finK_norm,finK_ret,fin15,R15_aiirrzaiinnz.st,h1,h2,h3,hc6,h8]
     ·have hJ := f15_aiirrzaiinnz_j1_ok k false a0 a0_1 a0_2 a0_3 a1 a1_1 [] [] _ hF
      simp (maxSteps:=999999) (disch:=first|exact D (by decide)|exact K (by kernel_rfl)) only [E,EE,↓reduceIte,simprocAttr,xk B15 [3,2,1,2] .sk rfl,h1,h2,h3,hc6,h8]
      try simp only [NM,EE] at hJ
      exact hJ
noncomputable def f15_aiirrzaiinnz (k : Nat) (a0 a0_1 : Int) (a0_2 : List T65) (a0_3 : List T39) (a1 a1_1 : Int) : Option R15_aiirrzaiinnz := match k with | 0 => none | k + 1 => f15_aiirrzaiinnz_e k a0 a0_1 a0_2 a0_3 a1 a1_1
theorem f15_aiirrzaiinnz_ok (k : Nat) (a0 a0_1 : Int) (a0_2 : List T65) (a0_3 : List T39) (a1 a1_1 : Int) (r : R15_aiirrzaiinnz) (hF : f15_aiirrzaiinnz k a0 a0_1 a0_2 a0_3 a1 a1_1 = some r) : CV k 15 [.agg [.p (.int .i64 a0),.p (.int .u32 a0_1),.sl 4 (rowsOf encT65 a0_2),.sl 11 (rowsOf encT39 a0_3)],.agg [.p (.int .i64 a1),.p (.int .u32 a1_1),V.nil,V.nil]] [] = some r.st := by
 cases k with
 | zero => cases hF
 | succ k =>
  unfold CV
  rw [ev_call (F := Try.f15) (c := (nav B15 [])) rfl Try.func15 rfl rfl rfl rfl]
  exact f15_aiirrzaiinnz_e_ok k a0 a0_1 a0_2 a0_3 a1 a1_1 r hF
-- f12_aiirrzii: f12 heliograph/heliographlaw19.none
inductive R12_aiirrzii where
 | o0 (y : Bool)
noncomputable def R12_aiirrzii.st : R12_aiirrzii → V × List O × List O
 | .o0 y => (.p (.bool y),[],[])
noncomputable def f12_aiirrzii_e (k : Nat) (a0 a0_1 : Int) (a0_2 : List T65) (a0_3 : List T39) (a1 a2 : Int) : Option R12_aiirrzii :=
 Option.bind (f15_aiirrzaiinnz k a0 a0_1 a0_2 a0_3 0 0) fun o1 =>
  match o1 with
  | .o0 v4 =>
   cond (v4)
    (some (R12_aiirrzii.o0 (a1 == a2)))
    (some (R12_aiirrzii.o0 false))
theorem f12_aiirrzii_e_ok (k : Nat) (a0 a0_1 : Int) (a0_2 : List T65) (a0_3 : List T39) (a1 a2 : Int) (r : R12_aiirrzii) (hF : f12_aiirrzii_e k a0 a0_1 a0_2 a0_3 a1 a2 = some r) : finK Try.prog Try.f12 0 (EX 12 k (nav B12 []) (⟨15,[(0,.agg [.p (.int .i64 a0),.p (.int .u32 a0_1),.sl 4 (rowsOf encT65 a0_2),.sl 11 (rowsOf encT39 a0_3)]),(1,.p (.int .i64 a1)),(2,.p (.int .i64 a2))],[]⟩ : St)) = some r.st := by
 unfold f12_aiirrzii_e at hF
 obtain ⟨o1,h2,hF⟩ := bs hF
 have hc3 := f15_aiirrzaiinnz_ok k a0 a0_1 a0_2 a0_3 0 0 _ h2
 cases o1 with
 | o0 v4 =>
  (try dsimp only at hF)
  (try simp only [NM,EE,R15_aiirrzaiinnz.st] at hc3)
  simp (maxSteps:=999999) (disch:=first|exact D (by decide)|exact K (by kernel_rfl)) only [E,EE,↓reduceIte,simprocAttr,xk B12 [] .sq rfl,rg B12 [1] 0 false rfl,hr_12_0,xk B12 [2] .sq rfl,rg B12 [1,2] 1 false rfl,hr_12_1,t_26,bl_26,callStep,CL,gv,List.contains,hc3]
  rcases cond_some hF with ⟨h5,hF⟩ | ⟨h5,hF⟩
  ·cases hF
   simp (maxSteps:=999999) (disch:=first|exact D (by decide)|exact K (by kernel_rfl)) only [E,EE,↓reduceIte,simprocAttr,xk B12 [2,2] .rt rfl,finK_norm,finK_ret,fin12,R12_aiirrzii.st,hc3,h5]
  ·cases hF
   simp (maxSteps:=999999) (disch:=first|exact D (by decide)|exact K (by kernel_rfl)) only [E,EE,↓reduceIte,simprocAttr,xk B12 [2,2] .rt rfl,finK_norm,finK_ret,fin12,R12_aiirrzii.st,hc3,h5]
noncomputable def f12_aiirrzii (k : Nat) (a0 a0_1 : Int) (a0_2 : List T65) (a0_3 : List T39) (a1 a2 : Int) : Option R12_aiirrzii := match k with | 0 => none | k + 1 => f12_aiirrzii_e k a0 a0_1 a0_2 a0_3 a1 a2
theorem f12_aiirrzii_ok (k : Nat) (a0 a0_1 : Int) (a0_2 : List T65) (a0_3 : List T39) (a1 a2 : Int) (r : R12_aiirrzii) (hF : f12_aiirrzii k a0 a0_1 a0_2 a0_3 a1 a2 = some r) : CV k 12 [.agg [.p (.int .i64 a0),.p (.int .u32 a0_1),.sl 4 (rowsOf encT65 a0_2),.sl 11 (rowsOf encT39 a0_3)],.p (.int .i64 a1),.p (.int .i64 a2)] [] = some r.st := by
 cases k with
 | zero => cases hF
 | succ k =>
  unfold CV
  rw [ev_call (F := Try.f12) (c := (nav B12 [])) rfl Try.func12 rfl rfl rfl rfl]
  exact f12_aiirrzii_e_ok k a0 a0_1 a0_2 a0_3 a1 a2 r hF
-- f15_aiirrzaiirrz: f15 heliograph/heliographref19.Same
inductive R15_aiirrzaiirrz where
 | o0 (y : Bool)
noncomputable def R15_aiirrzaiirrz.st : R15_aiirrzaiirrz → V × List O × List O
 | .o0 y => (.p (.bool y),[],[])
inductive R15_aiirrzaiirrz_l2 where
 | o0 (y : Bool)
 | o1 (y y_1 y_2 : Int) (y_3 : List T65) (y_4 : List T39) (y_5 y_6 : Int) (y_7 : List T65) (y_8 : List T39)
 | o2 (y : Int) (y_1 : Bool) (y_2 y_3 : Int) (y_4 : List T65) (y_5 : List T39) (y_6 y_7 : Int) (y_8 : List T65) (y_9 : List T39)
noncomputable def R15_aiirrzaiirrz_l2.st : R15_aiirrzaiirrz_l2 → Out × St
 | .o0 y => (.ret,(⟨53,[(4,.p (.bool y))],[]⟩ : St))
 | .o1 y y_1 y_2 y_3 y_4 y_5 y_6 y_7 y_8 => (.norm,(⟨53,[(2,.ptr 30000 0),(3,.ptr 30001 0),(5,.p (.int .i64 y))],[(30000,.box 26 [.p (.int .i64 y_1),.p (.int .u32 y_2),.sl 4 (rowsOf encT65 y_3),.sl 11 (rowsOf encT39 y_4)]),(30001,.box 26 [.p (.int .i64 y_5),.p (.int .u32 y_6),.sl 4 (rowsOf encT65 y_7),.sl 11 (rowsOf encT39 y_8)])]⟩ : St))
 | .o2 y y_1 y_2 y_3 y_4 y_5 y_6 y_7 y_8 y_9 => (.exit 0,(⟨53,[(2,.ptr 30000 0),(3,.ptr 30001 0),(5,.p (.int .i64 y)),(39,.p (.bool y_1))],[(30000,.box 26 [.p (.int .i64 y_2),.p (.int .u32 y_3),.sl 4 (rowsOf encT65 y_4),.sl 11 (rowsOf encT39 y_5)]),(30001,.box 26 [.p (.int .i64 y_6),.p (.int .u32 y_7),.sl 4 (rowsOf encT65 y_8),.sl 11 (rowsOf encT39 y_9)])]⟩ : St))
noncomputable def f15_aiirrzaiirrz_l2_j2 (k : Nat) (x5 : Int) (x52 : Bool) (h0_ h0__1 : Int) (h0__2 : List T65) (h0__3 : List T39) (h1_ h1__1 : Int) (h1__2 : List T65) (h1__3 : List T39) : Option R15_aiirrzaiirrz_l2 :=
 some (R15_aiirrzaiirrz_l2.o1 (IntKind.i64.wrap (x5 + (1 : Int))) h0_ h0__1 h0__2 h0__3 h1_ h1__1 h1__2 h1__3)
theorem f15_aiirrzaiirrz_l2_j2_ok (k : Nat) (x5 : Int) (x52 : Bool) (h0_ h0__1 : Int) (h0__2 : List T65) (h0__3 : List T39) (h1_ h1__1 : Int) (h1__2 : List T65) (h1__3 : List T39) (r : R15_aiirrzaiirrz_l2) (hF : f15_aiirrzaiirrz_l2_j2 k x5 x52 h0_ h0__1 h0__2 h0__3 h1_ h1__1 h1__2 h1__3 = some r) : EX 15 k (nav B15 [2,2,1,2,2,1,2,2]) (⟨53,[(2,.ptr 30000 0),(3,.ptr 30001 0),(5,.p (.int .i64 x5)),(52,.p (.bool x52))],[(30000,.box 26 [.p (.int .i64 h0_),.p (.int .u32 h0__1),.sl 4 (rowsOf encT65 h0__2),.sl 11 (rowsOf encT39 h0__3)]),(30001,.box 26 [.p (.int .i64 h1_),.p (.int .u32 h1__1),.sl 4 (rowsOf encT65 h1__2),.sl 11 (rowsOf encT39 h1__3)])]⟩ : St) = some r.st := by
 unfold f15_aiirrzaiirrz_l2_j2 at hF
 cases hF
 simp (maxSteps:=999999) (disch:=first|exact D (by decide)|exact K (by kernel_rfl)) only [E,EE,↓reduceIte,simprocAttr,rg B15 [2,2,1,2,2,1,2,2] 5 false rfl,hr_15_5,R15_aiirrzaiirrz_l2.st]
noncomputable def f15_aiirrzaiirrz_l2_j1 (k : Nat) (x5 : Int) (x39 : Bool) (h0_ h0__1 : Int) (h0__2 : List T65) (h0__3 : List T39) (h1_ h1__1 : Int) (h1__2 : List T65) (h1__3 : List T39) : Option R15_aiirrzaiirrz_l2 :=
 ifE ((0 : Int) ≤ x5) (
  Option.bind (h0__2[(Int.toNat x5)]?) fun v2 =>
   Option.bind (h1__2[(Int.toNat x5)]?) fun v4 =>
    cond ((!(((v2.Key_Source == v4.Key_Source) && ((v2.Key_Seq == v4.Key_Seq) && (v2.Key_Offset == v4.Key_Offset))) && (v2.N == v4.N))))
     (some (R15_aiirrzaiirrz_l2.o0 false))
     (f15_aiirrzaiirrz_l2_j2 k x5 false h0_ h0__1 h0__2 h0__3 h1_ h1__1 h1__2 h1__3))
theorem f15_aiirrzaiirrz_l2_j1_ok (k : Nat) (x5 : Int) (x39 : Bool) (h0_ h0__1 : Int) (h0__2 : List T65) (h0__3 : List T39) (h1_ h1__1 : Int) (h1__2 : List T65) (h1__3 : List T39) (r : R15_aiirrzaiirrz_l2) (hF : f15_aiirrzaiirrz_l2_j1 k x5 x39 h0_ h0__1 h0__2 h0__3 h1_ h1__1 h1__2 h1__3 = some r) : EX 15 k (nav B15 [2,1,2,2,1,2,2]) (⟨53,[(2,.ptr 30000 0),(3,.ptr 30001 0),(5,.p (.int .i64 x5)),(39,.p (.bool x39))],[(30000,.box 26 [.p (.int .i64 h0_),.p (.int .u32 h0__1),.sl 4 (rowsOf encT65 h0__2),.sl 11 (rowsOf encT39 h0__3)]),(30001,.box 26 [.p (.int .i64 h1_),.p (.int .u32 h1__1),.sl 4 (rowsOf encT65 h1__2),.sl 11 (rowsOf encT39 h1__3)])]⟩ : St) = some r.st := by
 unfold f15_aiirrzaiirrz_l2_j1 at hF
 obtain ⟨h1,hF⟩ := ifE_some.1 hF
 obtain ⟨v2,h3,hF⟩ := bs hF
 obtain ⟨v4,h5,hF⟩ := bs hF
 simp (maxSteps:=999999) (disch:=first|exact D (by decide)|exact K (by kernel_rfl)) only [E,EE,↓reduceIte,simprocAttr,xk B15 [2,1,2,2,1,2,2] .sq rfl,xk B15 [1,2,1,2,2,1,2,2] (.bk 1) rfl,xk B15 [2,1,2,1,2,2,1,2,2] .sq rfl,rg B15 [1,2,1,2,1,2,2,1,2,2] 6 true rfl,hr_15_6,fieldAddrV,t_26,t_23,indexAddrV,t_65,encT65_eq,ag_65,ag_63,t_63,t_3,t_22,xk B15 [2,2,1,2,1,2,2,1,2,2] (.cd 52) rfl,h1,h3,h5]
 rcases cond_some hF with ⟨h6,hF⟩ | ⟨h6,hF⟩
 ·cases hF
  simp (maxSteps:=999999) (disch:=first|exact D (by decide)|exact K (by kernel_rfl)) only [E,EE,↓reduceIte,simprocAttr,xk B15 [2,2,2,1,2,1,2,2,1,2,2] .sq rfl,rg B15 [1,2,2,2,1,2,1,2,2,1,2,2] 7 false rfl,hr_15_7,xk B15 [2,2,2,2,1,2,1,2,2,1,2,2] .rt rfl,R15_aiirrzaiirrz_l2.st,h1,h3,h5,h6]
 ·have hJ := f15_aiirrzaiirrz_l2_j2_ok k x5 false h0_ h0__1 h0__2 h0__3 h1_ h1__1 h1__2 h1__3 _ hF
  simp (maxSteps:=999999) (disch:=first|exact D (by decide)|exact K (by kernel_rfl)) only [E,EE,↓reduceIte,simprocAttr,xk B15 [3,2,2,1,2,1,2,2,1,2,2] .sk rfl,h1,h3,h5,h6]
  try simp only [NM,EE] at hJ
  exact hJ
noncomputable def f15_aiirrzaiirrz_l2_b (k : Nat) (x5 h0_ h0__1 : Int) (h0__2 : List T65) (h0__3 : List T39) (h1_ h1__1 : Int) (h1__2 : List T65) (h1__3 : List T39) : Option R15_aiirrzaiirrz_l2 :=
 cond ((decide (x5 < ((List.length h0__2) : Int))))
  (f15_aiirrzaiirrz_l2_j1 k x5 true h0_ h0__1 h0__2 h0__3 h1_ h1__1 h1__2 h1__3)
  (some (R15_aiirrzaiirrz_l2.o2 x5 false h0_ h0__1 h0__2 h0__3 h1_ h1__1 h1__2 h1__3))
theorem f15_aiirrzaiirrz_l2_b_ok (k : Nat) (x5 h0_ h0__1 : Int) (h0__2 : List T65) (h0__3 : List T39) (h1_ h1__1 : Int) (h1__2 : List T65) (h1__3 : List T39) (r : R15_aiirrzaiirrz_l2) (hF : f15_aiirrzaiirrz_l2_b k x5 h0_ h0__1 h0__2 h0__3 h1_ h1__1 h1__2 h1__3 = some r) : EX 15 k (nav B15 [1,2,2,1,2,2]) (⟨53,[(2,.ptr 30000 0),(3,.ptr 30001 0),(5,.p (.int .i64 x5))],[(30000,.box 26 [.p (.int .i64 h0_),.p (.int .u32 h0__1),.sl 4 (rowsOf encT65 h0__2),.sl 11 (rowsOf encT39 h0__3)]),(30001,.box 26 [.p (.int .i64 h1_),.p (.int .u32 h1__1),.sl 4 (rowsOf encT65 h1__2),.sl 11 (rowsOf encT39 h1__3)])]⟩ : St) = some r.st := by
 unfold f15_aiirrzaiirrz_l2_b at hF
 simp (maxSteps:=999999) (disch:=first|exact D (by decide)|exact K (by kernel_rfl)) only [E,EE,↓reduceIte,simprocAttr,xk B15 [1,2,2,1,2,2] .sq rfl,xk B15 [1,1,2,2,1,2,2] .sq rfl,rg B15 [1,1,1,2,2,1,2,2] 4 false rfl,hr_15_4,fieldAddrV,t_26,t_23,xk B15 [2,1,1,2,2,1,2,2] (.cd 39) rfl]
 rcases cond_some hF with ⟨h1,hF⟩ | ⟨h1,hF⟩
 ·have hJ := f15_aiirrzaiirrz_l2_j1_ok k x5 true h0_ h0__1 h0__2 h0__3 h1_ h1__1 h1__2 h1__3 _ hF
  simp (maxSteps:=999999) (disch:=first|exact D (by decide)|exact K (by kernel_rfl)) only [E,EE,↓reduceIte,simprocAttr,xk B15 [2,2,1,1,2,2,1,2,2] .sk rfl,h1]
  try simp only [NM,EE] at hJ
  exact hJ
 ·cases hF
  simp (maxSteps:=999999) (disch:=first|exact D (by decide)|exact K (by kernel_rfl)) only [E,EE,↓reduceIte,simprocAttr,xk B15 [3,2,1,1,2,2,1,2,2] (.ex 0) rfl,R15_aiirrzaiirrz_l2.st,h1]
noncomputable def f15_aiirrzaiirrz_l2 (k : Nat) : Nat → Int → Int → Int → (List T65) → (List T39) → Int → Int → (List T65) → (List T39) → Option R15_aiirrzaiirrz_l2
 | 0,_,_,_,_,_,_,_,_,_ => none
 | n + 1,x5,h0_,h0__1,h0__2,h0__3,h1_,h1__1,h1__2,h1__3 => Option.bind (f15_aiirrzaiirrz_l2_b k x5 h0_ h0__1 h0__2 h0__3 h1_ h1__1 h1__2 h1__3) fun o =>
  match o with
  | .o0 y => some (.o0 y)
  | .o1 y y_1 y_2 y_3 y_4 y_5 y_6 y_7 y_8 => f15_aiirrzaiirrz_l2 k n y y_1 y_2 y_3 y_4 y_5 y_6 y_7 y_8
  | .o2 y y_1 y_2 y_3 y_4 y_5 y_6 y_7 y_8 y_9 => some (.o2 y y_1 y_2 y_3 y_4 y_5 y_6 y_7 y_8 y_9)
theorem f15_aiirrzaiirrz_l2_ok (k n : Nat) : ∀ (x5 h0_ h0__1 : Int) (h0__2 : List T65) (h0__3 : List T39) (h1_ h1__1 : Int) (h1__2 : List T65) (h1__3 : List T39) (r : R15_aiirrzaiirrz_l2) (hF : f15_aiirrzaiirrz_l2 k n x5 h0_ h0__1 h0__2 h0__3 h1_ h1__1 h1__2 h1__3 = some r) (σ : St) (hσ : headR (hints.head 15 4) (hints.canon 15 4) σ = some (⟨53,[(2,.ptr 30000 0),(3,.ptr 30001 0),(5,.p (.int .i64 x5))],[(30000,.box 26 [.p (.int .i64 h0_),.p (.int .u32 h0__1),.sl 4 (rowsOf encT65 h0__2),.sl 11 (rowsOf encT39 h0__3)]),(30001,.box 26 [.p (.int .i64 h1_),.p (.int .u32 h1__1),.sl 4 (rowsOf encT65 h1__2),.sl 11 (rowsOf encT39 h1__3)])]⟩ : St)),LP 15 k (nav B15 [1,2,2,1,2,2]) n σ = some r.st := by
 induction n with
 | zero => intro x5 h0_ h0__1 h0__2 h0__3 h1_ h1__1 h1__2 h1__3 r hF; cases hF
 | succ n ih =>
  intro x5 h0_ h0__1 h0__2 h0__3 h1_ h1__1 h1__2 h1__3 r hF σ hσ
  rw [f15_aiirrzaiirrz_l2] at hF
  obtain ⟨o,h,hF⟩ := Option.bind_eq_some_iff.1 hF
  have hB := f15_aiirrzaiirrz_l2_b_ok k x5 h0_ h0__1 h0__2 h0__3 h1_ h1__1 h1__2 h1__3 o h
  unfold LP at ih ⊢
  unfold EX at hB
  rw [loopK_succ,show firstReg (nav B15 [1,2,2,1,2,2]) = 4 from rfl,hσ,headK_some,hB]
  cases o with
  | o0 y => cases hF; rfl
  | o1 y y_1 y_2 y_3 y_4 y_5 y_6 y_7 y_8 =>
   refine ih y y_1 y_2 y_3 y_4 y_5 y_6 y_7 y_8 r hF _ ?_
   simp (maxSteps:=999999) (disch:=first|exact D (by decide)|exact K (by kernel_rfl)) only [E,EE,↓reduceIte,simprocAttr,hh_15_4,hc_15_4]
  | o2 y y_1 y_2 y_3 y_4 y_5 y_6 y_7 y_8 y_9 => cases hF; rfl
noncomputable def f15_aiirrzaiirrz_j3 (k : Nat) (x5 : Int) (x39 : Bool) (h0_ h0__1 : Int) (h0__2 : List T65) (h0__3 : List T39) (h1_ h1__1 : Int) (h1__2 : List T65) (h1__3 : List T39) : Option R15_aiirrzaiirrz :=
 some (R15_aiirrzaiirrz.o0 true)
theorem f15_aiirrzaiirrz_j3_ok (k : Nat) (x5 : Int) (x39 : Bool) (h0_ h0__1 : Int) (h0__2 : List T65) (h0__3 : List T39) (h1_ h1__1 : Int) (h1__2 : List T65) (h1__3 : List T39) (r : R15_aiirrzaiirrz) (hF : f15_aiirrzaiirrz_j3 k x5 x39 h0_ h0__1 h0__2 h0__3 h1_ h1__1 h1__2 h1__3 = some r) : finK Try.prog Try.f15 0 (EX 15 k (nav B15 [2,2,2]) (⟨53,[(2,.ptr 30000 0),(3,.ptr 30001 0),(5,.p (.int .i64 x5)),(39,.p (.bool x39))],[(30000,.box 26 [.p (.int .i64 h0_),.p (.int .u32 h0__1),.sl 4 (rowsOf encT65 h0__2),.sl 11 (rowsOf encT39 h0__3)]),(30001,.box 26 [.p (.int .i64 h1_),.p (.int .u32 h1__1),.sl 4 (rowsOf encT65 h1__2),.sl 11 (rowsOf encT39 h1__3)])]⟩ : St)) = some r.st := by
 unfold f15_aiirrzaiirrz_j3 at hF
 cases hF
 simp (maxSteps:=999999) (disch:=first|exact D (by decide)|exact K (by kernel_rfl)) only [E,EE,↓reduceIte,simprocAttr,xk B15 [2,2,2] .sq rfl,rg B15 [1,2,2,2] 8 false rfl,hr_15_8,xk B15 [2,2,2,2] .rt rfl,finK_norm,finK_ret,fin15,R15_aiirrzaiirrz.st]
noncomputable def f15_aiirrzaiirrz_j1 (k : Nat) (x34 : Bool) (m2 m2_1 : Int) (m2_2 : List T65) (m2_3 : List T39) (m3 m3_1 : Int) (m3_2 : List T65) (m3_3 : List T39) : Option R15_aiirrzaiirrz :=
 Option.bind (f15_aiirrzaiirrz_l2 k k 0 m2 m2_1 m2_2 m2_3 m3 m3_1 m3_2 m3_3) fun o1 =>
  match o1 with
  | .o0 v4 =>
   some (R15_aiirrzaiirrz.o0 v4)
  | .o1 _ _ _ _ _ _ _ _ _ =>
   none
  | .o2 v5 v6 v7 v8 v9 v10 v11 v12 v13 v14 =>
   f15_aiirrzaiirrz_j3 k v5 v6 v7 v8 v9 v10 v11 v12 v13 v14
theorem f15_aiirrzaiirrz_j1_ok (k : Nat) (x34 : Bool) (m2 m2_1 : Int) (m2_2 : List T65) (m2_3 : List T39) (m3 m3_1 : Int) (m3_2 : List T65) (m3_3 : List T39) (r : R15_aiirrzaiirrz) (hF : f15_aiirrzaiirrz_j1 k x34 m2 m2_1 m2_2 m2_3 m3 m3_1 m3_2 m3_3 = some r) : finK Try.prog Try.f15 0 (EX 15 k (nav B15 [2,2]) (⟨53,[(2,.ptr 2 0),(3,.ptr 3 0),(34,.p (.bool x34))],[(2,.box 26 [.p (.int .i64 m2),.p (.int .u32 m2_1),.sl 4 (rowsOf encT65 m2_2),.sl 11 (rowsOf encT39 m2_3)]),(3,.box 26 [.p (.int .i64 m3),.p (.int .u32 m3_1),.sl 4 (rowsOf encT65 m3_2),.sl 11 (rowsOf encT39 m3_3)])]⟩ : St)) = some r.st := by
 unfold f15_aiirrzaiirrz_j1 at hF
 obtain ⟨o1,h2,hF⟩ := bs hF
 have hc3 := f15_aiirrzaiirrz_l2_ok k k 0 m2 m2_1 m2_2 m2_3 m3 m3_1 m3_2 m3_3 _ h2
 simp (maxSteps:=999999) (disch:=first|exact D (by decide)|exact K (by kernel_rfl)) only [E,EE,↓reduceIte,simprocAttr,xk B15 [2,2] .sq rfl,xk B15 [1,2,2] .sq rfl,rg B15 [1,1,2,2] 3 false rfl,hr_15_3,xk B15 [2,1,2,2] (.bk 0) rfl,xk B15 [2,2,1,2,2] .lp rfl,hh_15_4,hc_15_4]
 (try simp only [NM,EE] at hc3)
 rw [hc3 _ (by simp (maxSteps:=999999) (disch:=first|exact D (by decide)|exact K (by kernel_rfl)) only [E,EE,↓reduceIte,simprocAttr,hh_15_4,hc_15_4])]
 clear hc3
 cases o1 with
 | o0 v4 =>
  (try dsimp only at hF)
  cases hF
  simp (maxSteps:=999999) (disch:=first|exact D (by decide)|exact K (by kernel_rfl)) only [E,EE,↓reduceIte,simprocAttr,R15_aiirrzaiirrz_l2.st,finK_norm,finK_ret,fin15,R15_aiirrzaiirrz.st]
 | o1 _ _ _ _ _ _ _ _ _ =>
  (try dsimp only at hF)
  cases hF
 | o2 v5 v6 v7 v8 v9 v10 v11 v12 v13 v14 =>
  (try dsimp only at hF)
  have hJ := f15_aiirrzaiirrz_j3_ok k v5 v6 v7 v8 v9 v10 v11 v12 v13 v14 _ hF
  simp (maxSteps:=999999) (disch:=first|exact D (by decide)|exact K (by kernel_rfl)) only [E,EE,↓reduceIte,simprocAttr,R15_aiirrzaiirrz_l2.st]
  try simp only [NM,EE] at hJ
  exact hJ
noncomputable def f15_aiirrzaiirrz_e (k : Nat) (a0 a0_1 : Int) (a0_2 : List T65) (a0_3 : List T39) (a1 a1_1 : Int) (a1_2 : List T65) (a1_3 : List T39) : Option R15_aiirrzaiirrz :=
 cond ((a0 != a1))
  (some (R15_aiirrzaiirrz.o0 false))
  (
   cond ((a0_1 != a1_1))
    (some (R15_aiirrzaiirrz.o0 false))
    (
     cond ((((List.length a0_2) : Int) != ((List.length a1_2) : Int)))
      (some (R15_aiirrzaiirrz.o0 false))
      (
       Option.bind (f31_rr k a0_3 a1_3) fun o4 =>
        match o4 with
        | .o0 v7 =>
         cond ((!v7))
          (some (R15_aiirrzaiirrz.o0 false))
          (f15_aiirrzaiirrz_j1 k false a0 a0_1 a0_2 a0_3 a1 a1_1 a1_2 a1_3))))
theorem f15_aiirrzaiirrz_e_ok (k : Nat) (a0 a0_1 : Int) (a0_2 : List T65) (a0_3 : List T39) (a1 a1_1 : Int) (a1_2 : List T65) (a1_3 : List T39) (r : R15_aiirrzaiirrz) (hF : f15_aiirrzaiirrz_e k a0 a0_1 a0_2 a0_3 a1 a1_1 a1_2 a1_3 = some r) : finK Try.prog Try.f15 0 (EX 15 k (nav B15 []) (⟨53,[(0,.agg [.p (.int .i64 a0),.p (.int .u32 a0_1),.sl 4 (rowsOf encT65 a0_2),.sl 11 (rowsOf encT39 a0_3)]),(1,.agg [.p (.int .i64 a1),.p (.int .u32 a1_1),.sl 4 (rowsOf encT65 a1_2),.sl 11 (rowsOf encT39 a1_3)])],[]⟩ : St)) = some r.st := by
 unfold f15_aiirrzaiirrz_e at hF
 simp (maxSteps:=999999) (disch:=first|exact D (by decide)|exact K (by kernel_rfl)) only [E,EE,↓reduceIte,simprocAttr,xk B15 [] .sq rfl,rg B15 [1] 0 false rfl,hr_15_0,xk B15 [2] .sq rfl,xk B15 [1,2] .sq rfl,rg B15 [1,1,2] 1 false rfl,hr_15_1,fieldAddrV,t_26,t_3]
 rcases cond_some hF with ⟨h1,hF⟩ | ⟨h1,hF⟩
 ·cases hF
  simp (maxSteps:=999999) (disch:=first|exact D (by decide)|exact K (by kernel_rfl)) only [E,EE,↓reduceIte,simprocAttr,xk B15 [2,1,2] (.cd 34) rfl,xk B15 [2,2,1,2] .sq rfl,rg B15 [1,2,2,1,2] 2 false rfl,hr_15_2,xk B15 [2,2,2,1,2] .rt rfl,finK_norm,finK_ret,fin15,R15_aiirrzaiirrz.st,h1]
 ·simp (maxSteps:=999999) (disch:=first|exact D (by decide)|exact K (by kernel_rfl)) only [E,EE,↓reduceIte,simprocAttr,fieldAddrV,t_26,t_22,h1]
  rcases cond_some hF with ⟨h2,hF⟩ | ⟨h2,hF⟩
  ·cases hF
   simp (maxSteps:=999999) (disch:=first|exact D (by decide)|exact K (by kernel_rfl)) only [E,EE,↓reduceIte,simprocAttr,xk B15 [2,1,2] (.cd 34) rfl,xk B15 [2,2,1,2] .sq rfl,rg B15 [1,2,2,1,2] 2 false rfl,hr_15_2,xk B15 [2,2,2,1,2] .rt rfl,finK_norm,finK_ret,fin15,R15_aiirrzaiirrz.st,h1,h2]
  ·simp (maxSteps:=999999) (disch:=first|exact D (by decide)|exact K (by kernel_rfl)) only [E,EE,↓reduceIte,simprocAttr,fieldAddrV,t_26,t_23,h1,h2]
   rcases cond_some hF with ⟨h3,hF⟩ | ⟨h3,hF⟩
   ·cases hF
    simp (maxSteps:=999999) (disch:=first|exact D (by decide)|exact K (by kernel_rfl)) only [E,EE,↓reduceIte,simprocAttr,xk B15 [2,1,2] (.cd 34) rfl,xk B15 [2,2,1,2] .sq rfl,rg B15 [1,2,2,1,2] 2 false rfl,hr_15_2,xk B15 [2,2,2,1,2] .rt rfl,finK_norm,finK_ret,fin15,R15_aiirrzaiirrz.st,h1,h2,h3]
   ·obtain ⟨o4,h5,hF⟩ := bs hF
    have hc6 := f31_rr_ok k a0_3 a1_3 _ h5
    cases o4 with
    | o0 v7 =>
     (try dsimp only at hF)
     (try simp only [NM,EE,R31_rr.st] at hc6)
     simp (maxSteps:=999999) (disch:=first|exact D (by decide)|exact K (by kernel_rfl)) only [E,EE,↓reduceIte,simprocAttr,fieldAddrV,t_26,t_24,callStep,CL,gv,List.contains,xk B15 [2,1,2] (.cd 34) rfl,h1,h2,h3,hc6]
     rcases cond_some hF with ⟨h8,hF⟩ | ⟨h8,hF⟩
     ·cases hF
      simp (maxSteps:=999999) (disch:=first|exact D (by decide)|exact K (by kernel_rfl)) only [E,EE,↓reduceIte,simprocAttr,xk B15 [2,2,1,2] .sq rfl,rg B15 [1,2,2,1,2] 2 false rfl,hr_15_2,xk B15 [2,2,2,1,2] .rt rfl,finK_norm,finK_ret,fin15,R15_aiirrzaiirrz.st,h1,h2,h3,hc6,h8]
     ·have hJ := f15_aiirrzaiirrz_j1_ok k false a0 a0_1 a0_2 a0_3 a1 a1_1 a1_2 a1_3 _ hF
      simp (maxSteps:=999999) (disch:=first|exact D (by decide)|exact K (by kernel_rfl)) only [E,EE,↓reduceIte,simprocAttr,xk B15 [3,2,1,2] .sk rfl,h1,h2,h3,hc6,h8]
      try simp only [NM,EE] at hJ
      exact hJ
noncomputable def f15_aiirrzaiirrz (k : Nat) (a0 a0_1 : Int) (a0_2 : List T65) (a0_3 : List T39) (a1 a1_1 : Int) (a1_2 : List T65) (a1_3 : List T39) : Option R15_aiirrzaiirrz := match k with | 0 => none | k + 1 => f15_aiirrzaiirrz_e k a0 a0_1 a0_2 a0_3 a1 a1_1 a1_2 a1_3
theorem f15_aiirrzaiirrz_ok (k : Nat) (a0 a0_1 : Int) (a0_2 : List T65) (a0_3 : List T39) (a1 a1_1 : Int) (a1_2 : List T65) (a1_3 : List T39) (r : R15_aiirrzaiirrz) (hF : f15_aiirrzaiirrz k a0 a0_1 a0_2 a0_3 a1 a1_1 a1_2 a1_3 = some r) : CV k 15 [.agg [.p (.int .i64 a0),.p (.int .u32 a0_1),.sl 4 (rowsOf encT65 a0_2),.sl 11 (rowsOf encT39 a0_3)],.agg [.p (.int .i64 a1),.p (.int .u32 a1_1),.sl 4 (rowsOf encT65 a1_2),.sl 11 (rowsOf encT39 a1_3)]] [] = some r.st := by
 cases k with
 | zero => cases hF
 | succ k =>
  unfold CV
  rw [ev_call (F := Try.f15) (c := (nav B15 [])) rfl Try.func15 rfl rfl rfl rfl]
  exact f15_aiirrzaiirrz_e_ok k a0 a0_1 a0_2 a0_3 a1 a1_1 a1_2 a1_3 r hF
end Go.Proofs.YticggdfaehneeaaV
