/- What the program's functions answer: plain functions,and that the interpreter answers what they do. Written by a program of this session,out of the translation. -/
import Derived.Test.YticggdfaehneeaaVP7
namespace Go.Proofs.YticggdfaehneeaaV
open Go
set_option linter.unusedVariables false
set_option linter.unusedSimpArgs false
set_option maxRecDepth 8000
set_option maxHeartbeats 4000000
-- f9_aiirrzai5zri: f9 heliograph/agent.Make
inductive R9_aiirrzai5zri where
 | o0 (y y_1 : Int) (y_2 : List T65) (y_3 : List T39) (y_4 : Int) (y_5 : List T39)
 | o1 (y y_1 y_2 : Int) (y_3 : List T65) (y_4 y_5 : List T39)
noncomputable def R9_aiirrzai5zri.st : R9_aiirrzai5zri → V × List O × List O
 | .o0 y y_1 y_2 y_3 y_4 y_5 => (V.tup [.agg [.p (.int .i64 y),.p (.int .u32 y_1),.sl 4 (rowsOf encT65 y_2),.own 2000000],.sl 11 (rowsOf encT39 y_3),.p (.int .i64 y_4)],[],[.row true 11 39 (rowsOf encT39 y_5)])
 | .o1 y y_1 y_2 y_3 y_4 y_5 => (V.tup [.agg [.p (.int .i64 y),.p (.int .u32 y_1),.own 2000000,.own 2000001],.own 2000002,.p (.int .i64 y_2)],[],[.row true 4 65 (rowsOf encT65 y_3),.row true 11 39 (rowsOf encT39 y_4),.row true 11 39 (rowsOf encT39 y_5)])
noncomputable def f9_aiirrzai5zri_j3 (k : Nat) (x14 : Int) (x75 : Bool) (m4 m4_1 : Int) (m4_2 : List T65) (m4_3 : List T39) (m8 m8_1 : Int) (m8_2 : List T65) (s1 m71 : List T39) : Option R9_aiirrzai5zri :=
 Option.bind (f26_aiirrz k m4 m4_1 m4_2 m4_3) fun o1 =>
  match o1 with
  | .o0 v4 v5 v6 v7 =>
   some (R9_aiirrzai5zri.o1 v4 (IntKind.u32.wrap (v5 + (1 : Int))) 0 v6 v7 m71)
theorem f9_aiirrzai5zri_j3_ok (k : Nat) (x14 : Int) (x75 : Bool) (m4 m4_1 : Int) (m4_2 : List T65) (m4_3 : List T39) (m8 m8_1 : Int) (m8_2 : List T65) (s1 m71 : List T39) (r : R9_aiirrzai5zri) (hF : f9_aiirrzai5zri_j3 k x14 x75 m4 m4_1 m4_2 m4_3 m8 m8_1 m8_2 s1 m71 = some r) : finK Try.prog Try.f9 0 (EX 9 k (nav B9 [2,2,2,2,2,2]) (⟨86,[(4,.ptr 4 0),(8,.ptr 8 0),(13,.own 71),(14,.p (.int .i64 x14)),(75,.p (.bool x75))],[(4,.box 26 [.p (.int .i64 m4),.p (.int .u32 m4_1),.sl 4 (rowsOf encT65 m4_2),.sl 11 (rowsOf encT39 m4_3)]),(8,.box 26 [.p (.int .i64 m8),.p (.int .u32 m8_1),.sl 4 (rowsOf encT65 m8_2),.own 700001]),(700001,.row true 11 39 (rowsOf encT39 s1)),(71,.row true 11 39 (rowsOf encT39 m71))]⟩ : St)) = some r.st := by
 unfold f9_aiirrzai5zri_j3 at hF
 obtain ⟨o1,h2,hF⟩ := bs hF
 have hc3 := f26_aiirrz_ok k m4 m4_1 m4_2 m4_3 _ h2
 cases o1 with
 | o0 v4 v5 v6 v7 =>
  (try dsimp only at hF)
  (try simp only [NM,EE,R26_aiirrz.st] at hc3)
  cases hF
  simp (maxSteps:=999999) (disch:=first|exact D (by decide)|exact K (by kernel_rfl)) only [E,EE,↓reduceIte,simprocAttr,xk B9 [2,2,2,2,2,2] .sq rfl,rg B9 [1,2,2,2,2,2,2] 12 false rfl,hr_9_12,t_26,callStep,CL,gv,List.contains,xk B9 [2,2,2,2,2,2,2] .sq rfl,rg B9 [1,2,2,2,2,2,2,2] 13 false rfl,hr_9_13,fieldAddrV,t_22,xk B9 [2,2,2,2,2,2,2,2] .sq rfl,rg B9 [1,2,2,2,2,2,2,2,2] 14 false rfl,hr_9_14,xk B9 [2,2,2,2,2,2,2,2,2] .rt rfl,finK_norm,finK_ret,fin9,R9_aiirrzai5zri.st,hc3]
noncomputable def f9_aiirrzai5zri_j2 (k : Nat) (x62 : Bool) (m4 m4_1 : Int) (m4_2 : List T65) (m4_3 : List T39) (m5 m5_1 m5_2 m5_3 m5_4 m8 m8_1 : Int) (m8_2 : List T65) (s1 : List T39) (m12 m12_1 m12_2 m12_3 m12_4 m12_5 m12_6 m12_7 m12_8 m12_9 : Int) (m12_10 : List Int) : Option R9_aiirrzai5zri :=
 Option.bind (f25_ai10rzi k m12 m12_1 m12_2 m12_3 m12_4 m12_5 m12_6 m12_7 m12_8 m12_9 m12_10 m5_4) fun o1 =>
  match o1 with
  | .o0 v4 v5 =>
   cond ((v4 != 0))
    (some (R9_aiirrzai5zri.o0 0 0 [] [] v4 []))
    (f9_aiirrzai5zri_j3 k v4 false m4 m4_1 m4_2 m4_3 m8 m8_1 m8_2 s1 v5)
theorem f9_aiirrzai5zri_j2_ok (k : Nat) (x62 : Bool) (m4 m4_1 : Int) (m4_2 : List T65) (m4_3 : List T39) (m5 m5_1 m5_2 m5_3 m5_4 m8 m8_1 : Int) (m8_2 : List T65) (s1 : List T39) (m12 m12_1 m12_2 m12_3 m12_4 m12_5 m12_6 m12_7 m12_8 m12_9 : Int) (m12_10 : List Int) (r : R9_aiirrzai5zri) (hF : f9_aiirrzai5zri_j2 k x62 m4 m4_1 m4_2 m4_3 m5 m5_1 m5_2 m5_3 m5_4 m8 m8_1 m8_2 s1 m12 m12_1 m12_2 m12_3 m12_4 m12_5 m12_6 m12_7 m12_8 m12_9 m12_10 = some r) : finK Try.prog Try.f9 0 (EX 9 k (nav B9 [2,2,2,2]) (⟨86,[(4,.ptr 4 0),(5,.ptr 5 0),(8,.ptr 8 0),(12,.ptr 12 0),(62,.p (.bool x62))],[(4,.box 26 [.p (.int .i64 m4),.p (.int .u32 m4_1),.sl 4 (rowsOf encT65 m4_2),.sl 11 (rowsOf encT39 m4_3)]),(5,.box 28 [.p (.int .i64 m5),.p (.int .i64 m5_1),.p (.int .i64 m5_2),.p (.int .i64 m5_3),.p (.int .i64 m5_4)]),(8,.box 26 [.p (.int .i64 m8),.p (.int .u32 m8_1),.sl 4 (rowsOf encT65 m8_2),.own 700001]),(700001,.row true 11 39 (rowsOf encT39 s1)),(12,.box 39 [.p (.int .i64 m12),.p (.int .i64 m12_1),.p (.int .u32 m12_2),.p (.int .i64 m12_3),.p (.int .i64 m12_4),.p (.int .i64 m12_5),.p (.int .i64 m12_6),.p (.int .i64 m12_7),.p (.int .i64 m12_8),.p (.int .i64 m12_9),.sl 1 (rowsOf (encI .u8) m12_10)])]⟩ : St)) = some r.st := by
 unfold f9_aiirrzai5zri_j2 at hF
 obtain ⟨o1,h2,hF⟩ := bs hF
 have hc3 := f25_ai10rzi_ok k m12 m12_1 m12_2 m12_3 m12_4 m12_5 m12_6 m12_7 m12_8 m12_9 m12_10 m5_4 _ h2
 cases o1 with
 | o0 v4 v5 =>
  (try dsimp only at hF)
  (try simp only [NM,EE,R25_ai10rzi.st] at hc3)
  simp (maxSteps:=999999) (disch:=first|exact D (by decide)|exact K (by kernel_rfl)) only [E,EE,↓reduceIte,simprocAttr,xk B9 [2,2,2,2] .sq rfl,rg B9 [1,2,2,2,2] 9 false rfl,hr_9_9,t_39,fieldAddrV,t_28,t_3,callStep,CL,gv,List.contains,xk B9 [2,2,2,2,2] .sq rfl,xk B9 [1,2,2,2,2,2] .sq rfl,rg B9 [1,1,2,2,2,2,2] 10 false rfl,hr_9_10,xk B9 [2,1,2,2,2,2,2] (.cd 75) rfl,hc3]
  rcases cond_some hF with ⟨h6,hF⟩ | ⟨h6,hF⟩
  ·cases hF
   simp (maxSteps:=999999) (disch:=first|exact D (by decide)|exact K (by kernel_rfl)) only [E,EE,↓reduceIte,simprocAttr,xk B9 [2,2,1,2,2,2,2,2] .sq rfl,rg B9 [1,2,2,1,2,2,2,2,2] 11 false rfl,hr_9_11,bl_26,t_26,xk B9 [2,2,2,1,2,2,2,2,2] .rt rfl,finK_norm,finK_ret,fin9,R9_aiirrzai5zri.st,hc3,h6]
  ·have hJ := f9_aiirrzai5zri_j3_ok k v4 false m4 m4_1 m4_2 m4_3 m8 m8_1 m8_2 s1 v5 _ hF
   simp (maxSteps:=999999) (disch:=first|exact D (by decide)|exact K (by kernel_rfl)) only [E,EE,↓reduceIte,simprocAttr,xk B9 [3,2,1,2,2,2,2,2] .sk rfl,hc3,h6]
   try simp only [NM,EE] at hJ
   exact hJ
noncomputable def f9_aiirrzai5zri_j1 (k : Nat) (x2 : List Int) (x3 x11 : Int) (x18 : Bool) (m4 m4_1 : Int) (m4_2 : List T65) (m4_3 : List T39) (m5 m5_1 m5_2 m5_3 m5_4 m8 m8_1 : Int) (m8_2 : List T65) (s1 : List T39) : Option R9_aiirrzai5zri :=
 Option.bind (f23_iii k m5 1 6) fun o1 =>
  match o1 with
  | .o0 v4 =>
   cond ((!v4))
    (some (R9_aiirrzai5zri.o0 0 0 [] [] 2 []))
    (
     cond ((m5 == m4))
      (some (R9_aiirrzai5zri.o0 0 0 [] [] 2 []))
      (
       Option.bind (f23_iii k m5_4 1 400) fun o7 =>
        match o7 with
        | .o0 v10 =>
         cond ((!v10))
          (some (R9_aiirrzai5zri.o0 0 0 [] [] 2 []))
          (
           Option.bind (f24_ai10rz k m4 m5 m4_1 x3 m5_1 m5_2 0 m5_3 0 ((List.length x2) : Int) x2) fun o12 =>
            match o12 with
            | .o0 v15 =>
             cond ((v15 != 0))
              (some (R9_aiirrzai5zri.o0 0 0 [] [] 2 []))
              (
               cond ((m4_1 == 4294967295))
                (some (R9_aiirrzai5zri.o0 0 0 [] [] 6 []))
                (f9_aiirrzai5zri_j2 k false m4 m4_1 m4_2 m4_3 m5 m5_1 m5_2 m5_3 m5_4 m8 m8_1 m8_2 s1 m4 m5 m4_1 x3 m5_1 m5_2 0 m5_3 0 ((List.length x2) : Int) x2)))))
theorem f9_aiirrzai5zri_j1_ok (k : Nat) (x2 : List Int) (x3 x11 : Int) (x18 : Bool) (m4 m4_1 : Int) (m4_2 : List T65) (m4_3 : List T39) (m5 m5_1 m5_2 m5_3 m5_4 m8 m8_1 : Int) (m8_2 : List T65) (s1 : List T39) (r : R9_aiirrzai5zri) (hF : f9_aiirrzai5zri_j1 k x2 x3 x11 x18 m4 m4_1 m4_2 m4_3 m5 m5_1 m5_2 m5_3 m5_4 m8 m8_1 m8_2 s1 = some r) : finK Try.prog Try.f9 0 (EX 9 k (nav B9 [2,2]) (⟨86,[(2,.sl 1 (rowsOf (encI .u8) x2)),(3,.p (.int .i64 x3)),(4,.ptr 4 0),(5,.ptr 5 0),(8,.ptr 8 0),(11,.p (.int .i64 x11)),(18,.p (.bool x18))],[(4,.box 26 [.p (.int .i64 m4),.p (.int .u32 m4_1),.sl 4 (rowsOf encT65 m4_2),.sl 11 (rowsOf encT39 m4_3)]),(5,.box 28 [.p (.int .i64 m5),.p (.int .i64 m5_1),.p (.int .i64 m5_2),.p (.int .i64 m5_3),.p (.int .i64 m5_4)]),(8,.box 26 [.p (.int .i64 m8),.p (.int .u32 m8_1),.sl 4 (rowsOf encT65 m8_2),.own 700001]),(700001,.row true 11 39 (rowsOf encT39 s1))]⟩ : St)) = some r.st := by
 unfold f9_aiirrzai5zri_j1 at hF
 obtain ⟨o1,h2,hF⟩ := bs hF
 have hc3 := f23_iii_ok k m5 1 6 _ h2
 cases o1 with
 | o0 v4 =>
  (try dsimp only at hF)
  (try simp only [NM,EE,R23_iii.st] at hc3)
  simp (maxSteps:=999999) (disch:=first|exact D (by decide)|exact K (by kernel_rfl)) only [E,EE,↓reduceIte,simprocAttr,xk B9 [2,2] .sq rfl,rg B9 [1,2,2] 4 false rfl,hr_9_4,fieldAddrV,t_26,t_3,t_28,t_22,t_29,bl_39,t_39,xk B9 [2,2,2] .sq rfl,xk B9 [1,2,2,2] (.bk 0) rfl,xk B9 [2,1,2,2,2] .sq rfl,rg B9 [1,2,1,2,2,2] 5 false rfl,hr_9_5,callStep,CL,gv,List.contains,hc3]
  rcases cond_some hF with ⟨h5,hF⟩ | ⟨h5,hF⟩
  ·cases hF
   simp (maxSteps:=999999) (disch:=first|exact D (by decide)|exact K (by kernel_rfl)) only [E,EE,↓reduceIte,simprocAttr,xk B9 [2,2,1,2,2,2] (.cd 38) rfl,xk B9 [2,2,2,1,2,2,2] .sq rfl,rg B9 [1,2,2,2,1,2,2,2] 6 false rfl,hr_9_6,bl_26,t_26,xk B9 [2,2,2,2,1,2,2,2] .rt rfl,finK_norm,finK_ret,fin9,R9_aiirrzai5zri.st,hc3,h5]
  ·simp (maxSteps:=999999) (disch:=first|exact D (by decide)|exact K (by kernel_rfl)) only [E,EE,↓reduceIte,simprocAttr,fieldAddrV,t_28,t_3,t_26,hc3,h5]
   rcases cond_some hF with ⟨h6,hF⟩ | ⟨h6,hF⟩
   ·cases hF
    simp (maxSteps:=999999) (disch:=first|exact D (by decide)|exact K (by kernel_rfl)) only [E,EE,↓reduceIte,simprocAttr,xk B9 [2,2,1,2,2,2] (.cd 38) rfl,xk B9 [2,2,2,1,2,2,2] .sq rfl,rg B9 [1,2,2,2,1,2,2,2] 6 false rfl,hr_9_6,bl_26,t_26,xk B9 [2,2,2,2,1,2,2,2] .rt rfl,finK_norm,finK_ret,fin9,R9_aiirrzai5zri.st,hc3,h5,h6]
   ·obtain ⟨o7,h8,hF⟩ := bs hF
    have hc9 := f23_iii_ok k m5_4 1 400 _ h8
    cases o7 with
    | o0 v10 =>
     (try dsimp only at hF)
     (try simp only [NM,EE,R23_iii.st] at hc9)
     simp (maxSteps:=999999) (disch:=first|exact D (by decide)|exact K (by kernel_rfl)) only [E,EE,↓reduceIte,simprocAttr,fieldAddrV,t_28,t_3,callStep,CL,gv,List.contains,hc3,h5,h6,hc9]
     rcases cond_some hF with ⟨h11,hF⟩ | ⟨h11,hF⟩
     ·cases hF
      simp (maxSteps:=999999) (disch:=first|exact D (by decide)|exact K (by kernel_rfl)) only [E,EE,↓reduceIte,simprocAttr,xk B9 [2,2,1,2,2,2] (.cd 38) rfl,xk B9 [2,2,2,1,2,2,2] .sq rfl,rg B9 [1,2,2,2,1,2,2,2] 6 false rfl,hr_9_6,bl_26,t_26,xk B9 [2,2,2,2,1,2,2,2] .rt rfl,finK_norm,finK_ret,fin9,R9_aiirrzai5zri.st,hc3,h5,h6,hc9,h11]
     ·obtain ⟨o12,h13,hF⟩ := bs hF
      have hc14 := f24_ai10rz_ok k m4 m5 m4_1 x3 m5_1 m5_2 0 m5_3 0 ((List.length x2) : Int) x2 _ h13
      cases o12 with
      | o0 v15 =>
       (try dsimp only at hF)
       (try simp only [NM,EE,R24_ai10rz.st] at hc14)
       simp (maxSteps:=999999) (disch:=first|exact D (by decide)|exact K (by kernel_rfl)) only [E,EE,↓reduceIte,simprocAttr,t_39,callStep,CL,gv,List.contains,xk B9 [2,2,1,2,2,2] (.cd 38) rfl,hc3,h5,h6,hc9,h11,hc14]
       rcases cond_some hF with ⟨h16,hF⟩ | ⟨h16,hF⟩
       ·cases hF
        simp (maxSteps:=999999) (disch:=first|exact D (by decide)|exact K (by kernel_rfl)) only [E,EE,↓reduceIte,simprocAttr,xk B9 [2,2,2,1,2,2,2] .sq rfl,rg B9 [1,2,2,2,1,2,2,2] 6 false rfl,hr_9_6,bl_26,t_26,xk B9 [2,2,2,2,1,2,2,2] .rt rfl,finK_norm,finK_ret,fin9,R9_aiirrzai5zri.st,hc3,h5,h6,hc9,h11,hc14,h16]
       ·simp (maxSteps:=999999) (disch:=first|exact D (by decide)|exact K (by kernel_rfl)) only [E,EE,↓reduceIte,simprocAttr,xk B9 [3,2,2,1,2,2,2] .sq rfl,rg B9 [1,3,2,2,1,2,2,2] 7 false rfl,hr_9_7,fieldAddrV,t_26,t_22,xk B9 [2,3,2,2,1,2,2,2] (.cd 62) rfl,hc3,h5,h6,hc9,h11,hc14,h16]
        rcases cond_some hF with ⟨h17,hF⟩ | ⟨h17,hF⟩
        ·cases hF
         simp (maxSteps:=999999) (disch:=first|exact D (by decide)|exact K (by kernel_rfl)) only [E,EE,↓reduceIte,simprocAttr,xk B9 [2,2,3,2,2,1,2,2,2] .sq rfl,rg B9 [1,2,2,3,2,2,1,2,2,2] 8 false rfl,hr_9_8,bl_26,t_26,xk B9 [2,2,2,3,2,2,1,2,2,2] .rt rfl,finK_norm,finK_ret,fin9,R9_aiirrzai5zri.st,hc3,h5,h6,hc9,h11,hc14,h16,h17]
        ·have hJ := f9_aiirrzai5zri_j2_ok k false m4 m4_1 m4_2 m4_3 m5 m5_1 m5_2 m5_3 m5_4 m8 m8_1 m8_2 s1 m4 m5 m4_1 x3 m5_1 m5_2 0 m5_3 0 ((List.length x2) : Int) x2 _ hF
         simp (maxSteps:=999999) (disch:=first|exact D (by decide)|exact K (by kernel_rfl)) only [E,EE,↓reduceIte,simprocAttr,xk B9 [3,2,3,2,2,1,2,2,2] .sk rfl,hc3,h5,h6,hc9,h11,hc14,h16,h17]
         try simp only [NM,EE] at hJ
         exact hJ
noncomputable def f9_aiirrzai5zri_e (k : Nat) (a0 a0_1 : Int) (a0_2 : List T65) (a0_3 : List T39) (a1 a1_1 a1_2 a1_3 a1_4 : Int) (a2 : List Int) (a3 : Int) : Option R9_aiirrzai5zri :=
 Option.bind (f19_aiirrz k a0 a0_1 a0_2 a0_3) fun o1 =>
  match o1 with
  | .o0 v4 =>
   cond ((v4 != 0))
    (some (R9_aiirrzai5zri.o0 0 0 [] [] v4 []))
    (f9_aiirrzai5zri_j1 k a2 a3 v4 false a0 a0_1 a0_2 a0_3 a1 a1_1 a1_2 a1_3 a1_4 0 0 [] [])
theorem f9_aiirrzai5zri_e_ok (k : Nat) (a0 a0_1 : Int) (a0_2 : List T65) (a0_3 : List T39) (a1 a1_1 a1_2 a1_3 a1_4 : Int) (a2 : List Int) (a3 : Int) (r : R9_aiirrzai5zri) (hF : f9_aiirrzai5zri_e k a0 a0_1 a0_2 a0_3 a1 a1_1 a1_2 a1_3 a1_4 a2 a3 = some r) : finK Try.prog Try.f9 0 (EX 9 k (nav B9 []) (⟨86,[(0,.agg [.p (.int .i64 a0),.p (.int .u32 a0_1),.sl 4 (rowsOf encT65 a0_2),.sl 11 (rowsOf encT39 a0_3)]),(1,.agg [.p (.int .i64 a1),.p (.int .i64 a1_1),.p (.int .i64 a1_2),.p (.int .i64 a1_3),.p (.int .i64 a1_4)]),(2,.sl 1 (rowsOf (encI .u8) a2)),(3,.p (.int .i64 a3))],[]⟩ : St)) = some r.st := by
 unfold f9_aiirrzai5zri_e at hF
 obtain ⟨o1,h2,hF⟩ := bs hF
 have hc3 := f19_aiirrz_ok k a0 a0_1 a0_2 a0_3 _ h2
 cases o1 with
 | o0 v4 =>
  (try dsimp only at hF)
  (try simp only [NM,EE,R19_aiirrz.st] at hc3)
  simp (maxSteps:=999999) (disch:=first|exact D (by decide)|exact K (by kernel_rfl)) only [E,EE,↓reduceIte,simprocAttr,xk B9 [] .sq rfl,rg B9 [1] 0 false rfl,hr_9_0,t_26,xk B9 [2] .sq rfl,xk B9 [1,2] .sq rfl,rg B9 [1,1,2] 1 false rfl,hr_9_1,callStep,CL,gv,List.contains,xk B9 [2,1,2] .sq rfl,rg B9 [1,2,1,2] 2 false rfl,hr_9_2,xk B9 [2,2,1,2] (.cd 18) rfl,hc3]
  rcases cond_some hF with ⟨h5,hF⟩ | ⟨h5,hF⟩
  ·cases hF
   simp (maxSteps:=999999) (disch:=first|exact D (by decide)|exact K (by kernel_rfl)) only [E,EE,↓reduceIte,simprocAttr,xk B9 [2,2,2,1,2] .sq rfl,rg B9 [1,2,2,2,1,2] 3 false rfl,hr_9_3,bl_26,t_26,xk B9 [2,2,2,2,1,2] .rt rfl,finK_norm,finK_ret,fin9,R9_aiirrzai5zri.st,hc3,h5]
  ·have hJ := f9_aiirrzai5zri_j1_ok k a2 a3 v4 false a0 a0_1 a0_2 a0_3 a1 a1_1 a1_2 a1_3 a1_4 0 0 [] [] _ hF
   simp (maxSteps:=999999) (disch:=first|exact D (by decide)|exact K (by kernel_rfl)) only [E,EE,↓reduceIte,simprocAttr,xk B9 [3,2,2,1,2] .sk rfl,hc3,h5]
   try simp only [NM,EE] at hJ
   exact hJ
noncomputable def f9_aiirrzai5zri (k : Nat) (a0 a0_1 : Int) (a0_2 : List T65) (a0_3 : List T39) (a1 a1_1 a1_2 a1_3 a1_4 : Int) (a2 : List Int) (a3 : Int) : Option R9_aiirrzai5zri := match k with | 0 => none | k + 1 => f9_aiirrzai5zri_e k a0 a0_1 a0_2 a0_3 a1 a1_1 a1_2 a1_3 a1_4 a2 a3
theorem f9_aiirrzai5zri_ok (k : Nat) (a0 a0_1 : Int) (a0_2 : List T65) (a0_3 : List T39) (a1 a1_1 a1_2 a1_3 a1_4 : Int) (a2 : List Int) (a3 : Int) (r : R9_aiirrzai5zri) (hF : f9_aiirrzai5zri k a0 a0_1 a0_2 a0_3 a1 a1_1 a1_2 a1_3 a1_4 a2 a3 = some r) : CV k 9 [.agg [.p (.int .i64 a0),.p (.int .u32 a0_1),.sl 4 (rowsOf encT65 a0_2),.sl 11 (rowsOf encT39 a0_3)],.agg [.p (.int .i64 a1),.p (.int .i64 a1_1),.p (.int .i64 a1_2),.p (.int .i64 a1_3),.p (.int .i64 a1_4)],.sl 1 (rowsOf (encI .u8) a2),.p (.int .i64 a3)] [] = some r.st := by
 cases k with
 | zero => cases hF
 | succ k =>
  unfold CV
  rw [ev_call (F := Try.f9) (c := (nav B9 [])) rfl Try.func9 rfl rfl rfl rfl]
  exact f9_aiirrzai5zri_e_ok k a0 a0_1 a0_2 a0_3 a1 a1_1 a1_2 a1_3 a1_4 a2 a3 r hF
-- f27_rai4z: f27 heliograph/heliographref19.Has
inductive R27_rai4z where
 | o0 (y : Bool)
noncomputable def R27_rai4z.st : R27_rai4z → V × List O × List O
 | .o0 y => (.p (.bool y),[],[])
inductive R27_rai4z_l1 where
 | o0 (y : Bool)
 | o1 (y : List T65) (y_1 y_2 y_3 y_4 y_5 : Int)
 | o2 (y : List T65) (y_1 : Int) (y_2 : Bool) (y_3 y_4 y_5 y_6 : Int)
noncomputable def R27_rai4z_l1.st : R27_rai4z_l1 → Out × St
 | .o0 y => (.ret,(⟨18,[(4,.p (.bool y))],[]⟩ : St))
 | .o1 y y_1 y_2 y_3 y_4 y_5 => (.norm,(⟨18,[(0,.sl 4 (rowsOf encT65 y)),(3,.ptr 30000 0),(5,.p (.int .i64 y_1))],[(30000,.box 65 [.p (.int .i64 y_2),.p (.int .u32 y_3),.p (.int .i64 y_4),.p (.int .i64 y_5)])]⟩ : St))
 | .o2 y y_1 y_2 y_3 y_4 y_5 y_6 => (.exit 0,(⟨18,[(0,.sl 4 (rowsOf encT65 y)),(3,.ptr 30000 0),(5,.p (.int .i64 y_1)),(9,.p (.bool y_2))],[(30000,.box 65 [.p (.int .i64 y_3),.p (.int .u32 y_4),.p (.int .i64 y_5),.p (.int .i64 y_6)])]⟩ : St))
noncomputable def f27_rai4z_l1_j2 (k : Nat) (x0 : List T65) (x5 : Int) (x17 : Bool) (h0_ h0__1 h0__2 h0__3 : Int) : Option R27_rai4z_l1 :=
 some (R27_rai4z_l1.o1 x0 (IntKind.i64.wrap (x5 + (1 : Int))) h0_ h0__1 h0__2 h0__3)
theorem f27_rai4z_l1_j2_ok (k : Nat) (x0 : List T65) (x5 : Int) (x17 : Bool) (h0_ h0__1 h0__2 h0__3 : Int) (r : R27_rai4z_l1) (hF : f27_rai4z_l1_j2 k x0 x5 x17 h0_ h0__1 h0__2 h0__3 = some r) : EX 27 k (nav B27 [2,2,1,2,2,1,2]) (⟨18,[(0,.sl 4 (rowsOf encT65 x0)),(3,.ptr 30000 0),(5,.p (.int .i64 x5)),(17,.p (.bool x17))],[(30000,.box 65 [.p (.int .i64 h0_),.p (.int .u32 h0__1),.p (.int .i64 h0__2),.p (.int .i64 h0__3)])]⟩ : St) = some r.st := by
 unfold f27_rai4z_l1_j2 at hF
 cases hF
 simp (maxSteps:=999999) (disch:=first|exact D (by decide)|exact K (by kernel_rfl)) only [E,EE,↓reduceIte,simprocAttr,rg B27 [2,2,1,2,2,1,2] 3 false rfl,hr_27_3,R27_rai4z_l1.st]
noncomputable def f27_rai4z_l1_j1 (k : Nat) (x0 : List T65) (x5 : Int) (x9 : Bool) (h0_ h0__1 h0__2 h0__3 : Int) : Option R27_rai4z_l1 :=
 ifE ((0 : Int) ≤ x5) (
  Option.bind (x0[(Int.toNat x5)]?) fun v2 =>
   cond ((((v2.Key_Source == h0_) && ((v2.Key_Seq == h0__1) && (v2.Key_Offset == h0__2))) && (v2.N == h0__3)))
    (some (R27_rai4z_l1.o0 true))
    (f27_rai4z_l1_j2 k x0 x5 false h0_ h0__1 h0__2 h0__3))
theorem f27_rai4z_l1_j1_ok (k : Nat) (x0 : List T65) (x5 : Int) (x9 : Bool) (h0_ h0__1 h0__2 h0__3 : Int) (r : R27_rai4z_l1) (hF : f27_rai4z_l1_j1 k x0 x5 x9 h0_ h0__1 h0__2 h0__3 = some r) : EX 27 k (nav B27 [2,1,2,2,1,2]) (⟨18,[(0,.sl 4 (rowsOf encT65 x0)),(3,.ptr 30000 0),(5,.p (.int .i64 x5)),(9,.p (.bool x9))],[(30000,.box 65 [.p (.int .i64 h0_),.p (.int .u32 h0__1),.p (.int .i64 h0__2),.p (.int .i64 h0__3)])]⟩ : St) = some r.st := by
 unfold f27_rai4z_l1_j1 at hF
 obtain ⟨h1,hF⟩ := ifE_some.1 hF
 obtain ⟨v2,h3,hF⟩ := bs hF
 simp (maxSteps:=999999) (disch:=first|exact D (by decide)|exact K (by kernel_rfl)) only [E,EE,↓reduceIte,simprocAttr,xk B27 [2,1,2,2,1,2] .sq rfl,xk B27 [1,2,1,2,2,1,2] (.bk 1) rfl,xk B27 [2,1,2,1,2,2,1,2] .sq rfl,rg B27 [1,2,1,2,1,2,2,1,2] 4 true rfl,hr_27_4,indexAddrV,t_23,t_65,encT65_eq,ag_65,ag_63,t_63,t_3,t_22,xk B27 [2,2,1,2,1,2,2,1,2] (.cd 17) rfl,h1,h3]
 rcases cond_some hF with ⟨h4,hF⟩ | ⟨h4,hF⟩
 ·cases hF
  simp (maxSteps:=999999) (disch:=first|exact D (by decide)|exact K (by kernel_rfl)) only [E,EE,↓reduceIte,simprocAttr,xk B27 [2,2,2,1,2,1,2,2,1,2] .sq rfl,rg B27 [1,2,2,2,1,2,1,2,2,1,2] 5 false rfl,hr_27_5,xk B27 [2,2,2,2,1,2,1,2,2,1,2] .rt rfl,R27_rai4z_l1.st,h1,h3,h4]
 ·have hJ := f27_rai4z_l1_j2_ok k x0 x5 false h0_ h0__1 h0__2 h0__3 _ hF
  simp (maxSteps:=999999) (disch:=first|exact D (by decide)|exact K (by kernel_rfl)) only [E,EE,↓reduceIte,simprocAttr,xk B27 [3,2,2,1,2,1,2,2,1,2] .sk rfl,h1,h3,h4]
  try simp only [NM,EE] at hJ
  exact hJ
noncomputable def f27_rai4z_l1_b (k : Nat) (x0 : List T65) (x5 h0_ h0__1 h0__2 h0__3 : Int) : Option R27_rai4z_l1 :=
 cond ((decide (x5 < ((List.length x0) : Int))))
  (f27_rai4z_l1_j1 k x0 x5 true h0_ h0__1 h0__2 h0__3)
  (some (R27_rai4z_l1.o2 x0 x5 false h0_ h0__1 h0__2 h0__3))
theorem f27_rai4z_l1_b_ok (k : Nat) (x0 : List T65) (x5 h0_ h0__1 h0__2 h0__3 : Int) (r : R27_rai4z_l1) (hF : f27_rai4z_l1_b k x0 x5 h0_ h0__1 h0__2 h0__3 = some r) : EX 27 k (nav B27 [1,2,2,1,2]) (⟨18,[(0,.sl 4 (rowsOf encT65 x0)),(3,.ptr 30000 0),(5,.p (.int .i64 x5))],[(30000,.box 65 [.p (.int .i64 h0_),.p (.int .u32 h0__1),.p (.int .i64 h0__2),.p (.int .i64 h0__3)])]⟩ : St) = some r.st := by
 unfold f27_rai4z_l1_b at hF
 simp (maxSteps:=999999) (disch:=first|exact D (by decide)|exact K (by kernel_rfl)) only [E,EE,↓reduceIte,simprocAttr,xk B27 [1,2,2,1,2] .sq rfl,xk B27 [1,1,2,2,1,2] .sq rfl,rg B27 [1,1,1,2,2,1,2] 2 false rfl,hr_27_2,t_23,xk B27 [2,1,1,2,2,1,2] (.cd 9) rfl]
 rcases cond_some hF with ⟨h1,hF⟩ | ⟨h1,hF⟩
 ·have hJ := f27_rai4z_l1_j1_ok k x0 x5 true h0_ h0__1 h0__2 h0__3 _ hF
  simp (maxSteps:=999999) (disch:=first|exact D (by decide)|exact K (by kernel_rfl)) only [E,EE,↓reduceIte,simprocAttr,xk B27 [2,2,1,1,2,2,1,2] .sk rfl,h1]
  try simp only [NM,EE] at hJ
  exact hJ
 ·cases hF
  simp (maxSteps:=999999) (disch:=first|exact D (by decide)|exact K (by kernel_rfl)) only [E,EE,↓reduceIte,simprocAttr,xk B27 [3,2,1,1,2,2,1,2] (.ex 0) rfl,R27_rai4z_l1.st,h1]
noncomputable def f27_rai4z_l1 (k : Nat) : Nat → (List T65) → Int → Int → Int → Int → Int → Option R27_rai4z_l1
 | 0,_,_,_,_,_,_ => none
 | n + 1,x0,x5,h0_,h0__1,h0__2,h0__3 => Option.bind (f27_rai4z_l1_b k x0 x5 h0_ h0__1 h0__2 h0__3) fun o =>
  match o with
  | .o0 y => some (.o0 y)
  | .o1 y y_1 y_2 y_3 y_4 y_5 => f27_rai4z_l1 k n y y_1 y_2 y_3 y_4 y_5
  | .o2 y y_1 y_2 y_3 y_4 y_5 y_6 => some (.o2 y y_1 y_2 y_3 y_4 y_5 y_6)
theorem f27_rai4z_l1_ok (k n : Nat) : ∀ (x0 : List T65) (x5 h0_ h0__1 h0__2 h0__3 : Int) (r : R27_rai4z_l1) (hF : f27_rai4z_l1 k n x0 x5 h0_ h0__1 h0__2 h0__3 = some r) (σ : St) (hσ : headR (hints.head 27 2) (hints.canon 27 2) σ = some (⟨18,[(0,.sl 4 (rowsOf encT65 x0)),(3,.ptr 30000 0),(5,.p (.int .i64 x5))],[(30000,.box 65 [.p (.int .i64 h0_),.p (.int .u32 h0__1),.p (.int .i64 h0__2),.p (.int .i64 h0__3)])]⟩ : St)),LP 27 k (nav B27 [1,2,2,1,2]) n σ = some r.st := by
 induction n with
 | zero => intro x0 x5 h0_ h0__1 h0__2 h0__3 r hF; cases hF
 | succ n ih =>
  intro x0 x5 h0_ h0__1 h0__2 h0__3 r hF σ hσ
  rw [f27_rai4z_l1] at hF
  obtain ⟨o,h,hF⟩ := Option.bind_eq_some_iff.1 hF
  have hB := f27_rai4z_l1_b_ok k x0 x5 h0_ h0__1 h0__2 h0__3 o h
  unfold LP at ih ⊢
  unfold EX at hB
  rw [loopK_succ,show firstReg (nav B27 [1,2,2,1,2]) = 2 from rfl,hσ,headK_some,hB]
  cases o with
  | o0 y => cases hF; rfl
  | o1 y y_1 y_2 y_3 y_4 y_5 =>
   refine ih y y_1 y_2 y_3 y_4 y_5 r hF _ ?_
   simp (maxSteps:=999999) (disch:=first|exact D (by decide)|exact K (by kernel_rfl)) only [E,EE,↓reduceIte,simprocAttr,hh_27_2,hc_27_2]
  | o2 y y_1 y_2 y_3 y_4 y_5 y_6 => cases hF; rfl
noncomputable def f27_rai4z_j2 (k : Nat) (x0 : List T65) (x5 : Int) (x9 : Bool) (h0_ h0__1 h0__2 h0__3 : Int) : Option R27_rai4z :=
 some (R27_rai4z.o0 false)
theorem f27_rai4z_j2_ok (k : Nat) (x0 : List T65) (x5 : Int) (x9 : Bool) (h0_ h0__1 h0__2 h0__3 : Int) (r : R27_rai4z) (hF : f27_rai4z_j2 k x0 x5 x9 h0_ h0__1 h0__2 h0__3 = some r) : finK Try.prog Try.f27 0 (EX 27 k (nav B27 [2,2]) (⟨18,[(0,.sl 4 (rowsOf encT65 x0)),(3,.ptr 30000 0),(5,.p (.int .i64 x5)),(9,.p (.bool x9))],[(30000,.box 65 [.p (.int .i64 h0_),.p (.int .u32 h0__1),.p (.int .i64 h0__2),.p (.int .i64 h0__3)])]⟩ : St)) = some r.st := by
 unfold f27_rai4z_j2 at hF
 cases hF
 simp (maxSteps:=999999) (disch:=first|exact D (by decide)|exact K (by kernel_rfl)) only [E,EE,↓reduceIte,simprocAttr,xk B27 [2,2] .sq rfl,rg B27 [1,2,2] 6 false rfl,hr_27_6,xk B27 [2,2,2] .rt rfl,finK_norm,finK_ret,fin27,R27_rai4z.st]
noncomputable def f27_rai4z_e (k : Nat) (a0 : List T65) (a1 a1_1 a1_2 a1_3 : Int) : Option R27_rai4z :=
 Option.bind (f27_rai4z_l1 k k a0 0 a1 a1_1 a1_2 a1_3) fun o1 =>
  match o1 with
  | .o0 v4 =>
   some (R27_rai4z.o0 v4)
  | .o1 _ _ _ _ _ _ =>
   none
  | .o2 v5 v6 v7 v8 v9 v10 v11 =>
   f27_rai4z_j2 k v5 v6 v7 v8 v9 v10 v11
theorem f27_rai4z_e_ok (k : Nat) (a0 : List T65) (a1 a1_1 a1_2 a1_3 : Int) (r : R27_rai4z) (hF : f27_rai4z_e k a0 a1 a1_1 a1_2 a1_3 = some r) : finK Try.prog Try.f27 0 (EX 27 k (nav B27 []) (⟨18,[(0,.sl 4 (rowsOf encT65 a0)),(1,.agg [.p (.int .i64 a1),.p (.int .u32 a1_1),.p (.int .i64 a1_2),.p (.int .i64 a1_3)])],[]⟩ : St)) = some r.st := by
 unfold f27_rai4z_e at hF
 obtain ⟨o1,h2,hF⟩ := bs hF
 have hc3 := f27_rai4z_l1_ok k k a0 0 a1 a1_1 a1_2 a1_3 _ h2
 simp (maxSteps:=999999) (disch:=first|exact D (by decide)|exact K (by kernel_rfl)) only [E,EE,↓reduceIte,simprocAttr,xk B27 [] .sq rfl,rg B27 [1] 0 false rfl,hr_27_0,xk B27 [2] .sq rfl,xk B27 [1,2] .sq rfl,rg B27 [1,1,2] 1 false rfl,hr_27_1,xk B27 [2,1,2] (.bk 0) rfl,xk B27 [2,2,1,2] .lp rfl,hh_27_2,hc_27_2]
 (try simp only [NM,EE] at hc3)
 rw [hc3 _ (by simp (maxSteps:=999999) (disch:=first|exact D (by decide)|exact K (by kernel_rfl)) only [E,EE,↓reduceIte,simprocAttr,hh_27_2,hc_27_2])]
 clear hc3
 cases o1 with
 | o0 v4 =>
  (try dsimp only at hF)
  cases hF
  simp (maxSteps:=999999) (disch:=first|exact D (by decide)|exact K (by kernel_rfl)) only [E,EE,↓reduceIte,simprocAttr,R27_rai4z_l1.st,finK_norm,finK_ret,fin27,R27_rai4z.st]
 | o1 _ _ _ _ _ _ =>
  (try dsimp only at hF)
  cases hF
 | o2 v5 v6 v7 v8 v9 v10 v11 =>
  (try dsimp only at hF)
  have hJ := f27_rai4z_j2_ok k v5 v6 v7 v8 v9 v10 v11 _ hF
  simp (maxSteps:=999999) (disch:=first|exact D (by decide)|exact K (by kernel_rfl)) only [E,EE,↓reduceIte,simprocAttr,R27_rai4z_l1.st]
  try simp only [NM,EE] at hJ
  exact hJ
noncomputable def f27_rai4z (k : Nat) (a0 : List T65) (a1 a1_1 a1_2 a1_3 : Int) : Option R27_rai4z := match k with | 0 => none | k + 1 => f27_rai4z_e k a0 a1 a1_1 a1_2 a1_3
theorem f27_rai4z_ok (k : Nat) (a0 : List T65) (a1 a1_1 a1_2 a1_3 : Int) (r : R27_rai4z) (hF : f27_rai4z k a0 a1 a1_1 a1_2 a1_3 = some r) : CV k 27 [.sl 4 (rowsOf encT65 a0),.agg [.p (.int .i64 a1),.p (.int .u32 a1_1),.p (.int .i64 a1_2),.p (.int .i64 a1_3)]] [] = some r.st := by
 cases k with
 | zero => cases hF
 | succ k =>
  unfold CV
  rw [ev_call (F := Try.f27) (c := (nav B27 [])) rfl Try.func27 rfl rfl rfl rfl]
  exact f27_rai4z_e_ok k a0 a1 a1_1 a1_2 a1_3 r hF
-- f13_ai10rz: f13 heliograph/heliographref09.Right
inductive R13_ai10rz where
 | o0 (y : Bool)
noncomputable def R13_ai10rz.st : R13_ai10rz → V × List O × List O
 | .o0 y => (.p (.bool y),[],[])
noncomputable def f13_ai10rz_j2 (k : Nat) (x85 : Bool) (m1 m1_1 m1_2 m1_3 m1_4 m1_5 m1_6 m1_7 m1_8 m1_9 : Int) (m1_10 : List Int) : Option R13_ai10rz :=
 cond ((decide (((List.length m1_10) : Int) ≥ 1)))
  (
   cond ((decide (((List.length m1_10) : Int) ≤ m1_9)))
    (
     cond ((decide (m1_8 ≥ 0)))
      (some (R13_ai10rz.o0 (decide (m1_8 ≤ (IntKind.i64.wrap (m1_9 - ((List.length m1_10) : Int)))))))
      (some (R13_ai10rz.o0 false)))
    (some (R13_ai10rz.o0 false)))
  (some (R13_ai10rz.o0 false))
theorem f13_ai10rz_j2_ok (k : Nat) (x85 : Bool) (m1 m1_1 m1_2 m1_3 m1_4 m1_5 m1_6 m1_7 m1_8 m1_9 : Int) (m1_10 : List Int) (r : R13_ai10rz) (hF : f13_ai10rz_j2 k x85 m1 m1_1 m1_2 m1_3 m1_4 m1_5 m1_6 m1_7 m1_8 m1_9 m1_10 = some r) : finK Try.prog Try.f13 0 (EX 13 k (nav B13 [2,2,2]) (⟨114,[(1,.ptr 1 0),(85,.p (.bool x85))],[(1,.box 39 [.p (.int .i64 m1),.p (.int .i64 m1_1),.p (.int .u32 m1_2),.p (.int .i64 m1_3),.p (.int .i64 m1_4),.p (.int .i64 m1_5),.p (.int .i64 m1_6),.p (.int .i64 m1_7),.p (.int .i64 m1_8),.p (.int .i64 m1_9),.sl 1 (rowsOf (encI .u8) m1_10)])]⟩ : St)) = some r.st := by
 unfold f13_ai10rz_j2 at hF
 simp (maxSteps:=999999) (disch:=first|exact D (by decide)|exact K (by kernel_rfl)) only [E,EE,↓reduceIte,simprocAttr,xk B13 [2,2,2] .sq rfl,rg B13 [1,2,2,2] 5 false rfl,hr_13_5,fieldAddrV,t_39,t_29]
 rcases cond_some hF with ⟨h1,hF⟩ | ⟨h1,hF⟩
 ·simp (maxSteps:=999999) (disch:=first|exact D (by decide)|exact K (by kernel_rfl)) only [E,EE,↓reduceIte,simprocAttr,fieldAddrV,t_39,t_29,t_3,h1]
  rcases cond_some hF with ⟨h2,hF⟩ | ⟨h2,hF⟩
  ·simp (maxSteps:=999999) (disch:=first|exact D (by decide)|exact K (by kernel_rfl)) only [E,EE,↓reduceIte,simprocAttr,fieldAddrV,t_39,t_3,h1,h2]
   rcases cond_some hF with ⟨h3,hF⟩ | ⟨h3,hF⟩
   ·cases hF
    simp (maxSteps:=999999) (disch:=first|exact D (by decide)|exact K (by kernel_rfl)) only [E,EE,↓reduceIte,simprocAttr,fieldAddrV,t_39,t_3,t_29,xk B13 [2,2,2,2] .rt rfl,finK_norm,finK_ret,fin13,R13_ai10rz.st,h1,h2,h3]
   ·cases hF
    simp (maxSteps:=999999) (disch:=first|exact D (by decide)|exact K (by kernel_rfl)) only [E,EE,↓reduceIte,simprocAttr,xk B13 [2,2,2,2] .rt rfl,finK_norm,finK_ret,fin13,R13_ai10rz.st,h1,h2,h3]
  ·cases hF
   simp (maxSteps:=999999) (disch:=first|exact D (by decide)|exact K (by kernel_rfl)) only [E,EE,↓reduceIte,simprocAttr,xk B13 [2,2,2,2] .rt rfl,finK_norm,finK_ret,fin13,R13_ai10rz.st,h1,h2]
 ·cases hF
  simp (maxSteps:=999999) (disch:=first|exact D (by decide)|exact K (by kernel_rfl)) only [E,EE,↓reduceIte,simprocAttr,xk B13 [2,2,2,2] .rt rfl,finK_norm,finK_ret,fin13,R13_ai10rz.st,h1]
noncomputable def f13_ai10rz_j1 (k : Nat) (x45 : Bool) (m1 m1_1 m1_2 m1_3 m1_4 m1_5 m1_6 m1_7 m1_8 m1_9 : Int) (m1_10 : List Int) : Option R13_ai10rz :=
 cond ((decide (m1_5 < 1)))
  (some (R13_ai10rz.o0 false))
  (
   cond ((decide (m1_5 > 16)))
    (some (R13_ai10rz.o0 false))
    (
     cond ((decide (m1_6 < 0)))
      (some (R13_ai10rz.o0 false))
      (
       cond ((decide (m1_6 > m1_5)))
        (some (R13_ai10rz.o0 false))
        (
         cond ((decide (m1_7 < 0)))
          (some (R13_ai10rz.o0 false))
          (
           cond ((decide (m1_7 > 2)))
            (some (R13_ai10rz.o0 false))
            (
             cond ((decide (m1_9 < 1)))
              (some (R13_ai10rz.o0 false))
              (
               cond ((decide (m1_9 > 400)))
                (some (R13_ai10rz.o0 false))
                (f13_ai10rz_j2 k false m1 m1_1 m1_2 m1_3 m1_4 m1_5 m1_6 m1_7 m1_8 m1_9 m1_10))))))))
theorem f13_ai10rz_j1_ok (k : Nat) (x45 : Bool) (m1 m1_1 m1_2 m1_3 m1_4 m1_5 m1_6 m1_7 m1_8 m1_9 : Int) (m1_10 : List Int) (r : R13_ai10rz) (hF : f13_ai10rz_j1 k x45 m1 m1_1 m1_2 m1_3 m1_4 m1_5 m1_6 m1_7 m1_8 m1_9 m1_10 = some r) : finK Try.prog Try.f13 0 (EX 13 k (nav B13 [2,2]) (⟨114,[(1,.ptr 1 0),(45,.p (.bool x45))],[(1,.box 39 [.p (.int .i64 m1),.p (.int .i64 m1_1),.p (.int .u32 m1_2),.p (.int .i64 m1_3),.p (.int .i64 m1_4),.p (.int .i64 m1_5),.p (.int .i64 m1_6),.p (.int .i64 m1_7),.p (.int .i64 m1_8),.p (.int .i64 m1_9),.sl 1 (rowsOf (encI .u8) m1_10)])]⟩ : St)) = some r.st := by
 unfold f13_ai10rz_j1 at hF
 simp (maxSteps:=999999) (disch:=first|exact D (by decide)|exact K (by kernel_rfl)) only [E,EE,↓reduceIte,simprocAttr,xk B13 [2,2] .sq rfl,xk B13 [1,2,2] .sq rfl,rg B13 [1,1,2,2] 3 false rfl,hr_13_3,fieldAddrV,t_39,t_3]
 rcases cond_some hF with ⟨h1,hF⟩ | ⟨h1,hF⟩
 ·cases hF
  simp (maxSteps:=999999) (disch:=first|exact D (by decide)|exact K (by kernel_rfl)) only [E,EE,↓reduceIte,simprocAttr,xk B13 [2,1,2,2] (.cd 85) rfl,xk B13 [2,2,1,2,2] .sq rfl,rg B13 [1,2,2,1,2,2] 4 false rfl,hr_13_4,xk B13 [2,2,2,1,2,2] .rt rfl,finK_norm,finK_ret,fin13,R13_ai10rz.st,h1]
 ·simp (maxSteps:=999999) (disch:=first|exact D (by decide)|exact K (by kernel_rfl)) only [E,EE,↓reduceIte,simprocAttr,fieldAddrV,t_39,t_3,h1]
  rcases cond_some hF with ⟨h2,hF⟩ | ⟨h2,hF⟩
  ·cases hF
   simp (maxSteps:=999999) (disch:=first|exact D (by decide)|exact K (by kernel_rfl)) only [E,EE,↓reduceIte,simprocAttr,xk B13 [2,1,2,2] (.cd 85) rfl,xk B13 [2,2,1,2,2] .sq rfl,rg B13 [1,2,2,1,2,2] 4 false rfl,hr_13_4,xk B13 [2,2,2,1,2,2] .rt rfl,finK_norm,finK_ret,fin13,R13_ai10rz.st,h1,h2]
  ·simp (maxSteps:=999999) (disch:=first|exact D (by decide)|exact K (by kernel_rfl)) only [E,EE,↓reduceIte,simprocAttr,fieldAddrV,t_39,t_3,h1,h2]
   rcases cond_some hF with ⟨h3,hF⟩ | ⟨h3,hF⟩
   ·cases hF
    simp (maxSteps:=999999) (disch:=first|exact D (by decide)|exact K (by kernel_rfl)) only [E,EE,↓reduceIte,simprocAttr,xk B13 [2,1,2,2] (.cd 85) rfl,xk B13 [2,2,1,2,2] .sq rfl,rg B13 [1,2,2,1,2,2] 4 false rfl,hr_13_4,xk B13 [2,2,2,1,2,2] .rt rfl,finK_norm,finK_ret,fin13,R13_ai10rz.st,h1,h2,h3]
   ·simp (maxSteps:=999999) (disch:=first|exact D (by decide)|exact K (by kernel_rfl)) only [E,EE,↓reduceIte,simprocAttr,fieldAddrV,t_39,t_3,h1,h2,h3]
    rcases cond_some hF with ⟨h4,hF⟩ | ⟨h4,hF⟩
    ·cases hF
     simp (maxSteps:=999999) (disch:=first|exact D (by decide)|exact K (by kernel_rfl)) only [E,EE,↓reduceIte,simprocAttr,xk B13 [2,1,2,2] (.cd 85) rfl,xk B13 [2,2,1,2,2] .sq rfl,rg B13 [1,2,2,1,2,2] 4 false rfl,hr_13_4,xk B13 [2,2,2,1,2,2] .rt rfl,finK_norm,finK_ret,fin13,R13_ai10rz.st,h1,h2,h3,h4]
    ·simp (maxSteps:=999999) (disch:=first|exact D (by decide)|exact K (by kernel_rfl)) only [E,EE,↓reduceIte,simprocAttr,fieldAddrV,t_39,t_3,h1,h2,h3,h4]
     rcases cond_some hF with ⟨h5,hF⟩ | ⟨h5,hF⟩
     ·cases hF
      simp (maxSteps:=999999) (disch:=first|exact D (by decide)|exact K (by kernel_rfl)) only [E,EE,↓reduceIte,simprocAttr,xk B13 [2,1,2,2] (.cd 85) rfl,xk B13 [2,2,1,2,2] .sq rfl,rg B13 [1,2,2,1,2,2] 4 false rfl,hr_13_4,xk B13 [2,2,2,1,2,2] .rt rfl,finK_norm,finK_ret,fin13,R13_ai10rz.st,h1,h2,h3,h4,h5]
     ·simp (maxSteps:=999999) (disch:=first|exact D (by decide)|exact K (by kernel_rfl)) only [E,EE,↓reduceIte,simprocAttr,fieldAddrV,t_39,t_3,h1,h2,h3,h4,h5]
      rcases cond_some hF with ⟨h6,hF⟩ | ⟨h6,hF⟩
      ·cases hF
       simp (maxSteps:=999999) (disch:=first|exact D (by decide)|exact K (by kernel_rfl)) only [E,EE,↓reduceIte,simprocAttr,xk B13 [2,1,2,2] (.cd 85) rfl,xk B13 [2,2,1,2,2] .sq rfl,rg B13 [1,2,2,1,2,2] 4 false rfl,hr_13_4,xk B13 [2,2,2,1,2,2] .rt rfl,finK_norm,finK_ret,fin13,R13_ai10rz.st,h1,h2,h3,h4,h5,h6]
      ·simp (maxSteps:=999999) (disch:=first|exact D (by decide)|exact K (by kernel_rfl)) only [E,EE,↓reduceIte,simprocAttr,fieldAddrV,t_39,t_3,h1,h2,h3,h4,h5,h6]
       rcases cond_some hF with ⟨h7,hF⟩ | ⟨h7,hF⟩
       ·cases hF
        simp (maxSteps:=999999) (disch:=first|exact D (by decide)|exact K (by kernel_rfl)) only [E,EE,↓reduceIte,simprocAttr,xk B13 [2,1,2,2] (.cd 85) rfl,xk B13 [2,2,1,2,2] .sq rfl,rg B13 [1,2,2,1,2,2] 4 false rfl,hr_13_4,xk B13 [2,2,2,1,2,2] .rt rfl,finK_norm,finK_ret,fin13,R13_ai10rz.st,h1,h2,h3,h4,h5,h6,h7]
       ·simp (maxSteps:=999999) (disch:=first|exact D (by decide)|exact K (by kernel_rfl)) only [E,EE,↓reduceIte,simprocAttr,fieldAddrV,t_39,t_3,xk B13 [2,1,2,2] (.cd 85) rfl,h1,h2,h3,h4,h5,h6,h7]
        rcases cond_some hF with ⟨h8,hF⟩ | ⟨h8,hF⟩
        ·cases hF
         simp (maxSteps:=999999) (disch:=first|exact D (by decide)|exact K (by kernel_rfl)) only [E,EE,↓reduceIte,simprocAttr,xk B13 [2,2,1,2,2] .sq rfl,rg B13 [1,2,2,1,2,2] 4 false rfl,hr_13_4,xk B13 [2,2,2,1,2,2] .rt rfl,finK_norm,finK_ret,fin13,R13_ai10rz.st,h1,h2,h3,h4,h5,h6,h7,h8]
        ·have hJ := f13_ai10rz_j2_ok k false m1 m1_1 m1_2 m1_3 m1_4 m1_5 m1_6 m1_7 m1_8 m1_9 m1_10 _ hF
         simp (maxSteps:=999999) (disch:=first|exact D (by decide)|exact K (by kernel_rfl)) only [E,EE,↓reduceIte,simprocAttr,xk B13 [3,2,1,2,2] .sk rfl,h1,h2,h3,h4,h5,h6,h7,h8]
         try simp only [NM,EE] at hJ
         exact hJ
noncomputable def f13_ai10rz_e (k : Nat) (a0 a0_1 a0_2 a0_3 a0_4 a0_5 a0_6 a0_7 a0_8 a0_9 : Int) (a0_10 : List Int) : Option R13_ai10rz :=
 cond ((decide (a0 < 1)))
  (some (R13_ai10rz.o0 false))
  (
   cond ((decide (a0 > 6)))
    (some (R13_ai10rz.o0 false))
    (
     cond ((decide (a0_1 < 1)))
      (some (R13_ai10rz.o0 false))
      (
       cond ((decide (a0_1 > 6)))
        (some (R13_ai10rz.o0 false))
        (
         cond ((a0_2 == 0))
          (some (R13_ai10rz.o0 false))
          (
           cond ((decide (a0_3 < 0)))
            (some (R13_ai10rz.o0 false))
            (
             cond ((decide (a0_3 > 1048576)))
              (some (R13_ai10rz.o0 false))
              (
               cond ((decide (a0_4 < 1)))
                (some (R13_ai10rz.o0 false))
                (
                 cond ((decide (a0_4 > 1048576)))
                  (some (R13_ai10rz.o0 false))
                  (f13_ai10rz_j1 k false a0 a0_1 a0_2 a0_3 a0_4 a0_5 a0_6 a0_7 a0_8 a0_9 a0_10)))))))))
theorem f13_ai10rz_e_ok (k : Nat) (a0 a0_1 a0_2 a0_3 a0_4 a0_5 a0_6 a0_7 a0_8 a0_9 : Int) (a0_10 : List Int) (r : R13_ai10rz) (hF : f13_ai10rz_e k a0 a0_1 a0_2 a0_3 a0_4 a0_5 a0_6 a0_7 a0_8 a0_9 a0_10 = some r) : finK Try.prog Try.f13 0 (EX 13 k (nav B13 []) (⟨114,[(0,.agg [.p (.int .i64 a0),.p (.int .i64 a0_1),.p (.int .u32 a0_2),.p (.int .i64 a0_3),.p (.int .i64 a0_4),.p (.int .i64 a0_5),.p (.int .i64 a0_6),.p (.int .i64 a0_7),.p (.int .i64 a0_8),.p (.int .i64 a0_9),.sl 1 (rowsOf (encI .u8) a0_10)])],[]⟩ : St)) = some r.st := by
 unfold f13_ai10rz_e at hF
 simp (maxSteps:=999999) (disch:=first|exact D (by decide)|exact K (by kernel_rfl)) only [E,EE,↓reduceIte,simprocAttr,xk B13 [] .sq rfl,rg B13 [1] 0 false rfl,hr_13_0,xk B13 [2] .sq rfl,xk B13 [1,2] .sq rfl,rg B13 [1,1,2] 1 false rfl,hr_13_1,fieldAddrV,t_39,t_3]
 rcases cond_some hF with ⟨h1,hF⟩ | ⟨h1,hF⟩
 ·cases hF
  simp (maxSteps:=999999) (disch:=first|exact D (by decide)|exact K (by kernel_rfl)) only [E,EE,↓reduceIte,simprocAttr,xk B13 [2,1,2] (.cd 45) rfl,xk B13 [2,2,1,2] .sq rfl,rg B13 [1,2,2,1,2] 2 false rfl,hr_13_2,xk B13 [2,2,2,1,2] .rt rfl,finK_norm,finK_ret,fin13,R13_ai10rz.st,h1]
 ·simp (maxSteps:=999999) (disch:=first|exact D (by decide)|exact K (by kernel_rfl)) only [E,EE,↓reduceIte,simprocAttr,fieldAddrV,t_39,t_3,h1]
  rcases cond_some hF with ⟨h2,hF⟩ | ⟨h2,hF⟩
  ·cases hF
   simp (maxSteps:=999999) (disch:=first|exact D (by decide)|exact K (by kernel_rfl)) only [E,EE,↓reduceIte,simprocAttr,xk B13 [2,1,2] (.cd 45) rfl,xk B13 [2,2,1,2] .sq rfl,rg B13 [1,2,2,1,2] 2 false rfl,hr_13_2,xk B13 [2,2,2,1,2] .rt rfl,finK_norm,finK_ret,fin13,R13_ai10rz.st,h1,h2]
  ·simp (maxSteps:=999999) (disch:=first|exact D (by decide)|exact K (by kernel_rfl)) only [E,EE,↓reduceIte,simprocAttr,fieldAddrV,t_39,t_3,h1,h2]
   rcases cond_some hF with ⟨h3,hF⟩ | ⟨h3,hF⟩
   ·cases hF
    simp (maxSteps:=999999) (disch:=first|exact D (by decide)|exact K (by kernel_rfl)) only [E,EE,↓reduceIte,simprocAttr,xk B13 [2,1,2] (.cd 45) rfl,xk B13 [2,2,1,2] .sq rfl,rg B13 [1,2,2,1,2] 2 false rfl,hr_13_2,xk B13 [2,2,2,1,2] .rt rfl,finK_norm,finK_ret,fin13,R13_ai10rz.st,h1,h2,h3]
   ·simp (maxSteps:=999999) (disch:=first|exact D (by decide)|exact K (by kernel_rfl)) only [E,EE,↓reduceIte,simprocAttr,fieldAddrV,t_39,t_3,h1,h2,h3]
    rcases cond_some hF with ⟨h4,hF⟩ | ⟨h4,hF⟩
    ·cases hF
     simp (maxSteps:=999999) (disch:=first|exact D (by decide)|exact K (by kernel_rfl)) only [E,EE,↓reduceIte,simprocAttr,xk B13 [2,1,2] (.cd 45) rfl,xk B13 [2,2,1,2] .sq rfl,rg B13 [1,2,2,1,2] 2 false rfl,hr_13_2,xk B13 [2,2,2,1,2] .rt rfl,finK_norm,finK_ret,fin13,R13_ai10rz.st,h1,h2,h3,h4]
    ·simp (maxSteps:=999999) (disch:=first|exact D (by decide)|exact K (by kernel_rfl)) only [E,EE,↓reduceIte,simprocAttr,fieldAddrV,t_39,t_22,h1,h2,h3,h4]
     rcases cond_some hF with ⟨h5,hF⟩ | ⟨h5,hF⟩
     ·cases hF
      simp (maxSteps:=999999) (disch:=first|exact D (by decide)|exact K (by kernel_rfl)) only [E,EE,↓reduceIte,simprocAttr,xk B13 [2,1,2] (.cd 45) rfl,xk B13 [2,2,1,2] .sq rfl,rg B13 [1,2,2,1,2] 2 false rfl,hr_13_2,xk B13 [2,2,2,1,2] .rt rfl,finK_norm,finK_ret,fin13,R13_ai10rz.st,h1,h2,h3,h4,h5]
     ·simp (maxSteps:=999999) (disch:=first|exact D (by decide)|exact K (by kernel_rfl)) only [E,EE,↓reduceIte,simprocAttr,fieldAddrV,t_39,t_3,h1,h2,h3,h4,h5]
      rcases cond_some hF with ⟨h6,hF⟩ | ⟨h6,hF⟩
      ·cases hF
       simp (maxSteps:=999999) (disch:=first|exact D (by decide)|exact K (by kernel_rfl)) only [E,EE,↓reduceIte,simprocAttr,xk B13 [2,1,2] (.cd 45) rfl,xk B13 [2,2,1,2] .sq rfl,rg B13 [1,2,2,1,2] 2 false rfl,hr_13_2,xk B13 [2,2,2,1,2] .rt rfl,finK_norm,finK_ret,fin13,R13_ai10rz.st,h1,h2,h3,h4,h5,h6]
      ·simp (maxSteps:=999999) (disch:=first|exact D (by decide)|exact K (by kernel_rfl)) only [E,EE,↓reduceIte,simprocAttr,fieldAddrV,t_39,t_3,h1,h2,h3,h4,h5,h6]
       rcases cond_some hF with ⟨h7,hF⟩ | ⟨h7,hF⟩
       ·cases hF
        simp (maxSteps:=999999) (disch:=first|exact D (by decide)|exact K (by kernel_rfl)) only [E,EE,↓reduceIte,simprocAttr,xk B13 [2,1,2] (.cd 45) rfl,xk B13 [2,2,1,2] .sq rfl,rg B13 [1,2,2,1,2] 2 false rfl,hr_13_2,xk B13 [2,2,2,1,2] .rt rfl,finK_norm,finK_ret,fin13,R13_ai10rz.st,h1,h2,h3,h4,h5,h6,h7]
       ·simp (maxSteps:=999999) (disch:=first|exact D (by decide)|exact K (by kernel_rfl)) only [E,EE,↓reduceIte,simprocAttr,fieldAddrV,t_39,t_3,h1,h2,h3,h4,h5,h6,h7]
        rcases cond_some hF with ⟨h8,hF⟩ | ⟨h8,hF⟩
        ·cases hF
         simp (maxSteps:=999999) (disch:=first|exact D (by decide)|exact K (by kernel_rfl)) only [E,EE,↓reduceIte,simprocAttr,xk B13 [2,1,2] (.cd 45) rfl,xk B13 [2,2,1,2] .sq rfl,rg B13 [1,2,2,1,2] 2 false rfl,hr_13_2,xk B13 [2,2,2,1,2] .rt rfl,finK_norm,finK_ret,fin13,R13_ai10rz.st,h1,h2,h3,h4,h5,h6,h7,h8]
        ·simp (maxSteps:=999999) (disch:=first|exact D (by decide)|exact K (by kernel_rfl)) only [E,EE,↓reduceIte,simprocAttr,fieldAddrV,t_39,t_3,xk B13 [2,1,2] (.cd 45) rfl,h1,h2,h3,h4,h5,h6,h7,h8]
         rcases cond_some hF with ⟨h9,hF⟩ | ⟨h9,hF⟩
         ·cases hF
          simp (maxSteps:=999999) (disch:=first|exact D (by decide)|exact K (by kernel_rfl)) only [E,EE,↓reduceIte,simprocAttr,xk B13 [2,2,1,2] .sq rfl,rg B13 [1,2,2,1,2] 2 false rfl,hr_13_2,xk B13 [2,2,2,1,2] .rt rfl,finK_norm,finK_ret,fin13,R13_ai10rz.st,h1,h2,h3,h4,h5,h6,h7,h8,h9]
         ·have hJ := f13_ai10rz_j1_ok k false a0 a0_1 a0_2 a0_3 a0_4 a0_5 a0_6 a0_7 a0_8 a0_9 a0_10 _ hF
          simp (maxSteps:=999999) (disch:=first|exact D (by decide)|exact K (by kernel_rfl)) only [E,EE,↓reduceIte,simprocAttr,xk B13 [3,2,1,2] .sk rfl,h1,h2,h3,h4,h5,h6,h7,h8,h9]
          try simp only [NM,EE] at hJ
          exact hJ
noncomputable def f13_ai10rz (k : Nat) (a0 a0_1 a0_2 a0_3 a0_4 a0_5 a0_6 a0_7 a0_8 a0_9 : Int) (a0_10 : List Int) : Option R13_ai10rz := match k with | 0 => none | k + 1 => f13_ai10rz_e k a0 a0_1 a0_2 a0_3 a0_4 a0_5 a0_6 a0_7 a0_8 a0_9 a0_10
theorem f13_ai10rz_ok (k : Nat) (a0 a0_1 a0_2 a0_3 a0_4 a0_5 a0_6 a0_7 a0_8 a0_9 : Int) (a0_10 : List Int) (r : R13_ai10rz) (hF : f13_ai10rz k a0 a0_1 a0_2 a0_3 a0_4 a0_5 a0_6 a0_7 a0_8 a0_9 a0_10 = some r) : CV k 13 [.agg [.p (.int .i64 a0),.p (.int .i64 a0_1),.p (.int .u32 a0_2),.p (.int .i64 a0_3),.p (.int .i64 a0_4),.p (.int .i64 a0_5),.p (.int .i64 a0_6),.p (.int .i64 a0_7),.p (.int .i64 a0_8),.p (.int .i64 a0_9),.sl 1 (rowsOf (encI .u8) a0_10)]] [] = some r.st := by
 cases k with
 | zero => cases hF
 | succ k =>
  unfold CV
  rw [ev_call (F := Try.f13) (c := (nav B13 [])) rfl Try.func13 rfl rfl rfl rfl]
  exact f13_ai10rz_e_ok k a0 a0_1 a0_2 a0_3 a0_4 a0_5 a0_6 a0_7 a0_8 a0_9 a0_10 r hF
end Go.Proofs.YticggdfaehneeaaV
